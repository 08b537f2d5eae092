-- Texts by hand for FnTxLeft.
import Derived.Test.YteknaofnageihaaTkz
import Derived.Test.YteknaofnageihaaQFnTxOkx0
import Derived.Test.YteknaofnageihaaQFnTxOkx12
import Derived.Test.YteknaofnageihaaQFnTxOkx21
import Derived.Test.YteknaofnageihaaQFnTxOkx23
import Derived.Test.YteknaofnageihaaQFnTxOkx32
namespace Go.Proofs.Yteknaofnageihaa.QFnTxOk
open Go.RowKit Go.Proofs.YteknaofnageihaaW.PrintWords Go.Proofs.YteknaofnageihaaW.PrintLast Go.Proofs.YteknaofnageihaaW.PrintMore Go.Proofs.YteknaofnageihaaLoc
attribute [local go_sem] max2_int min2_int max_two min_two max_three min_three max_four min_four   -- for this text's walks alone
set_option linter.unusedVariables false
set_option linter.unusedSimpArgs false

structure Tx where
 a0:Int
 a1:Int
 fl:List S39
 a3:Int
 q:List S39
 a5:Bool
 a6:Int
 a7:Bool
 a8:Int
 a9:Bool
def Txr (w:World) (t:Tx) (v:Value):Prop:=∃ A2 k2 A4 k4,v=.agg #[.int .i64 t.a0,.int .i64 t.a1,.slice A2 t.fl.length k2,.int .i64 t.a3,.slice A4 t.q.length k4,.bool t.a5,.int .i64 t.a6,.bool t.a7,.int .i64 t.a8,.bool t.a9] ∧
 Kd.C k39 w A2 t.fl.length t.fl∧t.fl.length≤k2∧Kd.C k39 w A4 t.q.length t.q∧t.q.length≤k4
theorem tz66:((Try.prog.info? 66).bind (·.zero)).map (·.cells.toList)=some [.int .i64 0,.int .i64 0,.int .i64 0,.int .i64 0,.int .i64 0]:=by kernel_rfl
theorem tz69:((Try.prog.info? 69).bind (·.zero)).map (·.cells.toList)=some [.int .i64 0,.int .i64 0,.slice none 0 0,.int .i64 0,.slice none 0 0,.bool false,.int .i64 0,.bool false,.int .i64 0,.bool false]:=by kernel_rfl
theorem tz102:((Try.prog.info? 102).bind (·.zero)).map (·.cells.toList)=some [.int .i64 0,.int .i64 0,.int .i64 0,.bool false,.bool false,.int .i64 0,.int .i64 0,.int .i64 0,.slice none 0 0]:=by kernel_rfl
theorem Lok_base {w0 w W:World} {H:List Blk} (h:Lok w W H) (hb:Below w0.heap.size w0 w):Lok w0 W H :=
 ⟨⟨h.bel.os.trans hb.os,h.bel.tape.trans hb.tape,h.bel.output.trans hb.output,Nat.le_trans hb.size h.bel.size,fun k hk=>(h.bel.block k (Nat.lt_of_lt_of_le hk hb.size)).trans (hb.block k hk)⟩,fun x hx=>⟨(h.all x hx).1,Nat.le_trans hb.size (h.all x hx).2⟩,h.ne⟩
theorem Lok_grown {w0 W w1:World} {H:List Blk} {r:Option Nat} (h:Lok w0 W H) (hb:Below w0.heap.size w0 w1) (hg:W.grownBy w1 r) (hr:∀ b ∈ H,some b.1≠r):Lok w0 w1 H :=
 ⟨hb,fun x hx=>⟨blk_grown (h.all x hx).1 hg (hr x hx),(h.all x hx).2⟩,h.ne⟩
theorem Lok_ge {w0 w:World} {H:List Blk} {g:Nat} {cs:List Value} {ty:TypeId} (h:Lok w0 w H) (hh:Has H g cs ty):w0.heap.size≤g:=by
 refine (h.all (g,cs,ty) ?_).2
 clear h
 induction hh with
 | here=>exact List.mem_cons_self
 | next _ ih=>exact List.mem_cons_of_mem _ ih
theorem Lok_ges {w0 w:World} {H:List Blk} (h:Lok w0 w H):∀ b ∈ H,w0.heap.size≤b.1:=fun b hb=>(h.all b hb).2
section
variable {P:Program} {w0 w w1 W:World} {H H':List Blk} {g k n:Nat} {vs:List Value} {o:Oper} {a:Act} {ty:TypeId} {x y:Operand} {ops:Array Oper} {rest:List Oper} {Q:Exit→Act→World→Prop}
theorem tx_far {j g:Nat} (hj:j≠g):∀ (vs:List Value) (k:Nat) (w:World),(w.setCells g k vs).heap[j]? =w.heap[j]?
 | [],_,_=>rfl
 | v :: vs,k,w=>by
  rw [World.setCells,tx_far hj vs (k+1)]
  exact Below.heap_setCell w ⟨g,k,none⟩ v j hj
theorem tx_size:∀ (vs:List Value) (g k:Nat) (w:World),w.heap.size≤(w.setCells g k vs).heap.size
 | [],_,_,_=>Nat.le_refl _
 | v :: vs,g,k,w=>by
  rw [World.setCells]
  exact Nat.le_trans (by simp) (tx_size vs g (k+1) _)
/-- Rows that are only read, beside what may be stored to: ok tells their blocks. -/
structure PX (w W:World) (S ok:Nat→Prop) (A2:Option Addr) (l2:List S39) (A4:Option Addr) (l4:List S39):Prop where
 f2:Kd.F k39 W ok A2 l2.length l2
 f4:Kd.F k39 W ok A4 l4.length l4
 kp:Kept w W S
theorem PX.far {S ok:Nat→Prop} {A2 A4:Option Addr} {l2 l4:List S39} (h:PX w W S ok A2 l2 A4 l4) (hs:W.heap.size≤w1.heap.size) (hf:∀ j,j≠g→w1.heap[j]? =W.heap[j]?) (hok:∀ j,ok j→j≠g) (hg:w.heap.size≤g):PX w w1 S ok A2 l2 A4 l4 :=
 ⟨Kd.F_step h.f2 (fun j hj _=>hf j (hok j hj)),Kd.F_step h.f4 (fun j hj _=>hf j (hok j hj)),Nat.le_trans h.kp.1 hs,fun i hi hn=>(hf i (by omega)).trans (h.kp.2 i hi hn)⟩
theorem PX.call {S ok:Nat→Prop} {A2 A4:Option Addr} {l2 l4:List S39} (h:PX w W S ok A2 l2 A4 l4) (hb:Below W.heap.size W w1):PX w w1 S ok A2 l2 A4 l4 :=
 ⟨Kd.F_below h.f2 hb,Kd.F_below h.f4 hb,Nat.le_trans h.kp.1 hb.size,fun i hi hn=>(hb.block i (Nat.lt_of_lt_of_le hi h.kp.1)).trans (h.kp.2 i hi hn)⟩
theorem tx_store (hgd:o.guard=none) (ho:o.op=.store ty x y) (hx:a.eval x=.pointer (some ⟨g,k,none⟩)) (hy:(a.eval y).cells.toList=vs) (hi:(P.info? ty).map (·.size)=some vs.length) (h1:vs.all (·.oneCell')=true) (HL:Lok w0 w H) (hu:Upd H g k vs H')
  (h:∀ w',Lok w0 w' H'→w.heap.size≤w'.heap.size→(∀ j,j≠g→w'.heap[j]? =w.heap[j]?)→wpList P ops Q rest (a.put o.dst undef) w'):wpList P ops Q (o :: rest) a w:=by
 refine wpList_plain hgd fun K hK=>?_
 unfold Oper.wp
 rw [loc_store_run ho hx hy hi h1 HL hu]
 exact hK _ _ (h _ (HL.upd hu) (tx_size _ _ _ _) (fun j hj=>tx_far hj _ _ _))
end
theorem heap39:Kd.Heap k39:=Kd.heap_iso _ (Kd.heap_pair (Kd.heap_int _) (Kd.heap_pair (Kd.heap_int _) (Kd.heap_slice 5 (Kd.heap_int _))))
/-- A Tx whose rows are read, in blocks of ok. -/
def Txf (w:World) (ok:Nat→Prop) (t:Tx) (v:Value):Prop:=∃ A2 k2 A4 k4,v=.agg #[.int .i64 t.a0,.int .i64 t.a1,.slice A2 t.fl.length k2,.int .i64 t.a3,.slice A4 t.q.length k4,.bool t.a5,.int .i64 t.a6,.bool t.a7,.int .i64 t.a8,.bool t.a9] ∧
 Kd.F k39 w ok A2 t.fl.length t.fl∧t.fl.length≤k2∧Kd.F k39 w ok A4 t.q.length t.q∧t.q.length≤k4
theorem Txr.f {w:World} {t:Tx} {v:Value} (h:Txr w t v):Txf w (fun k=>k<w.heap.size) t v:=by
 obtain ⟨A2,k2,A4,k4,rfl,h2,hk2,h4,hk4⟩:=h
 exact ⟨A2,k2,A4,k4,rfl,Kd.C_F heap39 h2,hk2,Kd.C_F heap39 h4,hk4⟩
theorem Txf.r {w:World} {ok:Nat→Prop} {t:Tx} {v:Value} (h:Txf w ok t v):Txr w t v:=by
 obtain ⟨A2,k2,A4,k4,rfl,h2,hk2,h4,hk4⟩:=h
 exact ⟨A2,k2,A4,k4,rfl,Kd.F_now h2,hk2,Kd.F_now h4,hk4⟩
theorem Txf.mono {w:World} {ok ok':Nat→Prop} {t:Tx} {v:Value} (h:Txf w ok t v) (hm:∀ k,ok k→ok' k):Txf w ok' t v:=by
 obtain ⟨A2,k2,A4,k4,rfl,h2,hk2,h4,hk4⟩:=h
 exact ⟨A2,k2,A4,k4,rfl,Kd.F_mono h2 hm,hk2,Kd.F_mono h4 hm,hk4⟩
theorem Txf.step {w w1:World} {ok:Nat→Prop} {t:Tx} {v:Value} (h:Txf w ok t v) (hm:∀ k,ok k→k<w.heap.size→w1.heap[k]? =w.heap[k]?):Txf w1 ok t v:=by
 obtain ⟨A2,k2,A4,k4,rfl,h2,hk2,h4,hk4⟩:=h
 exact ⟨A2,k2,A4,k4,rfl,Kd.F_step h2 hm,hk2,Kd.F_step h4 hm,hk4⟩
theorem Txf.below {w w1:World} {ok:Nat→Prop} {t:Tx} {v:Value} (h:Txf w ok t v) (hb:Below w.heap.size w w1):Txf w1 ok t v:=h.step (fun k _ hlt=>hb.block k hlt)
theorem Txr.below {w w1:World} {t:Tx} {v:Value} (h:Txr w t v) (hb:Below w.heap.size w w1):Txr w1 t v:=(h.f.below hb).r
def spec_l6Put.f (k:Nat) (c0 c1 c2 c3 c4:Int) (t0 t1:Int) (fl:List S39) (t3:Int) (q:List S39) (t5:Bool) (t6:Int) (t7:Bool) (t8:Int) (t9:Bool) (sd:List Int):Option (Int × Int × List S39 × Int × List S39 × Bool × Int × Bool × Int × Bool × Bool):=(spec_SegCut.f k sd c2).bind fun ps=>(if t9=true then (some (t0,t1,fl,t3,q,t5,t6,t7,t8,t9,false)) else (if (sd.length:Int) > c3 then (some (t0,t1,fl,t3,q,t5,t6,t7,t8,t9,false)) else (if (wrap64 ((q.length:Int)+(ps.length:Int))) > 24 then (some (t0,t1,fl,t3,q,t5,t6,t7,t8,t9,false)) else (if q.length+ps.length<3518437208883 then (some (t0,t1,fl,t3,(q++ps),t5,t6,t7,t8,t9,true)) else (none)))))
theorem spec_l6Put.mono:∀ a0 a1 a2 a3 a4 a5 a6 a7 a8 a9 a10 a11 a12 a13 a14 a15 k,LeO (spec_l6Put.f k a0 a1 a2 a3 a4 a5 a6 a7 a8 a9 a10 a11 a12 a13 a14 a15) (spec_l6Put.f (k+1) a0 a1 a2 a3 a4 a5 a6 a7 a8 a9 a10 a11 a12 a13 a14 a15):=by
 intro a0 a1 a2 a3 a4 a5 a6 a7 a8 a9 a10 a11 a12 a13 a14 a15 k
 unfold spec_l6Put.f
 exact LeO.bind (spec_SegCut.mono _ _ _) (fun _=>LeO.refl _)
def PutPost (w0 w:World) (b:Option Nat) (ok:Nat→Prop) (t:Tx) (r:Bool):Ending→World→Prop:=fun e w'=>∃ v,e=.returned (.tuple #[v,.bool r])∧Txf w' (fun k=>ok k∨w.heap.size≤k) t v∧Below w0.heap.size w0 w'∧Kept w w' (fun k=>some k=b)
theorem mkPut {w0 w w':World} {b:Option Nat} {ok:Nat→Prop} {t:Tx} {r:Bool} {e:Ending} (v:Value) (h:e=.returned (.tuple #[v,.bool r])) (h1:Txf w' (fun k=>ok k∨w.heap.size≤k) t v) (h2:Below w0.heap.size w0 w') (h3:Kept w w' (fun k=>some k=b)):PutPost w0 w b ok t r e w':=⟨v,h,h1,h2,h3⟩
set_option maxHeartbeats 60000000 in
set_option maxRecDepth 100000 in
theorem spec_l6Put.callsT (k:Nat) (c0 c1 c2 c3 c4:Int) (t0 t1:Int) (fl:List S39) (t3:Int) (q:List S39) (t5:Bool) (t6:Int) (t7:Bool) (t8:Int) (t9:Bool) (sd:List Int) (A2 A4 As:Option Addr) (k2 k4 ks:Nat) (r:Tx) (rb:Bool) (ok:Nat→Prop) (w0 w:World) (hB:Below w0.heap.size w0 w)
  (h2:Kd.F k39 w (fun k=>ok k∧some k≠(Value.slice A4 q.length k4).ownBlock) A2 fl.length fl) (hk2:fl.length≤k2) (h4:Kd.N k39 39 w w0.heap.size ok (.slice A4 q.length k4) q) (hs:Kd.C (Kd.int .u8) w As sd.length sd) (hks:sd.length≤ks)
  (h:spec_l6Put.f k c0 c1 c2 c3 c4 t0 t1 fl t3 q t5 t6 t7 t8 t9 sd=some (r.a0,r.a1,r.fl,r.a3,r.q,r.a5,r.a6,r.a7,r.a8,r.a9,rb)) :
  Calls Try.prog 111 #[.agg #[.int .i64 c0,.int .i64 c1,.int .i64 c2,.int .i64 c3,.int .i64 c4],.agg #[.int .i64 t0,.int .i64 t1,.slice A2 fl.length k2,.int .i64 t3,.slice A4 q.length k4,.bool t5,.int .i64 t6,.bool t7,.int .i64 t8,.bool t9],.slice As sd.length ks] w (PutPost w0 w (Value.slice A4 q.length k4).ownBlock ok r rb):=by
 obtain ⟨r0,r1,rf,r3,rq,r5,r6,r7,r8,r9⟩:=r
 simp only at h
 have HB:=mk_ hB
 have H2:=mk_ h2
 have H4:=mk_ h4
 have HS:=mk_ hs
 have K2:=mk_ hk2
 have KS:=mk_ hks
 have HL:=mk_ (Lok.start w)
 clear hB h2 h4 hs hk2 hks
 unfold spec_l6Put.f at h
 obtain ⟨ps,hps,h⟩:=Option.bind_eq_some_iff.mp h
 have PS:=mk_ hps
 clear hps
 by_cases c1:t9=true
 ·rw [if_pos c1] at h
  subst c1
  simp only [Option.some.injEq,Prod.mk.injEq] at h
  obtain ⟨rfl,rfl,rfl,rfl,rfl,rfl,rfl,rfl,rfl,rfl,rfl⟩:=h
  go_enter Try.func111,Try.ntmps111
  go_wp2_with (first|((with_reducible refine gate_gd rfl ?_);first|((with_reducible refine gd_on rfl ?_ ?_);rfl;dsimp only)|((with_reducible refine gd_off rfl ?_ ?_);rfl))|((with_reducible refine gate_dst (N:=12) rfl ?_);(with_reducible refine gate_callee (f:=15) rfl ?_);refine goesL_ (some 12) rfl rfl Try.func15 kz rfl #[.slice As sd.length ks,.int .i64 c2] rfl am ?_;(with_reducible refine (spec_SegCut.calls k As ks sd c2 ps _ (Kd.C_below HS.out HL.out.bel) KS.out PS.out).mono ?_);rintro e w_ ⟨vp,rfl,hp_,hb_⟩;obtain ⟨Ap,kp,hvp⟩:=Kd.S_slice hp_;subst hvp;refine ⟨_,rfl,?_⟩;have HLo:=HL;replace HL:=mk_ (HL.out.call hb_);have HP:=mk_ hp_;clear hb_ hp_)|((with_reducible refine gate_dst (N:=3) rfl ?_);refine loc_box rfl rfl gz HL.out ?_;intro gb3 w_ HL_;replace HL:=mk_ HL_;clear HL_)|((with_reducible refine gate_dst (N:=4) rfl ?_);refine loc_box rfl rfl gz HL.out ?_;intro gb4 w_ HL_;replace HL:=mk_ HL_;clear HL_)|((with_reducible refine gate_dst (N:=6) rfl ?_);refine loc_alloc rfl rfl tz69 HL.out ?_;intro gb6 w_ HL_;replace HL:=mk_ HL_;clear HL_)|((with_reducible refine gate_ld0 (t:=69) rfl ?_);refine loc_load (n:=10) rfl rfl kz rfl kz HL.out sz ?_)|((with_reducible refine gate_ld0 rfl ?_);refine loc_load1 rfl rfl kz rfl HL.out sz ?_)|((with_reducible refine gate_st0 rfl ?_);refine loc_store rfl rfl rfl gz kz kz HL.out pz ?_;intro w_ HL_;replace HL:=mk_ HL_;clear HL_))
  refine bodyPost_ret (results_list (rs:=[.cell 6 69,.tmp 7]) rfl (by simp) (.cell _ 69 _ (0,0) _ rfl (HL.out.blk hz) Try.underlying69 rfl kz (.tmp .nil))) rfl ?_
  exact mkPut _ ez ⟨A2,k2,A4,k4,rfl,Kd.F_mono (Kd.F_below H2.out HL.out.bel) (fun _ h_=>Or.inl h_.1),K2.out,Kd.F_mono (Kd.F_below (Kd.N_F H4.out) HL.out.bel) (fun _ h_=>Or.inl h_),(Kd.N_reads' H4.out).2.1⟩ (Lok_base HL.out HB.out).bel ⟨HL.out.bel.size,fun i hi _=>HL.out.bel.block i hi⟩
 rw [if_neg c1] at h
 replace c1:=Bool.eq_false_iff.mpr c1
 subst c1
 by_cases d1:(sd.length:Int) > c3
 ·rw [if_pos d1] at h
  have d1b:decide (c3<(sd.length:Int))=true:=decide_eq_true d1
  simp only [Option.some.injEq,Prod.mk.injEq] at h
  obtain ⟨rfl,rfl,rfl,rfl,rfl,rfl,rfl,rfl,rfl,rfl,rfl⟩:=h
  go_enter Try.func111,Try.ntmps111
  go_wp2_with (first|((with_reducible refine gate_gd rfl ?_);first|((with_reducible refine gd_on rfl ?_ ?_);rfl;dsimp only)|((with_reducible refine gd_off rfl ?_ ?_);rfl))|((with_reducible refine gate_dst (N:=12) rfl ?_);(with_reducible refine gate_callee (f:=15) rfl ?_);refine goesL_ (some 12) rfl rfl Try.func15 kz rfl #[.slice As sd.length ks,.int .i64 c2] rfl am ?_;(with_reducible refine (spec_SegCut.calls k As ks sd c2 ps _ (Kd.C_below HS.out HL.out.bel) KS.out PS.out).mono ?_);rintro e w_ ⟨vp,rfl,hp_,hb_⟩;obtain ⟨Ap,kp,hvp⟩:=Kd.S_slice hp_;subst hvp;refine ⟨_,rfl,?_⟩;have HLo:=HL;replace HL:=mk_ (HL.out.call hb_);have HP:=mk_ hp_;clear hb_ hp_)|((with_reducible refine gate_dst (N:=3) rfl ?_);refine loc_box rfl rfl gz HL.out ?_;intro gb3 w_ HL_;replace HL:=mk_ HL_;clear HL_)|((with_reducible refine gate_dst (N:=4) rfl ?_);refine loc_box rfl rfl gz HL.out ?_;intro gb4 w_ HL_;replace HL:=mk_ HL_;clear HL_)|((with_reducible refine gate_dst (N:=6) rfl ?_);refine loc_alloc rfl rfl tz69 HL.out ?_;intro gb6 w_ HL_;replace HL:=mk_ HL_;clear HL_)|((with_reducible refine gate_ld0 (t:=69) rfl ?_);refine loc_load (n:=10) rfl rfl kz rfl kz HL.out sz ?_)|((with_reducible refine gate_ld0 rfl ?_);refine loc_load1 rfl rfl kz rfl HL.out sz ?_)|((with_reducible refine gate_st0 rfl ?_);refine loc_store rfl rfl rfl gz kz kz HL.out pz ?_;intro w_ HL_;replace HL:=mk_ HL_;clear HL_))
  refine bodyPost_ret (results_list (rs:=[.cell 6 69,.tmp 7]) rfl (by simp) (.cell _ 69 _ (0,0) _ rfl (HL.out.blk hz) Try.underlying69 rfl kz (.tmp .nil))) rfl ?_
  exact mkPut _ ez ⟨A2,k2,A4,k4,rfl,Kd.F_mono (Kd.F_below H2.out HL.out.bel) (fun _ h_=>Or.inl h_.1),K2.out,Kd.F_mono (Kd.F_below (Kd.N_F H4.out) HL.out.bel) (fun _ h_=>Or.inl h_),(Kd.N_reads' H4.out).2.1⟩ (Lok_base HL.out HB.out).bel ⟨HL.out.bel.size,fun i hi _=>HL.out.bel.block i hi⟩
 rw [if_neg d1] at h
 have d1b:decide (c3<(sd.length:Int))=false:=decide_eq_false d1
 by_cases e1:(wrap64 ((q.length:Int)+(ps.length:Int))) > 24
 ·rw [if_pos e1] at h
  have e1b:decide (24<wrap64 ((q.length:Int)+(ps.length:Int)))=true:=decide_eq_true e1
  simp only [Option.some.injEq,Prod.mk.injEq] at h
  obtain ⟨rfl,rfl,rfl,rfl,rfl,rfl,rfl,rfl,rfl,rfl,rfl⟩:=h
  go_enter Try.func111,Try.ntmps111
  go_wp2_with (first|((with_reducible refine gate_gd rfl ?_);first|((with_reducible refine gd_on rfl ?_ ?_);rfl;dsimp only)|((with_reducible refine gd_off rfl ?_ ?_);rfl))|((with_reducible refine gate_dst (N:=12) rfl ?_);(with_reducible refine gate_callee (f:=15) rfl ?_);refine goesL_ (some 12) rfl rfl Try.func15 kz rfl #[.slice As sd.length ks,.int .i64 c2] rfl am ?_;(with_reducible refine (spec_SegCut.calls k As ks sd c2 ps _ (Kd.C_below HS.out HL.out.bel) KS.out PS.out).mono ?_);rintro e w_ ⟨vp,rfl,hp_,hb_⟩;obtain ⟨Ap,kp,hvp⟩:=Kd.S_slice hp_;subst hvp;refine ⟨_,rfl,?_⟩;have HLo:=HL;replace HL:=mk_ (HL.out.call hb_);have HP:=mk_ hp_;clear hb_ hp_)|((with_reducible refine gate_dst (N:=3) rfl ?_);refine loc_box rfl rfl gz HL.out ?_;intro gb3 w_ HL_;replace HL:=mk_ HL_;clear HL_)|((with_reducible refine gate_dst (N:=4) rfl ?_);refine loc_box rfl rfl gz HL.out ?_;intro gb4 w_ HL_;replace HL:=mk_ HL_;clear HL_)|((with_reducible refine gate_dst (N:=6) rfl ?_);refine loc_alloc rfl rfl tz69 HL.out ?_;intro gb6 w_ HL_;replace HL:=mk_ HL_;clear HL_)|((with_reducible refine gate_ld0 (t:=69) rfl ?_);refine loc_load (n:=10) rfl rfl kz rfl kz HL.out sz ?_)|((with_reducible refine gate_ld0 rfl ?_);refine loc_load1 rfl rfl kz rfl HL.out sz ?_)|((with_reducible refine gate_st0 rfl ?_);refine loc_store rfl rfl rfl gz kz kz HL.out pz ?_;intro w_ HL_;replace HL:=mk_ HL_;clear HL_))
  refine bodyPost_ret (results_list (rs:=[.cell 6 69,.tmp 7]) rfl (by simp) (.cell _ 69 _ (0,0) _ rfl (HL.out.blk hz) Try.underlying69 rfl kz (.tmp .nil))) rfl ?_
  exact mkPut _ ez ⟨A2,k2,A4,k4,rfl,Kd.F_mono (Kd.F_below H2.out HL.out.bel) (fun _ h_=>Or.inl h_.1),K2.out,Kd.F_mono (Kd.F_below (Kd.N_F H4.out) HL.out.bel) (fun _ h_=>Or.inl h_),(Kd.N_reads' H4.out).2.1⟩ (Lok_base HL.out HB.out).bel ⟨HL.out.bel.size,fun i hi _=>HL.out.bel.block i hi⟩
 rw [if_neg e1] at h
 have e1b:decide (24<wrap64 ((q.length:Int)+(ps.length:Int)))=false:=decide_eq_false e1
 by_cases f1:q.length+ps.length<3518437208883
 rotate_left
 ·rw [if_neg f1] at h;exact absurd h (by simp)
 rw [if_pos f1] at h
 have F1:=mk_ f1
 clear f1 d1 e1
 simp only [Option.some.injEq,Prod.mk.injEq] at h
 obtain ⟨rfl,rfl,rfl,rfl,rfl,rfl,rfl,rfl,rfl,rfl,rfl⟩:=h
 go_enter Try.func111,Try.ntmps111
 go_wp2_with (first|((with_reducible refine gate_gd rfl ?_);first|((with_reducible refine gd_on rfl ?_ ?_);rfl;dsimp only)|((with_reducible refine gd_off rfl ?_ ?_);rfl))|((with_reducible refine gate_dst (N:=12) rfl ?_);(with_reducible refine gate_callee (f:=15) rfl ?_);refine goesL_ (some 12) rfl rfl Try.func15 kz rfl #[.slice As sd.length ks,.int .i64 c2] rfl am ?_;(with_reducible refine (spec_SegCut.calls k As ks sd c2 ps _ (Kd.C_below HS.out HL.out.bel) KS.out PS.out).mono ?_);rintro e w_ ⟨vp,rfl,hp_,hb_⟩;obtain ⟨Ap,kp,hvp⟩:=Kd.S_slice hp_;subst hvp;refine ⟨_,rfl,?_⟩;have HLo:=HL;replace HL:=mk_ (HL.out.call hb_);have HP:=mk_ hp_;clear hb_ hp_;have HN4:=mk_ (Kd.N_mono (ok':=fun k_=>k_≠gb4∧k_≠gb6∧(ok k_∨w.heap.size≤k_)) (Kd.N_below (Kd.N_bound H4.out) HL.out.bel) (fun k_ h_=>by have h7:=h_.2;have h8:=Lok_ge HL.out (g:=gb4) hz;have h9:=Lok_ge HL.out (g:=gb6) hz;exact ⟨by omega,by omega,Or.inl h_.1⟩));have HPF:=mk_ (Kd.S_F (Kd.S_mono (ok':=fun k_=>(k_≠gb4∧k_≠gb6∧(ok k_∨w.heap.size≤k_))∧some k_≠(Value.slice A4 q.length k4).ownBlock) (Kd.S_bound HP.out) (fun k_ h_=>by have h7:=h_.2.1;have h8:=blk_lt (HLo.out.blk (g:=gb4) hz);have h9:=blk_lt (HLo.out.blk (g:=gb6) hz);have h11:=HLo.out.bel.size;refine ⟨⟨by omega,by omega,Or.inr (by omega)⟩,fun he_=>?_⟩;have h10:=Kd.N_lt H4.out k_ he_.symm;omega)));clear HP HLo)|((with_reducible refine gate_dst (N:=35) rfl ?_);refine Kd.N_append_rows k39 (w0:=w0) w0.heap.size rfl (.tmp 33) (.tmp 34) 23 39 (.agg #[(.int .i64 0),(.int .i64 0),(.slice none 0 0)]) 40 rfl Try.underlying23 info39 rfl (by decide) (by decide) (.slice A4 q.length k4) q ps Ap ps.length kp (fun k_=>k_≠gb4∧k_≠gb6∧(ok k_∨w.heap.size≤k_)) (fun k_=>(k_≠gb4∧k_≠gb6∧(ok k_∨w.heap.size≤k_))∧some k_≠(Value.slice A4 q.length k4).ownBlock) rfl rfl ?aO ?aR (fun k_ h_=>h_) ?aF ?aB ?aS ?aL ?_;(case aO=>exact HN4.out);(case aR=>exact HPF.out);(case aF=>exact (fun k_ h_=>by have h8:=blk_lt (HL.out.blk (g:=gb4) hz);have h9:=blk_lt (HL.out.blk (g:=gb6) hz);have h10:=HL.out.bel.size;exact ⟨by omega,by omega,Or.inr (by omega)⟩));(case aB=>exact (Lok_base HL.out HB.out).bel);(case aS=>exact (Lok_base HL.out HB.out).bel.size);(case aL=>have:=F1.out;omega);intro v1 w1 ho_ hb_ hg_ hat_;obtain ⟨A35,k35,hv35⟩:=Kd.N_slice ho_;subst hv35;have HX:=mk_ (show PX w w1 (fun k_=>some k_=(Value.slice A4 q.length k4).ownBlock) (fun k_=>k_≠gb4∧k_≠gb6∧(ok k_∨w.heap.size≤k_)) A2 fl A35 (q++ps) from ⟨Kd.F_mono (Kd.F_grown (Kd.F_below (Kd.F_bound H2.out) HL.out.bel) hg_ (fun k_ h_=>h_.1.2)) (fun k_ h_=>by have h7:=h_.2;have h8:=Lok_ge HL.out (g:=gb4) hz;have h9:=Lok_ge HL.out (g:=gb6) hz;exact ⟨by omega,by omega,Or.inl h_.1.1⟩),Kd.N_F ho_,Nat.le_trans HL.out.bel.size hg_.size,fun i_ hi_ hn_=>(hg_.block i_ (Nat.lt_of_lt_of_le hi_ HL.out.bel.size) hn_).trans (HL.out.bel.block i_ hi_)⟩);have GE4:=mk_ (Lok_ge HL.out (g:=gb4) hz);have GE6:=mk_ (Lok_ge HL.out (g:=gb6) hz);have HK35:=mk_ (Kd.N_reads' ho_).2.1;have HL9:=mk_ (Lok_grown (Lok_base HL.out HB.out) hb_ hg_ (fun b_ hb9 he_=>by have h7:=Lok_ges HL.out b_ hb9;have h8:=Kd.N_lt H4.out b_.1 he_.symm;omega));clear HL HN4 HPF ho_ hb_ hg_ hat_;have HL:=HL9;clear HL9)|((with_reducible refine gate_dst (N:=3) rfl ?_);refine loc_box rfl rfl gz HL.out ?_;intro gb3 w_ HL_;replace HL:=mk_ HL_;clear HL_)|((with_reducible refine gate_dst (N:=4) rfl ?_);refine loc_box rfl rfl gz HL.out ?_;intro gb4 w_ HL_;replace HL:=mk_ HL_;clear HL_)|((with_reducible refine gate_dst (N:=6) rfl ?_);refine loc_alloc rfl rfl tz69 HL.out ?_;intro gb6 w_ HL_;replace HL:=mk_ HL_;clear HL_)|((with_reducible refine gate_ld0 (t:=69) rfl ?_);refine loc_load (n:=10) rfl rfl kz rfl kz HL.out sz ?_)|((with_reducible refine gate_ld0 rfl ?_);refine loc_load1 rfl rfl kz rfl HL.out sz ?_)|((with_reducible refine gate_st0 (t:=23) rfl ?_);refine tx_store (g:=gb4) rfl rfl rfl gz kz kz HL.out pz ?_;intro w_ HL_ hs_ hf_;replace HL:=mk_ HL_;replace HX:=mk_ (HX.out.far hs_ hf_ (fun j_ h_=>h_.1) GE4.out);clear HL_ hs_ hf_)|((with_reducible refine gate_st0 (t:=69) rfl ?_);refine tx_store (g:=gb6) rfl rfl rfl gz kz kz HL.out pz ?_;intro w_ HL_ hs_ hf_;replace HL:=mk_ HL_;replace HX:=mk_ (HX.out.far hs_ hf_ (fun j_ h_=>h_.2.1) GE6.out);clear HL_ hs_ hf_))
 refine bodyPost_ret (results_list (rs:=[.cell 6 69,.tmp 7]) rfl (by simp) (.cell _ 69 _ (0,0) _ rfl (HL.out.blk hz) Try.underlying69 rfl kz (.tmp .nil))) rfl ?_
 exact mkPut _ ez ⟨A2,k2,A35,k35,rfl,Kd.F_mono HX.out.f2 (fun _ h_=>h_.2.2),K2.out,Kd.F_mono HX.out.f4 (fun _ h_=>h_.2.2),HK35.out⟩ HL.out.bel HX.out.kp
end Go.Proofs.Yteknaofnageihaa.QFnTxOk
