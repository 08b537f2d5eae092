-- Texts by hand for FnTxLeft, FnTxOk.
import Derived.Test.YteknaofnageihaaTkg
import Derived.Test.YteknaofnageihaaTkh
import Derived.Test.YteknaofnageihaaTki
import Derived.Test.YteknaofnageihaaTkj
import Derived.Test.YteknaofnageihaaTkk
namespace Go.Proofs.Yteknaofnageihaa.QFnTxOk
open Go.RowKit Go.Proofs.YteknaofnageihaaW.PrintWords Go.Proofs.YteknaofnageihaaW.PrintLast Go.Proofs.YteknaofnageihaaW.PrintMore Go.Proofs.YteknaofnageihaaLoc
attribute [local go_sem] max2_int min2_int max_two min_two max_three min_three max_four min_four   -- for this text's walks alone
set_option linter.unusedVariables false
set_option linter.unusedSimpArgs false
open Go.Proofs.Yteknaofnageihaa.Pure
theorem Txn.reint {W:World} {base:Nat} {t:Tx} {A2 A4:Option Addr} {k2 k4:Nat} {b2 b4:Option Nat} (h:Txn W base t (.agg #[.int .i64 t.a0,.int .i64 t.a1,.slice A2 t.fl.length k2,.int .i64 t.a3,.slice A4 t.q.length k4,.bool t.a5,.int .i64 t.a6,.bool t.a7,.int .i64 t.a8,.bool t.a9]) b2 b4) (t':Tx) (e2:t'.fl=t.fl) (e4:t'.q=t.q):Txn W base t' (.agg #[.int .i64 t'.a0,.int .i64 t'.a1,.slice A2 t.fl.length k2,.int .i64 t'.a3,.slice A4 t.q.length k4,.bool t'.a5,.int .i64 t'.a6,.bool t'.a7,.int .i64 t'.a8,.bool t'.a9]) b2 b4:=by
 obtain ⟨B2,j2,B4,j4,hv,f2,f4,h2,h4⟩:=h
 simp only [Value.agg.injEq,Array.mk.injEq,List.cons.injEq,Value.slice.injEq,true_and,and_true] at hv
 obtain ⟨⟨rfl,rfl⟩,rfl,rfl⟩:=hv
 rw [← e2,← e4]
 exact ⟨A2,k2,A4,k4,by rw [e2,e4],by rw [e2];exact f2,by rw [e4];exact f4,by rw [e2,e4];exact h2,by rw [e2,e4];exact h4⟩
theorem Txn.rows {W:World} {base:Nat} {t:Tx} {A2 A4:Option Addr} {k2 k4:Nat} {b2 b4:Option Nat} (h:Txn W base t (.agg #[.int .i64 t.a0,.int .i64 t.a1,.slice A2 t.fl.length k2,.int .i64 t.a3,.slice A4 t.q.length k4,.bool t.a5,.int .i64 t.a6,.bool t.a7,.int .i64 t.a8,.bool t.a9]) b2 b4):b2=(Value.slice A2 t.fl.length k2).ownBlock∧b4=(Value.slice A4 t.q.length k4).ownBlock∧Kd.S k39 39 W base (fun k_=>some k_≠(Value.slice A4 t.q.length k4).ownBlock) (.slice A2 t.fl.length k2) t.fl∧Kd.S k39 39 W base (fun k_=>some k_≠(Value.slice A2 t.fl.length k2).ownBlock) (.slice A4 t.q.length k4) t.q:=by
 obtain ⟨B2,j2,B4,j4,hv,f2,f4,h2,h4⟩:=h
 simp only [Value.agg.injEq,Array.mk.injEq,List.cons.injEq,Value.slice.injEq,true_and,and_true] at hv
 obtain ⟨⟨rfl,rfl⟩,rfl,rfl⟩:=hv
 exact ⟨f2,f4,h2,h4⟩
section
variable {P:Program} {ops:Array Oper} {o:Oper} {a:Act} {ty:TypeId} {x:Operand} {rest:List Oper} {Q:Exit→Act→World→Prop} {w0 w W:World} {g n:Nat} {s:List Int} {N:Int} {H:List Blk} {cs:List Value} {t:Tx} {v:Value} {b2 b4:Option Nat}
theorem lit_at (hgd:o.guard=none) (HD:DX w0 w W g s N H) (hrun:(execOp a.eval o).run P W=.ok (.value (.slice (some ⟨W.heap.size,0,none⟩) 1 1)) (W.alloc (.cells cs.toArray 39))) (h:wpList P ops Q rest (a.put o.dst (.slice (some ⟨W.heap.size,0,none⟩) 1 1)) (W.alloc (.cells cs.toArray 39))):wpList P ops Q (o :: rest) a W:=Kd.event_run hgd hrun h
theorem dx_store0 {gs k:Nat} {vs:List Value} {y:Operand} {H':List Blk} (hgd:o.guard=none) (ho:o.op=.store ty x y) (hx:a.eval x=.pointer (some ⟨gs,k,none⟩)) (hy:(a.eval y).cells.toList=vs) (hi:(P.info? ty).map (·.size)=some vs.length) (h1:vs.all (·.oneCell')=true) (HD:DX w0 w W g s N H) (hu:Upd H gs k vs H')
  (h:∀ w',DX w0 w w' g s N H'→(∀ j,j≠gs→w'.heap[j]? =W.heap[j]?)→wpList P ops Q rest (a.put o.dst undef) w'):wpList P ops Q (o :: rest) a W :=
 tx_store hgd ho hx hy hi h1 HD.lok hu (fun w' hl hs hf=>h w' (HD.st hl hs hf hu) hf)
theorem dx_store0_step {K:Act→World→Prop} {gs k:Nat} {vs:List Value} {y:Operand} {H':List Blk} (hw:Region.wanted o (yielded ops a.tmps)=true) (hN:o.dst=none) (ho:o.op=.store ty x y) (hx:a.eval x=.pointer (some ⟨gs,k,none⟩)) (hy:(a.eval y).cells.toList=vs) (hi:(P.info? ty).map (·.size)=some vs.length) (h1:vs.all (·.oneCell')=true) (HD:DX w0 w W g s N H) (hu:Upd H gs k vs H')
  (h:∀ w',DX w0 w w' g s N H'→(∀ j,j≠gs→w'.heap[j]? =W.heap[j]?)→K a w'):if Region.wanted o (yielded ops a.tmps)=true then Oper.wp P o a W K Q else K (a.put none undef) W :=
 store_step hw hN ho hx hy hi h1 HD.lok hu (fun w' hl hs hf=>h w' (HD.st hl hs hf hu) hf)
theorem dx_lit (hgd:o.guard=none) (hrun:(execOp a.eval o).run P W=.ok (.value (.slice (some ⟨W.heap.size,0,none⟩) n n)) (W.alloc (.cells cs.toArray 3 (0,0)))) (HD:DX w0 w W g s N H) (HT:Txn W w.heap.size t v b2 b4)
  (h:∀ g' w',DX w0 w w' g s N ((g',cs,3) :: H)→Txn w' w.heap.size t v b2 b4→wpList P ops Q rest (a.put o.dst (.slice (some ⟨g',0,none⟩) n n)) w'):wpList P ops Q (o :: rest) a W :=
 Kd.event_run hgd hrun (h _ _ (HD.new (HD.lok.new cs 3) (below_alloc (Below.refl _ _) _) rfl (by decide)) (HT.below (below_alloc (Below.refl _ _) _)))
theorem lit_load_run {gl:Nat} {r:Int} {xs:List Value} (hN:(!aggB P ty && (P.underlying ty).isSome)=true) (ho:o.op=.load ty x) (hx:a.eval x=.pointer (some ⟨gl,r.toNat,none⟩)) (HL:Lok w0 W H) (hh:Has H gl xs ty) (h0:0≤r) (h1:r<xs.length) (hall:∀ u ∈ xs,∃ i,u=.int .i64 i):∃ i,(execOp a.eval o).run P W=.ok (.value (.int .i64 i)) W:=by
 simp only [Bool.and_eq_true,Bool.not_eq_true'] at hN
 have hb:=HL.blk hh
 have hlt:r.toNat<xs.length:=by omega
 obtain ⟨i,hi⟩:=hall xs[r.toNat] (List.getElem_mem hlt)
 have hc:W.cell? ⟨gl,r.toNat,none⟩=some (.int .i64 i):=by
  simp only [World.cell?,hb]
  simp [List.getElem?_eq_getElem hlt,hi]
 refine ⟨i,?_⟩
 have hz:(loadVar ty ⟨gl,r.toNat,none⟩).run P W=.ok (.int .i64 i) W:=by
  simp [loadVar,Sem.run_bind,agg_run hN.2,hN.1,hc]
 unfold execOp
 simp only [ho,hx,Instr.loadAt,Instr.sureAddr,Sem.run_bind,Sem.run_pure,Result.andThen_ok,hz]
theorem lit_load {gl:Nat} {r:Int} {xs:List Value} (hgd:o.guard=none) (hN:(!aggB P ty && (P.underlying ty).isSome)=true) (ho:o.op=.load ty x) (hx:a.eval x=.pointer (some ⟨gl,r.toNat,none⟩)) (HL:Lok w0 W H) (hh:Has H gl xs ty) (h0:0≤r) (h1:r<xs.length) (hall:∀ u ∈ xs,∃ i,u=.int .i64 i) (h:∀ i,wpList P ops Q rest (a.put o.dst (.int .i64 i)) W):wpList P ops Q (o :: rest) a W:=by
 obtain ⟨i,hi⟩:=lit_load_run hN ho hx HL hh h0 h1 hall
 exact Kd.event_run hgd hi (h i)
theorem lit_load_step {gl:Nat} {r:Int} {xs:List Value} {K:Act→World→Prop} {M:Option Tmp} (hw:Region.wanted o (yielded ops a.tmps)=true) (hM:o.dst=M) (hN:(!aggB P ty && (P.underlying ty).isSome)=true) (ho:o.op=.load ty x) (hx:a.eval x=.pointer (some ⟨gl,r.toNat,none⟩)) (HL:Lok w0 W H) (hh:Has H gl xs ty) (h0:0≤r) (h1:r<xs.length) (hall:∀ u ∈ xs,∃ i,u=.int .i64 i) (h:∀ i,K (a.put M (.int .i64 i)) W):if Region.wanted o (yielded ops a.tmps)=true then Oper.wp P o a W K Q else K (a.put M undef) W:=by
 obtain ⟨i,hi⟩:=lit_load_run hN ho hx HL hh h0 h1 hall
 exact value_ hw hM hi (h i)
theorem dx_lit_step {K:Act→World→Prop} {M:Option Tmp} (hw:Region.wanted o (yielded ops a.tmps)=true) (hM:o.dst=M) (hrun:(execOp a.eval o).run P W=.ok (.value (.slice (some ⟨W.heap.size,0,none⟩) n n)) (W.alloc (.cells cs.toArray 3 (0,0)))) (HD:DX w0 w W g s N H) (HT:Txn W w.heap.size t v b2 b4)
  (h:∀ g' w',DX w0 w w' g s N ((g',cs,3) :: H)→Txn w' w.heap.size t v b2 b4→K (a.put M (.slice (some ⟨g',0,none⟩) n n)) w'):if Region.wanted o (yielded ops a.tmps)=true then Oper.wp P o a W K Q else K (a.put M undef) W :=
 value_ hw hM hrun (h _ _ (HD.new (HD.lok.new cs 3) (below_alloc (Below.refl _ _) _) rfl (by decide)) (HT.below (below_alloc (Below.refl _ _) _)))
theorem lok_tl {b:Blk} (h:Lok w0 W (b :: H)):Lok w0 W H:=⟨h.bel,fun x hx=>h.all x (List.mem_cons_of_mem _ hx),by have h9:=h.ne;simp only [List.map_cons,List.nodup_cons] at h9;exact h9.2⟩
end
def fx91.T9:Bool × List (List Nat × List Nat):=(true,[([],[]),([],[]),([],[]),([],[]),([3],[3]),([2,4],[2,4]),([0,1,5,5],[0,1,5]),([6],[6]),([7],[7]),([7],[7]),([8,6,0,1,2,3,4,5,6,7,8],[8])])
def fx91.B9:List Nat:=[0,0,0,0,8,28,63,127,255,255,511]
theorem fx91.tab9:rtab .any (opsOf Try.f91 9)=fx91.T9:=by kernel_rfl
theorem fx91.bits9:waitsOk fx91.T9.2 fx91.B9=true:=by kernel_rfl
def fx91.T14:Bool × List (List Nat × List Nat):=(true,[([],[]),([],[]),([],[]),([2],[2]),([],[]),([],[]),([5],[5]),([6],[6]),([7],[7]),([4,8],[4,8]),([3,9],[3,9]),([10],[10]),([],[]),([12,9],[12]),([],[]),([14,13],[14]),([15],[15]),([11,13,16],[11,13,16]),([0,1,17,15],[0,1,17]),([18,18,0,1,2,3,4,5,6,7,8,9,10,11,12,13,14,15,16,17,18],[18])])
def fx91.B14:List Nat:=[0,0,0,4,0,0,32,96,224,496,1020,2044,0,5104,0,29680,62448,131068,262143,524287]
theorem fx91.tab14:rtab .any (opsOf Try.f91 14)=fx91.T14:=by kernel_rfl
theorem fx91.bits14:waitsOk fx91.T14.2 fx91.B14=true:=by kernel_rfl
def fx91.T24:Bool × List (List Nat × List Nat):=(true,[([],[]),([0],[0]),([1],[1]),([2],[2]),([3],[3]),([],[]),([5],[5]),([4,6],[4,6]),([7],[7]),([0,1,2,3,4,5,6,7,8],[]),([9,8,6,0,1,2,3,4,5,6,7,8],[8,9])])
def fx91.B24:List Nat:=[0,1,3,7,15,0,32,127,255,511,1023]
theorem fx91.tab24:rtab .any (opsOf Try.f91 24)=fx91.T24:=by kernel_rfl
theorem fx91.bits24:waitsOk fx91.T24.2 fx91.B24=true:=by kernel_rfl
def fx91.T26:Bool × List (List Nat × List Nat):=(true,[([],[]),([0],[0]),([1],[1]),([],[]),([3],[3]),([2,4],[2,4]),([],[]),([6],[6]),([5,7],[5,7]),([8],[8]),([0,1,2,3,4,5,6,7,8,9],[]),([10,9,7,0,1,2,3,4,5,6,7,8,9],[9,10])])
def fx91.B26:List Nat:=[0,1,3,0,8,31,0,64,255,511,1023,2047]
theorem fx91.tab26:rtab .any (opsOf Try.f91 26)=fx91.T26:=by kernel_rfl
theorem fx91.bits26:waitsOk fx91.T26.2 fx91.B26=true:=by kernel_rfl
def fx91.T28:Bool × List (List Nat × List Nat):=(true,[([],[]),([0],[0]),([1],[1]),([2],[2]),([],[]),([4],[4]),([3,5],[3,5]),([6],[6]),([0,1,2,3,4,5,6,7],[]),([8,7,5,0,1,2,3,4,5,6,7],[7,8])])
def fx91.B28:List Nat:=[0,1,3,7,0,16,63,127,255,511]
theorem fx91.tab28:rtab .any (opsOf Try.f91 28)=fx91.T28:=by kernel_rfl
theorem fx91.bits28:waitsOk fx91.T28.2 fx91.B28=true:=by kernel_rfl
def fx91.T30:Bool × List (List Nat × List Nat):=(true,[([],[]),([0],[0]),([],[]),([2],[2]),([3],[3]),([1,4,3],[1,4]),([0,1,2,3,4,5],[]),([6,5,5,0,1,2,3,4,5],[5,6])])
def fx91.B30:List Nat:=[0,1,0,4,12,31,63,127]
theorem fx91.tab30:rtab .any (opsOf Try.f91 30)=fx91.T30:=by kernel_rfl
theorem fx91.bits30:waitsOk fx91.T30.2 fx91.B30=true:=by kernel_rfl
def fx91.T32:Bool × List (List Nat × List Nat):=(true,[([],[]),([0],[0]),([],[]),([2],[2]),([3],[3]),([1,4,3],[1,4]),([0,1,2,3,4,5],[]),([6,5,5,0,1,2,3,4,5],[5,6])])
def fx91.B32:List Nat:=[0,1,0,4,12,31,63,127]
theorem fx91.tab32:rtab .any (opsOf Try.f91 32)=fx91.T32:=by kernel_rfl
theorem fx91.bits32:waitsOk fx91.T32.2 fx91.B32=true:=by kernel_rfl
def Sl3 (l:List S39):Prop:=l.length≤1000∧∀ p ∈ l,p.f2.length≤1000
def Sm3 (t:Tx):Prop:=Sl3 t.fl∧Sl3 t.q
theorem Sl.three {l:List S39} (h:Sl l):Sl3 l:=⟨by have:=h.1;omega,h.2⟩
theorem Sl3.snoc {l:List S39} (h:Sl l) (x:S39) (hx:x.f2.length≤1000):Sl3 (l++[x]):=by
 refine ⟨by have:=h.1;simp only [List.length_append,List.length_cons,List.length_nil];omega,fun p hp=>?_⟩
 rcases List.mem_append.1 hp with hp|hp
 ·exact h.2 p hp
 ·rw [List.mem_singleton.1 hp];exact hx
theorem DX.grown {w0 w W w1:World} {g:Nat} {s:List Int} {N:Int} {H:List Blk} {r:Option Nat} (h:DX w0 w W g s N H) (hb:Below w0.heap.size w0 w1) (hg:W.grownBy w1 r) (hr:∀ k,r=some k→w.heap.size≤k) (hne:∀ b ∈ H,some b.1≠r):DX w0 w w1 g s N H:=by
 obtain ⟨p,h1,h2,h3⟩:=h.rd
 refine ⟨Lok_grown h.lok hb hg hne,⟨p,h1,h2,h3.grown hg (fun e=>by have:=hr g e.symm;have:=h.gw;omega)⟩,⟨Nat.le_trans h.kb.1 hg.size,fun i hi hn _=>(hg.block i (Nat.lt_of_lt_of_le hi h.kb.1) (fun e=>by have:=hr i e.symm;omega)).trans (h.kb.2 i hi hn (by simp))⟩,h.far,h.gw⟩
theorem Txn.own {W:World} {base:Nat} {t:Tx} {v:Value} {b2 b4:Option Nat} (h:Txn W base t v b2 b4):(∀ k,b2=some k→base≤k∧k<W.heap.size)∧(∀ k,b4=some k→base≤k∧k<W.heap.size):=by
 obtain ⟨A2,k2,A4,k4,rfl,rfl,rfl,h2,h4⟩:=h
 exact ⟨fun k hk=>⟨Kd.S_base h2 k hk,Kd.S_lt h2 k hk⟩,fun k hk=>⟨Kd.S_base h4 k hk,Kd.S_lt h4 k hk⟩⟩
def TxD (w0 w:World) (g:Nat):Ending→World→Prop:=fun e w'=>∃ v t,e=.returned v∧Txf w' (fun k=>w.heap.size≤k) t v∧Sm3 t∧Below w0.heap.size w0 w'∧KeepBut w w' g none
theorem mkTxD {w0 w w':World} {g:Nat} {e:Ending} (t:Tx) (v:Value) (h:e=.returned v) (h1:Txf w' (fun k=>w.heap.size≤k) t v) (hs:Sm3 t) (h2:Below w0.heap.size w0 w') (h3:KeepBut w w' g none):TxD w0 w g e w':=⟨v,t,h,h1,hs,h2,h3⟩
set_option maxHeartbeats 60000000 in
set_option maxRecDepth 100000 in
theorem l20tx_calls (g:Nat) (s:List Int) (p:Int) (c0 c1 c2 c3 c4 a2:Int) (hc:CfgR c0 c1 c2 c3 c4) (ha:a2≤1000) (hs:RdOk s) (hp:0≤p∧p≤1000) (w0 w:World) (hI:IsS113 w0 w g s p) (hB:Below w0.heap.size w0 w):Calls Try.prog 91 #[.pointer (some ⟨g,0,none⟩),.agg #[.int .i64 c0,.int .i64 c1,.int .i64 c2,.int .i64 c3,.int .i64 c4],.int .i64 a2] w (TxD w0 w g):=by
 have HD:=mk_ (show DX w0 w w g s 1000 [] from ⟨⟨hB,fun x hx=>by simp at hx,by simp⟩,⟨p,hp.1,hp.2,hI⟩,KeepBut.refl _ _ _,fun x hx=>by simp at hx,IsS113.lt hI⟩)
 have HT:=mk_ (Txn_zero w w.heap.size)
 have HW:=mk_ hB.size
 have HA:=mk_ ha
 have HC:=mk_ hc
 clear hI hB hp ha hc
 go_enter Try.func91,Try.ntmps91
 go_wp2_with (first|((with_reducible refine gate_gd rfl ?_);first|((with_reducible refine gd_on rfl ?_ ?_);rfl;dsimp only)|((with_reducible refine gd_off rfl ?_ ?_);rfl))|((with_reducible refine gate_dst (N:=11) rfl ?_);(with_reducible refine gate_callee (f:=70) rfl ?_);refine goesL_ (some 11) rfl rfl Try.func70 kz rfl #[.pointer (some ⟨g,0,none⟩),.int .i64 20] rfl am ?_;(with_reducible refine (pick_calls 20 (by decide) hs (by decide) HD.out HT.out).mono ?_);rintro e w_ ⟨u_,rfl,⟨r,rfl,hr0_,hr1_⟩,hd_,ht_,hk_⟩;refine ⟨_,rfl,?_⟩;replace HD:=mk_ hd_;replace HT:=mk_ ht_;have Rr:=mk_ (And.intro hr0_ hr1_);clear hd_ ht_ hk_ hr0_ hr1_)|((with_reducible refine gate_dst (N:=4) rfl ?_);refine dx_box rfl rfl gz HD.out HT.out (by decide) ?_;intro gb4 w_ HD_ HT_;replace HD:=mk_ HD_;replace HT:=mk_ HT_;clear HD_ HT_)|((with_reducible refine gate_dst (N:=6) rfl ?_);refine dx_alloc rfl rfl tz69 HD.out HT.out (by decide) ?_;intro gb6 w_ HD_ HT_;replace HD:=mk_ HD_;replace HT:=mk_ HT_;clear HD_ HT_)|((with_reducible refine gate_dst (N:=7) rfl ?_);refine dx_alloc rfl rfl tz69 HD.out HT.out (by decide) ?_;intro gb7 w_ HD_ HT_;replace HD:=mk_ HD_;replace HT:=mk_ HT_;clear HD_ HT_)|((with_reducible refine gate_ld0 (t:=69) rfl ?_);refine loc_load (n:=10) rfl rfl kz rfl kz HD.out.lok sz ?_)|((with_reducible refine gate_ld0 (t:=66) rfl ?_);refine loc_load (n:=5) rfl rfl kz rfl kz HD.out.lok sz ?_)|((with_reducible refine gate_ld0 rfl ?_);refine loc_load1 rfl rfl kz rfl HD.out.lok sz ?_)|((with_reducible refine gate_st0 rfl ?_);refine dx_store rfl rfl rfl gz kz kz HD.out HT.out pz ?_;intro w_ HD_ HT_;replace HD:=mk_ HD_;replace HT:=mk_ HT_;clear HD_ HT_))
 go_loopg [8] (r.toNat) (fun kq v8 w'=>∃ (n:Int) (t:Tx) (A2:Option Addr) (k2:Nat) (A4:Option Addr) (k4:Nat) (b2 b4:Option Nat),v8=.int .i64 n∧Aside0 (n≤kq∧(kq:Int)≤20)∧Aside0 (DX w0 w w' g s (10000 - 200 * (kq:Int)) [(gb7,[.int .i64 t.a0,.int .i64 t.a1,.slice A2 t.fl.length k2,.int .i64 t.a3,.slice A4 t.q.length k4,.bool t.a5,.int .i64 t.a6,.bool t.a7,.int .i64 t.a8,.bool t.a9],69),(gb6,[.int .i64 0,.int .i64 0,.slice none 0 0,.int .i64 0,.slice none 0 0,.bool false,.int .i64 0,.bool false,.int .i64 0,.bool false],69),(gb4,[.int .i64 c0,.int .i64 c1,.int .i64 c2,.int .i64 c3,.int .i64 c4],66)])∧Aside0 (Txn w' w.heap.size t (.agg #[.int .i64 t.a0,.int .i64 t.a1,.slice A2 t.fl.length k2,.int .i64 t.a3,.slice A4 t.q.length k4,.bool t.a5,.int .i64 t.a6,.bool t.a7,.int .i64 t.a8,.bool t.a9]) b2 b4)∧Aside0 (Sm t))
 case atStart=>exact ⟨r,⟨0,0,[],0,[],false,0,false,0,false⟩,none,0,none,0,none,none,rfl,⟨by have:=Rr.out;omega⟩,⟨HD.out.up (by have:=Rr.out;omega)⟩,⟨HT.out⟩,⟨Sm_zero⟩⟩
 case round =>
  clear HD HT Rr
  obtain ⟨n,⟨t0,t1,fl,t3,q,t5,t6,t7,t8,t9⟩,A2,k2,A4,k4,b2,b4,rfl,HK,HD,HT,S0⟩:=hrel
  dsimp only at HD HT
  by_cases c:n > 0
  rotate_left
  ·have cb:decide (0<n)=false:=decide_eq_false c
   replace HD:=mk_ (HD.out.up (show _≤(10000:Int) by have:=HK.out.2;omega))
   clear c HK
   go_upto_if 71 with (first|((with_reducible refine gate_gd rfl ?_);first|((with_reducible refine gd_on rfl ?_ ?_);rfl;dsimp only)|((with_reducible refine gd_off rfl ?_ ?_);rfl))|((with_reducible refine gate_dst (N:=71) rfl ?_);(with_reducible refine gate_callee (f:=98) rfl ?_);refine goesL_ (some 71) rfl rfl Try.func98 kz rfl #[.pointer (some ⟨g,0,none⟩),.int .i64 a2] rfl am ?_;(with_reducible refine (odd_calls a2 HA.out hs (by decide) HD.out HT.out).mono ?_);rintro e w_ ⟨u_,rfl,⟨b71,rfl⟩,hd_,ht_,hk_⟩;refine ⟨_,rfl,?_⟩;replace HD:=mk_ hd_;replace HT:=mk_ ht_;clear hd_ ht_ hk_)|((with_reducible refine gate_ld0 (t:=69) rfl ?_);refine loc_load (n:=10) rfl rfl kz rfl kz HD.out.lok sz ?_)|((with_reducible refine gate_ld0 (t:=66) rfl ?_);refine loc_load (n:=5) rfl rfl kz rfl kz HD.out.lok sz ?_)|((with_reducible refine gate_ld0 rfl ?_);refine loc_load1 rfl rfl kz rfl HD.out.lok sz ?_)|((with_reducible refine gate_st0 rfl ?_);refine dx_store rfl rfl rfl gz kz kz HD.out HT.out pz ?_;intro w_ HD_ HT_;replace HD:=mk_ HD_;replace HT:=mk_ HT_;clear HD_ HT_))
   cases b71
   ·go_wp2_with (first|((with_reducible refine gate_gd rfl ?_);first|((with_reducible refine gd_on rfl ?_ ?_);rfl;dsimp only)|((with_reducible refine gd_off rfl ?_ ?_);rfl))|((with_reducible refine gate_ld0 (t:=69) rfl ?_);refine loc_load (n:=10) rfl rfl kz rfl kz HD.out.lok sz ?_)|((with_reducible refine gate_ld0 (t:=66) rfl ?_);refine loc_load (n:=5) rfl rfl kz rfl kz HD.out.lok sz ?_)|((with_reducible refine gate_ld0 rfl ?_);refine loc_load1 rfl rfl kz rfl HD.out.lok sz ?_)|((with_reducible refine gate_st0 rfl ?_);refine dx_store rfl rfl rfl gz kz kz HD.out HT.out pz ?_;intro w_ HD_ HT_;replace HD:=mk_ HD_;replace HT:=mk_ HT_;clear HD_ HT_))
    refine bodyPost_ret (results_cell_row rfl _ _ _ 69 _ (0,0) _ rfl (HD.out.lok.blk hz) Try.underlying69 rfl kz) rfl ?_
    exact mkTxD ⟨t0,t1,fl,t3,q,t5,t6,t7,t8,t9⟩ _ ez HT.out.f ⟨S0.out.1.three,S0.out.2.three⟩ HD.out.lok.bel HD.out.kb
   go_upto_region 19 with (first|((with_reducible refine gate_gd rfl ?_);first|((with_reducible refine gd_on rfl ?_ ?_);rfl;dsimp only)|((with_reducible refine gd_off rfl ?_ ?_);rfl))|((with_reducible refine gate_dst (N:=73) rfl ?_);(with_reducible refine gate_callee (f:=70) rfl ?_);refine goesL_ (some 73) rfl rfl Try.func70 kz rfl #[.pointer (some ⟨g,0,none⟩),.int .i64 8] rfl am ?_;(with_reducible refine (pick_calls 8 (by decide) hs (by decide) HD.out HT.out).mono ?_);rintro e w_ ⟨u_,rfl,⟨r73,rfl,hr0_,hr1_⟩,hd_,ht_,hk_⟩;refine ⟨_,rfl,?_⟩;replace HD:=mk_ hd_;replace HT:=mk_ ht_;have Rr73:=mk_ (And.intro hr0_ hr1_);clear hd_ ht_ hk_ hr0_ hr1_)|((with_reducible refine gate_ld0 (t:=69) rfl ?_);refine loc_load (n:=10) rfl rfl kz rfl kz HD.out.lok sz ?_)|((with_reducible refine gate_ld0 (t:=66) rfl ?_);refine loc_load (n:=5) rfl rfl kz rfl kz HD.out.lok sz ?_)|((with_reducible refine gate_ld0 rfl ?_);refine loc_load1 rfl rfl kz rfl HD.out.lok sz ?_)|((with_reducible refine gate_st0 rfl ?_);refine dx_store rfl rfl rfl gz kz kz HD.out HT.out pz ?_;intro w_ HD_ HT_;replace HD:=mk_ HD_;replace HT:=mk_ HT_;clear HD_ HT_))
   have R8:r73=0∨r73=1∨r73=2∨r73=3∨r73=4∨r73=5∨r73=6∨r73=7:=by have:=Rr73.out;omega
   clear Rr73
   rcases R8 with rfl|rfl|rfl|rfl|rfl|rfl|rfl|rfl
   ·go_wp2_with (first|((with_reducible refine gate_gd rfl ?_);first|((with_reducible refine gd_on rfl ?_ ?_);rfl;dsimp only)|((with_reducible refine gd_off rfl ?_ ?_);rfl))|((with_reducible refine gate_dst (N:=88) rfl ?_);(with_reducible refine gate_callee (f:=106) rfl ?_);refine goesL_ (some 88) rfl rfl Try.func106 kz rfl #[.int .i64 t0] rfl am ?_;(with_reducible refine (spec_NumNext.calls t0 _ _ rfl).mono ?_);rintro e w_ ⟨rfl,hb_⟩;refine ⟨_,rfl,?_⟩;replace HD:=mk_ (HD.out.call hb_.below);replace HT:=mk_ (HT.out.below hb_.below);clear hb_)|((with_reducible refine gate_dst (N:=89) rfl ?_);refine dx_lit (cs:=[.int .i64 (-1),.int .i64 8,.int .i64 (Int.tmod (wrap64 (t0+1)) 8)]) (n:=3) rfl gz HD.out HT.out ?_;intro gl w_ HD_ HT_;replace HD:=mk_ HD_;replace HT:=mk_ HT_;clear HD_ HT_)|((with_reducible refine gate_dst (N:=91) rfl ?_);(with_reducible refine gate_callee (f:=70) rfl ?_);refine goesL_ (some 91) rfl rfl Try.func70 kz rfl #[.pointer (some ⟨g,0,none⟩),.int .i64 3] rfl am ?_;(with_reducible refine (pick_calls 3 (by decide) hs (by decide) HD.out HT.out).mono ?_);rintro e w_ ⟨u_,rfl,⟨rl,rfl,hr0_,hr1_⟩,hd_,ht_,hk_⟩;refine ⟨_,rfl,?_⟩;replace HD:=mk_ hd_;replace HT:=mk_ ht_;have Rrl:=mk_ (And.intro hr0_ hr1_);clear hd_ ht_ hk_)|((with_reducible refine gate_ld0 rfl ?_);refine lit_load rfl kz rfl rfl HD.out.lok hz (by exact hr0_) (by exact hr1_) (by first|exact (by intro u_ hu_;simp only [List.mem_cons,List.not_mem_nil,or_false] at hu_;rcases hu_ with rfl|rfl|rfl <;> exact ⟨_,rfl⟩)|exact (by intro u_ hu_;simp only [List.mem_cons,List.not_mem_nil,or_false] at hu_;rcases hu_ with rfl|rfl <;> exact ⟨_,rfl⟩)) ?_;intro xl)|((with_reducible refine gate_ld0 (t:=69) rfl ?_);refine loc_load (n:=10) rfl rfl kz rfl kz HD.out.lok sz ?_)|((with_reducible refine gate_ld0 (t:=66) rfl ?_);refine loc_load (n:=5) rfl rfl kz rfl kz HD.out.lok sz ?_)|((with_reducible refine gate_ld0 rfl ?_);refine loc_load1 rfl rfl kz rfl HD.out.lok sz ?_)|((with_reducible refine gate_st0 rfl ?_);refine dx_store rfl rfl rfl gz kz kz HD.out HT.out pz ?_;intro w_ HD_ HT_;replace HD:=mk_ HD_;replace HT:=mk_ HT_;clear HD_ HT_))
    refine bodyPost_ret (results_cell_row rfl _ _ _ 69 _ (0,0) _ rfl (HD.out.lok.blk hz) Try.underlying69 rfl kz) rfl ?_
    exact mkTxD ⟨(xl),t1,fl,t3,q,t5,t6,t7,t8,t9⟩ _ ez (Txn.reint HT.out ⟨(xl),t1,fl,t3,q,t5,t6,t7,t8,t9⟩ rfl rfl).f ⟨S0.out.1.three,S0.out.2.three⟩ HD.out.lok.bel HD.out.kb
   ·go_wp2_with (first|((with_reducible refine gate_gd rfl ?_);first|((with_reducible refine gd_on rfl ?_ ?_);rfl;dsimp only)|((with_reducible refine gd_off rfl ?_ ?_);rfl))|((with_reducible refine gate_dst (N:=97) rfl ?_);refine dx_lit (cs:=[.int .i64 (-1),.int .i64 8]) (n:=2) rfl gz HD.out HT.out ?_;intro gl w_ HD_ HT_;replace HD:=mk_ HD_;replace HT:=mk_ HT_;clear HD_ HT_)|((with_reducible refine gate_dst (N:=99) rfl ?_);(with_reducible refine gate_callee (f:=70) rfl ?_);refine goesL_ (some 99) rfl rfl Try.func70 kz rfl #[.pointer (some ⟨g,0,none⟩),.int .i64 2] rfl am ?_;(with_reducible refine (pick_calls 2 (by decide) hs (by decide) HD.out HT.out).mono ?_);rintro e w_ ⟨u_,rfl,⟨rl,rfl,hr0_,hr1_⟩,hd_,ht_,hk_⟩;refine ⟨_,rfl,?_⟩;replace HD:=mk_ hd_;replace HT:=mk_ ht_;have Rrl:=mk_ (And.intro hr0_ hr1_);clear hd_ ht_ hk_)|((with_reducible refine gate_ld0 rfl ?_);refine lit_load rfl kz rfl rfl HD.out.lok hz (by exact hr0_) (by exact hr1_) (by first|exact (by intro u_ hu_;simp only [List.mem_cons,List.not_mem_nil,or_false] at hu_;rcases hu_ with rfl|rfl|rfl <;> exact ⟨_,rfl⟩)|exact (by intro u_ hu_;simp only [List.mem_cons,List.not_mem_nil,or_false] at hu_;rcases hu_ with rfl|rfl <;> exact ⟨_,rfl⟩)) ?_;intro xl)|((with_reducible refine gate_ld0 (t:=69) rfl ?_);refine loc_load (n:=10) rfl rfl kz rfl kz HD.out.lok sz ?_)|((with_reducible refine gate_ld0 (t:=66) rfl ?_);refine loc_load (n:=5) rfl rfl kz rfl kz HD.out.lok sz ?_)|((with_reducible refine gate_ld0 rfl ?_);refine loc_load1 rfl rfl kz rfl HD.out.lok sz ?_)|((with_reducible refine gate_st0 rfl ?_);refine dx_store rfl rfl rfl gz kz kz HD.out HT.out pz ?_;intro w_ HD_ HT_;replace HD:=mk_ HD_;replace HT:=mk_ HT_;clear HD_ HT_))
    refine bodyPost_ret (results_cell_row rfl _ _ _ 69 _ (0,0) _ rfl (HD.out.lok.blk hz) Try.underlying69 rfl kz) rfl ?_
    exact mkTxD ⟨t0,(xl),fl,t3,q,t5,t6,t7,t8,t9⟩ _ ez (Txn.reint HT.out ⟨t0,(xl),fl,t3,q,t5,t6,t7,t8,t9⟩ rfl rfl).f ⟨S0.out.1.three,S0.out.2.three⟩ HD.out.lok.bel HD.out.kb
   ·go_upto_region 24 with (first|((with_reducible refine gate_gd rfl ?_);first|((with_reducible refine gd_on rfl ?_ ?_);rfl;dsimp only)|((with_reducible refine gd_off rfl ?_ ?_);rfl))|((with_reducible refine gate_ld0 (t:=69) rfl ?_);refine loc_load (n:=10) rfl rfl kz rfl kz HD.out.lok sz ?_)|((with_reducible refine gate_ld0 (t:=66) rfl ?_);refine loc_load (n:=5) rfl rfl kz rfl kz HD.out.lok sz ?_)|((with_reducible refine gate_ld0 rfl ?_);refine loc_load1 rfl rfl kz rfl HD.out.lok sz ?_)|((with_reducible refine gate_st0 rfl ?_);refine dx_store rfl rfl rfl gz kz kz HD.out HT.out pz ?_;intro w_ HD_ HT_;replace HD:=mk_ HD_;replace HT:=mk_ HT_;clear HD_ HT_))
    refine start_ (n:=11) (S:=fun w'=>Lok w0 w' _) (ds:=[10]) (YteknaofnageihaaLoc.bm 11 0) kz rfl rfl HD.out.drew.lok (fun hHeld=>?_)
    refine with_tabW fx91.tab24 fx91.bits24 (fun HT_ HW_=>?_)
    have HS:=mk_ hHeld
    clear hHeld
    replace HD:=mk_ HD.out.drew
    replace HT:=mk_ (HT.out.below (below_drew (Below.refl _ _)))
    revert HS HD HT
    generalize World.drew _=w8_
    intro HS HD HT
    refine qA 0 105 1 HT_ ?_
    refine qM 1 106 3 HT_ HW_ HS ?_
    refine qA 2 107 7 HT_ ?_
    refine qA 3 108 15 HT_ ?_
    refine qA 5 110 47 HT_ ?_
    refine two_ (i:=4) (j:=6) (Ni:=some 109) (Nj:=some 111) (YteknaofnageihaaLoc.bm 11 63) (YteknaofnageihaaLoc.bm 11 111) rfl rfl rfl rfl (two_of HT_.out kz) (by decide) (by decide) (fun K hK=>?_) (fun K hK=>?_)
    ·refine dx_lit_step (cs:=[.int .i64 (-1),.int .i64 (wrap64 ((fl.length:Int)+1))]) (n:=2) (by rfl) rfl gz HD.out HT.out ?_
     intro gl w9_ HD_ HT_
     replace HD:=mk_ HD_
     replace HT:=mk_ HT_
     replace HS:=mk_ (lok_tl HD.out.lok)
     clear HD_ HT_
     refine qK hK HS ?_;clear hK K
     refine qO 6 (some 111) 127 HT_ (fun K hK=>?_)
     refine goes_ Try.func70 kz rfl #[.pointer (some ⟨g,0,none⟩),.int .i64 2] rz rfl rfl am ?_
     refine (pick_calls 2 (by decide) hs (by decide) HD.out HT.out).mono ?_
     rintro e w9_ ⟨u_,rfl,⟨rl,rfl,hr0_,hr1_⟩,hd_,ht_,hk_⟩
     refine ⟨_,rfl,?_⟩
     replace HD:=mk_ hd_
     replace HT:=mk_ ht_
     replace HS:=mk_ (lok_tl HD.out.lok)
     clear hd_ ht_ hk_
     refine qK hK HS ?_;clear hK K
     refine qA 7 112 255 HT_ ?_
     refine qO 8 (some 113) 511 HT_ (fun K hK=>?_)
     refine lit_load_step (by rfl) rfl kz rfl rfl HD.out.lok hz (by exact hr0_) (by exact hr1_) (by first|exact (by intro u_ hu_;simp only [List.mem_cons,List.not_mem_nil,or_false] at hu_;rcases hu_ with rfl|rfl|rfl <;> exact ⟨_,rfl⟩)|exact (by intro u_ hu_;simp only [List.mem_cons,List.not_mem_nil,or_false] at hu_;rcases hu_ with rfl|rfl <;> exact ⟨_,rfl⟩)) ?_
     intro xl
     refine qK hK HS ?_;clear hK K
     refine qA 9 114 1023 HT_ ?_
     refine qE 10 none 2047 HT_ (fun K hK=>?_)
     refine dx_store_step (by rfl) rfl rfl rfl gz kz kz HD.out HT.out pz ?_
     intro w9_ HD_ HT_
     replace HD:=mk_ HD_
     replace HT:=mk_ HT_
     clear HD_ HT_
     refine hK.out _ _ ?_;clear hK K
     refine qF HT_ ?_
     clear HT_ HW_ HS
     go_wp2_with (first|((with_reducible refine gate_gd rfl ?_);first|((with_reducible refine gd_on rfl ?_ ?_);rfl;dsimp only)|((with_reducible refine gd_off rfl ?_ ?_);rfl))|((with_reducible refine gate_ld0 (t:=69) rfl ?_);refine loc_load (n:=10) rfl rfl kz rfl kz HD.out.lok sz ?_)|((with_reducible refine gate_ld0 (t:=66) rfl ?_);refine loc_load (n:=5) rfl rfl kz rfl kz HD.out.lok sz ?_)|((with_reducible refine gate_ld0 rfl ?_);refine loc_load1 rfl rfl kz rfl HD.out.lok sz ?_)|((with_reducible refine gate_st0 rfl ?_);refine dx_store rfl rfl rfl gz kz kz HD.out HT.out pz ?_;intro w_ HD_ HT_;replace HD:=mk_ HD_;replace HT:=mk_ HT_;clear HD_ HT_))
     refine bodyPost_ret (results_cell_row rfl _ _ _ 69 _ (0,0) _ rfl (HD.out.lok.blk hz) Try.underlying69 rfl kz) rfl ?_
     exact mkTxD ⟨t0,t1,fl,(xl),q,t5,t6,t7,t8,t9⟩ _ ez (Txn.reint HT.out ⟨t0,t1,fl,(xl),q,t5,t6,t7,t8,t9⟩ rfl rfl).f ⟨S0.out.1.three,S0.out.2.three⟩ HD.out.lok.bel HD.out.kb
    ·refine goes_ Try.func70 kz rfl #[.pointer (some ⟨g,0,none⟩),.int .i64 2] rz rfl rfl am ?_
     refine (pick_calls 2 (by decide) hs (by decide) HD.out HT.out).mono ?_
     rintro e w9_ ⟨u_,rfl,⟨rl,rfl,hr0_,hr1_⟩,hd_,ht_,hk_⟩
     refine ⟨_,rfl,?_⟩
     replace HD:=mk_ hd_
     replace HT:=mk_ ht_
     replace HS:=mk_ (HD.out.lok)
     clear hd_ ht_ hk_
     refine qK hK HS ?_;clear hK K
     refine qO 4 (some 109) 127 HT_ (fun K hK=>?_)
     refine dx_lit_step (cs:=[.int .i64 (-1),.int .i64 (wrap64 ((fl.length:Int)+1))]) (n:=2) (by rfl) rfl gz HD.out HT.out ?_
     intro gl w9_ HD_ HT_
     replace HD:=mk_ HD_
     replace HT:=mk_ HT_
     replace HS:=mk_ (lok_tl HD.out.lok)
     clear HD_ HT_
     refine qK hK HS ?_;clear hK K
     refine qA 7 112 255 HT_ ?_
     refine qO 8 (some 113) 511 HT_ (fun K hK=>?_)
     refine lit_load_step (by rfl) rfl kz rfl rfl HD.out.lok hz (by exact hr0_) (by exact hr1_) (by first|exact (by intro u_ hu_;simp only [List.mem_cons,List.not_mem_nil,or_false] at hu_;rcases hu_ with rfl|rfl|rfl <;> exact ⟨_,rfl⟩)|exact (by intro u_ hu_;simp only [List.mem_cons,List.not_mem_nil,or_false] at hu_;rcases hu_ with rfl|rfl <;> exact ⟨_,rfl⟩)) ?_
     intro xl
     refine qK hK HS ?_;clear hK K
     refine qA 9 114 1023 HT_ ?_
     refine qE 10 none 2047 HT_ (fun K hK=>?_)
     refine dx_store_step (by rfl) rfl rfl rfl gz kz kz HD.out HT.out pz ?_
     intro w9_ HD_ HT_
     replace HD:=mk_ HD_
     replace HT:=mk_ HT_
     clear HD_ HT_
     refine hK.out _ _ ?_;clear hK K
     refine qF HT_ ?_
     clear HT_ HW_ HS
     go_wp2_with (first|((with_reducible refine gate_gd rfl ?_);first|((with_reducible refine gd_on rfl ?_ ?_);rfl;dsimp only)|((with_reducible refine gd_off rfl ?_ ?_);rfl))|((with_reducible refine gate_ld0 (t:=69) rfl ?_);refine loc_load (n:=10) rfl rfl kz rfl kz HD.out.lok sz ?_)|((with_reducible refine gate_ld0 (t:=66) rfl ?_);refine loc_load (n:=5) rfl rfl kz rfl kz HD.out.lok sz ?_)|((with_reducible refine gate_ld0 rfl ?_);refine loc_load1 rfl rfl kz rfl HD.out.lok sz ?_)|((with_reducible refine gate_st0 rfl ?_);refine dx_store rfl rfl rfl gz kz kz HD.out HT.out pz ?_;intro w_ HD_ HT_;replace HD:=mk_ HD_;replace HT:=mk_ HT_;clear HD_ HT_))
     refine bodyPost_ret (results_cell_row rfl _ _ _ 69 _ (0,0) _ rfl (HD.out.lok.blk hz) Try.underlying69 rfl kz) rfl ?_
     exact mkTxD ⟨t0,t1,fl,(xl),q,t5,t6,t7,t8,t9⟩ _ ez (Txn.reint HT.out ⟨t0,t1,fl,(xl),q,t5,t6,t7,t8,t9⟩ rfl rfl).f ⟨S0.out.1.three,S0.out.2.three⟩ HD.out.lok.bel HD.out.kb
   ·go_upto_region 26 with (first|((with_reducible refine gate_gd rfl ?_);first|((with_reducible refine gd_on rfl ?_ ?_);rfl;dsimp only)|((with_reducible refine gd_off rfl ?_ ?_);rfl))|((with_reducible refine gate_ld0 (t:=69) rfl ?_);refine loc_load (n:=10) rfl rfl kz rfl kz HD.out.lok sz ?_)|((with_reducible refine gate_ld0 (t:=66) rfl ?_);refine loc_load (n:=5) rfl rfl kz rfl kz HD.out.lok sz ?_)|((with_reducible refine gate_ld0 rfl ?_);refine loc_load1 rfl rfl kz rfl HD.out.lok sz ?_)|((with_reducible refine gate_st0 rfl ?_);refine dx_store rfl rfl rfl gz kz kz HD.out HT.out pz ?_;intro w_ HD_ HT_;replace HD:=mk_ HD_;replace HT:=mk_ HT_;clear HD_ HT_))
    refine start_ (n:=12) (S:=fun w'=>Lok w0 w' _) (ds:=[11]) (YteknaofnageihaaLoc.bm 12 0) kz rfl rfl HD.out.drew.lok (fun hHeld=>?_)
    refine with_tabW fx91.tab26 fx91.bits26 (fun HT_ HW_=>?_)
    have HS:=mk_ hHeld
    clear hHeld
    replace HD:=mk_ HD.out.drew
    replace HT:=mk_ (HT.out.below (below_drew (Below.refl _ _)))
    revert HS HD HT
    generalize World.drew _=w8_
    intro HS HD HT
    refine qA 0 117 1 HT_ ?_
    refine qM 1 118 3 HT_ HW_ HS ?_
    refine qA 2 119 7 HT_ ?_
    refine qA 3 120 15 HT_ ?_
    refine qM 4 121 31 HT_ HW_ HS ?_
    refine qA 6 123 95 HT_ ?_
    refine two_ (i:=5) (j:=7) (Ni:=some 122) (Nj:=some 124) (YteknaofnageihaaLoc.bm 12 127) (YteknaofnageihaaLoc.bm 12 223) rfl rfl rfl rfl (two_of HT_.out kz) (by decide) (by decide) (fun K hK=>?_) (fun K hK=>?_)
    ·refine dx_lit_step (cs:=[.int .i64 (-1),.int .i64 (wrap64 (c4+1)),.int .i64 c4]) (n:=3) (by rfl) rfl gz HD.out HT.out ?_
     intro gl w9_ HD_ HT_
     replace HD:=mk_ HD_
     replace HT:=mk_ HT_
     replace HS:=mk_ (lok_tl HD.out.lok)
     clear HD_ HT_
     refine qK hK HS ?_;clear hK K
     refine qO 7 (some 124) 255 HT_ (fun K hK=>?_)
     refine goes_ Try.func70 kz rfl #[.pointer (some ⟨g,0,none⟩),.int .i64 3] rz rfl rfl am ?_
     refine (pick_calls 3 (by decide) hs (by decide) HD.out HT.out).mono ?_
     rintro e w9_ ⟨u_,rfl,⟨rl,rfl,hr0_,hr1_⟩,hd_,ht_,hk_⟩
     refine ⟨_,rfl,?_⟩
     replace HD:=mk_ hd_
     replace HT:=mk_ ht_
     replace HS:=mk_ (lok_tl HD.out.lok)
     clear hd_ ht_ hk_
     refine qK hK HS ?_;clear hK K
     refine qA 8 125 511 HT_ ?_
     refine qO 9 (some 126) 1023 HT_ (fun K hK=>?_)
     refine lit_load_step (by rfl) rfl kz rfl rfl HD.out.lok hz (by exact hr0_) (by exact hr1_) (by first|exact (by intro u_ hu_;simp only [List.mem_cons,List.not_mem_nil,or_false] at hu_;rcases hu_ with rfl|rfl|rfl <;> exact ⟨_,rfl⟩)|exact (by intro u_ hu_;simp only [List.mem_cons,List.not_mem_nil,or_false] at hu_;rcases hu_ with rfl|rfl <;> exact ⟨_,rfl⟩)) ?_
     intro xl
     refine qK hK HS ?_;clear hK K
     refine qA 10 127 2047 HT_ ?_
     refine qE 11 none 4095 HT_ (fun K hK=>?_)
     refine dx_store_step (by rfl) rfl rfl rfl gz kz kz HD.out HT.out pz ?_
     intro w9_ HD_ HT_
     replace HD:=mk_ HD_
     replace HT:=mk_ HT_
     clear HD_ HT_
     refine hK.out _ _ ?_;clear hK K
     refine qF HT_ ?_
     clear HT_ HW_ HS
     go_wp2_with (first|((with_reducible refine gate_gd rfl ?_);first|((with_reducible refine gd_on rfl ?_ ?_);rfl;dsimp only)|((with_reducible refine gd_off rfl ?_ ?_);rfl))|((with_reducible refine gate_ld0 (t:=69) rfl ?_);refine loc_load (n:=10) rfl rfl kz rfl kz HD.out.lok sz ?_)|((with_reducible refine gate_ld0 (t:=66) rfl ?_);refine loc_load (n:=5) rfl rfl kz rfl kz HD.out.lok sz ?_)|((with_reducible refine gate_ld0 rfl ?_);refine loc_load1 rfl rfl kz rfl HD.out.lok sz ?_)|((with_reducible refine gate_st0 rfl ?_);refine dx_store rfl rfl rfl gz kz kz HD.out HT.out pz ?_;intro w_ HD_ HT_;replace HD:=mk_ HD_;replace HT:=mk_ HT_;clear HD_ HT_))
     refine bodyPost_ret (results_cell_row rfl _ _ _ 69 _ (0,0) _ rfl (HD.out.lok.blk hz) Try.underlying69 rfl kz) rfl ?_
     exact mkTxD ⟨t0,t1,fl,t3,q,t5,(xl),t7,t8,t9⟩ _ ez (Txn.reint HT.out ⟨t0,t1,fl,t3,q,t5,(xl),t7,t8,t9⟩ rfl rfl).f ⟨S0.out.1.three,S0.out.2.three⟩ HD.out.lok.bel HD.out.kb
    ·refine goes_ Try.func70 kz rfl #[.pointer (some ⟨g,0,none⟩),.int .i64 3] rz rfl rfl am ?_
     refine (pick_calls 3 (by decide) hs (by decide) HD.out HT.out).mono ?_
     rintro e w9_ ⟨u_,rfl,⟨rl,rfl,hr0_,hr1_⟩,hd_,ht_,hk_⟩
     refine ⟨_,rfl,?_⟩
     replace HD:=mk_ hd_
     replace HT:=mk_ ht_
     replace HS:=mk_ (HD.out.lok)
     clear hd_ ht_ hk_
     refine qK hK HS ?_;clear hK K
     refine qO 5 (some 122) 255 HT_ (fun K hK=>?_)
     refine dx_lit_step (cs:=[.int .i64 (-1),.int .i64 (wrap64 (c4+1)),.int .i64 c4]) (n:=3) (by rfl) rfl gz HD.out HT.out ?_
     intro gl w9_ HD_ HT_
     replace HD:=mk_ HD_
     replace HT:=mk_ HT_
     replace HS:=mk_ (lok_tl HD.out.lok)
     clear HD_ HT_
     refine qK hK HS ?_;clear hK K
     refine qA 8 125 511 HT_ ?_
     refine qO 9 (some 126) 1023 HT_ (fun K hK=>?_)
     refine lit_load_step (by rfl) rfl kz rfl rfl HD.out.lok hz (by exact hr0_) (by exact hr1_) (by first|exact (by intro u_ hu_;simp only [List.mem_cons,List.not_mem_nil,or_false] at hu_;rcases hu_ with rfl|rfl|rfl <;> exact ⟨_,rfl⟩)|exact (by intro u_ hu_;simp only [List.mem_cons,List.not_mem_nil,or_false] at hu_;rcases hu_ with rfl|rfl <;> exact ⟨_,rfl⟩)) ?_
     intro xl
     refine qK hK HS ?_;clear hK K
     refine qA 10 127 2047 HT_ ?_
     refine qE 11 none 4095 HT_ (fun K hK=>?_)
     refine dx_store_step (by rfl) rfl rfl rfl gz kz kz HD.out HT.out pz ?_
     intro w9_ HD_ HT_
     replace HD:=mk_ HD_
     replace HT:=mk_ HT_
     clear HD_ HT_
     refine hK.out _ _ ?_;clear hK K
     refine qF HT_ ?_
     clear HT_ HW_ HS
     go_wp2_with (first|((with_reducible refine gate_gd rfl ?_);first|((with_reducible refine gd_on rfl ?_ ?_);rfl;dsimp only)|((with_reducible refine gd_off rfl ?_ ?_);rfl))|((with_reducible refine gate_ld0 (t:=69) rfl ?_);refine loc_load (n:=10) rfl rfl kz rfl kz HD.out.lok sz ?_)|((with_reducible refine gate_ld0 (t:=66) rfl ?_);refine loc_load (n:=5) rfl rfl kz rfl kz HD.out.lok sz ?_)|((with_reducible refine gate_ld0 rfl ?_);refine loc_load1 rfl rfl kz rfl HD.out.lok sz ?_)|((with_reducible refine gate_st0 rfl ?_);refine dx_store rfl rfl rfl gz kz kz HD.out HT.out pz ?_;intro w_ HD_ HT_;replace HD:=mk_ HD_;replace HT:=mk_ HT_;clear HD_ HT_))
     refine bodyPost_ret (results_cell_row rfl _ _ _ 69 _ (0,0) _ rfl (HD.out.lok.blk hz) Try.underlying69 rfl kz) rfl ?_
     exact mkTxD ⟨t0,t1,fl,t3,q,t5,(xl),t7,t8,t9⟩ _ ez (Txn.reint HT.out ⟨t0,t1,fl,t3,q,t5,(xl),t7,t8,t9⟩ rfl rfl).f ⟨S0.out.1.three,S0.out.2.three⟩ HD.out.lok.bel HD.out.kb
   ·go_upto_region 28 with (first|((with_reducible refine gate_gd rfl ?_);first|((with_reducible refine gd_on rfl ?_ ?_);rfl;dsimp only)|((with_reducible refine gd_off rfl ?_ ?_);rfl))|((with_reducible refine gate_ld0 (t:=69) rfl ?_);refine loc_load (n:=10) rfl rfl kz rfl kz HD.out.lok sz ?_)|((with_reducible refine gate_ld0 (t:=66) rfl ?_);refine loc_load (n:=5) rfl rfl kz rfl kz HD.out.lok sz ?_)|((with_reducible refine gate_ld0 rfl ?_);refine loc_load1 rfl rfl kz rfl HD.out.lok sz ?_)|((with_reducible refine gate_st0 rfl ?_);refine dx_store rfl rfl rfl gz kz kz HD.out HT.out pz ?_;intro w_ HD_ HT_;replace HD:=mk_ HD_;replace HT:=mk_ HT_;clear HD_ HT_))
    refine start_ (n:=10) (S:=fun w'=>Lok w0 w' _) (ds:=[9]) (YteknaofnageihaaLoc.bm 10 0) kz rfl rfl HD.out.drew.lok (fun hHeld=>?_)
    refine with_tabW fx91.tab28 fx91.bits28 (fun HT_ HW_=>?_)
    have HS:=mk_ hHeld
    clear hHeld
    replace HD:=mk_ HD.out.drew
    replace HT:=mk_ (HT.out.below (below_drew (Below.refl _ _)))
    revert HS HD HT
    generalize World.drew _=w8_
    intro HS HD HT
    refine qA 0 130 1 HT_ ?_
    refine qM 1 131 3 HT_ HW_ HS ?_
    refine qA 2 132 7 HT_ ?_
    refine qA 4 134 23 HT_ ?_
    refine two_ (i:=3) (j:=5) (Ni:=some 133) (Nj:=some 135) (YteknaofnageihaaLoc.bm 10 31) (YteknaofnageihaaLoc.bm 10 55) rfl rfl rfl rfl (two_of HT_.out kz) (by decide) (by decide) (fun K hK=>?_) (fun K hK=>?_)
    ·refine dx_lit_step (cs:=[.int .i64 (-1),.int .i64 10000,.int .i64 (wrap64 (t8+8))]) (n:=3) (by rfl) rfl gz HD.out HT.out ?_
     intro gl w9_ HD_ HT_
     replace HD:=mk_ HD_
     replace HT:=mk_ HT_
     replace HS:=mk_ (lok_tl HD.out.lok)
     clear HD_ HT_
     refine qK hK HS ?_;clear hK K
     refine qO 5 (some 135) 63 HT_ (fun K hK=>?_)
     refine goes_ Try.func70 kz rfl #[.pointer (some ⟨g,0,none⟩),.int .i64 3] rz rfl rfl am ?_
     refine (pick_calls 3 (by decide) hs (by decide) HD.out HT.out).mono ?_
     rintro e w9_ ⟨u_,rfl,⟨rl,rfl,hr0_,hr1_⟩,hd_,ht_,hk_⟩
     refine ⟨_,rfl,?_⟩
     replace HD:=mk_ hd_
     replace HT:=mk_ ht_
     replace HS:=mk_ (lok_tl HD.out.lok)
     clear hd_ ht_ hk_
     refine qK hK HS ?_;clear hK K
     refine qA 6 136 127 HT_ ?_
     refine qO 7 (some 137) 255 HT_ (fun K hK=>?_)
     refine lit_load_step (by rfl) rfl kz rfl rfl HD.out.lok hz (by exact hr0_) (by exact hr1_) (by first|exact (by intro u_ hu_;simp only [List.mem_cons,List.not_mem_nil,or_false] at hu_;rcases hu_ with rfl|rfl|rfl <;> exact ⟨_,rfl⟩)|exact (by intro u_ hu_;simp only [List.mem_cons,List.not_mem_nil,or_false] at hu_;rcases hu_ with rfl|rfl <;> exact ⟨_,rfl⟩)) ?_
     intro xl
     refine qK hK HS ?_;clear hK K
     refine qA 8 138 511 HT_ ?_
     refine qE 9 none 1023 HT_ (fun K hK=>?_)
     refine dx_store_step (by rfl) rfl rfl rfl gz kz kz HD.out HT.out pz ?_
     intro w9_ HD_ HT_
     replace HD:=mk_ HD_
     replace HT:=mk_ HT_
     clear HD_ HT_
     refine hK.out _ _ ?_;clear hK K
     refine qF HT_ ?_
     clear HT_ HW_ HS
     go_wp2_with (first|((with_reducible refine gate_gd rfl ?_);first|((with_reducible refine gd_on rfl ?_ ?_);rfl;dsimp only)|((with_reducible refine gd_off rfl ?_ ?_);rfl))|((with_reducible refine gate_ld0 (t:=69) rfl ?_);refine loc_load (n:=10) rfl rfl kz rfl kz HD.out.lok sz ?_)|((with_reducible refine gate_ld0 (t:=66) rfl ?_);refine loc_load (n:=5) rfl rfl kz rfl kz HD.out.lok sz ?_)|((with_reducible refine gate_ld0 rfl ?_);refine loc_load1 rfl rfl kz rfl HD.out.lok sz ?_)|((with_reducible refine gate_st0 rfl ?_);refine dx_store rfl rfl rfl gz kz kz HD.out HT.out pz ?_;intro w_ HD_ HT_;replace HD:=mk_ HD_;replace HT:=mk_ HT_;clear HD_ HT_))
     refine bodyPost_ret (results_cell_row rfl _ _ _ 69 _ (0,0) _ rfl (HD.out.lok.blk hz) Try.underlying69 rfl kz) rfl ?_
     exact mkTxD ⟨t0,t1,fl,t3,q,t5,t6,t7,(xl),t9⟩ _ ez (Txn.reint HT.out ⟨t0,t1,fl,t3,q,t5,t6,t7,(xl),t9⟩ rfl rfl).f ⟨S0.out.1.three,S0.out.2.three⟩ HD.out.lok.bel HD.out.kb
    ·refine goes_ Try.func70 kz rfl #[.pointer (some ⟨g,0,none⟩),.int .i64 3] rz rfl rfl am ?_
     refine (pick_calls 3 (by decide) hs (by decide) HD.out HT.out).mono ?_
     rintro e w9_ ⟨u_,rfl,⟨rl,rfl,hr0_,hr1_⟩,hd_,ht_,hk_⟩
     refine ⟨_,rfl,?_⟩
     replace HD:=mk_ hd_
     replace HT:=mk_ ht_
     replace HS:=mk_ (HD.out.lok)
     clear hd_ ht_ hk_
     refine qK hK HS ?_;clear hK K
     refine qO 3 (some 133) 63 HT_ (fun K hK=>?_)
     refine dx_lit_step (cs:=[.int .i64 (-1),.int .i64 10000,.int .i64 (wrap64 (t8+8))]) (n:=3) (by rfl) rfl gz HD.out HT.out ?_
     intro gl w9_ HD_ HT_
     replace HD:=mk_ HD_
     replace HT:=mk_ HT_
     replace HS:=mk_ (lok_tl HD.out.lok)
     clear HD_ HT_
     refine qK hK HS ?_;clear hK K
     refine qA 6 136 127 HT_ ?_
     refine qO 7 (some 137) 255 HT_ (fun K hK=>?_)
     refine lit_load_step (by rfl) rfl kz rfl rfl HD.out.lok hz (by exact hr0_) (by exact hr1_) (by first|exact (by intro u_ hu_;simp only [List.mem_cons,List.not_mem_nil,or_false] at hu_;rcases hu_ with rfl|rfl|rfl <;> exact ⟨_,rfl⟩)|exact (by intro u_ hu_;simp only [List.mem_cons,List.not_mem_nil,or_false] at hu_;rcases hu_ with rfl|rfl <;> exact ⟨_,rfl⟩)) ?_
     intro xl
     refine qK hK HS ?_;clear hK K
     refine qA 8 138 511 HT_ ?_
     refine qE 9 none 1023 HT_ (fun K hK=>?_)
     refine dx_store_step (by rfl) rfl rfl rfl gz kz kz HD.out HT.out pz ?_
     intro w9_ HD_ HT_
     replace HD:=mk_ HD_
     replace HT:=mk_ HT_
     clear HD_ HT_
     refine hK.out _ _ ?_;clear hK K
     refine qF HT_ ?_
     clear HT_ HW_ HS
     go_wp2_with (first|((with_reducible refine gate_gd rfl ?_);first|((with_reducible refine gd_on rfl ?_ ?_);rfl;dsimp only)|((with_reducible refine gd_off rfl ?_ ?_);rfl))|((with_reducible refine gate_ld0 (t:=69) rfl ?_);refine loc_load (n:=10) rfl rfl kz rfl kz HD.out.lok sz ?_)|((with_reducible refine gate_ld0 (t:=66) rfl ?_);refine loc_load (n:=5) rfl rfl kz rfl kz HD.out.lok sz ?_)|((with_reducible refine gate_ld0 rfl ?_);refine loc_load1 rfl rfl kz rfl HD.out.lok sz ?_)|((with_reducible refine gate_st0 rfl ?_);refine dx_store rfl rfl rfl gz kz kz HD.out HT.out pz ?_;intro w_ HD_ HT_;replace HD:=mk_ HD_;replace HT:=mk_ HT_;clear HD_ HT_))
     refine bodyPost_ret (results_cell_row rfl _ _ _ 69 _ (0,0) _ rfl (HD.out.lok.blk hz) Try.underlying69 rfl kz) rfl ?_
     exact mkTxD ⟨t0,t1,fl,t3,q,t5,t6,t7,(xl),t9⟩ _ ez (Txn.reint HT.out ⟨t0,t1,fl,t3,q,t5,t6,t7,(xl),t9⟩ rfl rfl).f ⟨S0.out.1.three,S0.out.2.three⟩ HD.out.lok.bel HD.out.kb
   ·go_upto_region 30 with (first|((with_reducible refine gate_gd rfl ?_);first|((with_reducible refine gd_on rfl ?_ ?_);rfl;dsimp only)|((with_reducible refine gd_off rfl ?_ ?_);rfl))|((with_reducible refine gate_ld0 (t:=69) rfl ?_);refine loc_load (n:=10) rfl rfl kz rfl kz HD.out.lok sz ?_)|((with_reducible refine gate_ld0 (t:=66) rfl ?_);refine loc_load (n:=5) rfl rfl kz rfl kz HD.out.lok sz ?_)|((with_reducible refine gate_ld0 rfl ?_);refine loc_load1 rfl rfl kz rfl HD.out.lok sz ?_)|((with_reducible refine gate_st0 rfl ?_);refine dx_store rfl rfl rfl gz kz kz HD.out HT.out pz ?_;intro w_ HD_ HT_;replace HD:=mk_ HD_;replace HT:=mk_ HT_;clear HD_ HT_))
    refine start_ (n:=8) (S:=fun w'=>Lok w0 w' _) (ds:=[5,7]) (YteknaofnageihaaLoc.bm 8 0) kz rfl rfl HD.out.drew.lok (fun hHeld=>?_)
    refine with_tabW fx91.tab30 fx91.bits30 (fun HT_ HW_=>?_)
    have HS:=mk_ hHeld
    clear hHeld
    replace HD:=mk_ HD.out.drew
    replace HT:=mk_ (HT.out.below (below_drew (Below.refl _ _)))
    revert HS HD HT
    generalize World.drew _=w8_
    intro HS HD HT
    refine qA 0 141 1 HT_ ?_
    refine qM 1 142 3 HT_ HW_ HS ?_
    refine qA 2 143 7 HT_ ?_
    refine qO 3 (some 144) 15 HT_ (fun K hK=>?_)
    have LT7:=mk_ (blk_lt (HD.out.lok.blk (g:=gb7) hz))
    have LT6:=mk_ (blk_lt (HD.out.lok.blk (g:=gb6) hz))
    have LTW:=mk_ HD.out.kb.1
    have OW:=mk_ HT.out.own.2
    refine goes_ Try.func78 kz rfl #[.pointer (some ⟨g,0,none⟩),.int .i64 2] rz rfl rfl am ?_
    refine (partOr_calls 2 (by decide) hs (by decide) HD.out HT.out).mono ?_
    rintro e w9_ ⟨u_,rfl,⟨x,D,d,rfl,hx1,hx2,hxf⟩,hd_,ht_,hk_⟩
    refine ⟨_,rfl,?_⟩
    replace HD:=mk_ hd_
    replace HT:=mk_ ht_
    replace HS:=mk_ HD.out.lok
    have HX1:=mk_ hx1
    have HX2:=mk_ hx2
    have HXF:=mk_ hxf
    clear hd_ ht_ hk_ hx1 hx2 hxf
    refine qK hK HS ?_;clear hK K
    refine qO 4 (some 145) 31 HT_ (fun K hK=>?_)
    refine value_ (w1:=w9_.alloc (.cells #[.int .i64 x.f0,.int .i64 x.f1,.slice D x.f2.length d] 39)) (v:=.slice (some ⟨w9_.heap.size,0,none⟩) 1 1) (by rfl) rfl ?_ ?_
    ·first|(go_simp;done)|(go_simp;rfl)
    replace HS:=mk_ (HD.out.lok.call (below_alloc (Below.refl _ _) (.cells #[.int .i64 x.f0,.int .i64 x.f1,.slice D x.f2.length d] 39)))
    refine qK hK HS ?_;clear hK K
    refine qE 5 (some 146) 63 HT_ (fun K hK=>?_)
    obtain ⟨e2_,e4_,s2_,s4_⟩:=HT.out.rows
    dsimp only at e2_ e4_ s2_ s4_
    have NN:=mk_ (Kd.N_lower (Kd.S_N (Kd.S_mono (ok':=(fun k_=>w.heap.size≤k_∧k_≠gb7∧k_≠gb6)) (Kd.S_bound s4_) (fun k_ h_=>⟨h_.2.1,ty_ne HD.out.lok (g:=gb7) hz (by decide) (Or.inl (ty_of h_.2.2.2)),ty_ne HD.out.lok (g:=gb6) hz (by decide) (Or.inl (ty_of h_.2.2.2))⟩))) HW.out)
    refine Kd.N_append_step k39 (w0:=w0) (W:=w9_) w0.heap.size (by rfl) (.tmp 142) (.tmp 145) 23 39 (.agg #[(.int .i64 0),(.int .i64 0),(.slice none 0 0)]) 40 rfl Try.underlying23 info39 rfl (by decide) (by decide) (.slice A4 q.length k4) q x [.int .i64 x.f0,.int .i64 x.f1,.slice D x.f2.length d] (fun k_=>w.heap.size≤k_∧k_≠gb7∧k_≠gb6) (fun k_=>(fun k_=>w.heap.size≤k_∧k_≠gb7∧k_≠gb6) k_∧some k_≠(Value.slice A4 q.length k4).ownBlock) rfl rfl ?aP (fun _ h_=>h_) ?aF ?aO ?aB ?aS ?aL ?_
    case aP=>exact k39_mkF _ _ x HX2.out (Kd.F_mono HXF.out (fun k_ h_=>by have h5:=LT7.out;have h6:=LT6.out;have h7:=LTW.out;refine ⟨⟨by omega,by omega,by omega⟩,fun he_=>?_⟩;have h8:=(OW.out k_ (e4_.trans he_.symm)).2;omega))
    case aF=>exact (fun k_ h_=>by have h5:=blk_lt (HD.out.lok.blk (g:=gb7) hz);have h6:=blk_lt (HD.out.lok.blk (g:=gb6) hz);have h7:=HD.out.kb.1;exact ⟨by omega,by omega,by omega⟩)
    case aO=>exact NN.out
    case aB=>exact HD.out.lok.bel
    case aS=>exact HD.out.lok.bel.size
    case aL=>have h8:=S0.out.2.1;dsimp only at h8;omega
    intro v1 w1 ho_ hb_ hg_ hat_
    obtain ⟨A35,k35,hv35⟩:=Kd.N_slice ho_
    subst hv35
    have HXA:=mk_ (And.intro (Kd.F_mono (ok':=(fun k_=>w.heap.size≤k_∧k_≠gb7∧k_≠gb6)) (Kd.F_grown (Kd.S_F (Kd.S_bound s2_)) hg_ (fun k_ h_=>h_.1)) (fun k_ h_=>⟨h_.2.1,ty_ne HD.out.lok (g:=gb7) hz (by decide) (Or.inl (ty_of h_.2.2.2)),ty_ne HD.out.lok (g:=gb6) hz (by decide) (Or.inl (ty_of h_.2.2.2))⟩)) (Kd.N_F ho_))
    have K35:=mk_ (Kd.N_reads' ho_).2.1
    have KO:=mk_ (Kd.S_reads' s2_).2.1
    have HD9:=mk_ (HD.out.grown hb_ hg_ (fun k_ hk_=>(HT.out.own.2 k_ (e4_.trans hk_)).1) (fun b_ hb9=>by have h9:=HT.out.ne4 HD.out.lok (by rfl) b_ hb9;rw [e4_] at h9;exact h9))
    clear HD HT NN ho_ hb_ hg_ hat_ e2_ e4_ s2_ s4_
    have HD:=HD9
    clear HD9
    refine hK.out _ _ ?_;clear hK K
    refine norm_ (a':=?_) ?_ ?_
    rotate_left
    ·show Act.put _ (some 146) _=_
     simp only [Act.put,zs1,zs2,zs3,i64_w,i32_w]
     rfl
    refine qA 6 147 127 HT_ ?_
    refine qE 7 none 255 HT_ (fun K hK=>?_)
    refine dx_store0_step (by rfl) rfl rfl rfl gz kz kz HD.out pz ?_
    intro w9_ HD_ hf_
    replace HD:=mk_ HD_
    replace HXA:=mk_ (And.intro (Kd.F_step HXA.out.1 (fun j_ h_ _=>hf_ j_ (by first|exact h_.2.1|exact h_.2.2))) (Kd.F_step HXA.out.2 (fun j_ h_ _=>hf_ j_ (by first|exact h_.2.1|exact h_.2.2))))
    clear HD_ hf_
    refine hK.out _ _ ?_;clear hK K
    refine qF HT_ ?_
    clear HT_ HW_ HS
    go_wp2_with (first|((with_reducible refine gate_gd rfl ?_);first|((with_reducible refine gd_on rfl ?_ ?_);rfl;dsimp only)|((with_reducible refine gd_off rfl ?_ ?_);rfl))|((with_reducible refine gate_ld0 (t:=69) rfl ?_);refine loc_load (n:=10) rfl rfl kz rfl kz HD.out.lok sz ?_)|((with_reducible refine gate_ld0 rfl ?_);refine loc_load1 rfl rfl kz rfl HD.out.lok sz ?_)|((with_reducible refine gate_st0 rfl ?_);refine dx_store0 rfl rfl rfl gz kz kz HD.out pz ?_;intro w_ HD_ hf_;replace HD:=mk_ HD_;replace HXA:=mk_ (And.intro (Kd.F_step HXA.out.1 (fun j_ h_ _=>hf_ j_ (by first|exact h_.2.1|exact h_.2.2))) (Kd.F_step HXA.out.2 (fun j_ h_ _=>hf_ j_ (by first|exact h_.2.1|exact h_.2.2))));clear HD_ hf_))
    refine bodyPost_ret (results_cell_row rfl _ _ _ 69 _ (0,0) _ rfl (HD.out.lok.blk hz) Try.underlying69 rfl kz) rfl ?_
    exact mkTxD ⟨t0,t1,fl,t3,q++[x],t5,t6,t7,t8,t9⟩ _ ez ⟨A2,k2,A35,k35,rfl,Kd.F_mono HXA.out.1 (fun _ h_=>h_.1),KO.out,Kd.F_mono HXA.out.2 (fun _ h_=>h_.1),K35.out⟩ ⟨S0.out.1.three,Sl3.snoc S0.out.2 x HX1.out⟩ HD.out.lok.bel HD.out.kb
   ·go_upto_region 32 with (first|((with_reducible refine gate_gd rfl ?_);first|((with_reducible refine gd_on rfl ?_ ?_);rfl;dsimp only)|((with_reducible refine gd_off rfl ?_ ?_);rfl))|((with_reducible refine gate_ld0 (t:=69) rfl ?_);refine loc_load (n:=10) rfl rfl kz rfl kz HD.out.lok sz ?_)|((with_reducible refine gate_ld0 (t:=66) rfl ?_);refine loc_load (n:=5) rfl rfl kz rfl kz HD.out.lok sz ?_)|((with_reducible refine gate_ld0 rfl ?_);refine loc_load1 rfl rfl kz rfl HD.out.lok sz ?_)|((with_reducible refine gate_st0 rfl ?_);refine dx_store rfl rfl rfl gz kz kz HD.out HT.out pz ?_;intro w_ HD_ HT_;replace HD:=mk_ HD_;replace HT:=mk_ HT_;clear HD_ HT_))
    refine start_ (n:=8) (S:=fun w'=>Lok w0 w' _) (ds:=[5,7]) (YteknaofnageihaaLoc.bm 8 0) kz rfl rfl HD.out.drew.lok (fun hHeld=>?_)
    refine with_tabW fx91.tab32 fx91.bits32 (fun HT_ HW_=>?_)
    have HS:=mk_ hHeld
    clear hHeld
    replace HD:=mk_ HD.out.drew
    replace HT:=mk_ (HT.out.below (below_drew (Below.refl _ _)))
    revert HS HD HT
    generalize World.drew _=w8_
    intro HS HD HT
    refine qA 0 150 1 HT_ ?_
    refine qM 1 151 3 HT_ HW_ HS ?_
    refine qA 2 152 7 HT_ ?_
    refine qO 3 (some 153) 15 HT_ (fun K hK=>?_)
    have LT7:=mk_ (blk_lt (HD.out.lok.blk (g:=gb7) hz))
    have LT6:=mk_ (blk_lt (HD.out.lok.blk (g:=gb6) hz))
    have LTW:=mk_ HD.out.kb.1
    have OW:=mk_ HT.out.own.1
    refine goes_ Try.func99 kz rfl #[.pointer (some ⟨g,0,none⟩)] rz rfl rfl am ?_
    refine (part_calls hs (by decide) HD.out HT.out).mono ?_
    rintro e w9_ ⟨u_,rfl,⟨x,D,d,rfl,hx1,hx2,hxf⟩,hd_,ht_,hk_⟩
    refine ⟨_,rfl,?_⟩
    replace HD:=mk_ hd_
    replace HT:=mk_ ht_
    replace HS:=mk_ HD.out.lok
    have HX1:=mk_ hx1
    have HX2:=mk_ hx2
    have HXF:=mk_ hxf
    clear hd_ ht_ hk_ hx1 hx2 hxf
    refine qK hK HS ?_;clear hK K
    refine qO 4 (some 154) 31 HT_ (fun K hK=>?_)
    refine value_ (w1:=w9_.alloc (.cells #[.int .i64 x.f0,.int .i64 x.f1,.slice D x.f2.length d] 39)) (v:=.slice (some ⟨w9_.heap.size,0,none⟩) 1 1) (by rfl) rfl ?_ ?_
    ·first|(go_simp;done)|(go_simp;rfl)
    replace HS:=mk_ (HD.out.lok.call (below_alloc (Below.refl _ _) (.cells #[.int .i64 x.f0,.int .i64 x.f1,.slice D x.f2.length d] 39)))
    refine qK hK HS ?_;clear hK K
    refine qE 5 (some 155) 63 HT_ (fun K hK=>?_)
    obtain ⟨e2_,e4_,s2_,s4_⟩:=HT.out.rows
    dsimp only at e2_ e4_ s2_ s4_
    have NN:=mk_ (Kd.N_lower (Kd.S_N (Kd.S_mono (ok':=(fun k_=>w.heap.size≤k_∧k_≠gb7∧k_≠gb6)) (Kd.S_bound s2_) (fun k_ h_=>⟨h_.2.1,ty_ne HD.out.lok (g:=gb7) hz (by decide) (Or.inl (ty_of h_.2.2.2)),ty_ne HD.out.lok (g:=gb6) hz (by decide) (Or.inl (ty_of h_.2.2.2))⟩))) HW.out)
    refine Kd.N_append_step k39 (w0:=w0) (W:=w9_) w0.heap.size (by rfl) (.tmp 151) (.tmp 154) 23 39 (.agg #[(.int .i64 0),(.int .i64 0),(.slice none 0 0)]) 40 rfl Try.underlying23 info39 rfl (by decide) (by decide) (.slice A2 fl.length k2) fl x [.int .i64 x.f0,.int .i64 x.f1,.slice D x.f2.length d] (fun k_=>w.heap.size≤k_∧k_≠gb7∧k_≠gb6) (fun k_=>(fun k_=>w.heap.size≤k_∧k_≠gb7∧k_≠gb6) k_∧some k_≠(Value.slice A2 fl.length k2).ownBlock) rfl rfl ?aP (fun _ h_=>h_) ?aF ?aO ?aB ?aS ?aL ?_
    case aP=>exact k39_mkF _ _ x HX2.out (Kd.F_mono HXF.out (fun k_ h_=>by have h5:=LT7.out;have h6:=LT6.out;have h7:=LTW.out;refine ⟨⟨by omega,by omega,by omega⟩,fun he_=>?_⟩;have h8:=(OW.out k_ (e2_.trans he_.symm)).2;omega))
    case aF=>exact (fun k_ h_=>by have h5:=blk_lt (HD.out.lok.blk (g:=gb7) hz);have h6:=blk_lt (HD.out.lok.blk (g:=gb6) hz);have h7:=HD.out.kb.1;exact ⟨by omega,by omega,by omega⟩)
    case aO=>exact NN.out
    case aB=>exact HD.out.lok.bel
    case aS=>exact HD.out.lok.bel.size
    case aL=>have h8:=S0.out.1.1;dsimp only at h8;omega
    intro v1 w1 ho_ hb_ hg_ hat_
    obtain ⟨A35,k35,hv35⟩:=Kd.N_slice ho_
    subst hv35
    have HXA:=mk_ (And.intro (Kd.N_F ho_) (Kd.F_mono (ok':=(fun k_=>w.heap.size≤k_∧k_≠gb7∧k_≠gb6)) (Kd.F_grown (Kd.S_F (Kd.S_bound s4_)) hg_ (fun k_ h_=>h_.1)) (fun k_ h_=>⟨h_.2.1,ty_ne HD.out.lok (g:=gb7) hz (by decide) (Or.inl (ty_of h_.2.2.2)),ty_ne HD.out.lok (g:=gb6) hz (by decide) (Or.inl (ty_of h_.2.2.2))⟩)))
    have K35:=mk_ (Kd.N_reads' ho_).2.1
    have KO:=mk_ (Kd.S_reads' s4_).2.1
    have HD9:=mk_ (HD.out.grown hb_ hg_ (fun k_ hk_=>(HT.out.own.1 k_ (e2_.trans hk_)).1) (fun b_ hb9=>by have h9:=HT.out.ne2 HD.out.lok (by rfl) b_ hb9;rw [e2_] at h9;exact h9))
    clear HD HT NN ho_ hb_ hg_ hat_ e2_ e4_ s2_ s4_
    have HD:=HD9
    clear HD9
    refine hK.out _ _ ?_;clear hK K
    refine norm_ (a':=?_) ?_ ?_
    rotate_left
    ·show Act.put _ (some 155) _=_
     simp only [Act.put,zs1,zs2,zs3,i64_w,i32_w]
     rfl
    refine qA 6 156 127 HT_ ?_
    refine qE 7 none 255 HT_ (fun K hK=>?_)
    refine dx_store0_step (by rfl) rfl rfl rfl gz kz kz HD.out pz ?_
    intro w9_ HD_ hf_
    replace HD:=mk_ HD_
    replace HXA:=mk_ (And.intro (Kd.F_step HXA.out.1 (fun j_ h_ _=>hf_ j_ (by first|exact h_.2.1|exact h_.2.2))) (Kd.F_step HXA.out.2 (fun j_ h_ _=>hf_ j_ (by first|exact h_.2.1|exact h_.2.2))))
    clear HD_ hf_
    refine hK.out _ _ ?_;clear hK K
    refine qF HT_ ?_
    clear HT_ HW_ HS
    go_wp2_with (first|((with_reducible refine gate_gd rfl ?_);first|((with_reducible refine gd_on rfl ?_ ?_);rfl;dsimp only)|((with_reducible refine gd_off rfl ?_ ?_);rfl))|((with_reducible refine gate_ld0 (t:=69) rfl ?_);refine loc_load (n:=10) rfl rfl kz rfl kz HD.out.lok sz ?_)|((with_reducible refine gate_ld0 rfl ?_);refine loc_load1 rfl rfl kz rfl HD.out.lok sz ?_)|((with_reducible refine gate_st0 rfl ?_);refine dx_store0 rfl rfl rfl gz kz kz HD.out pz ?_;intro w_ HD_ hf_;replace HD:=mk_ HD_;replace HXA:=mk_ (And.intro (Kd.F_step HXA.out.1 (fun j_ h_ _=>hf_ j_ (by first|exact h_.2.1|exact h_.2.2))) (Kd.F_step HXA.out.2 (fun j_ h_ _=>hf_ j_ (by first|exact h_.2.1|exact h_.2.2))));clear HD_ hf_))
    refine bodyPost_ret (results_cell_row rfl _ _ _ 69 _ (0,0) _ rfl (HD.out.lok.blk hz) Try.underlying69 rfl kz) rfl ?_
    exact mkTxD ⟨t0,t1,fl++[x],t3,q,t5,t6,t7,t8,t9⟩ _ ez ⟨A35,k35,A4,k4,rfl,Kd.F_mono HXA.out.1 (fun _ h_=>h_.1),K35.out,Kd.F_mono HXA.out.2 (fun _ h_=>h_.1),KO.out⟩ ⟨Sl3.snoc S0.out.1 x HX1.out,S0.out.2.three⟩ HD.out.lok.bel HD.out.kb
   ·go_wp2_with (first|((with_reducible refine gate_gd rfl ?_);first|((with_reducible refine gd_on rfl ?_ ?_);rfl;dsimp only)|((with_reducible refine gd_off rfl ?_ ?_);rfl))|((with_reducible refine gate_ld0 (t:=69) rfl ?_);refine loc_load (n:=10) rfl rfl kz rfl kz HD.out.lok sz ?_)|((with_reducible refine gate_ld0 (t:=66) rfl ?_);refine loc_load (n:=5) rfl rfl kz rfl kz HD.out.lok sz ?_)|((with_reducible refine gate_ld0 rfl ?_);refine loc_load1 rfl rfl kz rfl HD.out.lok sz ?_)|((with_reducible refine gate_st0 rfl ?_);refine dx_store rfl rfl rfl gz kz kz HD.out HT.out pz ?_;intro w_ HD_ HT_;replace HD:=mk_ HD_;replace HT:=mk_ HT_;clear HD_ HT_))
    obtain ⟨e2_,e4_,s2_,s4_⟩:=HT.out.rows
    dsimp only at e2_ e4_ s2_ s4_
    have KO:=mk_ (Kd.S_reads' s2_).2.1
    have NN:=mk_ (Kd.N_lower (Kd.S_N (Kd.S_mono (ok':=(fun k_=>w.heap.size≤k_∧k_≠gb7∧k_≠gb6)) (Kd.S_bound s4_) (fun k_ h_=>⟨h_.2.1,ty_ne HD.out.lok (g:=gb7) hz (by decide) (Or.inl (ty_of h_.2.2.2)),ty_ne HD.out.lok (g:=gb6) hz (by decide) (Or.inl (ty_of h_.2.2.2))⟩))) HW.out)
    have FF:=mk_ (Kd.F_mono (ok':=fun k_=>(fun k_=>w.heap.size≤k_∧k_≠gb7∧k_≠gb6) k_∧some k_≠(Value.slice A4 q.length k4).ownBlock) (Kd.S_F (Kd.S_bound s2_)) (fun k_ h_=>⟨⟨h_.2.1,ty_ne HD.out.lok (g:=gb7) hz (by decide) (Or.inl (ty_of h_.2.2.2)),ty_ne HD.out.lok (g:=gb6) hz (by decide) (Or.inl (ty_of h_.2.2.2))⟩,h_.1⟩))
    clear e2_ e4_ s2_ s4_
    go_loopg [] 25 (fun kq w'=>∃ (qn:List S39) (A4:Option Addr) (k4:Nat),Aside0 (25 - qn.length≤kq∧qn.length≤900)∧Aside0 (DX w0 w w' g s 10002 [(gb7,[.int .i64 t0,.int .i64 t1,.slice A2 fl.length k2,.int .i64 t3,.slice A4 qn.length k4,.bool t5,.int .i64 t6,.bool t7,.int .i64 t8,.bool t9],69),(gb6,[.int .i64 0,.int .i64 0,.slice none 0 0,.int .i64 0,.slice none 0 0,.bool false,.int .i64 0,.bool false,.int .i64 0,.bool false],69),(gb4,[.int .i64 c0,.int .i64 c1,.int .i64 c2,.int .i64 c3,.int .i64 c4],66)])∧Aside0 (Kd.N k39 39 w' w0.heap.size (fun k_=>w.heap.size≤k_∧k_≠gb7∧k_≠gb6) (.slice A4 qn.length k4) qn)∧Aside0 (Kd.F k39 w' (fun k_=>(fun k_=>w.heap.size≤k_∧k_≠gb7∧k_≠gb6) k_∧some k_≠(Value.slice A4 qn.length k4).ownBlock) A2 fl.length fl)∧Aside0 (∀ p ∈ qn,p.f2.length≤1000))
    case atStart=>exact ⟨q,A4,k4,⟨by omega,by have:=S0.out.2.1;dsimp only at this;omega⟩,⟨HD.out.up (by decide)⟩,NN,FF,⟨S0.out.2.2⟩⟩
    case round =>
     clear HD HT NN FF
     obtain ⟨qn,A4,k4,HQ,HD,HN,HF,HM⟩:=hrel
     by_cases c:(qn.length:Int)≤24
     rotate_left
     ·have cb:decide ((qn.length:Int)≤24)=false:=decide_eq_false c
      have HXA:=mk_ (And.intro (Kd.F_mono (ok':=(fun k_=>w.heap.size≤k_∧k_≠gb7∧k_≠gb6)) HF.out (fun _ h_=>h_.1)) (Kd.N_F HN.out))
      have K35:=mk_ (Kd.N_reads' HN.out).2.1
      clear HF HN
      go_wp2_with (first|((with_reducible refine gate_gd rfl ?_);first|((with_reducible refine gd_on rfl ?_ ?_);rfl;dsimp only)|((with_reducible refine gd_off rfl ?_ ?_);rfl))|((with_reducible refine gate_ld0 (t:=69) rfl ?_);refine loc_load (n:=10) rfl rfl kz rfl kz HD.out.lok sz ?_)|((with_reducible refine gate_ld0 rfl ?_);refine loc_load1 rfl rfl kz rfl HD.out.lok sz ?_)|((with_reducible refine gate_st0 rfl ?_);refine dx_store0 rfl rfl rfl gz kz kz HD.out pz ?_;intro w_ HD_ hf_;replace HD:=mk_ HD_;replace HXA:=mk_ (And.intro (Kd.F_step HXA.out.1 (fun j_ h_ _=>hf_ j_ (by first|exact h_.2.1|exact h_.2.2))) (Kd.F_step HXA.out.2 (fun j_ h_ _=>hf_ j_ (by first|exact h_.2.1|exact h_.2.2))));clear HD_ hf_))
      refine bodyPost_ret (results_cell_row rfl _ _ _ 69 _ (0,0) _ rfl (HD.out.lok.blk hz) Try.underlying69 rfl kz) rfl ?_
      exact mkTxD ⟨t0,t1,fl,t3,qn,t5,t6,t7,t8,t9⟩ _ ez ⟨A2,k2,A4,k4,rfl,Kd.F_mono HXA.out.1 (fun _ h_=>h_.1),KO.out,Kd.F_mono HXA.out.2 (fun _ h_=>h_.1),K35.out⟩ ⟨S0.out.1.three,show qn.length≤1000 by have:=HQ.out.2;omega,HM.out⟩ HD.out.lok.bel HD.out.kb
     have cb:decide ((qn.length:Int)≤24)=true:=decide_eq_true c
     cases gk with
     | zero=>exact absurd HQ.out.1 (by omega)
     | succ k1 =>
      obtain ⟨q2,hq2⟩:∃ l,l=qn++[(⟨0,0,[]⟩:S39)]:=⟨_,rfl⟩
      have HQ2:=mk_ hq2
      have HL2:=mk_ (show q2.length=qn.length+1 by rw [hq2];simp)
      have HM2:=mk_ (show ∀ p ∈ q2,p.f2.length≤1000 by intro p hp;rw [hq2] at hp;rcases List.mem_append.1 hp with hp|hp;exact HM.out p hp;rw [List.mem_singleton.1 hp];exact Nat.zero_le _)
      have C1:=mk_ c
      clear hq2 c
      go_wp2_with (first|((with_reducible refine gate_gd rfl ?_);first|((with_reducible refine gd_on rfl ?_ ?_);rfl;dsimp only)|((with_reducible refine gd_off rfl ?_ ?_);rfl))|((with_reducible refine gate_dst (N:=81) rfl ?_);refine lit_at (cs:=[.int .i64 0,.int .i64 0,.slice none 0 0]) rfl HD.out gz ?_)|((with_reducible refine gate_dst (N:=82) rfl ?_);refine Kd.N_append k39 (w0:=w0) w0.heap.size rfl (.tmp 79) (.tmp 81) 23 39 (.agg #[(.int .i64 0),(.int .i64 0),(.slice none 0 0)]) 40 rfl Try.underlying23 info39 rfl (by decide) (by decide) (.slice A4 qn.length k4) qn (⟨0,0,[]⟩:S39) [.int .i64 0,.int .i64 0,.slice none 0 0] (fun k_=>w.heap.size≤k_∧k_≠gb7∧k_≠gb6) (fun _=>False) rfl rfl ?aP (fun _ h_=>h_.elim) ?aF ?aO ?aB ?aS ?aL ?_;(case aP=>exact k39_mkF _ _ (⟨0,0,[]⟩:S39) (A2:=none) (c2:=0) (Nat.le_refl 0) (Kd.F_nil _ _ _));(case aF=>exact (fun k_ h_=>by have h5:=blk_lt (HD.out.lok.blk (g:=gb7) hz);have h6:=blk_lt (HD.out.lok.blk (g:=gb6) hz);have h7:=HD.out.kb.1;exact ⟨by omega,by omega,by omega⟩));(case aO=>exact HN.out);(case aB=>exact HD.out.lok.bel);(case aS=>exact HD.out.lok.bel.size);(case aL=>have h8:=HQ.out.2;omega);intro v1 w1 ho_ hb_ hg_ hat_;rw [← HQ2.out] at ho_;have HD9:=mk_ (HD.out.grown hb_ hg_ (fun k_ hk_=>(HN.out.1 k_ hk_).1) (fun b_ hb9 he_=>by have h9:=HN.out.1 b_.1 he_.symm;simp only [List.mem_cons,List.not_mem_nil,or_false] at hb9;rcases hb9 with rfl|rfl|rfl;exact h9.2.1 rfl;exact h9.2.2 rfl;exact absurd he_ (Kd.N_ne HN.out (HD.out.lok.blk (g:=gb4) hz) (by decide))));have HF9:=mk_ (Kd.F_after (v1:=v1) HF.out hg_ hat_);obtain ⟨A35,k35,hv35⟩:=Kd.N_slice ho_;subst hv35;have HN9:=mk_ ho_;clear HD HF HN ho_ hb_ hg_ hat_;have HD:=HD9;have HF:=HF9;have HN:=HN9;clear HD9 HF9 HN9)|((with_reducible refine gate_ld0 rfl ?_);refine loc_load1 rfl rfl kz rfl HD.out.lok sz ?_)|((with_reducible refine gate_st0 rfl ?_);refine dx_store0 rfl rfl rfl gz kz kz HD.out pz ?_;intro w_ HD_ hf_;replace HD:=mk_ HD_;replace HF:=mk_ (Kd.F_step HF.out (fun j_ h_ _=>hf_ j_ (by first|exact h_.1.2.1|exact h_.1.2.2)));replace HN:=mk_ (Kd.N_step HN.out (fun j_ h_ _=>hf_ j_ (by first|exact h_.2.1|exact h_.2.2)));clear HD_ hf_))
      go_roundg k1
      case measure=>exact Nat.lt_succ_self _
      case rel=>exact ⟨q2,A35,k35,⟨by have h7:=HQ.out;have h8:=HL2.out;have h9:=C1.out;omega⟩,HD,HN,HF,HM2⟩
  have cb:decide (0<n)=true:=decide_eq_true c
  cases gk with
  | zero=>exact absurd HK.out.1 (by omega)
  | succ k1 =>
   replace HK:=mk_ (show n≤(k1:Int)+1∧(k1:Int)+1≤20∧0<n from ⟨by have:=HK.out.1;omega,by have:=HK.out.2;omega,c⟩)
   clear c
   go_upto_region 7 with (first|((with_reducible refine gate_gd rfl ?_);first|((with_reducible refine gd_on rfl ?_ ?_);rfl;dsimp only)|((with_reducible refine gd_off rfl ?_ ?_);rfl))|((with_reducible refine gate_dst (N:=17) rfl ?_);(with_reducible refine gate_callee (f:=70) rfl ?_);refine goesL_ (some 17) rfl rfl Try.func70 kz rfl #[.pointer (some ⟨g,0,none⟩),.int .i64 6] rfl am ?_;(with_reducible refine (pick_calls 6 (by decide) hs (by have:=HK.out;omega) HD.out HT.out).mono ?_);rintro e w_ ⟨u_,rfl,⟨r17,rfl,hr0_,hr1_⟩,hd_,ht_,hk_⟩;refine ⟨_,rfl,?_⟩;replace HD:=mk_ hd_;replace HT:=mk_ ht_;have Rr17:=mk_ (And.intro hr0_ hr1_);clear hd_ ht_ hk_ hr0_ hr1_)|((with_reducible refine gate_dst (N:=4) rfl ?_);refine dx_box rfl rfl gz HD.out HT.out (by decide) ?_;intro gb4 w_ HD_ HT_;replace HD:=mk_ HD_;replace HT:=mk_ HT_;clear HD_ HT_)|((with_reducible refine gate_dst (N:=6) rfl ?_);refine dx_alloc rfl rfl tz69 HD.out HT.out (by decide) ?_;intro gb6 w_ HD_ HT_;replace HD:=mk_ HD_;replace HT:=mk_ HT_;clear HD_ HT_)|((with_reducible refine gate_dst (N:=7) rfl ?_);refine dx_alloc rfl rfl tz69 HD.out HT.out (by decide) ?_;intro gb7 w_ HD_ HT_;replace HD:=mk_ HD_;replace HT:=mk_ HT_;clear HD_ HT_)|((with_reducible refine gate_ld0 (t:=69) rfl ?_);refine loc_load (n:=10) rfl rfl kz rfl kz HD.out.lok sz ?_)|((with_reducible refine gate_ld0 (t:=66) rfl ?_);refine loc_load (n:=5) rfl rfl kz rfl kz HD.out.lok sz ?_)|((with_reducible refine gate_ld0 rfl ?_);refine loc_load1 rfl rfl kz rfl HD.out.lok sz ?_)|((with_reducible refine gate_st0 rfl ?_);refine dx_store rfl rfl rfl gz kz kz HD.out HT.out pz ?_;intro w_ HD_ HT_;replace HD:=mk_ HD_;replace HT:=mk_ HT_;clear HD_ HT_))
   have R6:r17=0∨r17=1∨r17=2∨r17=3∨r17=4∨r17=5:=by have:=Rr17.out;omega
   clear Rr17
   rcases R6 with rfl|rfl|rfl|rfl|rfl|rfl
   ·go_upto_region 9 with (first|((with_reducible refine gate_gd rfl ?_);first|((with_reducible refine gd_on rfl ?_ ?_);rfl;dsimp only)|((with_reducible refine gd_off rfl ?_ ?_);rfl))|((with_reducible refine gate_dst (N:=4) rfl ?_);refine dx_box rfl rfl gz HD.out HT.out (by decide) ?_;intro gb4 w_ HD_ HT_;replace HD:=mk_ HD_;replace HT:=mk_ HT_;clear HD_ HT_)|((with_reducible refine gate_dst (N:=6) rfl ?_);refine dx_alloc rfl rfl tz69 HD.out HT.out (by decide) ?_;intro gb6 w_ HD_ HT_;replace HD:=mk_ HD_;replace HT:=mk_ HT_;clear HD_ HT_)|((with_reducible refine gate_dst (N:=7) rfl ?_);refine dx_alloc rfl rfl tz69 HD.out HT.out (by decide) ?_;intro gb7 w_ HD_ HT_;replace HD:=mk_ HD_;replace HT:=mk_ HT_;clear HD_ HT_)|((with_reducible refine gate_ld0 (t:=69) rfl ?_);refine loc_load (n:=10) rfl rfl kz rfl kz HD.out.lok sz ?_)|((with_reducible refine gate_ld0 (t:=66) rfl ?_);refine loc_load (n:=5) rfl rfl kz rfl kz HD.out.lok sz ?_)|((with_reducible refine gate_ld0 rfl ?_);refine loc_load1 rfl rfl kz rfl HD.out.lok sz ?_)|((with_reducible refine gate_st0 rfl ?_);refine dx_store rfl rfl rfl gz kz kz HD.out HT.out pz ?_;intro w_ HD_ HT_;replace HD:=mk_ HD_;replace HT:=mk_ HT_;clear HD_ HT_))
    refine start_ (n:=11) (S:=fun w'=>Lok w0 w' _) (ds:=[10]) (YteknaofnageihaaLoc.bm 11 0) kz rfl rfl HD.out.drew.lok (fun hHeld=>?_)
    refine with_tabW fx91.tab9 fx91.bits9 (fun HT_ HW_=>?_)
    have HS:=mk_ hHeld
    clear hHeld
    replace HD:=mk_ HD.out.drew
    replace HT:=mk_ (HT.out.below (below_drew (Below.refl _ _)))
    revert HS HD HT
    generalize World.drew _=w8_
    intro HS HD HT
    refine qL 0 29 1 5 HT_ HW_ HS ?_
    refine qL 1 30 3 10 HT_ HW_ HS ?_
    refine qA 2 31 7 HT_ ?_
    refine qA 3 32 15 HT_ ?_
    refine qM 4 33 31 HT_ HW_ HS ?_
    refine qO 5 (some 34) 63 HT_ (fun K hK=>?_)
    refine goes_ Try.func69 kz rfl #[.pointer (some ⟨g,0,none⟩),.int .i64 c3] rz rfl rfl am ?_
    refine (bytes_calls c3 ⟨HC.out.2.2.2.1.1,by have:=HC.out.2.2.2.1.2;omega⟩ hs (by have:=HK.out;omega) HD.out HT.out).mono ?_
    rintro e w9_ ⟨u_,rfl,⟨l,D,d,rfl,hl1,hl2,hC⟩,hd_,ht_,hk_⟩
    refine ⟨_,rfl,?_⟩
    replace HD:=mk_ hd_
    replace HT:=mk_ ht_
    replace HS:=mk_ HD.out.lok
    have HL1:=mk_ hl1
    have HL2:=mk_ hl2
    have HCC:=mk_ hC
    clear hd_ ht_ hk_ hl1 hl2 hC
    refine qK hK HS ?_;clear hK K
    refine qO 6 (some 35) 127 HT_ (fun K hK=>?_)
    refine goes_ Try.func102 kz rfl #[.agg #[.int .i64 c0,.int .i64 c1,.int .i64 c2,.int .i64 c3,.int .i64 c4],.agg #[.int .i64 t0,.int .i64 t1,.slice A2 fl.length k2,.int .i64 t3,.slice A4 q.length k4,.bool t5,.int .i64 t6,.bool t7,.int .i64 t8,.bool t9],.slice D l.length d] rz rfl rfl am ?_
    refine (txput_calls _ _ c0 c1 c2 c3 c4 D d l _ HT.out.f.r S0.out HCC.out HL2.out HL1.out).mono ?_
    rintro e w9_ ⟨vn,r,b_,d2_,d4_,rfl,hn_,sr_,hb_⟩
    refine ⟨_,rfl,?_⟩
    obtain ⟨B2,j2,B4,j4,hvn_,e2_,e4_,n2_,n4_⟩:=hn_.lower HD.out.kb.1
    subst hvn_
    have HT2:=mk_ (show Txn w9_ w.heap.size r (.agg #[.int .i64 r.a0,.int .i64 r.a1,.slice B2 r.fl.length j2,.int .i64 r.a3,.slice B4 r.q.length j4,.bool r.a5,.int .i64 r.a6,.bool r.a7,.int .i64 r.a8,.bool r.a9]) _ _ from ⟨B2,j2,B4,j4,rfl,e2_,e4_,n2_,n4_⟩)
    replace HD:=mk_ (HD.out.call hb_)
    clear HT
    have HT:=HT2
    clear HT2 e2_ e4_ n2_ n4_
    have SR:=mk_ sr_
    clear sr_ hb_
    replace HS:=mk_ HD.out.lok
    refine qK hK HS ?_;clear hK K
    refine qA 7 28 255 HT_ ?_
    refine qA 8 36 511 HT_ ?_
    refine qA 9 37 1023 HT_ ?_
    refine qE 10 none 2047 HT_ (fun K hK=>?_)
    refine dx_store_step (by rfl) rfl rfl rfl gz kz kz HD.out HT.out pz ?_
    intro w9_ HD_ HT_
    replace HD:=mk_ HD_
    replace HT:=mk_ HT_
    clear HD_ HT_
    refine hK.out _ _ ?_;clear hK K
    refine qF HT_ ?_
    clear HT_ HW_ HS
    go_wp2
    go_roundg k1
    case measure=>exact Nat.lt_succ_self _
    case rel=>exact ⟨wrap64 (n - 1),r,B2,j2,B4,j4,_,_,rfl,⟨by have h8:=HK.out;rw [Go.Proofs.Yteknaofnageihaa.Pure.wrap64_id (by omega) (by omega)];omega⟩,⟨HD.out.up (by have h8:=HK.out;omega)⟩,HT,SR⟩
   ·go_upto_region 9 with (first|((with_reducible refine gate_gd rfl ?_);first|((with_reducible refine gd_on rfl ?_ ?_);rfl;dsimp only)|((with_reducible refine gd_off rfl ?_ ?_);rfl))|((with_reducible refine gate_dst (N:=4) rfl ?_);refine dx_box rfl rfl gz HD.out HT.out (by decide) ?_;intro gb4 w_ HD_ HT_;replace HD:=mk_ HD_;replace HT:=mk_ HT_;clear HD_ HT_)|((with_reducible refine gate_dst (N:=6) rfl ?_);refine dx_alloc rfl rfl tz69 HD.out HT.out (by decide) ?_;intro gb6 w_ HD_ HT_;replace HD:=mk_ HD_;replace HT:=mk_ HT_;clear HD_ HT_)|((with_reducible refine gate_dst (N:=7) rfl ?_);refine dx_alloc rfl rfl tz69 HD.out HT.out (by decide) ?_;intro gb7 w_ HD_ HT_;replace HD:=mk_ HD_;replace HT:=mk_ HT_;clear HD_ HT_)|((with_reducible refine gate_ld0 (t:=69) rfl ?_);refine loc_load (n:=10) rfl rfl kz rfl kz HD.out.lok sz ?_)|((with_reducible refine gate_ld0 (t:=66) rfl ?_);refine loc_load (n:=5) rfl rfl kz rfl kz HD.out.lok sz ?_)|((with_reducible refine gate_ld0 rfl ?_);refine loc_load1 rfl rfl kz rfl HD.out.lok sz ?_)|((with_reducible refine gate_st0 rfl ?_);refine dx_store rfl rfl rfl gz kz kz HD.out HT.out pz ?_;intro w_ HD_ HT_;replace HD:=mk_ HD_;replace HT:=mk_ HT_;clear HD_ HT_))
    refine start_ (n:=11) (S:=fun w'=>Lok w0 w' _) (ds:=[10]) (YteknaofnageihaaLoc.bm 11 0) kz rfl rfl HD.out.drew.lok (fun hHeld=>?_)
    refine with_tabW fx91.tab9 fx91.bits9 (fun HT_ HW_=>?_)
    have HS:=mk_ hHeld
    clear hHeld
    replace HD:=mk_ HD.out.drew
    replace HT:=mk_ (HT.out.below (below_drew (Below.refl _ _)))
    revert HS HD HT
    generalize World.drew _=w8_
    intro HS HD HT
    refine qL 0 29 1 5 HT_ HW_ HS ?_
    refine qL 1 30 3 10 HT_ HW_ HS ?_
    refine qA 2 31 7 HT_ ?_
    refine qA 3 32 15 HT_ ?_
    refine qM 4 33 31 HT_ HW_ HS ?_
    refine qO 5 (some 34) 63 HT_ (fun K hK=>?_)
    refine goes_ Try.func69 kz rfl #[.pointer (some ⟨g,0,none⟩),.int .i64 c3] rz rfl rfl am ?_
    refine (bytes_calls c3 ⟨HC.out.2.2.2.1.1,by have:=HC.out.2.2.2.1.2;omega⟩ hs (by have:=HK.out;omega) HD.out HT.out).mono ?_
    rintro e w9_ ⟨u_,rfl,⟨l,D,d,rfl,hl1,hl2,hC⟩,hd_,ht_,hk_⟩
    refine ⟨_,rfl,?_⟩
    replace HD:=mk_ hd_
    replace HT:=mk_ ht_
    replace HS:=mk_ HD.out.lok
    have HL1:=mk_ hl1
    have HL2:=mk_ hl2
    have HCC:=mk_ hC
    clear hd_ ht_ hk_ hl1 hl2 hC
    refine qK hK HS ?_;clear hK K
    refine qO 6 (some 35) 127 HT_ (fun K hK=>?_)
    refine goes_ Try.func102 kz rfl #[.agg #[.int .i64 c0,.int .i64 c1,.int .i64 c2,.int .i64 c3,.int .i64 c4],.agg #[.int .i64 t0,.int .i64 t1,.slice A2 fl.length k2,.int .i64 t3,.slice A4 q.length k4,.bool t5,.int .i64 t6,.bool t7,.int .i64 t8,.bool t9],.slice D l.length d] rz rfl rfl am ?_
    refine (txput_calls _ _ c0 c1 c2 c3 c4 D d l _ HT.out.f.r S0.out HCC.out HL2.out HL1.out).mono ?_
    rintro e w9_ ⟨vn,r,b_,d2_,d4_,rfl,hn_,sr_,hb_⟩
    refine ⟨_,rfl,?_⟩
    obtain ⟨B2,j2,B4,j4,hvn_,e2_,e4_,n2_,n4_⟩:=hn_.lower HD.out.kb.1
    subst hvn_
    have HT2:=mk_ (show Txn w9_ w.heap.size r (.agg #[.int .i64 r.a0,.int .i64 r.a1,.slice B2 r.fl.length j2,.int .i64 r.a3,.slice B4 r.q.length j4,.bool r.a5,.int .i64 r.a6,.bool r.a7,.int .i64 r.a8,.bool r.a9]) _ _ from ⟨B2,j2,B4,j4,rfl,e2_,e4_,n2_,n4_⟩)
    replace HD:=mk_ (HD.out.call hb_)
    clear HT
    have HT:=HT2
    clear HT2 e2_ e4_ n2_ n4_
    have SR:=mk_ sr_
    clear sr_ hb_
    replace HS:=mk_ HD.out.lok
    refine qK hK HS ?_;clear hK K
    refine qA 7 28 255 HT_ ?_
    refine qA 8 36 511 HT_ ?_
    refine qA 9 37 1023 HT_ ?_
    refine qE 10 none 2047 HT_ (fun K hK=>?_)
    refine dx_store_step (by rfl) rfl rfl rfl gz kz kz HD.out HT.out pz ?_
    intro w9_ HD_ HT_
    replace HD:=mk_ HD_
    replace HT:=mk_ HT_
    clear HD_ HT_
    refine hK.out _ _ ?_;clear hK K
    refine qF HT_ ?_
    clear HT_ HW_ HS
    go_wp2
    go_roundg k1
    case measure=>exact Nat.lt_succ_self _
    case rel=>exact ⟨wrap64 (n - 1),r,B2,j2,B4,j4,_,_,rfl,⟨by have h8:=HK.out;rw [Go.Proofs.Yteknaofnageihaa.Pure.wrap64_id (by omega) (by omega)];omega⟩,⟨HD.out.up (by have h8:=HK.out;omega)⟩,HT,SR⟩
   ·go_wp2_with (first|((with_reducible refine gate_gd rfl ?_);first|((with_reducible refine gd_on rfl ?_ ?_);rfl;dsimp only)|((with_reducible refine gd_off rfl ?_ ?_);rfl))|((with_reducible refine gate_dst (N:=44) rfl ?_);(with_reducible refine gate_callee (f:=103) rfl ?_);refine goesL_ (some 44) rfl rfl Try.func103 kz rfl #[.agg #[.int .i64 c0,.int .i64 c1,.int .i64 c2,.int .i64 c3,.int .i64 c4],.agg #[.int .i64 t0,.int .i64 t1,.slice A2 fl.length k2,.int .i64 t3,.slice A4 q.length k4,.bool t5,.int .i64 t6,.bool t7,.int .i64 t8,.bool t9],.int .i64 0] rfl am ?_;(refine (txsend_calls _ _ c0 c1 c2 c3 c4 _ HT.out.f.r S0.out).mono ?_);rintro e w_ ⟨vn,r,vf,b_,d2_,d4_,rfl,hn_,sr_,⟨f0,f1,f2,f3,f4,f5,f6,f7,Af,nf,kf,rfl⟩,hb_⟩;obtain ⟨B2,j2,B4,j4,hvn_,e2_,e4_,n2_,n4_⟩:=hn_.lower HD.out.kb.1;subst hvn_;have HT2:=mk_ (show Txn w_ w.heap.size r (.agg #[.int .i64 r.a0,.int .i64 r.a1,.slice B2 r.fl.length j2,.int .i64 r.a3,.slice B4 r.q.length j4,.bool r.a5,.int .i64 r.a6,.bool r.a7,.int .i64 r.a8,.bool r.a9]) _ _ from ⟨B2,j2,B4,j4,rfl,e2_,e4_,n2_,n4_⟩);replace HD:=mk_ (HD.out.call hb_);clear HT;have HT:=HT2;clear HT2 e2_ e4_ n2_ n4_;have SR:=mk_ sr_;clear sr_ hb_;refine ⟨_,rfl,?_⟩)|((with_reducible refine gate_dst (N:=4) rfl ?_);refine dx_box rfl rfl gz HD.out HT.out (by decide) ?_;intro gb4 w_ HD_ HT_;replace HD:=mk_ HD_;replace HT:=mk_ HT_;clear HD_ HT_)|((with_reducible refine gate_dst (N:=6) rfl ?_);refine dx_alloc rfl rfl tz69 HD.out HT.out (by decide) ?_;intro gb6 w_ HD_ HT_;replace HD:=mk_ HD_;replace HT:=mk_ HT_;clear HD_ HT_)|((with_reducible refine gate_dst (N:=7) rfl ?_);refine dx_alloc rfl rfl tz69 HD.out HT.out (by decide) ?_;intro gb7 w_ HD_ HT_;replace HD:=mk_ HD_;replace HT:=mk_ HT_;clear HD_ HT_)|((with_reducible refine gate_ld0 (t:=69) rfl ?_);refine loc_load (n:=10) rfl rfl kz rfl kz HD.out.lok sz ?_)|((with_reducible refine gate_ld0 (t:=66) rfl ?_);refine loc_load (n:=5) rfl rfl kz rfl kz HD.out.lok sz ?_)|((with_reducible refine gate_ld0 rfl ?_);refine loc_load1 rfl rfl kz rfl HD.out.lok sz ?_)|((with_reducible refine gate_st0 rfl ?_);refine dx_store rfl rfl rfl gz kz kz HD.out HT.out pz ?_;intro w_ HD_ HT_;replace HD:=mk_ HD_;replace HT:=mk_ HT_;clear HD_ HT_))
    go_roundg k1
    case measure=>exact Nat.lt_succ_self _
    case rel=>exact ⟨wrap64 (n - 1),r,B2,j2,B4,j4,_,_,rfl,⟨by have h8:=HK.out;rw [Go.Proofs.Yteknaofnageihaa.Pure.wrap64_id (by omega) (by omega)];omega⟩,⟨HD.out.up (by have h8:=HK.out;omega)⟩,HT,SR⟩
   ·go_wp2_with (first|((with_reducible refine gate_gd rfl ?_);first|((with_reducible refine gd_on rfl ?_ ?_);rfl;dsimp only)|((with_reducible refine gd_off rfl ?_ ?_);rfl))|((with_reducible refine gate_dst (N:=44) rfl ?_);(with_reducible refine gate_callee (f:=103) rfl ?_);refine goesL_ (some 44) rfl rfl Try.func103 kz rfl #[.agg #[.int .i64 c0,.int .i64 c1,.int .i64 c2,.int .i64 c3,.int .i64 c4],.agg #[.int .i64 t0,.int .i64 t1,.slice A2 fl.length k2,.int .i64 t3,.slice A4 q.length k4,.bool t5,.int .i64 t6,.bool t7,.int .i64 t8,.bool t9],.int .i64 0] rfl am ?_;(refine (txsend_calls _ _ c0 c1 c2 c3 c4 _ HT.out.f.r S0.out).mono ?_);rintro e w_ ⟨vn,r,vf,b_,d2_,d4_,rfl,hn_,sr_,⟨f0,f1,f2,f3,f4,f5,f6,f7,Af,nf,kf,rfl⟩,hb_⟩;obtain ⟨B2,j2,B4,j4,hvn_,e2_,e4_,n2_,n4_⟩:=hn_.lower HD.out.kb.1;subst hvn_;have HT2:=mk_ (show Txn w_ w.heap.size r (.agg #[.int .i64 r.a0,.int .i64 r.a1,.slice B2 r.fl.length j2,.int .i64 r.a3,.slice B4 r.q.length j4,.bool r.a5,.int .i64 r.a6,.bool r.a7,.int .i64 r.a8,.bool r.a9]) _ _ from ⟨B2,j2,B4,j4,rfl,e2_,e4_,n2_,n4_⟩);replace HD:=mk_ (HD.out.call hb_);clear HT;have HT:=HT2;clear HT2 e2_ e4_ n2_ n4_;have SR:=mk_ sr_;clear sr_ hb_;refine ⟨_,rfl,?_⟩)|((with_reducible refine gate_dst (N:=4) rfl ?_);refine dx_box rfl rfl gz HD.out HT.out (by decide) ?_;intro gb4 w_ HD_ HT_;replace HD:=mk_ HD_;replace HT:=mk_ HT_;clear HD_ HT_)|((with_reducible refine gate_dst (N:=6) rfl ?_);refine dx_alloc rfl rfl tz69 HD.out HT.out (by decide) ?_;intro gb6 w_ HD_ HT_;replace HD:=mk_ HD_;replace HT:=mk_ HT_;clear HD_ HT_)|((with_reducible refine gate_dst (N:=7) rfl ?_);refine dx_alloc rfl rfl tz69 HD.out HT.out (by decide) ?_;intro gb7 w_ HD_ HT_;replace HD:=mk_ HD_;replace HT:=mk_ HT_;clear HD_ HT_)|((with_reducible refine gate_ld0 (t:=69) rfl ?_);refine loc_load (n:=10) rfl rfl kz rfl kz HD.out.lok sz ?_)|((with_reducible refine gate_ld0 (t:=66) rfl ?_);refine loc_load (n:=5) rfl rfl kz rfl kz HD.out.lok sz ?_)|((with_reducible refine gate_ld0 rfl ?_);refine loc_load1 rfl rfl kz rfl HD.out.lok sz ?_)|((with_reducible refine gate_st0 rfl ?_);refine dx_store rfl rfl rfl gz kz kz HD.out HT.out pz ?_;intro w_ HD_ HT_;replace HD:=mk_ HD_;replace HT:=mk_ HT_;clear HD_ HT_))
    go_roundg k1
    case measure=>exact Nat.lt_succ_self _
    case rel=>exact ⟨wrap64 (n - 1),r,B2,j2,B4,j4,_,_,rfl,⟨by have h8:=HK.out;rw [Go.Proofs.Yteknaofnageihaa.Pure.wrap64_id (by omega) (by omega)];omega⟩,⟨HD.out.up (by have h8:=HK.out;omega)⟩,HT,SR⟩
   ·go_upto_region 14 with (first|((with_reducible refine gate_gd rfl ?_);first|((with_reducible refine gd_on rfl ?_ ?_);rfl;dsimp only)|((with_reducible refine gd_off rfl ?_ ?_);rfl))|((with_reducible refine gate_dst (N:=4) rfl ?_);refine dx_box rfl rfl gz HD.out HT.out (by decide) ?_;intro gb4 w_ HD_ HT_;replace HD:=mk_ HD_;replace HT:=mk_ HT_;clear HD_ HT_)|((with_reducible refine gate_dst (N:=6) rfl ?_);refine dx_alloc rfl rfl tz69 HD.out HT.out (by decide) ?_;intro gb6 w_ HD_ HT_;replace HD:=mk_ HD_;replace HT:=mk_ HT_;clear HD_ HT_)|((with_reducible refine gate_dst (N:=7) rfl ?_);refine dx_alloc rfl rfl tz69 HD.out HT.out (by decide) ?_;intro gb7 w_ HD_ HT_;replace HD:=mk_ HD_;replace HT:=mk_ HT_;clear HD_ HT_)|((with_reducible refine gate_ld0 (t:=69) rfl ?_);refine loc_load (n:=10) rfl rfl kz rfl kz HD.out.lok sz ?_)|((with_reducible refine gate_ld0 (t:=66) rfl ?_);refine loc_load (n:=5) rfl rfl kz rfl kz HD.out.lok sz ?_)|((with_reducible refine gate_ld0 rfl ?_);refine loc_load1 rfl rfl kz rfl HD.out.lok sz ?_)|((with_reducible refine gate_st0 rfl ?_);refine dx_store rfl rfl rfl gz kz kz HD.out HT.out pz ?_;intro w_ HD_ HT_;replace HD:=mk_ HD_;replace HT:=mk_ HT_;clear HD_ HT_))
    refine start_ (n:=20) (S:=fun w'=>Lok w0 w' _) (ds:=[19]) (YteknaofnageihaaLoc.bm 20 0) kz rfl rfl HD.out.drew.lok (fun hHeld=>?_)
    refine with_tabW fx91.tab14 fx91.bits14 (fun HT_ HW_=>?_)
    have HS:=mk_ hHeld
    clear hHeld
    replace HD:=mk_ HD.out.drew
    replace HT:=mk_ (HT.out.below (below_drew (Below.refl _ _)))
    revert HS HD HT
    generalize World.drew _=w8_
    intro HS HD HT
    refine qL 0 50 1 5 HT_ HW_ HS ?_
    refine qL 1 51 3 10 HT_ HW_ HS ?_
    refine qA 2 52 7 HT_ ?_
    refine qM 3 53 15 HT_ HW_ HS ?_
    refine qA 4 54 31 HT_ ?_
    refine qA 5 55 63 HT_ ?_
    refine qM 6 56 127 HT_ HW_ HS ?_
    refine qA 7 57 255 HT_ ?_
    refine qA 8 58 511 HT_ ?_
    refine qA 12 62 4607 HT_ ?_
    refine qA 14 64 20991 HT_ ?_
    refine qO 9 (some 59) 21503 HT_ (fun K hK=>?_)
    refine goes_ Try.func70 kz rfl #[.pointer (some ⟨g,0,none⟩),.int .i64 (wrap64 ((fl.length:Int)+1))] rz rfl rfl am ?_
    refine (pick_calls (wrap64 ((fl.length:Int)+1)) (by have h8:=S0.out.1.1;dsimp only at h8;rw [Go.Proofs.Yteknaofnageihaa.Pure.wrap64_id (by omega) (by omega)];omega) hs (by have:=HK.out;omega) HD.out HT.out).mono ?_
    rintro e w9_ ⟨u_,rfl,⟨r59,rfl,hr0_,hr1_⟩,hd_,ht_,hk_⟩
    refine ⟨_,rfl,?_⟩
    replace HD:=mk_ hd_
    replace HT:=mk_ ht_
    replace HS:=mk_ HD.out.lok
    clear hd_ ht_ hk_ hr0_ hr1_
    refine qK hK HS ?_;clear hK K
    refine qA 10 60 22527 HT_ ?_
    refine qA 11 61 24575 HT_ ?_
    refine qO 13 (some 63) 32767 HT_ (fun K hK=>?_)
    refine goes_ Try.func70 kz rfl #[.pointer (some ⟨g,0,none⟩),.int .i64 3] rz rfl rfl am ?_
    refine (pick_calls 3 (by decide) hs (by have:=HK.out;omega) HD.out HT.out).mono ?_
    rintro e w9_ ⟨u_,rfl,⟨r63,rfl,hr0_,hr1_⟩,hd_,ht_,hk_⟩
    refine ⟨_,rfl,?_⟩
    replace HD:=mk_ hd_
    replace HT:=mk_ ht_
    replace HS:=mk_ HD.out.lok
    clear hd_ ht_ hk_ hr0_ hr1_
    refine qK hK HS ?_;clear hK K
    refine qO 15 (some 65) 65535 HT_ (fun K hK=>?_)
    refine goes_ Try.func70 kz rfl #[.pointer (some ⟨g,0,none⟩),.int .i64 3] rz rfl rfl am ?_
    refine (pick_calls 3 (by decide) hs (by have:=HK.out;omega) HD.out HT.out).mono ?_
    rintro e w9_ ⟨u_,rfl,⟨r65,rfl,hr0_,hr1_⟩,hd_,ht_,hk_⟩
    refine ⟨_,rfl,?_⟩
    replace HD:=mk_ hd_
    replace HT:=mk_ ht_
    replace HS:=mk_ HD.out.lok
    clear hd_ ht_ hk_ hr0_ hr1_
    refine qK hK HS ?_;clear hK K
    refine qA 16 66 131071 HT_ ?_
    refine qA 17 67 262143 HT_ ?_
    refine qO 18 (some 68) 524287 HT_ (fun K hK=>?_)
    refine goes_ Try.func104 kz rfl #[.agg #[.int .i64 c0,.int .i64 c1,.int .i64 c2,.int .i64 c3,.int .i64 c4],.agg #[.int .i64 t0,.int .i64 t1,.slice A2 fl.length k2,.int .i64 t3,.slice A4 q.length k4,.bool t5,.int .i64 t6,.bool t7,.int .i64 t8,.bool t9],.agg #[.int .i64 2,.int .i64 0,.int .i64 (Int.tmod (wrap64 (t1+r59)) 8),.bool false,.bool (r65 == 0),.int .i64 r63,.int .i64 0,.int .i64 0,.slice none 0 0]] rz rfl rfl am ?_
    refine (txhear_calls _ _ c0 c1 c2 c3 c4 (Int.tmod (wrap64 (t1+r59)) 8) (r65 == 0) r63 _ HT.out.f.r S0.out).mono ?_
    rintro e w9_ ⟨vn,r,d2_,d4_,rfl,hn_,sr_,hb_⟩
    refine ⟨_,rfl,?_⟩
    obtain ⟨B2,j2,B4,j4,hvn_,e2_,e4_,n2_,n4_⟩:=hn_.lower HD.out.kb.1
    subst hvn_
    have HT2:=mk_ (show Txn w9_ w.heap.size r (.agg #[.int .i64 r.a0,.int .i64 r.a1,.slice B2 r.fl.length j2,.int .i64 r.a3,.slice B4 r.q.length j4,.bool r.a5,.int .i64 r.a6,.bool r.a7,.int .i64 r.a8,.bool r.a9]) _ _ from ⟨B2,j2,B4,j4,rfl,e2_,e4_,n2_,n4_⟩)
    replace HD:=mk_ (HD.out.call hb_)
    clear HT
    have HT:=HT2
    clear HT2 e2_ e4_ n2_ n4_
    have SR:=mk_ sr_
    clear sr_ hb_
    replace HS:=mk_ HD.out.lok
    refine qK hK HS ?_;clear hK K
    refine qE 19 none 1048575 HT_ (fun K hK=>?_)
    refine dx_store_step (by rfl) rfl rfl rfl gz kz kz HD.out HT.out pz ?_
    intro w9_ HD_ HT_
    replace HD:=mk_ HD_
    replace HT:=mk_ HT_
    clear HD_ HT_
    refine hK.out _ _ ?_;clear hK K
    refine qF HT_ ?_
    clear HT_ HW_ HS
    go_wp2
    go_roundg k1
    case measure=>exact Nat.lt_succ_self _
    case rel=>exact ⟨wrap64 (n - 1),r,B2,j2,B4,j4,_,_,rfl,⟨by have h8:=HK.out;rw [Go.Proofs.Yteknaofnageihaa.Pure.wrap64_id (by omega) (by omega)];omega⟩,⟨HD.out.up (by have h8:=HK.out;omega)⟩,HT,SR⟩
   ·go_wp2_with (first|((with_reducible refine gate_gd rfl ?_);first|((with_reducible refine gd_on rfl ?_ ?_);rfl;dsimp only)|((with_reducible refine gd_off rfl ?_ ?_);rfl))|((with_reducible refine gate_dst (N:=21) rfl ?_);(with_reducible refine gate_callee (f:=105) rfl ?_);refine goesL_ (some 21) rfl rfl Try.func105 kz rfl #[.agg #[.int .i64 c0,.int .i64 c1,.int .i64 c2,.int .i64 c3,.int .i64 c4],.agg #[.int .i64 t0,.int .i64 t1,.slice A2 fl.length k2,.int .i64 t3,.slice A4 q.length k4,.bool t5,.int .i64 t6,.bool t7,.int .i64 t8,.bool t9],.int .i64 0,.bool false] rfl am ?_;(refine (txtick_calls _ _ c0 c1 c2 c3 c4 _ HT.out.f.r S0.out).mono ?_);rintro e w_ ⟨vn,r,vf,b_,d2_,d4_,rfl,hn_,sr_,⟨f0,f1,f2,f3,f4,f5,f6,f7,Af,nf,kf,rfl⟩,hb_⟩;obtain ⟨B2,j2,B4,j4,hvn_,e2_,e4_,n2_,n4_⟩:=hn_.lower HD.out.kb.1;subst hvn_;have HT2:=mk_ (show Txn w_ w.heap.size r (.agg #[.int .i64 r.a0,.int .i64 r.a1,.slice B2 r.fl.length j2,.int .i64 r.a3,.slice B4 r.q.length j4,.bool r.a5,.int .i64 r.a6,.bool r.a7,.int .i64 r.a8,.bool r.a9]) _ _ from ⟨B2,j2,B4,j4,rfl,e2_,e4_,n2_,n4_⟩);replace HD:=mk_ (HD.out.call hb_);clear HT;have HT:=HT2;clear HT2 e2_ e4_ n2_ n4_;have SR:=mk_ sr_;clear sr_ hb_;refine ⟨_,rfl,?_⟩)|((with_reducible refine gate_dst (N:=4) rfl ?_);refine dx_box rfl rfl gz HD.out HT.out (by decide) ?_;intro gb4 w_ HD_ HT_;replace HD:=mk_ HD_;replace HT:=mk_ HT_;clear HD_ HT_)|((with_reducible refine gate_dst (N:=6) rfl ?_);refine dx_alloc rfl rfl tz69 HD.out HT.out (by decide) ?_;intro gb6 w_ HD_ HT_;replace HD:=mk_ HD_;replace HT:=mk_ HT_;clear HD_ HT_)|((with_reducible refine gate_dst (N:=7) rfl ?_);refine dx_alloc rfl rfl tz69 HD.out HT.out (by decide) ?_;intro gb7 w_ HD_ HT_;replace HD:=mk_ HD_;replace HT:=mk_ HT_;clear HD_ HT_)|((with_reducible refine gate_ld0 (t:=69) rfl ?_);refine loc_load (n:=10) rfl rfl kz rfl kz HD.out.lok sz ?_)|((with_reducible refine gate_ld0 (t:=66) rfl ?_);refine loc_load (n:=5) rfl rfl kz rfl kz HD.out.lok sz ?_)|((with_reducible refine gate_ld0 rfl ?_);refine loc_load1 rfl rfl kz rfl HD.out.lok sz ?_)|((with_reducible refine gate_st0 rfl ?_);refine dx_store rfl rfl rfl gz kz kz HD.out HT.out pz ?_;intro w_ HD_ HT_;replace HD:=mk_ HD_;replace HT:=mk_ HT_;clear HD_ HT_))
    go_roundg k1
    case measure=>exact Nat.lt_succ_self _
    case rel=>exact ⟨wrap64 (n - 1),r,B2,j2,B4,j4,_,_,rfl,⟨by have h8:=HK.out;rw [Go.Proofs.Yteknaofnageihaa.Pure.wrap64_id (by omega) (by omega)];omega⟩,⟨HD.out.up (by have h8:=HK.out;omega)⟩,HT,SR⟩
end Go.Proofs.Yteknaofnageihaa.QFnTxOk
