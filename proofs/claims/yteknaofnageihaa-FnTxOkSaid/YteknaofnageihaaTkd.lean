-- Texts by hand for FnTxLeft, FnTxOk.
import Derived.Test.YteknaofnageihaaTkc
import Derived.Test.YteknaofnageihaaQFnTxOkx29
namespace Go.Proofs.Yteknaofnageihaa.QFnTxOk
open Go.RowKit Go.Proofs.YteknaofnageihaaW.PrintWords Go.Proofs.YteknaofnageihaaW.PrintLast Go.Proofs.YteknaofnageihaaW.PrintMore Go.Proofs.YteknaofnageihaaLoc
attribute [local go_sem] max2_int min2_int max_two min_two max_three min_three max_four min_four   -- for this text's walks alone
set_option linter.unusedVariables false
set_option linter.unusedSimpArgs false
def Frv (v:Value):Prop:=∃ (f0 f1 f2:Int) (f3 f4:Bool) (f5 f6 f7:Int) (Af:Option Addr) (nf kf:Nat),v=.agg #[.int .i64 f0,.int .i64 f1,.int .i64 f2,.bool f3,.bool f4,.int .i64 f5,.int .i64 f6,.int .i64 f7,.slice Af nf kf]
theorem mkFrv (f0 f1 f2:Int) (f3 f4:Bool) (f5 f6 f7:Int) (Af:Option Addr) (nf kf:Nat):Frv (.agg #[.int .i64 f0,.int .i64 f1,.int .i64 f2,.bool f3,.bool f4,.int .i64 f5,.int .i64 f6,.int .i64 f7,.slice Af nf kf]):=⟨f0,f1,f2,f3,f4,f5,f6,f7,Af,nf,kf,rfl⟩
/-- A state, a frame (whatever it holds), a bool; b: the block that was written to. -/
def TxF (w0 w:World) (b:Option Nat) (ok:Nat→Prop):Ending→World→Prop:=fun e w'=>∃ v t vf fb,e=.returned (.tuple #[v,vf,.bool fb])∧Txf w' (fun k=>ok k∨w.heap.size≤k) t v∧Sm t∧Frv vf∧Below w0.heap.size w0 w'∧Kept w w' (fun k=>some k=b)
theorem mkTxF {w0 w w':World} {b:Option Nat} {ok:Nat→Prop} {e:Ending} (t:Tx) (v vf:Value) (fb:Bool) (h:e=.returned (.tuple #[v,vf,.bool fb])) (h1:Txf w' (fun k=>ok k∨w.heap.size≤k) t v) (hs:Sm t) (hf:Frv vf) (h2:Below w0.heap.size w0 w') (h3:Kept w w' (fun k=>some k=b)):TxF w0 w b ok e w':=⟨v,t,vf,fb,h,h1,hs,hf,h2,h3⟩
section
variable {P:Program} {ops:Array Oper} {Q:Exit→Act→World→Prop} {oi:Oper} {N:Option Tmp} {a:Act} {w0 w:World} {K:Act→World→Prop} {H H':List Blk} {g k:Nat} {vs cs:List Value} {ty:TypeId} {x y:Operand}
theorem store_step (hw:Region.wanted oi (yielded ops a.tmps)=true) (hN:oi.dst=none) (ho:oi.op=.store ty x y) (hx:a.eval x=.pointer (some ⟨g,k,none⟩)) (hy:(a.eval y).cells.toList=vs) (hi:(P.info? ty).map (·.size)=some vs.length) (h1:vs.all (·.oneCell')=true) (HL:Lok w0 w H) (hu:Upd H g k vs H')
  (h:∀ w',Lok w0 w' H'→w.heap.size≤w'.heap.size→(∀ j,j≠g→w'.heap[j]? =w.heap[j]?)→K a w'):if Region.wanted oi (yielded ops a.tmps)=true then Oper.wp P oi a w K Q else K (a.put none undef) w :=
 skip_ hw hN (loc_store_run ho hx hy hi h1 HL hu) (h _ (HL.upd hu) (tx_size _ _ _ _) (fun j hj=>tx_far hj _ _ _))
theorem alloc_step (hw:Region.wanted oi (yielded ops a.tmps)=true) (hN:oi.dst=N) (ho:oi.op=.alloc ty) (hy:((P.info? ty).bind (·.zero)).map (·.cells.toList)=some cs) (HL:Lok w0 w H)
  (h:∀ g w',Lok w0 w' ((g,cs,ty) :: H)→Below w.heap.size w w'→g=w.heap.size→K (a.put N (.pointer (some ⟨g,0,none⟩))) w'):if Region.wanted oi (yielded ops a.tmps)=true then Oper.wp P oi a w K Q else K (a.put N undef) w :=
 value_ hw hN (loc_alloc_run ho hy w) (h _ _ (HL.new cs ty) (below_alloc (Below.refl _ _) _) rfl)
end
theorem kept_below {w w':World} (S:Nat→Prop) (h:Below w.heap.size w w'):Kept w w' S:=⟨h.size,fun i hi _=>h.block i hi⟩
def fx116.T8:Bool × List (List Nat × List Nat):=(true,[([],[]),([],[]),([],[]),([2],[2]),([3],[3]),([1,4],[1,4]),([0,3,0],[0]),([5,6,0,1,2,3,4,5,6],[5]),([7,0,1,2,3,4,5,6,7],[])])
def fx116.B8:List Nat:=[0,0,0,4,12,30,13,127,255]
theorem fx116.tab8:rtab .any (opsOf Try.f116 8)=fx116.T8:=by kernel_rfl
theorem fx116.bits8:waitsOk fx116.T8.2 fx116.B8=true:=by kernel_rfl
set_option maxHeartbeats 60000000 in
set_option maxRecDepth 100000 in
theorem tick_calls (t:Tx) (v:Value) (c0 c1 c2 c3 c4 ak:Int) (b:Bool) (ok:Nat→Prop) (w:World) (ht:Txf w ok t v) (hs:Sm t):Calls Try.prog 116 #[.agg #[.int .i64 c0,.int .i64 c1,.int .i64 c2,.int .i64 c3,.int .i64 c4],v,.int .i64 ak,.bool b] w (TxF w w none ok):=by
 obtain ⟨t0,t1,fl,t3,q,t5,t6,t7,t8,t9⟩:=t
 obtain ⟨A2,k2,A4,k4,rfl,h2,hk2,h4,hk4⟩:=ht
 dsimp only at h2 hk2 h4 hk4 ⊢
 have H2:=mk_ h2
 have K2:=mk_ hk2
 have H4:=mk_ h4
 have K4:=mk_ hk4
 clear h2 hk2 h4 hk4
 have HL:=mk_ (Lok.start w)
 have S0:=mk_ (show Sm2 fl q from hs)
 clear hs
 obtain ⟨bb,hbb⟩:∃ r,spec_l2Bit.f b=some r:=by cases b <;> exact ⟨_,rfl⟩
 have HBB:=mk_ hbb
 clear hbb
 cases t9
 rotate_left
 ·go_enter Try.func116,Try.ntmps116
  go_wp2_with (first|((with_reducible refine gate_gd rfl ?_);first|((with_reducible refine gd_on rfl ?_ ?_);rfl;dsimp only)|((with_reducible refine gd_off rfl ?_ ?_);rfl))|((with_reducible refine gate_dst (N:=4) rfl ?_);refine loc_box rfl rfl gz HL.out ?_;intro gb4 w_ HL_;replace HL:=mk_ HL_;clear HL_)|((with_reducible refine gate_dst (N:=5) rfl ?_);refine loc_box rfl rfl gz HL.out ?_;intro gb5 w_ HL_;replace HL:=mk_ HL_;clear HL_)|((with_reducible refine gate_dst (N:=8) rfl ?_);refine loc_alloc rfl rfl tz69 HL.out ?_;intro gb8 w_ HL_;replace HL:=mk_ HL_;clear HL_)|((with_reducible refine gate_dst (N:=9) rfl ?_);refine loc_alloc rfl rfl tz102 HL.out ?_;intro gb9 w_ HL_;replace HL:=mk_ HL_;clear HL_)|((with_reducible refine gate_ld0 (t:=69) rfl ?_);refine loc_load (n:=10) rfl rfl kz rfl kz HL.out sz ?_)|((with_reducible refine gate_ld0 rfl ?_);refine loc_load1 rfl rfl kz rfl HL.out sz ?_)|((with_reducible refine gate_st0 rfl ?_);refine loc_store rfl rfl rfl gz kz kz HL.out pz ?_;intro w_ HL_;replace HL:=mk_ HL_;clear HL_))
  refine bodyPost_ret (results_list (rs:=[.cell 8 69,.cell 9 102,.tmp 10]) rfl (by simp) (.cell _ 69 _ (0,0) _ rfl (HL.out.blk hz) Try.underlying69 rfl kz (.cell _ 102 _ (0,0) _ rfl (HL.out.blk hz) Try.underlying102 rfl kz (.tmp .nil)))) rfl ?_
  exact mkTxF ⟨_,_,fl,_,q,_,_,_,_,_⟩ _ _ _ ez ⟨A2,k2,A4,k4,rfl,Kd.F_mono (Kd.F_below H2.out HL.out.bel) (fun _ h_=>Or.inl h_),K2.out,Kd.F_mono (Kd.F_below H4.out HL.out.bel) (fun _ h_=>Or.inl h_),K4.out⟩ S0.out (mkFrv _ _ _ _ _ _ _ _ _ _ _) HL.out.bel (kept_below _ HL.out.bel)
 by_cases d1:(fl.length:Int)=0
 rotate_left
 ·have d1b:((fl.length:Int) == 0)=false:=beq_eq_false_iff_ne.mpr d1
  clear d1
  by_cases e1:t6=c4
  ·have e1b:(t6 == c4)=true:=beq_iff_eq.mpr e1
   clear e1
   go_enter Try.func116,Try.ntmps116
   go_wp2_with (first|((with_reducible refine gate_gd rfl ?_);first|((with_reducible refine gd_on rfl ?_ ?_);rfl;dsimp only)|((with_reducible refine gd_off rfl ?_ ?_);rfl))|((with_reducible refine gate_dst (N:=4) rfl ?_);refine loc_box rfl rfl gz HL.out ?_;intro gb4 w_ HL_;replace HL:=mk_ HL_;clear HL_)|((with_reducible refine gate_dst (N:=5) rfl ?_);refine loc_box rfl rfl gz HL.out ?_;intro gb5 w_ HL_;replace HL:=mk_ HL_;clear HL_)|((with_reducible refine gate_dst (N:=8) rfl ?_);refine loc_alloc rfl rfl tz69 HL.out ?_;intro gb8 w_ HL_;replace HL:=mk_ HL_;clear HL_)|((with_reducible refine gate_dst (N:=9) rfl ?_);refine loc_alloc rfl rfl tz102 HL.out ?_;intro gb9 w_ HL_;replace HL:=mk_ HL_;clear HL_)|((with_reducible refine gate_ld0 (t:=69) rfl ?_);refine loc_load (n:=10) rfl rfl kz rfl kz HL.out sz ?_)|((with_reducible refine gate_ld0 rfl ?_);refine loc_load1 rfl rfl kz rfl HL.out sz ?_)|((with_reducible refine gate_st0 rfl ?_);refine loc_store rfl rfl rfl gz kz kz HL.out pz ?_;intro w_ HL_;replace HL:=mk_ HL_;clear HL_))
   refine bodyPost_ret (results_list (rs:=[.cell 8 69,.cell 9 102,.tmp 10]) rfl (by simp) (.cell _ 69 _ (0,0) _ rfl (HL.out.blk hz) Try.underlying69 rfl kz (.cell _ 102 _ (0,0) _ rfl (HL.out.blk hz) Try.underlying102 rfl kz (.tmp .nil)))) rfl ?_
   exact mkTxF ⟨_,_,fl,_,q,_,_,_,_,_⟩ _ _ _ ez ⟨A2,k2,A4,k4,rfl,Kd.F_mono (Kd.F_below H2.out HL.out.bel) (fun _ h_=>Or.inl h_),K2.out,Kd.F_mono (Kd.F_below H4.out HL.out.bel) (fun _ h_=>Or.inl h_),K4.out⟩ S0.out (mkFrv _ _ _ _ _ _ _ _ _ _ _) HL.out.bel (kept_below _ HL.out.bel)
  have e1b:(t6 == c4)=false:=beq_eq_false_iff_ne.mpr e1
  clear e1
  go_enter Try.func116,Try.ntmps116
  go_upto_region 8 with (first|((with_reducible refine gate_gd rfl ?_);first|((with_reducible refine gd_on rfl ?_ ?_);rfl;dsimp only)|((with_reducible refine gd_off rfl ?_ ?_);rfl))|((with_reducible refine gate_dst (N:=4) rfl ?_);refine loc_box rfl rfl gz HL.out ?_;intro gb4 w_ HL_;replace HL:=mk_ HL_;clear HL_)|((with_reducible refine gate_dst (N:=5) rfl ?_);refine loc_box rfl rfl gz HL.out ?_;intro gb5 w_ HL_;replace HL:=mk_ HL_;clear HL_)|((with_reducible refine gate_dst (N:=8) rfl ?_);refine loc_alloc rfl rfl tz69 HL.out ?_;intro gb8 w_ HL_;replace HL:=mk_ HL_;clear HL_)|((with_reducible refine gate_dst (N:=9) rfl ?_);refine loc_alloc rfl rfl tz102 HL.out ?_;intro gb9 w_ HL_;replace HL:=mk_ HL_;clear HL_)|((with_reducible refine gate_ld0 (t:=69) rfl ?_);refine loc_load (n:=10) rfl rfl kz rfl kz HL.out sz ?_)|((with_reducible refine gate_ld0 rfl ?_);refine loc_load1 rfl rfl kz rfl HL.out sz ?_)|((with_reducible refine gate_st0 rfl ?_);refine loc_store rfl rfl rfl gz kz kz HL.out pz ?_;intro w_ HL_;replace HL:=mk_ HL_;clear HL_))
  refine start_ (n:=9) (S:=fun w'=>Lok w w' _) (ds:=[6,7]) (YteknaofnageihaaLoc.bm 9 0) kz rfl rfl HL.out.drew (fun hHeld=>?_)
  refine with_tabW fx116.tab8 fx116.bits8 (fun HT_ HW_=>?_)
  have HS:=mk_ hHeld
  clear hHeld
  replace HL:=mk_ HL.out.drew
  revert HS HL 
  generalize World.drew _=w8_
  intro HS HL 
  refine qL 0 44 1 10 HT_ HW_ HS ?_
  refine qA 1 45 3 HT_ ?_
  refine qA 2 46 7 HT_ ?_
  refine qO 3 (some 47) 15 HT_ (fun K hK=>?_)
  refine goes_ Try.func121 kz rfl #[.bool b] rz rfl rfl am ?_
  with_reducible refine (spec_l2Bit.calls b bb _ HBB.out).mono ?_
  rintro e w9_ ⟨rfl,hb_⟩
  refine ⟨_,rfl,?_⟩
  replace HL:=mk_ (HL.out.call hb_.below)
  replace HS:=mk_ (HS.out.call hb_.below)
  clear hb_
  refine qK hK HS ?_;clear hK K
  refine qA 4 48 31 HT_ ?_
  refine qA 5 49 63 HT_ ?_
  refine qE 6 none 127 HT_ (fun K hK=>?_)
  refine store_step (by rfl) rfl rfl rfl gz kz kz HL.out pz ?_
  intro w9_ HL_ hs_ hf_
  replace HL:=mk_ HL_
  clear HL_ hs_ hf_
  refine hK.out _ _ ?_;clear hK K
  refine qE 7 none 255 HT_ (fun K hK=>?_)
  refine store_step (by rfl) rfl rfl rfl gz kz kz HL.out pz ?_
  intro w9_ HL_ hs_ hf_
  replace HL:=mk_ HL_
  clear HL_ hs_ hf_
  refine hK.out _ _ ?_;clear hK K
  refine qA 8 10 511 HT_ ?_
  refine qF HT_ ?_
  clear HT_ HW_ HS
  go_wp2
  refine bodyPost_ret (results_list (rs:=[.cell 8 69,.cell 9 102,.tmp 10]) rfl (by simp) (.cell _ 69 _ (0,0) _ rfl (HL.out.blk hz) Try.underlying69 rfl kz (.cell _ 102 _ (0,0) _ rfl (HL.out.blk hz) Try.underlying102 rfl kz (.tmp .nil)))) rfl ?_
  exact mkTxF ⟨_,_,fl,_,q,_,_,_,_,_⟩ _ _ _ ez ⟨A2,k2,A4,k4,rfl,Kd.F_mono (Kd.F_below H2.out HL.out.bel) (fun _ h_=>Or.inl h_),K2.out,Kd.F_mono (Kd.F_below H4.out HL.out.bel) (fun _ h_=>Or.inl h_),K4.out⟩ S0.out (mkFrv _ _ _ _ _ _ _ _ _ _ _) HL.out.bel (kept_below _ HL.out.bel)
 have d1b:((fl.length:Int) == 0)=true:=beq_iff_eq.mpr d1
 clear d1
 cases t7
 rotate_left
 ·by_cases e1:t6=c4
  ·have e1b:(t6 == c4)=true:=beq_iff_eq.mpr e1
   clear e1
   go_enter Try.func116,Try.ntmps116
   go_wp2_with (first|((with_reducible refine gate_gd rfl ?_);first|((with_reducible refine gd_on rfl ?_ ?_);rfl;dsimp only)|((with_reducible refine gd_off rfl ?_ ?_);rfl))|((with_reducible refine gate_dst (N:=4) rfl ?_);refine loc_box rfl rfl gz HL.out ?_;intro gb4 w_ HL_;replace HL:=mk_ HL_;clear HL_)|((with_reducible refine gate_dst (N:=5) rfl ?_);refine loc_box rfl rfl gz HL.out ?_;intro gb5 w_ HL_;replace HL:=mk_ HL_;clear HL_)|((with_reducible refine gate_dst (N:=8) rfl ?_);refine loc_alloc rfl rfl tz69 HL.out ?_;intro gb8 w_ HL_;replace HL:=mk_ HL_;clear HL_)|((with_reducible refine gate_dst (N:=9) rfl ?_);refine loc_alloc rfl rfl tz102 HL.out ?_;intro gb9 w_ HL_;replace HL:=mk_ HL_;clear HL_)|((with_reducible refine gate_ld0 (t:=69) rfl ?_);refine loc_load (n:=10) rfl rfl kz rfl kz HL.out sz ?_)|((with_reducible refine gate_ld0 rfl ?_);refine loc_load1 rfl rfl kz rfl HL.out sz ?_)|((with_reducible refine gate_st0 rfl ?_);refine loc_store rfl rfl rfl gz kz kz HL.out pz ?_;intro w_ HL_;replace HL:=mk_ HL_;clear HL_))
   refine bodyPost_ret (results_list (rs:=[.cell 8 69,.cell 9 102,.tmp 10]) rfl (by simp) (.cell _ 69 _ (0,0) _ rfl (HL.out.blk hz) Try.underlying69 rfl kz (.cell _ 102 _ (0,0) _ rfl (HL.out.blk hz) Try.underlying102 rfl kz (.tmp .nil)))) rfl ?_
   exact mkTxF ⟨_,_,fl,_,q,_,_,_,_,_⟩ _ _ _ ez ⟨A2,k2,A4,k4,rfl,Kd.F_mono (Kd.F_below H2.out HL.out.bel) (fun _ h_=>Or.inl h_),K2.out,Kd.F_mono (Kd.F_below H4.out HL.out.bel) (fun _ h_=>Or.inl h_),K4.out⟩ S0.out (mkFrv _ _ _ _ _ _ _ _ _ _ _) HL.out.bel (kept_below _ HL.out.bel)
  have e1b:(t6 == c4)=false:=beq_eq_false_iff_ne.mpr e1
  clear e1
  go_enter Try.func116,Try.ntmps116
  go_upto_region 8 with (first|((with_reducible refine gate_gd rfl ?_);first|((with_reducible refine gd_on rfl ?_ ?_);rfl;dsimp only)|((with_reducible refine gd_off rfl ?_ ?_);rfl))|((with_reducible refine gate_dst (N:=4) rfl ?_);refine loc_box rfl rfl gz HL.out ?_;intro gb4 w_ HL_;replace HL:=mk_ HL_;clear HL_)|((with_reducible refine gate_dst (N:=5) rfl ?_);refine loc_box rfl rfl gz HL.out ?_;intro gb5 w_ HL_;replace HL:=mk_ HL_;clear HL_)|((with_reducible refine gate_dst (N:=8) rfl ?_);refine loc_alloc rfl rfl tz69 HL.out ?_;intro gb8 w_ HL_;replace HL:=mk_ HL_;clear HL_)|((with_reducible refine gate_dst (N:=9) rfl ?_);refine loc_alloc rfl rfl tz102 HL.out ?_;intro gb9 w_ HL_;replace HL:=mk_ HL_;clear HL_)|((with_reducible refine gate_ld0 (t:=69) rfl ?_);refine loc_load (n:=10) rfl rfl kz rfl kz HL.out sz ?_)|((with_reducible refine gate_ld0 rfl ?_);refine loc_load1 rfl rfl kz rfl HL.out sz ?_)|((with_reducible refine gate_st0 rfl ?_);refine loc_store rfl rfl rfl gz kz kz HL.out pz ?_;intro w_ HL_;replace HL:=mk_ HL_;clear HL_))
  refine start_ (n:=9) (S:=fun w'=>Lok w w' _) (ds:=[6,7]) (YteknaofnageihaaLoc.bm 9 0) kz rfl rfl HL.out.drew (fun hHeld=>?_)
  refine with_tabW fx116.tab8 fx116.bits8 (fun HT_ HW_=>?_)
  have HS:=mk_ hHeld
  clear hHeld
  replace HL:=mk_ HL.out.drew
  revert HS HL 
  generalize World.drew _=w8_
  intro HS HL 
  refine qL 0 44 1 10 HT_ HW_ HS ?_
  refine qA 1 45 3 HT_ ?_
  refine qA 2 46 7 HT_ ?_
  refine qO 3 (some 47) 15 HT_ (fun K hK=>?_)
  refine goes_ Try.func121 kz rfl #[.bool b] rz rfl rfl am ?_
  with_reducible refine (spec_l2Bit.calls b bb _ HBB.out).mono ?_
  rintro e w9_ ⟨rfl,hb_⟩
  refine ⟨_,rfl,?_⟩
  replace HL:=mk_ (HL.out.call hb_.below)
  replace HS:=mk_ (HS.out.call hb_.below)
  clear hb_
  refine qK hK HS ?_;clear hK K
  refine qA 4 48 31 HT_ ?_
  refine qA 5 49 63 HT_ ?_
  refine qE 6 none 127 HT_ (fun K hK=>?_)
  refine store_step (by rfl) rfl rfl rfl gz kz kz HL.out pz ?_
  intro w9_ HL_ hs_ hf_
  replace HL:=mk_ HL_
  clear HL_ hs_ hf_
  refine hK.out _ _ ?_;clear hK K
  refine qE 7 none 255 HT_ (fun K hK=>?_)
  refine store_step (by rfl) rfl rfl rfl gz kz kz HL.out pz ?_
  intro w9_ HL_ hs_ hf_
  replace HL:=mk_ HL_
  clear HL_ hs_ hf_
  refine hK.out _ _ ?_;clear hK K
  refine qA 8 10 511 HT_ ?_
  refine qF HT_ ?_
  clear HT_ HW_ HS
  go_wp2
  refine bodyPost_ret (results_list (rs:=[.cell 8 69,.cell 9 102,.tmp 10]) rfl (by simp) (.cell _ 69 _ (0,0) _ rfl (HL.out.blk hz) Try.underlying69 rfl kz (.cell _ 102 _ (0,0) _ rfl (HL.out.blk hz) Try.underlying102 rfl kz (.tmp .nil)))) rfl ?_
  exact mkTxF ⟨_,_,fl,_,q,_,_,_,_,_⟩ _ _ _ ez ⟨A2,k2,A4,k4,rfl,Kd.F_mono (Kd.F_below H2.out HL.out.bel) (fun _ h_=>Or.inl h_),K2.out,Kd.F_mono (Kd.F_below H4.out HL.out.bel) (fun _ h_=>Or.inl h_),K4.out⟩ S0.out (mkFrv _ _ _ _ _ _ _ _ _ _ _) HL.out.bel (kept_below _ HL.out.bel)
 cases t5
 ·go_enter Try.func116,Try.ntmps116
  go_wp2_with (first|((with_reducible refine gate_gd rfl ?_);first|((with_reducible refine gd_on rfl ?_ ?_);rfl;dsimp only)|((with_reducible refine gd_off rfl ?_ ?_);rfl))|((with_reducible refine gate_dst (N:=4) rfl ?_);refine loc_box rfl rfl gz HL.out ?_;intro gb4 w_ HL_;replace HL:=mk_ HL_;clear HL_)|((with_reducible refine gate_dst (N:=5) rfl ?_);refine loc_box rfl rfl gz HL.out ?_;intro gb5 w_ HL_;replace HL:=mk_ HL_;clear HL_)|((with_reducible refine gate_dst (N:=8) rfl ?_);refine loc_alloc rfl rfl tz69 HL.out ?_;intro gb8 w_ HL_;replace HL:=mk_ HL_;clear HL_)|((with_reducible refine gate_dst (N:=9) rfl ?_);refine loc_alloc rfl rfl tz102 HL.out ?_;intro gb9 w_ HL_;replace HL:=mk_ HL_;clear HL_)|((with_reducible refine gate_ld0 (t:=69) rfl ?_);refine loc_load (n:=10) rfl rfl kz rfl kz HL.out sz ?_)|((with_reducible refine gate_ld0 rfl ?_);refine loc_load1 rfl rfl kz rfl HL.out sz ?_)|((with_reducible refine gate_st0 rfl ?_);refine loc_store rfl rfl rfl gz kz kz HL.out pz ?_;intro w_ HL_;replace HL:=mk_ HL_;clear HL_))
  refine bodyPost_ret (results_list (rs:=[.cell 8 69,.cell 9 102,.tmp 10]) rfl (by simp) (.cell _ 69 _ (0,0) _ rfl (HL.out.blk hz) Try.underlying69 rfl kz (.cell _ 102 _ (0,0) _ rfl (HL.out.blk hz) Try.underlying102 rfl kz (.tmp .nil)))) rfl ?_
  exact mkTxF ⟨_,_,fl,_,q,_,_,_,_,_⟩ _ _ _ ez ⟨A2,k2,A4,k4,rfl,Kd.F_mono (Kd.F_below H2.out HL.out.bel) (fun _ h_=>Or.inl h_),K2.out,Kd.F_mono (Kd.F_below H4.out HL.out.bel) (fun _ h_=>Or.inl h_),K4.out⟩ S0.out (mkFrv _ _ _ _ _ _ _ _ _ _ _) HL.out.bel (kept_below _ HL.out.bel)
 by_cases e1:t6=c4
 ·have e1b:(t6 == c4)=true:=beq_iff_eq.mpr e1
  clear e1
  go_enter Try.func116,Try.ntmps116
  go_wp2_with (first|((with_reducible refine gate_gd rfl ?_);first|((with_reducible refine gd_on rfl ?_ ?_);rfl;dsimp only)|((with_reducible refine gd_off rfl ?_ ?_);rfl))|((with_reducible refine gate_dst (N:=4) rfl ?_);refine loc_box rfl rfl gz HL.out ?_;intro gb4 w_ HL_;replace HL:=mk_ HL_;clear HL_)|((with_reducible refine gate_dst (N:=5) rfl ?_);refine loc_box rfl rfl gz HL.out ?_;intro gb5 w_ HL_;replace HL:=mk_ HL_;clear HL_)|((with_reducible refine gate_dst (N:=8) rfl ?_);refine loc_alloc rfl rfl tz69 HL.out ?_;intro gb8 w_ HL_;replace HL:=mk_ HL_;clear HL_)|((with_reducible refine gate_dst (N:=9) rfl ?_);refine loc_alloc rfl rfl tz102 HL.out ?_;intro gb9 w_ HL_;replace HL:=mk_ HL_;clear HL_)|((with_reducible refine gate_ld0 (t:=69) rfl ?_);refine loc_load (n:=10) rfl rfl kz rfl kz HL.out sz ?_)|((with_reducible refine gate_ld0 rfl ?_);refine loc_load1 rfl rfl kz rfl HL.out sz ?_)|((with_reducible refine gate_st0 rfl ?_);refine loc_store rfl rfl rfl gz kz kz HL.out pz ?_;intro w_ HL_;replace HL:=mk_ HL_;clear HL_))
  refine bodyPost_ret (results_list (rs:=[.cell 8 69,.cell 9 102,.tmp 10]) rfl (by simp) (.cell _ 69 _ (0,0) _ rfl (HL.out.blk hz) Try.underlying69 rfl kz (.cell _ 102 _ (0,0) _ rfl (HL.out.blk hz) Try.underlying102 rfl kz (.tmp .nil)))) rfl ?_
  exact mkTxF ⟨_,_,fl,_,q,_,_,_,_,_⟩ _ _ _ ez ⟨A2,k2,A4,k4,rfl,Kd.F_mono (Kd.F_below H2.out HL.out.bel) (fun _ h_=>Or.inl h_),K2.out,Kd.F_mono (Kd.F_below H4.out HL.out.bel) (fun _ h_=>Or.inl h_),K4.out⟩ S0.out (mkFrv _ _ _ _ _ _ _ _ _ _ _) HL.out.bel (kept_below _ HL.out.bel)
 have e1b:(t6 == c4)=false:=beq_eq_false_iff_ne.mpr e1
 clear e1
 go_enter Try.func116,Try.ntmps116
 go_upto_region 8 with (first|((with_reducible refine gate_gd rfl ?_);first|((with_reducible refine gd_on rfl ?_ ?_);rfl;dsimp only)|((with_reducible refine gd_off rfl ?_ ?_);rfl))|((with_reducible refine gate_dst (N:=4) rfl ?_);refine loc_box rfl rfl gz HL.out ?_;intro gb4 w_ HL_;replace HL:=mk_ HL_;clear HL_)|((with_reducible refine gate_dst (N:=5) rfl ?_);refine loc_box rfl rfl gz HL.out ?_;intro gb5 w_ HL_;replace HL:=mk_ HL_;clear HL_)|((with_reducible refine gate_dst (N:=8) rfl ?_);refine loc_alloc rfl rfl tz69 HL.out ?_;intro gb8 w_ HL_;replace HL:=mk_ HL_;clear HL_)|((with_reducible refine gate_dst (N:=9) rfl ?_);refine loc_alloc rfl rfl tz102 HL.out ?_;intro gb9 w_ HL_;replace HL:=mk_ HL_;clear HL_)|((with_reducible refine gate_ld0 (t:=69) rfl ?_);refine loc_load (n:=10) rfl rfl kz rfl kz HL.out sz ?_)|((with_reducible refine gate_ld0 rfl ?_);refine loc_load1 rfl rfl kz rfl HL.out sz ?_)|((with_reducible refine gate_st0 rfl ?_);refine loc_store rfl rfl rfl gz kz kz HL.out pz ?_;intro w_ HL_;replace HL:=mk_ HL_;clear HL_))
 refine start_ (n:=9) (S:=fun w'=>Lok w w' _) (ds:=[6,7]) (YteknaofnageihaaLoc.bm 9 0) kz rfl rfl HL.out.drew (fun hHeld=>?_)
 refine with_tabW fx116.tab8 fx116.bits8 (fun HT_ HW_=>?_)
 have HS:=mk_ hHeld
 clear hHeld
 replace HL:=mk_ HL.out.drew
 revert HS HL 
 generalize World.drew _=w8_
 intro HS HL 
 refine qL 0 44 1 10 HT_ HW_ HS ?_
 refine qA 1 45 3 HT_ ?_
 refine qA 2 46 7 HT_ ?_
 refine qO 3 (some 47) 15 HT_ (fun K hK=>?_)
 refine goes_ Try.func121 kz rfl #[.bool b] rz rfl rfl am ?_
 with_reducible refine (spec_l2Bit.calls b bb _ HBB.out).mono ?_
 rintro e w9_ ⟨rfl,hb_⟩
 refine ⟨_,rfl,?_⟩
 replace HL:=mk_ (HL.out.call hb_.below)
 replace HS:=mk_ (HS.out.call hb_.below)
 clear hb_
 refine qK hK HS ?_;clear hK K
 refine qA 4 48 31 HT_ ?_
 refine qA 5 49 63 HT_ ?_
 refine qE 6 none 127 HT_ (fun K hK=>?_)
 refine store_step (by rfl) rfl rfl rfl gz kz kz HL.out pz ?_
 intro w9_ HL_ hs_ hf_
 replace HL:=mk_ HL_
 clear HL_ hs_ hf_
 refine hK.out _ _ ?_;clear hK K
 refine qE 7 none 255 HT_ (fun K hK=>?_)
 refine store_step (by rfl) rfl rfl rfl gz kz kz HL.out pz ?_
 intro w9_ HL_ hs_ hf_
 replace HL:=mk_ HL_
 clear HL_ hs_ hf_
 refine hK.out _ _ ?_;clear hK K
 refine qA 8 10 511 HT_ ?_
 refine qF HT_ ?_
 clear HT_ HW_ HS
 go_wp2
 refine bodyPost_ret (results_list (rs:=[.cell 8 69,.cell 9 102,.tmp 10]) rfl (by simp) (.cell _ 69 _ (0,0) _ rfl (HL.out.blk hz) Try.underlying69 rfl kz (.cell _ 102 _ (0,0) _ rfl (HL.out.blk hz) Try.underlying102 rfl kz (.tmp .nil)))) rfl ?_
 exact mkTxF ⟨_,_,fl,_,q,_,_,_,_,_⟩ _ _ _ ez ⟨A2,k2,A4,k4,rfl,Kd.F_mono (Kd.F_below H2.out HL.out.bel) (fun _ h_=>Or.inl h_),K2.out,Kd.F_mono (Kd.F_below H4.out HL.out.bel) (fun _ h_=>Or.inl h_),K4.out⟩ S0.out (mkFrv _ _ _ _ _ _ _ _ _ _ _) HL.out.bel (kept_below _ HL.out.bel)
end Go.Proofs.Yteknaofnageihaa.QFnTxOk
