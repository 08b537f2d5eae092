-- Texts by hand for FnTxLeft, FnTxOk.
import Derived.Test.YteknaofnageihaaTke
import Derived.Test.YteknaofnageihaaQFnTxOkx19
import Derived.Test.YteknaofnageihaaQFnTxOkx25
namespace Go.Proofs.Yteknaofnageihaa.QFnTxOk
open Go.RowKit Go.Proofs.YteknaofnageihaaW.PrintWords Go.Proofs.YteknaofnageihaaW.PrintLast Go.Proofs.YteknaofnageihaaW.PrintMore Go.Proofs.YteknaofnageihaaLoc
attribute [local go_sem] max2_int min2_int max_two min_two max_three min_three max_four min_four   -- for this text's walks alone
set_option linter.unusedVariables false
set_option linter.unusedSimpArgs false
open Go.Proofs.Yteknaofnageihaa.Pure
def fx104.T3:Bool × List (List Nat × List Nat):=(true,[([],[]),([0],[0]),([],[]),([1,2,1],[1,2]),([3,3],[3]),([4,4,0,1,2,3,4],[4])])
def fx104.B3:List Nat:=[0,1,0,7,15,31]
theorem fx104.tab3:rtab .any (opsOf Try.f104 3)=fx104.T3:=by kernel_rfl
theorem fx104.bits3:waitsOk fx104.T3.2 fx104.B3=true:=by kernel_rfl
theorem frm_calls (k:Nat) (f2:Int) (f4:Bool) (f5:Int) (b:Bool) (w:World) (h:spec_FrmOk.f k 2 0 f2 false f4 f5 0 0 []=some b):Calls Try.prog 114 #[.agg #[.int .i64 2,.int .i64 0,.int .i64 f2,.bool false,.bool f4,.int .i64 f5,.int .i64 0,.int .i64 0,.slice none 0 0]] w (fun e w'=>e=.returned (.bool b)∧Below w.heap.size w w') :=
 spec_FrmOk.calls k 2 0 f2 false f4 f5 0 0 none 0 [] b w (Kd.C_nil _ _) (Nat.le_refl _) h
set_option maxHeartbeats 60000000 in
set_option maxRecDepth 100000 in
theorem txhear_calls (t:Tx) (v:Value) (c0 c1 c2 c3 c4 f2:Int) (f4:Bool) (f5:Int) (w:World) (ht:Txr w t v) (hs:Sm t):Calls Try.prog 104 #[.agg #[.int .i64 c0,.int .i64 c1,.int .i64 c2,.int .i64 c3,.int .i64 c4],v,.agg #[.int .i64 2,.int .i64 0,.int .i64 f2,.bool false,.bool f4,.int .i64 f5,.int .i64 0,.int .i64 0,.slice none 0 0]] w (TxE' w):=by
 obtain ⟨t0,t1,fl,t3,q,t5,t6,t7,t8,t9⟩:=t
 obtain ⟨A2,k2,A4,k4,rfl,h2,hk2,h4,hk4⟩:=ht
 dsimp only at h2 hk2 h4 hk4 ⊢
 have H2:=mk_ h2
 have K2:=mk_ hk2
 have H4:=mk_ h4
 have K4:=mk_ hk4
 clear h2 hk2 h4 hk4
 have HL:=mk_ (Lok.start w)
 obtain ⟨k1,b,hok,hg⟩:=p_ok c0 c1 c2 c3 c4 _ hs
 have POK:=mk_ hok
 have S0:=mk_ hs
 clear hs hok
 obtain ⟨k3,b2,hf,hg2⟩:=p_frm f2 f4 f5
 have PF:=mk_ hf
 clear hf
 cases b
 ·go_enter Try.func104,Try.ntmps104
  go_wp2_with (first|((with_reducible refine gate_gd rfl ?_);first|((with_reducible refine gd_on rfl ?_ ?_);rfl;dsimp only)|((with_reducible refine gd_off rfl ?_ ?_);rfl))|((with_reducible refine gate_dst (N:=9) rfl ?_);(with_reducible refine gate_callee (f:=48) rfl ?_);refine goesL_ (some 9) rfl rfl Try.func48 kz rfl #[.agg #[.int .i64 c0,.int .i64 c1,.int .i64 c2,.int .i64 c3,.int .i64 c4],.agg #[.int .i64 t0,.int .i64 t1,.slice A2 fl.length k2,.int .i64 t3,.slice A4 q.length k4,.bool t5,.int .i64 t6,.bool t7,.int .i64 t8,.bool t9]] rfl am ?_;(with_reducible refine (spec_TxOk.calls k1 c0 c1 c2 c3 c4 t0 t1 A2 k2 fl t3 A4 k4 q t5 t6 t7 t8 t9 _ _ (Kd.C_below H2.out HL.out.bel) K2.out (Kd.C_below H4.out HL.out.bel) K4.out POK.out).mono ?_);rintro e w_ ⟨rfl,hb_⟩;refine ⟨_,rfl,?_⟩;replace HL:=mk_ (HL.out.call hb_);clear hb_)|((with_reducible refine gate_dst (N:=13) rfl ?_);(with_reducible refine gate_callee (f:=114) rfl ?_);refine goesL_ (some 13) rfl rfl Try.func114 kz rfl #[.agg #[.int .i64 2,.int .i64 0,.int .i64 f2,.bool false,.bool f4,.int .i64 f5,.int .i64 0,.int .i64 0,.slice none 0 0]] rfl am ?_;(with_reducible refine (frm_calls k3 f2 f4 f5 _ _ PF.out).mono ?_);rintro e w_ ⟨rfl,hb_⟩;refine ⟨_,rfl,?_⟩;replace HL:=mk_ (HL.out.call hb_);clear hb_)|((with_reducible refine gate_dst (N:=3) rfl ?_);refine loc_box rfl rfl gz HL.out ?_;intro gb3 w_ HL_;replace HL:=mk_ HL_;clear HL_)|((with_reducible refine gate_dst (N:=4) rfl ?_);refine loc_box rfl rfl gz HL.out ?_;intro gb4 w_ HL_;replace HL:=mk_ HL_;clear HL_)|((with_reducible refine gate_dst (N:=5) rfl ?_);refine loc_box rfl rfl gz HL.out ?_;intro gb5 w_ HL_;replace HL:=mk_ HL_;clear HL_)|((with_reducible refine gate_dst (N:=6) rfl ?_);refine loc_alloc rfl rfl tz69 HL.out ?_;intro gb6 w_ HL_;replace HL:=mk_ HL_;clear HL_)|((with_reducible refine gate_ld0 (t:=69) rfl ?_);refine loc_load (n:=10) rfl rfl kz rfl kz HL.out sz ?_)|((with_reducible refine gate_ld0 (t:=66) rfl ?_);refine loc_load (n:=5) rfl rfl kz rfl kz HL.out sz ?_)|((with_reducible refine gate_ld0 (t:=102) rfl ?_);refine loc_load (n:=9) rfl rfl kz rfl kz HL.out sz ?_)|((with_reducible refine gate_ld0 rfl ?_);refine loc_load1 rfl rfl kz rfl HL.out sz ?_)|((with_reducible refine gate_st0 rfl ?_);refine loc_store rfl rfl rfl gz kz kz HL.out pz ?_;intro w_ HL_;replace HL:=mk_ HL_;clear HL_))
  refine bodyPost_ret (results_cell_row rfl _ _ _ 69 _ (0,0) _ rfl (HL.out.blk hz) Try.underlying69 rfl kz) rfl ?_
  exact mkTxE' ⟨0,0,[],0,[],false,0,false,0,false⟩ _ ez (Txn_zero _ _) Sm_zero HL.out.bel
 cases b2
 ·go_enter Try.func104,Try.ntmps104
  go_wp2_with (first|((with_reducible refine gate_gd rfl ?_);first|((with_reducible refine gd_on rfl ?_ ?_);rfl;dsimp only)|((with_reducible refine gd_off rfl ?_ ?_);rfl))|((with_reducible refine gate_dst (N:=9) rfl ?_);(with_reducible refine gate_callee (f:=48) rfl ?_);refine goesL_ (some 9) rfl rfl Try.func48 kz rfl #[.agg #[.int .i64 c0,.int .i64 c1,.int .i64 c2,.int .i64 c3,.int .i64 c4],.agg #[.int .i64 t0,.int .i64 t1,.slice A2 fl.length k2,.int .i64 t3,.slice A4 q.length k4,.bool t5,.int .i64 t6,.bool t7,.int .i64 t8,.bool t9]] rfl am ?_;(with_reducible refine (spec_TxOk.calls k1 c0 c1 c2 c3 c4 t0 t1 A2 k2 fl t3 A4 k4 q t5 t6 t7 t8 t9 _ _ (Kd.C_below H2.out HL.out.bel) K2.out (Kd.C_below H4.out HL.out.bel) K4.out POK.out).mono ?_);rintro e w_ ⟨rfl,hb_⟩;refine ⟨_,rfl,?_⟩;replace HL:=mk_ (HL.out.call hb_);clear hb_)|((with_reducible refine gate_dst (N:=13) rfl ?_);(with_reducible refine gate_callee (f:=114) rfl ?_);refine goesL_ (some 13) rfl rfl Try.func114 kz rfl #[.agg #[.int .i64 2,.int .i64 0,.int .i64 f2,.bool false,.bool f4,.int .i64 f5,.int .i64 0,.int .i64 0,.slice none 0 0]] rfl am ?_;(with_reducible refine (frm_calls k3 f2 f4 f5 _ _ PF.out).mono ?_);rintro e w_ ⟨rfl,hb_⟩;refine ⟨_,rfl,?_⟩;replace HL:=mk_ (HL.out.call hb_);clear hb_)|((with_reducible refine gate_dst (N:=3) rfl ?_);refine loc_box rfl rfl gz HL.out ?_;intro gb3 w_ HL_;replace HL:=mk_ HL_;clear HL_)|((with_reducible refine gate_dst (N:=4) rfl ?_);refine loc_box rfl rfl gz HL.out ?_;intro gb4 w_ HL_;replace HL:=mk_ HL_;clear HL_)|((with_reducible refine gate_dst (N:=5) rfl ?_);refine loc_box rfl rfl gz HL.out ?_;intro gb5 w_ HL_;replace HL:=mk_ HL_;clear HL_)|((with_reducible refine gate_dst (N:=6) rfl ?_);refine loc_alloc rfl rfl tz69 HL.out ?_;intro gb6 w_ HL_;replace HL:=mk_ HL_;clear HL_)|((with_reducible refine gate_ld0 (t:=69) rfl ?_);refine loc_load (n:=10) rfl rfl kz rfl kz HL.out sz ?_)|((with_reducible refine gate_ld0 (t:=66) rfl ?_);refine loc_load (n:=5) rfl rfl kz rfl kz HL.out sz ?_)|((with_reducible refine gate_ld0 (t:=102) rfl ?_);refine loc_load (n:=9) rfl rfl kz rfl kz HL.out sz ?_)|((with_reducible refine gate_ld0 rfl ?_);refine loc_load1 rfl rfl kz rfl HL.out sz ?_)|((with_reducible refine gate_st0 rfl ?_);refine loc_store rfl rfl rfl gz kz kz HL.out pz ?_;intro w_ HL_;replace HL:=mk_ HL_;clear HL_))
  refine bodyPost_ret (results_cell_row rfl _ _ _ 69 _ (0,0) _ rfl (HL.out.blk hz) Try.underlying69 rfl kz) rfl ?_
  exact mkTxE' ⟨0,0,[],0,[],false,0,false,0,false⟩ _ ez (Txn_zero _ _) Sm_zero HL.out.bel
 have G:=mk_ (hg rfl)
 have G2:=mk_ (hg2 rfl)
 clear hg hg2
 obtain ⟨k4_,y,hy,sy⟩:=p_acked _ f2 S0.out G.out.2.2.2.2.1 G2.out
 have HT:=mk_ (show Txr w ⟨t0,t1,fl,t3,q,t5,t6,t7,t8,t9⟩ (.agg #[.int .i64 t0,.int .i64 t1,.slice A2 fl.length k2,.int .i64 t3,.slice A4 q.length k4,.bool t5,.int .i64 t6,.bool t7,.int .i64 t8,.bool t9]) from ⟨A2,k2,A4,k4,rfl,H2.out,K2.out,H4.out,K4.out⟩)
 have PY:=mk_ hy
 have SY:=mk_ sy
 clear hy sy
 go_enter Try.func104,Try.ntmps104
 go_upto_region 3 with (first|((with_reducible refine gate_gd rfl ?_);first|((with_reducible refine gd_on rfl ?_ ?_);rfl;dsimp only)|((with_reducible refine gd_off rfl ?_ ?_);rfl))|((with_reducible refine gate_dst (N:=9) rfl ?_);(with_reducible refine gate_callee (f:=48) rfl ?_);refine goesL_ (some 9) rfl rfl Try.func48 kz rfl #[.agg #[.int .i64 c0,.int .i64 c1,.int .i64 c2,.int .i64 c3,.int .i64 c4],.agg #[.int .i64 t0,.int .i64 t1,.slice A2 fl.length k2,.int .i64 t3,.slice A4 q.length k4,.bool t5,.int .i64 t6,.bool t7,.int .i64 t8,.bool t9]] rfl am ?_;(with_reducible refine (spec_TxOk.calls k1 c0 c1 c2 c3 c4 t0 t1 A2 k2 fl t3 A4 k4 q t5 t6 t7 t8 t9 _ _ (Kd.C_below H2.out HL.out.bel) K2.out (Kd.C_below H4.out HL.out.bel) K4.out POK.out).mono ?_);rintro e w_ ⟨rfl,hb_⟩;refine ⟨_,rfl,?_⟩;replace HL:=mk_ (HL.out.call hb_);clear hb_)|((with_reducible refine gate_dst (N:=13) rfl ?_);(with_reducible refine gate_callee (f:=114) rfl ?_);refine goesL_ (some 13) rfl rfl Try.func114 kz rfl #[.agg #[.int .i64 2,.int .i64 0,.int .i64 f2,.bool false,.bool f4,.int .i64 f5,.int .i64 0,.int .i64 0,.slice none 0 0]] rfl am ?_;(with_reducible refine (frm_calls k3 f2 f4 f5 _ _ PF.out).mono ?_);rintro e w_ ⟨rfl,hb_⟩;refine ⟨_,rfl,?_⟩;replace HL:=mk_ (HL.out.call hb_);clear hb_)|((with_reducible refine gate_dst (N:=3) rfl ?_);refine loc_box rfl rfl gz HL.out ?_;intro gb3 w_ HL_;replace HL:=mk_ HL_;clear HL_)|((with_reducible refine gate_dst (N:=4) rfl ?_);refine loc_box rfl rfl gz HL.out ?_;intro gb4 w_ HL_;replace HL:=mk_ HL_;clear HL_)|((with_reducible refine gate_dst (N:=5) rfl ?_);refine loc_box rfl rfl gz HL.out ?_;intro gb5 w_ HL_;replace HL:=mk_ HL_;clear HL_)|((with_reducible refine gate_dst (N:=6) rfl ?_);refine loc_alloc rfl rfl tz69 HL.out ?_;intro gb6 w_ HL_;replace HL:=mk_ HL_;clear HL_)|((with_reducible refine gate_ld0 (t:=69) rfl ?_);refine loc_load (n:=10) rfl rfl kz rfl kz HL.out sz ?_)|((with_reducible refine gate_ld0 (t:=66) rfl ?_);refine loc_load (n:=5) rfl rfl kz rfl kz HL.out sz ?_)|((with_reducible refine gate_ld0 (t:=102) rfl ?_);refine loc_load (n:=9) rfl rfl kz rfl kz HL.out sz ?_)|((with_reducible refine gate_ld0 rfl ?_);refine loc_load1 rfl rfl kz rfl HL.out sz ?_)|((with_reducible refine gate_st0 rfl ?_);refine loc_store rfl rfl rfl gz kz kz HL.out pz ?_;intro w_ HL_;replace HL:=mk_ HL_;clear HL_))
 refine start_ (n:=6) (S:=fun w'=>Lok w w' _) (ds:=[5]) (YteknaofnageihaaLoc.bm 6 0) kz rfl rfl HL.out.drew (fun hHeld=>?_)
 refine with_tabW fx104.tab3 fx104.bits3 (fun HT_ HW_=>?_)
 have HS:=mk_ hHeld
 clear hHeld
 replace HL:=mk_ HL.out.drew
 revert HS HL 
 generalize World.drew _=w8_
 intro HS HL 
 refine qL 0 27 1 10 HT_ HW_ HS ?_
 refine qL 2 29 5 9 HT_ HW_ HS ?_
 refine qO 1 (some 28) 7 HT_ (fun K hK=>?_)
 refine goes_ Try.func112 kz rfl #[.agg #[.int .i64 t0,.int .i64 t1,.slice A2 fl.length k2,.int .i64 t3,.slice A4 q.length k4,.bool t5,.int .i64 t6,.bool t7,.int .i64 t8,.bool t9]] rz rfl rfl am ?_
 refine (copy_calls _ _ _ (HT.out.below HL.out.bel) S0.out).mono ?_
 rintro e w9_ ⟨vc,b2_,b4_,rfl,hn_,hb_⟩
 refine ⟨_,rfl,?_⟩
 replace HL:=mk_ (HL.out.call hb_)
 replace HS:=mk_ (HS.out.call hb_)
 have HC:=mk_ hn_.f.r
 clear hn_
 clear hb_
 refine qK hK HS ?_;clear hK K
 refine qO 3 (some 30) 15 HT_ (fun K hK=>?_)
 refine goes_ Try.func115 kz rfl #[vc,.agg #[.int .i64 2,.int .i64 0,.int .i64 f2,.bool false,.bool f4,.int .i64 f5,.int .i64 0,.int .i64 0,.slice none 0 0]] rz rfl rfl am ?_
 refine (hear_calls k4_ _ y vc 0 f2 false f4 f5 0 0 none 0 0 _ HC.out PY.out S0.out SY.out).mono ?_
 rintro e w9_ ⟨vh,r,rfl,hr_,sr_,hb_⟩
 refine ⟨_,rfl,?_⟩
 replace HL:=mk_ (HL.out.call hb_)
 replace HS:=mk_ (HS.out.call hb_)
 have HH:=mk_ hr_
 have SR:=mk_ sr_
 clear hr_ sr_
 clear hb_
 refine qK hK HS ?_;clear hK K
 refine qO 4 (some 31) 31 HT_ (fun K hK=>?_)
 refine goes_ Try.func112 kz rfl #[vh] rz rfl rfl am ?_
 refine (copy_calls _ _ _ HH.out SR.out).mono ?_
 rintro e w9_ ⟨vd,d2_,d4_,rfl,hn_,hb_⟩
 have LT6:=mk_ (blk_lt (HL.out.blk (g:=gb6) hz))
 have LTB:=mk_ HL.out.bel.size
 obtain ⟨D2,l2,D4,l4,hvd,e2_,e4_,n2_,n4_⟩:=hn_
 subst hvd
 have HY:=mk_ (show Txn w9_ _ r (.agg #[.int .i64 r.a0,.int .i64 r.a1,.slice D2 r.fl.length l2,.int .i64 r.a3,.slice D4 r.q.length l4,.bool r.a5,.int .i64 r.a6,.bool r.a7,.int .i64 r.a8,.bool r.a9]) d2_ d4_ from ⟨D2,l2,D4,l4,rfl,e2_,e4_,n2_,n4_⟩)
 clear e2_ e4_ n2_ n4_
 refine ⟨_,rfl,?_⟩
 replace HL:=mk_ (HL.out.call hb_)
 replace HS:=mk_ (HS.out.call hb_)
 clear hb_
 refine qK hK HS ?_;clear hK K
 refine qE 5 none 63 HT_ (fun K hK=>?_)
 refine store_step (by rfl) rfl rfl rfl gz kz kz HL.out pz ?_
 intro w9_ HL_ hs_ hf_
 replace HL:=mk_ HL_
 replace HY:=mk_ (HY.out.far LT6.out hf_)
 clear HL_ hs_ hf_
 refine hK.out _ _ ?_;clear hK K
 refine qF HT_ ?_
 clear HT_ HW_ HS
 go_wp2
 refine bodyPost_ret (results_cell_row rfl _ _ _ 69 _ (0,0) _ rfl (HL.out.blk hz) Try.underlying69 rfl kz) rfl ?_
 exact mkTxE' r _ ez (HY.out.lower LTB.out) SR.out HL.out.bel
end Go.Proofs.Yteknaofnageihaa.QFnTxOk
