-- Texts by hand for FnTxLeft, FnTxOk.
import Derived.Test.YteknaofnageihaaTke
import Derived.Test.YteknaofnageihaaQFnTxOkx19
namespace Go.Proofs.Yteknaofnageihaa.QFnTxOk
open Go.RowKit Go.Proofs.YteknaofnageihaaW.PrintWords Go.Proofs.YteknaofnageihaaW.PrintLast Go.Proofs.YteknaofnageihaaW.PrintMore Go.Proofs.YteknaofnageihaaLoc
attribute [local go_sem] max2_int min2_int max_two min_two max_three min_three max_four min_four   -- for this text's walks alone
set_option linter.unusedVariables false
set_option linter.unusedSimpArgs false
open Go.Proofs.Yteknaofnageihaa.Pure
def TxB (w:World):Ending→World→Prop:=fun e w'=>∃ v t b b2 b4,e=.returned (.tuple #[v,.bool b])∧Txn w' w.heap.size t v b2 b4∧Sm t∧Below w.heap.size w w'
theorem mkTxB {w w':World} {e:Ending} {b2 b4:Option Nat} (t:Tx) (v:Value) (b:Bool) (h:e=.returned (.tuple #[v,.bool b])) (h1:Txn w' w.heap.size t v b2 b4) (hs:Sm t) (h2:Below w.heap.size w w'):TxB w e w':=⟨v,t,b,b2,b4,h,h1,hs,h2⟩
def fx102.T3:Bool × List (List Nat × List Nat):=(true,[([],[]),([],[]),([1],[1]),([],[]),([0,2,3,2],[0,2,3]),([4],[4]),([5],[5]),([5],[5]),([],[]),([8,6,4,0,1,2,3,4,5,6,8],[6,8]),([7,9,0,1,2,3,4,5,6,7,8,9],[7])])
def fx102.B3:List Nat:=[0,0,2,0,15,31,63,63,0,383,1023]
theorem fx102.tab3:rtab .any (opsOf Try.f102 3)=fx102.T3:=by kernel_rfl
theorem fx102.bits3:waitsOk fx102.T3.2 fx102.B3=true:=by kernel_rfl
set_option maxHeartbeats 60000000 in
set_option maxRecDepth 100000 in
theorem txput_calls (t:Tx) (v:Value) (c0 c1 c2 c3 c4:Int) (As:Option Addr) (ks:Nat) (sd:List Int) (w:World) (ht:Txr w t v) (hs:Sm t) (hd:Kd.C (Kd.int .u8) w As sd.length sd) (hks:sd.length≤ks) (hl:sd.length≤1000):Calls Try.prog 102 #[.agg #[.int .i64 c0,.int .i64 c1,.int .i64 c2,.int .i64 c3,.int .i64 c4],v,.slice As sd.length ks] w (TxB w):=by
 obtain ⟨t0,t1,fl,t3,q,t5,t6,t7,t8,t9⟩:=t
 obtain ⟨A2,k2,A4,k4,rfl,h2,hk2,h4,hk4⟩:=ht
 dsimp only at h2 hk2 h4 hk4 ⊢
 have H2:=mk_ h2
 have K2:=mk_ hk2
 have H4:=mk_ h4
 have K4:=mk_ hk4
 clear h2 hk2 h4 hk4
 have HL:=mk_ (Lok.start w)
 obtain ⟨k1,b,hok,hg⟩:=p_ok c0 c1 c2 c3 c4 _ hs
 have POK:=mk_ hok
 have S0:=mk_ hs
 clear hs hok
 have HD:=mk_ hd
 clear hd
 cases b
 ·go_enter Try.func102,Try.ntmps102
  go_wp2_with (first|((with_reducible refine gate_gd rfl ?_);first|((with_reducible refine gd_on rfl ?_ ?_);rfl;dsimp only)|((with_reducible refine gd_off rfl ?_ ?_);rfl))|((with_reducible refine gate_dst (N:=12) rfl ?_);(with_reducible refine gate_callee (f:=48) rfl ?_);refine goesL_ (some 12) rfl rfl Try.func48 kz rfl #[.agg #[.int .i64 c0,.int .i64 c1,.int .i64 c2,.int .i64 c3,.int .i64 c4],.agg #[.int .i64 t0,.int .i64 t1,.slice A2 fl.length k2,.int .i64 t3,.slice A4 q.length k4,.bool t5,.int .i64 t6,.bool t7,.int .i64 t8,.bool t9]] rfl am ?_;(with_reducible refine (spec_TxOk.calls k1 c0 c1 c2 c3 c4 t0 t1 A2 k2 fl t3 A4 k4 q t5 t6 t7 t8 t9 _ _ (Kd.C_below H2.out HL.out.bel) K2.out (Kd.C_below H4.out HL.out.bel) K4.out POK.out).mono ?_);rintro e w_ ⟨rfl,hb_⟩;refine ⟨_,rfl,?_⟩;replace HL:=mk_ (HL.out.call hb_);clear hb_)|((with_reducible refine gate_dst (N:=3) rfl ?_);refine loc_box rfl rfl gz HL.out ?_;intro gb3 w_ HL_;replace HL:=mk_ HL_;clear HL_)|((with_reducible refine gate_dst (N:=4) rfl ?_);refine loc_box rfl rfl gz HL.out ?_;intro gb4 w_ HL_;replace HL:=mk_ HL_;clear HL_)|((with_reducible refine gate_dst (N:=6) rfl ?_);refine loc_alloc rfl rfl tz69 HL.out ?_;intro gb6 w_ HL_;replace HL:=mk_ HL_;clear HL_)|((with_reducible refine gate_ld0 (t:=69) rfl ?_);refine loc_load (n:=10) rfl rfl kz rfl kz HL.out sz ?_)|((with_reducible refine gate_ld0 (t:=66) rfl ?_);refine loc_load (n:=5) rfl rfl kz rfl kz HL.out sz ?_)|((with_reducible refine gate_ld0 rfl ?_);refine loc_load1 rfl rfl kz rfl HL.out sz ?_)|((with_reducible refine gate_st0 rfl ?_);refine loc_store rfl rfl rfl gz kz kz HL.out pz ?_;intro w_ HL_;replace HL:=mk_ HL_;clear HL_))
  refine bodyPost_ret (results_list (rs:=[.cell 6 69,.tmp 7]) rfl (by simp) (.cell _ 69 _ (0,0) _ rfl (HL.out.blk hz) Try.underlying69 rfl kz (.tmp .nil))) rfl ?_
  exact mkTxB ⟨0,0,[],0,[],false,0,false,0,false⟩ _ _ ez (Txn_zero _ _) Sm_zero HL.out.bel
 have G:=mk_ (hg rfl)
 clear hg
 have HT:=mk_ (show Txr w ⟨t0,t1,fl,t3,q,t5,t6,t7,t8,t9⟩ (.agg #[.int .i64 t0,.int .i64 t1,.slice A2 fl.length k2,.int .i64 t3,.slice A4 q.length k4,.bool t5,.int .i64 t6,.bool t7,.int .i64 t8,.bool t9]) from ⟨A2,k2,A4,k4,rfl,H2.out,K2.out,H4.out,K4.out⟩)
 go_enter Try.func102,Try.ntmps102
 go_upto_region 3 with (first|((with_reducible refine gate_gd rfl ?_);first|((with_reducible refine gd_on rfl ?_ ?_);rfl;dsimp only)|((with_reducible refine gd_off rfl ?_ ?_);rfl))|((with_reducible refine gate_dst (N:=12) rfl ?_);(with_reducible refine gate_callee (f:=48) rfl ?_);refine goesL_ (some 12) rfl rfl Try.func48 kz rfl #[.agg #[.int .i64 c0,.int .i64 c1,.int .i64 c2,.int .i64 c3,.int .i64 c4],.agg #[.int .i64 t0,.int .i64 t1,.slice A2 fl.length k2,.int .i64 t3,.slice A4 q.length k4,.bool t5,.int .i64 t6,.bool t7,.int .i64 t8,.bool t9]] rfl am ?_;(with_reducible refine (spec_TxOk.calls k1 c0 c1 c2 c3 c4 t0 t1 A2 k2 fl t3 A4 k4 q t5 t6 t7 t8 t9 _ _ (Kd.C_below H2.out HL.out.bel) K2.out (Kd.C_below H4.out HL.out.bel) K4.out POK.out).mono ?_);rintro e w_ ⟨rfl,hb_⟩;refine ⟨_,rfl,?_⟩;replace HL:=mk_ (HL.out.call hb_);clear hb_)|((with_reducible refine gate_dst (N:=3) rfl ?_);refine loc_box rfl rfl gz HL.out ?_;intro gb3 w_ HL_;replace HL:=mk_ HL_;clear HL_)|((with_reducible refine gate_dst (N:=4) rfl ?_);refine loc_box rfl rfl gz HL.out ?_;intro gb4 w_ HL_;replace HL:=mk_ HL_;clear HL_)|((with_reducible refine gate_dst (N:=6) rfl ?_);refine loc_alloc rfl rfl tz69 HL.out ?_;intro gb6 w_ HL_;replace HL:=mk_ HL_;clear HL_)|((with_reducible refine gate_ld0 (t:=69) rfl ?_);refine loc_load (n:=10) rfl rfl kz rfl kz HL.out sz ?_)|((with_reducible refine gate_ld0 (t:=66) rfl ?_);refine loc_load (n:=5) rfl rfl kz rfl kz HL.out sz ?_)|((with_reducible refine gate_ld0 rfl ?_);refine loc_load1 rfl rfl kz rfl HL.out sz ?_)|((with_reducible refine gate_st0 rfl ?_);refine loc_store rfl rfl rfl gz kz kz HL.out pz ?_;intro w_ HL_;replace HL:=mk_ HL_;clear HL_))
 refine start_ (n:=11) (S:=fun w'=>Lok w w' _) (ds:=[9]) (YteknaofnageihaaLoc.bm 11 0) kz rfl rfl HL.out.drew (fun hHeld=>?_)
 refine with_tabW fx102.tab3 fx102.bits3 (fun HT_ HW_=>?_)
 have HS:=mk_ hHeld
 clear hHeld
 replace HL:=mk_ HL.out.drew
 revert HS HL 
 generalize World.drew _=w8_
 intro HS HL 
 refine qL 0 16 1 5 HT_ HW_ HS ?_
 refine qL 1 17 3 10 HT_ HW_ HS ?_
 refine qA 3 19 11 HT_ ?_
 refine two_ (i:=2) (j:=8) (Ni:=some 18) (Nj:=some 8) (YteknaofnageihaaLoc.bm 11 15) (YteknaofnageihaaLoc.bm 11 267) rfl rfl rfl rfl (two_of HT_.out kz) (by decide) (by decide) (fun K hK=>?_) (fun K hK=>?_)
 ·refine goes_ Try.func112 kz rfl #[.agg #[.int .i64 t0,.int .i64 t1,.slice A2 fl.length k2,.int .i64 t3,.slice A4 q.length k4,.bool t5,.int .i64 t6,.bool t7,.int .i64 t8,.bool t9]] rz rfl rfl am ?_
  refine (copy_calls _ _ _ (HT.out.below HL.out.bel) S0.out).mono ?_
  rintro e w9_ ⟨vc,b2_,b4_,rfl,hn_,hb_⟩
  have HN:=mk_ hn_
  have HBc:=mk_ hb_
  have HB0:=mk_ HL.out.bel
  clear hn_
  refine ⟨_,rfl,?_⟩
  replace HL:=mk_ (HL.out.call hb_)
  replace HS:=mk_ (HS.out.call hb_)
  clear hb_
  refine qK hK HS ?_;clear hK K
  refine two_ (i:=4) (j:=8) (Ni:=some 20) (Nj:=some 8) (YteknaofnageihaaLoc.bm 11 31) (YteknaofnageihaaLoc.bm 11 271) rfl rfl rfl rfl (two_of HT_.out kz) (by decide) (by decide) (fun K hK=>?_) (fun K hK=>?_)
  ·refine goes_ Try.func111 kz rfl #[.agg #[.int .i64 c0,.int .i64 c1,.int .i64 c2,.int .i64 c3,.int .i64 c4],vc,.slice As sd.length ks] rz rfl rfl am ?_
   refine (put_calls c0 c1 c2 c3 c4 G.out.1 _ vc b2_ b4_ As ks sd _ _ HBc.out HN.out S0.out (Kd.C_below HD.out HL.out.bel) hks hl).mono ?_
   rintro e w9_ ⟨vr,r,rb,rfl,hr_,sr_,hb_,hk_⟩
   refine ⟨_,rfl,?_⟩
   obtain ⟨B2,j2,B4,j4,rfl,g2_,gk2_,g4_,gk4_⟩:=hr_.mono (ok':=fun k_=>True) (fun k_ h_=>trivial)
   have HX:=mk_ (show Txf w9_ (fun k_=>True) r (.agg #[.int .i64 r.a0,.int .i64 r.a1,.slice B2 r.fl.length j2,.int .i64 r.a3,.slice B4 r.q.length j4,.bool r.a5,.int .i64 r.a6,.bool r.a7,.int .i64 r.a8,.bool r.a9]) from ⟨B2,j2,B4,j4,rfl,g2_,gk2_,g4_,gk4_⟩)
   clear g2_ gk2_ g4_ gk4_
   replace HS:=mk_ (Lok_kept HS.out (below_step HB0.out hb_) hk_ (HN.out.ne4 HS.out (by rfl)))
   replace HL:=mk_ (Lok_kept HL.out (below_step HB0.out hb_) hk_ (HN.out.ne4 HL.out (by rfl)))
   have SR:=mk_ sr_
   clear hr_ sr_ hb_ hk_ HN HBc HB0
   refine qK hK HS ?_;clear hK K
   refine qA 5 15 63 HT_ ?_
   refine qA 6 21 127 HT_ ?_
   refine qA 7 22 255 HT_ ?_
   refine qO 8 (some 8) 511 HT_ (fun K hK=>?_)
   refine alloc_step (by rfl) rfl rfl tz69 HL.out ?_
   intro gb8 w9_ HL_ hb_ hg_
   replace HX:=mk_ (HX.out.new hb_ hg_)
   replace HS:=mk_ (HS.out.call hb_)
   replace HL:=mk_ HL_
   clear HL_ hb_ hg_
   refine qK hK HS ?_;clear hK K
   refine qE 9 none 1023 HT_ (fun K hK=>?_)
   refine store_step (by rfl) rfl rfl rfl gz kz kz HL.out pz ?_
   intro w9_ HL_ hs_ hf_
   replace HL:=mk_ HL_
   replace HX:=mk_ (HX.out.step (fun j_ h_ _=>hf_ j_ (by first|exact h_.2|exact h_.1.2)))
   clear HL_ hs_ hf_
   refine hK.out _ _ ?_;clear hK K
   refine qA 10 9 2047 HT_ ?_
   refine qF HT_ ?_
   clear HT_ HW_ HS
   go_wp2_with (first|((with_reducible refine gate_gd rfl ?_);first|((with_reducible refine gd_on rfl ?_ ?_);rfl;dsimp only)|((with_reducible refine gd_off rfl ?_ ?_);rfl))|((with_reducible refine gate_dst (N:=24) rfl ?_);(with_reducible refine gate_callee (f:=112) rfl ?_);refine goesL_ (some 24) rfl rfl Try.func112 kz rfl #[.agg #[.int .i64 r.a0,.int .i64 r.a1,.slice B2 r.fl.length j2,.int .i64 r.a3,.slice B4 r.q.length j4,.bool r.a5,.int .i64 r.a6,.bool r.a7,.int .i64 r.a8,.bool r.a9]] rfl am ?_;(refine (copy_calls r _ _ HX.out.r SR.out).mono ?_);rintro e w_ ⟨vd,d2_,d4_,rfl,hn_,hb_⟩;have LT6:=mk_ (blk_lt (HL.out.blk (g:=gb6) hz));have LTB:=mk_ HL.out.bel.size;obtain ⟨D2,l2,D4,l4,hvd,e2_,e4_,n2_,n4_⟩:=hn_;subst hvd;have HY:=mk_ (show Txn w_ _ r (.agg #[.int .i64 r.a0,.int .i64 r.a1,.slice D2 r.fl.length l2,.int .i64 r.a3,.slice D4 r.q.length l4,.bool r.a5,.int .i64 r.a6,.bool r.a7,.int .i64 r.a8,.bool r.a9]) d2_ d4_ from ⟨D2,l2,D4,l4,rfl,e2_,e4_,n2_,n4_⟩);clear e2_ e4_ n2_ n4_;refine ⟨_,rfl,?_⟩;replace HL:=mk_ (HL.out.call hb_);clear hb_)|((with_reducible refine gate_ld0 (t:=69) rfl ?_);refine loc_load (n:=10) rfl rfl kz rfl kz HL.out sz ?_)|((with_reducible refine gate_ld0 rfl ?_);refine loc_load1 rfl rfl kz rfl HL.out sz ?_)|((with_reducible refine gate_st0 rfl ?_);refine tx_store rfl rfl rfl gz kz kz HL.out pz ?_;intro w_ HL_ hs_ hf_;replace HL:=mk_ HL_;replace HY:=mk_ (HY.out.far LT6.out hf_);clear HL_ hs_ hf_))
   refine bodyPost_ret (results_list (rs:=[.cell 6 69,.tmp 7]) rfl (by simp) (.cell _ 69 _ (0,0) _ rfl (HL.out.blk hz) Try.underlying69 rfl kz (.tmp .nil))) rfl ?_
   exact mkTxB r _ _ ez (HY.out.lower LTB.out) SR.out HL.out.bel
  ·refine alloc_step (by rfl) rfl rfl tz69 HL.out ?_
   intro gb8 w9_ HL_ hb_ hg_
   replace HN:=mk_ (HN.out.below hb_)
   replace HBc:=mk_ (below_step HBc.out hb_)
   replace HS:=mk_ (HS.out.call hb_)
   replace HL:=mk_ HL_
   clear HL_ hb_ hg_
   refine qK hK HS ?_;clear hK K
   refine qO 4 (some 20) 287 HT_ (fun K hK=>?_)
   refine goes_ Try.func111 kz rfl #[.agg #[.int .i64 c0,.int .i64 c1,.int .i64 c2,.int .i64 c3,.int .i64 c4],vc,.slice As sd.length ks] rz rfl rfl am ?_
   refine (put_calls c0 c1 c2 c3 c4 G.out.1 _ vc b2_ b4_ As ks sd _ _ HBc.out HN.out S0.out (Kd.C_below HD.out HL.out.bel) hks hl).mono ?_
   rintro e w9_ ⟨vr,r,rb,rfl,hr_,sr_,hb_,hk_⟩
   refine ⟨_,rfl,?_⟩
   obtain ⟨B2,j2,B4,j4,rfl,g2_,gk2_,g4_,gk4_⟩:=hr_.mono (ok':=fun k_=>(True∧k_≠gb8)) (fun k_ h_=>⟨trivial,ty_ne HL.out (g:=gb8) hz (by decide) h_⟩)
   have HX:=mk_ (show Txf w9_ (fun k_=>(True∧k_≠gb8)) r (.agg #[.int .i64 r.a0,.int .i64 r.a1,.slice B2 r.fl.length j2,.int .i64 r.a3,.slice B4 r.q.length j4,.bool r.a5,.int .i64 r.a6,.bool r.a7,.int .i64 r.a8,.bool r.a9]) from ⟨B2,j2,B4,j4,rfl,g2_,gk2_,g4_,gk4_⟩)
   clear g2_ gk2_ g4_ gk4_
   replace HS:=mk_ (Lok_kept HS.out (below_step HB0.out hb_) hk_ (HN.out.ne4 HS.out (by rfl)))
   replace HL:=mk_ (Lok_kept HL.out (below_step HB0.out hb_) hk_ (HN.out.ne4 HL.out (by rfl)))
   have SR:=mk_ sr_
   clear hr_ sr_ hb_ hk_ HN HBc HB0
   refine qK hK HS ?_;clear hK K
   refine qA 5 15 319 HT_ ?_
   refine qA 6 21 383 HT_ ?_
   refine qA 7 22 511 HT_ ?_
   refine qE 9 none 1023 HT_ (fun K hK=>?_)
   refine store_step (by rfl) rfl rfl rfl gz kz kz HL.out pz ?_
   intro w9_ HL_ hs_ hf_
   replace HL:=mk_ HL_
   replace HX:=mk_ (HX.out.step (fun j_ h_ _=>hf_ j_ (by first|exact h_.2|exact h_.1.2)))
   clear HL_ hs_ hf_
   refine hK.out _ _ ?_;clear hK K
   refine qA 10 9 2047 HT_ ?_
   refine qF HT_ ?_
   clear HT_ HW_ HS
   go_wp2_with (first|((with_reducible refine gate_gd rfl ?_);first|((with_reducible refine gd_on rfl ?_ ?_);rfl;dsimp only)|((with_reducible refine gd_off rfl ?_ ?_);rfl))|((with_reducible refine gate_dst (N:=24) rfl ?_);(with_reducible refine gate_callee (f:=112) rfl ?_);refine goesL_ (some 24) rfl rfl Try.func112 kz rfl #[.agg #[.int .i64 r.a0,.int .i64 r.a1,.slice B2 r.fl.length j2,.int .i64 r.a3,.slice B4 r.q.length j4,.bool r.a5,.int .i64 r.a6,.bool r.a7,.int .i64 r.a8,.bool r.a9]] rfl am ?_;(refine (copy_calls r _ _ HX.out.r SR.out).mono ?_);rintro e w_ ⟨vd,d2_,d4_,rfl,hn_,hb_⟩;have LT6:=mk_ (blk_lt (HL.out.blk (g:=gb6) hz));have LTB:=mk_ HL.out.bel.size;obtain ⟨D2,l2,D4,l4,hvd,e2_,e4_,n2_,n4_⟩:=hn_;subst hvd;have HY:=mk_ (show Txn w_ _ r (.agg #[.int .i64 r.a0,.int .i64 r.a1,.slice D2 r.fl.length l2,.int .i64 r.a3,.slice D4 r.q.length l4,.bool r.a5,.int .i64 r.a6,.bool r.a7,.int .i64 r.a8,.bool r.a9]) d2_ d4_ from ⟨D2,l2,D4,l4,rfl,e2_,e4_,n2_,n4_⟩);clear e2_ e4_ n2_ n4_;refine ⟨_,rfl,?_⟩;replace HL:=mk_ (HL.out.call hb_);clear hb_)|((with_reducible refine gate_ld0 (t:=69) rfl ?_);refine loc_load (n:=10) rfl rfl kz rfl kz HL.out sz ?_)|((with_reducible refine gate_ld0 rfl ?_);refine loc_load1 rfl rfl kz rfl HL.out sz ?_)|((with_reducible refine gate_st0 rfl ?_);refine tx_store rfl rfl rfl gz kz kz HL.out pz ?_;intro w_ HL_ hs_ hf_;replace HL:=mk_ HL_;replace HY:=mk_ (HY.out.far LT6.out hf_);clear HL_ hs_ hf_))
   refine bodyPost_ret (results_list (rs:=[.cell 6 69,.tmp 7]) rfl (by simp) (.cell _ 69 _ (0,0) _ rfl (HL.out.blk hz) Try.underlying69 rfl kz (.tmp .nil))) rfl ?_
   exact mkTxB r _ _ ez (HY.out.lower LTB.out) SR.out HL.out.bel
 ·refine alloc_step (by rfl) rfl rfl tz69 HL.out ?_
  intro gb8 w9_ HL_ hb_ hg_
  replace HS:=mk_ (HS.out.call hb_)
  replace HL:=mk_ HL_
  clear HL_ hb_ hg_
  refine qK hK HS ?_;clear hK K
  refine qO 2 (some 18) 271 HT_ (fun K hK=>?_)
  refine goes_ Try.func112 kz rfl #[.agg #[.int .i64 t0,.int .i64 t1,.slice A2 fl.length k2,.int .i64 t3,.slice A4 q.length k4,.bool t5,.int .i64 t6,.bool t7,.int .i64 t8,.bool t9]] rz rfl rfl am ?_
  refine (copy_calls _ _ _ (HT.out.below HL.out.bel) S0.out).mono ?_
  rintro e w9_ ⟨vc,b2_,b4_,rfl,hn_,hb_⟩
  have HN:=mk_ hn_
  have HBc:=mk_ hb_
  have HB0:=mk_ HL.out.bel
  clear hn_
  refine ⟨_,rfl,?_⟩
  replace HL:=mk_ (HL.out.call hb_)
  replace HS:=mk_ (HS.out.call hb_)
  clear hb_
  refine qK hK HS ?_;clear hK K
  refine qO 4 (some 20) 287 HT_ (fun K hK=>?_)
  refine goes_ Try.func111 kz rfl #[.agg #[.int .i64 c0,.int .i64 c1,.int .i64 c2,.int .i64 c3,.int .i64 c4],vc,.slice As sd.length ks] rz rfl rfl am ?_
  refine (put_calls c0 c1 c2 c3 c4 G.out.1 _ vc b2_ b4_ As ks sd _ _ HBc.out HN.out S0.out (Kd.C_below HD.out HL.out.bel) hks hl).mono ?_
  rintro e w9_ ⟨vr,r,rb,rfl,hr_,sr_,hb_,hk_⟩
  refine ⟨_,rfl,?_⟩
  obtain ⟨B2,j2,B4,j4,rfl,g2_,gk2_,g4_,gk4_⟩:=hr_.mono (ok':=fun k_=>(True∧k_≠gb8)) (fun k_ h_=>⟨trivial,ty_ne HL.out (g:=gb8) hz (by decide) h_⟩)
  have HX:=mk_ (show Txf w9_ (fun k_=>(True∧k_≠gb8)) r (.agg #[.int .i64 r.a0,.int .i64 r.a1,.slice B2 r.fl.length j2,.int .i64 r.a3,.slice B4 r.q.length j4,.bool r.a5,.int .i64 r.a6,.bool r.a7,.int .i64 r.a8,.bool r.a9]) from ⟨B2,j2,B4,j4,rfl,g2_,gk2_,g4_,gk4_⟩)
  clear g2_ gk2_ g4_ gk4_
  replace HS:=mk_ (Lok_kept HS.out (below_step HB0.out hb_) hk_ (HN.out.ne4 HS.out (by rfl)))
  replace HL:=mk_ (Lok_kept HL.out (below_step HB0.out hb_) hk_ (HN.out.ne4 HL.out (by rfl)))
  have SR:=mk_ sr_
  clear hr_ sr_ hb_ hk_ HN HBc HB0
  refine qK hK HS ?_;clear hK K
  refine qA 5 15 319 HT_ ?_
  refine qA 6 21 383 HT_ ?_
  refine qA 7 22 511 HT_ ?_
  refine qE 9 none 1023 HT_ (fun K hK=>?_)
  refine store_step (by rfl) rfl rfl rfl gz kz kz HL.out pz ?_
  intro w9_ HL_ hs_ hf_
  replace HL:=mk_ HL_
  replace HX:=mk_ (HX.out.step (fun j_ h_ _=>hf_ j_ (by first|exact h_.2|exact h_.1.2)))
  clear HL_ hs_ hf_
  refine hK.out _ _ ?_;clear hK K
  refine qA 10 9 2047 HT_ ?_
  refine qF HT_ ?_
  clear HT_ HW_ HS
  go_wp2_with (first|((with_reducible refine gate_gd rfl ?_);first|((with_reducible refine gd_on rfl ?_ ?_);rfl;dsimp only)|((with_reducible refine gd_off rfl ?_ ?_);rfl))|((with_reducible refine gate_dst (N:=24) rfl ?_);(with_reducible refine gate_callee (f:=112) rfl ?_);refine goesL_ (some 24) rfl rfl Try.func112 kz rfl #[.agg #[.int .i64 r.a0,.int .i64 r.a1,.slice B2 r.fl.length j2,.int .i64 r.a3,.slice B4 r.q.length j4,.bool r.a5,.int .i64 r.a6,.bool r.a7,.int .i64 r.a8,.bool r.a9]] rfl am ?_;(refine (copy_calls r _ _ HX.out.r SR.out).mono ?_);rintro e w_ ⟨vd,d2_,d4_,rfl,hn_,hb_⟩;have LT6:=mk_ (blk_lt (HL.out.blk (g:=gb6) hz));have LTB:=mk_ HL.out.bel.size;obtain ⟨D2,l2,D4,l4,hvd,e2_,e4_,n2_,n4_⟩:=hn_;subst hvd;have HY:=mk_ (show Txn w_ _ r (.agg #[.int .i64 r.a0,.int .i64 r.a1,.slice D2 r.fl.length l2,.int .i64 r.a3,.slice D4 r.q.length l4,.bool r.a5,.int .i64 r.a6,.bool r.a7,.int .i64 r.a8,.bool r.a9]) d2_ d4_ from ⟨D2,l2,D4,l4,rfl,e2_,e4_,n2_,n4_⟩);clear e2_ e4_ n2_ n4_;refine ⟨_,rfl,?_⟩;replace HL:=mk_ (HL.out.call hb_);clear hb_)|((with_reducible refine gate_ld0 (t:=69) rfl ?_);refine loc_load (n:=10) rfl rfl kz rfl kz HL.out sz ?_)|((with_reducible refine gate_ld0 rfl ?_);refine loc_load1 rfl rfl kz rfl HL.out sz ?_)|((with_reducible refine gate_st0 rfl ?_);refine tx_store rfl rfl rfl gz kz kz HL.out pz ?_;intro w_ HL_ hs_ hf_;replace HL:=mk_ HL_;replace HY:=mk_ (HY.out.far LT6.out hf_);clear HL_ hs_ hf_))
  refine bodyPost_ret (results_list (rs:=[.cell 6 69,.tmp 7]) rfl (by simp) (.cell _ 69 _ (0,0) _ rfl (HL.out.blk hz) Try.underlying69 rfl kz (.tmp .nil))) rfl ?_
  exact mkTxB r _ _ ez (HY.out.lower LTB.out) SR.out HL.out.bel
end Go.Proofs.Yteknaofnageihaa.QFnTxOk
