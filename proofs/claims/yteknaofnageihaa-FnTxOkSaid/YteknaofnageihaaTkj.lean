-- Texts by hand for FnTxLeft, FnTxOk.
import Derived.Test.YteknaofnageihaaTki
import Derived.Test.YteknaofnageihaaTkt
import Derived.Test.YteknaofnageihaaQFnTxOkx11
import Derived.Test.YteknaofnageihaaQFnTxOkx19
namespace Go.Proofs.Yteknaofnageihaa.QFnTxOk
open Go.RowKit Go.Proofs.YteknaofnageihaaW.PrintWords Go.Proofs.YteknaofnageihaaW.PrintLast Go.Proofs.YteknaofnageihaaW.PrintMore Go.Proofs.YteknaofnageihaaLoc
attribute [local go_sem] max2_int min2_int max_two min_two max_three min_three max_four min_four   -- for this text's walks alone
set_option linter.unusedVariables false
set_option linter.unusedSimpArgs false
open Go.Proofs.Yteknaofnageihaa.Pure
def fx103.T3:Bool × List (List Nat × List Nat):=(true,[([],[]),([],[]),([1],[1]),([],[]),([0,2,3,2],[0,2,3]),([4],[4]),([5],[5]),([5],[5]),([5],[5]),([],[]),([],[]),([9,6,4,0,1,2,3,4,5,6,9,10],[6,9]),([10,7,11,0,1,2,3,4,5,6,7,9,10,11],[7,10]),([8,12,0,1,2,3,4,5,6,7,8,9,10,11,12],[8])])
def fx103.B3:List Nat:=[0,0,2,0,15,31,63,63,63,0,0,1663,3839,8191]
theorem fx103.tab3:rtab .any (opsOf Try.f103 3)=fx103.T3:=by kernel_rfl
theorem fx103.bits3:waitsOk fx103.T3.2 fx103.B3=true:=by kernel_rfl
def fx103.T4:Bool × List (List Nat × List Nat):=(true,[([],[]),([0],[0]),([],[]),([],[]),([1,1,0,1],[1]),([2,4,0,1,2,4],[2]),([3,5,0,1,2,3,4,5],[3])])
def fx103.B4:List Nat:=[0,1,0,0,3,23,63]
theorem fx103.tab4:rtab .any (opsOf Try.f103 4)=fx103.T4:=by kernel_rfl
theorem fx103.bits4:waitsOk fx103.T4.2 fx103.B4=true:=by kernel_rfl
set_option maxHeartbeats 60000000 in
set_option maxRecDepth 100000 in
theorem txsend_calls (t:Tx) (v:Value) (c0 c1 c2 c3 c4:Int) (w:World) (ht:Txr w t v) (hs:Sm t):Calls Try.prog 103 #[.agg #[.int .i64 c0,.int .i64 c1,.int .i64 c2,.int .i64 c3,.int .i64 c4],v,.int .i64 0] w (TxFE w):=by
 obtain ⟨t0,t1,fl,t3,q,t5,t6,t7,t8,t9⟩:=t
 obtain ⟨A2,k2,A4,k4,rfl,h2,hk2,h4,hk4⟩:=ht
 dsimp only at h2 hk2 h4 hk4 ⊢
 have H2:=mk_ h2
 have K2:=mk_ hk2
 have H4:=mk_ h4
 have K4:=mk_ hk4
 clear h2 hk2 h4 hk4
 have HL:=mk_ (Lok.start w)
 obtain ⟨k1,b,hok,hg⟩:=p_ok c0 c1 c2 c3 c4 _ hs
 have POK:=mk_ hok
 have S0:=mk_ hs
 clear hs hok
 cases b
 ·go_enter Try.func103,Try.ntmps103
  go_wp2_with (first|((with_reducible refine gate_gd rfl ?_);first|((with_reducible refine gd_on rfl ?_ ?_);rfl;dsimp only)|((with_reducible refine gd_off rfl ?_ ?_);rfl))|((with_reducible refine gate_dst (N:=14) rfl ?_);(with_reducible refine gate_callee (f:=48) rfl ?_);refine goesL_ (some 14) rfl rfl Try.func48 kz rfl #[.agg #[.int .i64 c0,.int .i64 c1,.int .i64 c2,.int .i64 c3,.int .i64 c4],.agg #[.int .i64 t0,.int .i64 t1,.slice A2 fl.length k2,.int .i64 t3,.slice A4 q.length k4,.bool t5,.int .i64 t6,.bool t7,.int .i64 t8,.bool t9]] rfl am ?_;(with_reducible refine (spec_TxOk.calls k1 c0 c1 c2 c3 c4 t0 t1 A2 k2 fl t3 A4 k4 q t5 t6 t7 t8 t9 _ _ (Kd.C_below H2.out HL.out.bel) K2.out (Kd.C_below H4.out HL.out.bel) K4.out POK.out).mono ?_);rintro e w_ ⟨rfl,hb_⟩;refine ⟨_,rfl,?_⟩;replace HL:=mk_ (HL.out.call hb_);clear hb_)|((with_reducible refine gate_dst (N:=18) rfl ?_);(with_reducible refine gate_callee (f:=64) rfl ?_);refine goesL_ (some 18) rfl rfl Try.func64 kz rfl #[.int .i64 0,.int .i64 0,.int .i64 7] rfl am ?_;(with_reducible refine (spec_l1In.calls 0 0 7 true _ rfl).mono ?_);rintro e w_ ⟨rfl,hb_⟩;refine ⟨_,rfl,?_⟩;replace HL:=mk_ (HL.out.call hb_.below);clear hb_)|((with_reducible refine gate_dst (N:=3) rfl ?_);refine loc_box rfl rfl gz HL.out ?_;intro gb3 w_ HL_;replace HL:=mk_ HL_;clear HL_)|((with_reducible refine gate_dst (N:=4) rfl ?_);refine loc_box rfl rfl gz HL.out ?_;intro gb4 w_ HL_;replace HL:=mk_ HL_;clear HL_)|((with_reducible refine gate_dst (N:=6) rfl ?_);refine loc_alloc rfl rfl tz69 HL.out ?_;intro gb6 w_ HL_;replace HL:=mk_ HL_;clear HL_)|((with_reducible refine gate_dst (N:=7) rfl ?_);refine loc_alloc rfl rfl tz102 HL.out ?_;intro gb7 w_ HL_;replace HL:=mk_ HL_;clear HL_)|((with_reducible refine gate_ld0 (t:=69) rfl ?_);refine loc_load (n:=10) rfl rfl kz rfl kz HL.out sz ?_)|((with_reducible refine gate_ld0 (t:=66) rfl ?_);refine loc_load (n:=5) rfl rfl kz rfl kz HL.out sz ?_)|((with_reducible refine gate_ld0 (t:=102) rfl ?_);refine loc_load (n:=9) rfl rfl kz rfl kz HL.out sz ?_)|((with_reducible refine gate_ld0 rfl ?_);refine loc_load1 rfl rfl kz rfl HL.out sz ?_)|((with_reducible refine gate_st0 rfl ?_);refine loc_store rfl rfl rfl gz kz kz HL.out pz ?_;intro w_ HL_;replace HL:=mk_ HL_;clear HL_))
  refine bodyPost_ret (results_list (rs:=[.cell 6 69,.cell 7 102,.tmp 8]) rfl (by simp) (.cell _ 69 _ (0,0) _ rfl (HL.out.blk hz) Try.underlying69 rfl kz (.cell _ 102 _ (0,0) _ rfl (HL.out.blk hz) Try.underlying102 rfl kz (.tmp .nil)))) rfl ?_
  exact mkTxFE ⟨0,0,[],0,[],false,0,false,0,false⟩ _ _ _ ez (Txn_zero _ _) Sm_zero (mkFrv _ _ _ _ _ _ _ _ _ _ _) HL.out.bel
 have G:=mk_ (hg rfl)
 clear hg
 have HT:=mk_ (show Txr w ⟨t0,t1,fl,t3,q,t5,t6,t7,t8,t9⟩ (.agg #[.int .i64 t0,.int .i64 t1,.slice A2 fl.length k2,.int .i64 t3,.slice A4 q.length k4,.bool t5,.int .i64 t6,.bool t7,.int .i64 t8,.bool t9]) from ⟨A2,k2,A4,k4,rfl,H2.out,K2.out,H4.out,K4.out⟩)
 go_enter Try.func103,Try.ntmps103
 go_upto_region 3 with (first|((with_reducible refine gate_gd rfl ?_);first|((with_reducible refine gd_on rfl ?_ ?_);rfl;dsimp only)|((with_reducible refine gd_off rfl ?_ ?_);rfl))|((with_reducible refine gate_dst (N:=14) rfl ?_);(with_reducible refine gate_callee (f:=48) rfl ?_);refine goesL_ (some 14) rfl rfl Try.func48 kz rfl #[.agg #[.int .i64 c0,.int .i64 c1,.int .i64 c2,.int .i64 c3,.int .i64 c4],.agg #[.int .i64 t0,.int .i64 t1,.slice A2 fl.length k2,.int .i64 t3,.slice A4 q.length k4,.bool t5,.int .i64 t6,.bool t7,.int .i64 t8,.bool t9]] rfl am ?_;(with_reducible refine (spec_TxOk.calls k1 c0 c1 c2 c3 c4 t0 t1 A2 k2 fl t3 A4 k4 q t5 t6 t7 t8 t9 _ _ (Kd.C_below H2.out HL.out.bel) K2.out (Kd.C_below H4.out HL.out.bel) K4.out POK.out).mono ?_);rintro e w_ ⟨rfl,hb_⟩;refine ⟨_,rfl,?_⟩;replace HL:=mk_ (HL.out.call hb_);clear hb_)|((with_reducible refine gate_dst (N:=18) rfl ?_);(with_reducible refine gate_callee (f:=64) rfl ?_);refine goesL_ (some 18) rfl rfl Try.func64 kz rfl #[.int .i64 0,.int .i64 0,.int .i64 7] rfl am ?_;(with_reducible refine (spec_l1In.calls 0 0 7 true _ rfl).mono ?_);rintro e w_ ⟨rfl,hb_⟩;refine ⟨_,rfl,?_⟩;replace HL:=mk_ (HL.out.call hb_.below);clear hb_)|((with_reducible refine gate_dst (N:=3) rfl ?_);refine loc_box rfl rfl gz HL.out ?_;intro gb3 w_ HL_;replace HL:=mk_ HL_;clear HL_)|((with_reducible refine gate_dst (N:=4) rfl ?_);refine loc_box rfl rfl gz HL.out ?_;intro gb4 w_ HL_;replace HL:=mk_ HL_;clear HL_)|((with_reducible refine gate_dst (N:=6) rfl ?_);refine loc_alloc rfl rfl tz69 HL.out ?_;intro gb6 w_ HL_;replace HL:=mk_ HL_;clear HL_)|((with_reducible refine gate_dst (N:=7) rfl ?_);refine loc_alloc rfl rfl tz102 HL.out ?_;intro gb7 w_ HL_;replace HL:=mk_ HL_;clear HL_)|((with_reducible refine gate_ld0 (t:=69) rfl ?_);refine loc_load (n:=10) rfl rfl kz rfl kz HL.out sz ?_)|((with_reducible refine gate_ld0 (t:=66) rfl ?_);refine loc_load (n:=5) rfl rfl kz rfl kz HL.out sz ?_)|((with_reducible refine gate_ld0 (t:=102) rfl ?_);refine loc_load (n:=9) rfl rfl kz rfl kz HL.out sz ?_)|((with_reducible refine gate_ld0 rfl ?_);refine loc_load1 rfl rfl kz rfl HL.out sz ?_)|((with_reducible refine gate_st0 rfl ?_);refine loc_store rfl rfl rfl gz kz kz HL.out pz ?_;intro w_ HL_;replace HL:=mk_ HL_;clear HL_))
 (try simp only [Act.put,List.setIfInBounds_toArray,List.set_cons_zero,List.set_cons_succ])
 go_cut [9,10,11] (fun vs vt vb wc=>∃ (gb9 gb10:Nat) (r:Tx) (B2:Option Addr) (j2:Nat) (B4:Option Addr) (j4:Nat) (f0 f1 f2:Int) (f3 f4:Bool) (f5 f6 f7:Int) (Af:Option Addr) (nf kf:Nat) (fb:Bool),vs=.pointer (some ⟨gb9,0,none⟩)∧vt=.pointer (some ⟨gb10,0,none⟩)∧vb=.bool fb∧Aside0 (Lok w wc [(gb9,[.int .i64 r.a0,.int .i64 r.a1,.slice B2 r.fl.length j2,.int .i64 r.a3,.slice B4 r.q.length j4,.bool r.a5,.int .i64 r.a6,.bool r.a7,.int .i64 r.a8,.bool r.a9],69),(gb10,[.int .i64 f0,.int .i64 f1,.int .i64 f2,.bool f3,.bool f4,.int .i64 f5,.int .i64 f6,.int .i64 f7,.slice Af nf kf],102),(gb6,[.int .i64 0,.int .i64 0,.slice none 0 0,.int .i64 0,.slice none 0 0,.bool false,.int .i64 0,.bool false,.int .i64 0,.bool false],69),(gb7,[.int .i64 0,.int .i64 0,.int .i64 0,.bool false,.bool false,.int .i64 0,.int .i64 0,.int .i64 0,.slice none 0 0],102)])∧Aside0 (Txr wc r (.agg #[.int .i64 r.a0,.int .i64 r.a1,.slice B2 r.fl.length j2,.int .i64 r.a3,.slice B4 r.q.length j4,.bool r.a5,.int .i64 r.a6,.bool r.a7,.int .i64 r.a8,.bool r.a9]))∧Aside0 (Sm r))
 case first =>
  refine start_ (n:=14) (S:=fun w'=>Lok w w' _) (ds:=[11,12]) (YteknaofnageihaaLoc.bm 14 0) kz rfl rfl HL.out.drew (fun hHeld=>?_)
  refine with_tabW fx103.tab3 fx103.bits3 (fun HT_ HW_=>?_)
  have HS:=mk_ hHeld
  clear hHeld
  replace HL:=mk_ HL.out.drew
  revert HS HL 
  generalize World.drew _=w8_
  intro HS HL 
  refine qL 0 24 1 5 HT_ HW_ HS ?_
  refine qL 1 25 3 10 HT_ HW_ HS ?_
  refine qA 3 27 11 HT_ ?_
  refine three_ (i:=2) (j:=9) (k:=10) (Ni:=some 26) (Nj:=some 9) (Nk:=some 10) (YteknaofnageihaaLoc.bm 14 15) (YteknaofnageihaaLoc.bm 14 523) (YteknaofnageihaaLoc.bm 14 1035) rfl rfl rfl rfl rfl rfl (three_of HT_.out kz) (by decide) (by decide) (by decide) (fun K hK=>?_) (fun K hK=>?_) (fun K hK=>?_)
  ·refine goes_ Try.func112 kz rfl #[.agg #[.int .i64 t0,.int .i64 t1,.slice A2 fl.length k2,.int .i64 t3,.slice A4 q.length k4,.bool t5,.int .i64 t6,.bool t7,.int .i64 t8,.bool t9]] rz rfl rfl am ?_
   refine (copy_calls _ _ _ (HT.out.below HL.out.bel) S0.out).mono ?_
   rintro e w9_ ⟨vc,b2_,b4_,rfl,hn_,hb_⟩
   have HN:=mk_ hn_
   have HBc:=mk_ hb_
   have HB0:=mk_ HL.out.bel
   clear hn_
   refine ⟨_,rfl,?_⟩
   replace HL:=mk_ (HL.out.call hb_)
   replace HS:=mk_ (HS.out.call hb_)
   clear hb_
   refine qK hK HS ?_;clear hK K
   refine three_ (i:=4) (j:=9) (k:=10) (Ni:=some 28) (Nj:=some 9) (Nk:=some 10) (YteknaofnageihaaLoc.bm 14 31) (YteknaofnageihaaLoc.bm 14 527) (YteknaofnageihaaLoc.bm 14 1039) rfl rfl rfl rfl rfl rfl (three_of HT_.out kz) (by decide) (by decide) (by decide) (fun K hK=>?_) (fun K hK=>?_) (fun K hK=>?_)
   ·refine goes_ Try.func113 kz rfl #[.agg #[.int .i64 c0,.int .i64 c1,.int .i64 c2,.int .i64 c3,.int .i64 c4],vc,.int .i64 0] rz rfl rfl am ?_
    refine (send_calls _ vc b2_ b4_ c0 c1 c2 c3 c4 _ _ HBc.out HN.out S0.out G.out.2.2.2.2.2.1 (by have h8:=G.out.2.1;have h9:=G.out.2.2.1;dsimp only at h8 h9 ⊢;omega)).mono ?_
    rintro e w9_ ⟨vr,r,vf,fb,rfl,hr_,sr_,⟨f0,f1,f2,f3,f4,f5,f6,f7,Af,nf,kf,rfl⟩,hb_,hk_⟩
    refine ⟨_,rfl,?_⟩
    obtain ⟨B2,j2,B4,j4,rfl,g2_,gk2_,g4_,gk4_⟩:=hr_.mono (ok':=fun k_=>True) (fun k_ h_=>trivial)
    have HX:=mk_ (show Txf w9_ (fun k_=>True) r (.agg #[.int .i64 r.a0,.int .i64 r.a1,.slice B2 r.fl.length j2,.int .i64 r.a3,.slice B4 r.q.length j4,.bool r.a5,.int .i64 r.a6,.bool r.a7,.int .i64 r.a8,.bool r.a9]) from ⟨B2,j2,B4,j4,rfl,g2_,gk2_,g4_,gk4_⟩)
    clear g2_ gk2_ g4_ gk4_
    replace HS:=mk_ (Lok_kept HS.out (below_step HB0.out hb_) hk_ (HN.out.ne2 HS.out (by rfl)))
    replace HL:=mk_ (Lok_kept HL.out (below_step HB0.out hb_) hk_ (HN.out.ne2 HL.out (by rfl)))
    have SR:=mk_ sr_
    clear hr_ sr_ hb_ hk_ HN HBc HB0
    refine qK hK HS ?_;clear hK K
    refine qA 5 23 63 HT_ ?_
    refine qA 6 29 127 HT_ ?_
    refine qA 7 30 255 HT_ ?_
    refine qA 8 31 511 HT_ ?_
    refine two_ (i:=9) (j:=10) (Ni:=some 9) (Nj:=some 10) (YteknaofnageihaaLoc.bm 14 1023) (YteknaofnageihaaLoc.bm 14 1535) rfl rfl rfl rfl (two_of HT_.out kz) (by decide) (by decide) (fun K hK=>?_) (fun K hK=>?_)
    ·refine alloc_step (by rfl) rfl rfl tz69 HL.out ?_
     intro gb9 w9_ HL_ hb_ hg_
     replace HX:=mk_ (HX.out.new hb_ hg_)
     replace HS:=mk_ (HS.out.call hb_)
     replace HL:=mk_ HL_
     clear HL_ hb_ hg_
     refine qK hK HS ?_;clear hK K
     refine qO 10 (some 10) 2047 HT_ (fun K hK=>?_)
     refine alloc_step (by rfl) rfl rfl tz102 HL.out ?_
     intro gb10 w9_ HL_ hb_ hg_
     replace HX:=mk_ (HX.out.new hb_ hg_)
     replace HS:=mk_ (HS.out.call hb_)
     replace HL:=mk_ HL_
     clear HL_ hb_ hg_
     refine qK hK HS ?_;clear hK K
     refine qE 11 none 4095 HT_ (fun K hK=>?_)
     refine store_step (by rfl) rfl rfl rfl gz kz kz HL.out pz ?_
     intro w9_ HL_ hs_ hf_
     replace HL:=mk_ HL_
     replace HX:=mk_ (HX.out.step (fun j_ h_ _=>hf_ j_ (by first|exact h_.2|exact h_.1.2)))
     clear HL_ hs_ hf_
     refine hK.out _ _ ?_;clear hK K
     refine qE 12 none 8191 HT_ (fun K hK=>?_)
     refine store_step (by rfl) rfl rfl rfl gz kz kz HL.out pz ?_
     intro w9_ HL_ hs_ hf_
     replace HL:=mk_ HL_
     replace HX:=mk_ (HX.out.step (fun j_ h_ _=>hf_ j_ (by first|exact h_.2|exact h_.1.2)))
     clear HL_ hs_ hf_
     refine hK.out _ _ ?_;clear hK K
     refine qA 13 11 16383 HT_ ?_
     refine qF HT_ ?_
     clear HT_ HW_ HS
     try go_wp2
     go_meet
     case rel=>exact ⟨gb9,gb10,r,B2,j2,B4,j4,f0,f1,f2,f3,f4,f5,f6,f7,Af,nf,kf,fb,rfl,rfl,rfl,⟨Lok_four HL.out hz hz hz hz (nz HL.out)⟩,⟨HX.out.r⟩,⟨SR.out⟩⟩
    ·refine alloc_step (by rfl) rfl rfl tz102 HL.out ?_
     intro gb10 w9_ HL_ hb_ hg_
     replace HX:=mk_ (HX.out.new hb_ hg_)
     replace HS:=mk_ (HS.out.call hb_)
     replace HL:=mk_ HL_
     clear HL_ hb_ hg_
     refine qK hK HS ?_;clear hK K
     refine qO 9 (some 9) 2047 HT_ (fun K hK=>?_)
     refine alloc_step (by rfl) rfl rfl tz69 HL.out ?_
     intro gb9 w9_ HL_ hb_ hg_
     replace HX:=mk_ (HX.out.new hb_ hg_)
     replace HS:=mk_ (HS.out.call hb_)
     replace HL:=mk_ HL_
     clear HL_ hb_ hg_
     refine qK hK HS ?_;clear hK K
     refine qE 11 none 4095 HT_ (fun K hK=>?_)
     refine store_step (by rfl) rfl rfl rfl gz kz kz HL.out pz ?_
     intro w9_ HL_ hs_ hf_
     replace HL:=mk_ HL_
     replace HX:=mk_ (HX.out.step (fun j_ h_ _=>hf_ j_ (by first|exact h_.2|exact h_.1.2)))
     clear HL_ hs_ hf_
     refine hK.out _ _ ?_;clear hK K
     refine qE 12 none 8191 HT_ (fun K hK=>?_)
     refine store_step (by rfl) rfl rfl rfl gz kz kz HL.out pz ?_
     intro w9_ HL_ hs_ hf_
     replace HL:=mk_ HL_
     replace HX:=mk_ (HX.out.step (fun j_ h_ _=>hf_ j_ (by first|exact h_.2|exact h_.1.2)))
     clear HL_ hs_ hf_
     refine hK.out _ _ ?_;clear hK K
     refine qA 13 11 16383 HT_ ?_
     refine qF HT_ ?_
     clear HT_ HW_ HS
     try go_wp2
     go_meet
     case rel=>exact ⟨gb9,gb10,r,B2,j2,B4,j4,f0,f1,f2,f3,f4,f5,f6,f7,Af,nf,kf,fb,rfl,rfl,rfl,⟨Lok_four HL.out hz hz hz hz (nz HL.out)⟩,⟨HX.out.r⟩,⟨SR.out⟩⟩
   ·refine alloc_step (by rfl) rfl rfl tz69 HL.out ?_
    intro gb9 w9_ HL_ hb_ hg_
    replace HN:=mk_ (HN.out.below hb_)
    replace HBc:=mk_ (below_step HBc.out hb_)
    replace HS:=mk_ (HS.out.call hb_)
    replace HL:=mk_ HL_
    clear HL_ hb_ hg_
    refine qK hK HS ?_;clear hK K
    refine two_ (i:=4) (j:=10) (Ni:=some 28) (Nj:=some 10) (YteknaofnageihaaLoc.bm 14 543) (YteknaofnageihaaLoc.bm 14 1551) rfl rfl rfl rfl (two_of HT_.out kz) (by decide) (by decide) (fun K hK=>?_) (fun K hK=>?_)
    ·refine goes_ Try.func113 kz rfl #[.agg #[.int .i64 c0,.int .i64 c1,.int .i64 c2,.int .i64 c3,.int .i64 c4],vc,.int .i64 0] rz rfl rfl am ?_
     refine (send_calls _ vc b2_ b4_ c0 c1 c2 c3 c4 _ _ HBc.out HN.out S0.out G.out.2.2.2.2.2.1 (by have h8:=G.out.2.1;have h9:=G.out.2.2.1;dsimp only at h8 h9 ⊢;omega)).mono ?_
     rintro e w9_ ⟨vr,r,vf,fb,rfl,hr_,sr_,⟨f0,f1,f2,f3,f4,f5,f6,f7,Af,nf,kf,rfl⟩,hb_,hk_⟩
     refine ⟨_,rfl,?_⟩
     obtain ⟨B2,j2,B4,j4,rfl,g2_,gk2_,g4_,gk4_⟩:=hr_.mono (ok':=fun k_=>(True∧k_≠gb9)) (fun k_ h_=>⟨trivial,ty_ne HL.out (g:=gb9) hz (by decide) h_⟩)
     have HX:=mk_ (show Txf w9_ (fun k_=>(True∧k_≠gb9)) r (.agg #[.int .i64 r.a0,.int .i64 r.a1,.slice B2 r.fl.length j2,.int .i64 r.a3,.slice B4 r.q.length j4,.bool r.a5,.int .i64 r.a6,.bool r.a7,.int .i64 r.a8,.bool r.a9]) from ⟨B2,j2,B4,j4,rfl,g2_,gk2_,g4_,gk4_⟩)
     clear g2_ gk2_ g4_ gk4_
     replace HS:=mk_ (Lok_kept HS.out (below_step HB0.out hb_) hk_ (HN.out.ne2 HS.out (by rfl)))
     replace HL:=mk_ (Lok_kept HL.out (below_step HB0.out hb_) hk_ (HN.out.ne2 HL.out (by rfl)))
     have SR:=mk_ sr_
     clear hr_ sr_ hb_ hk_ HN HBc HB0
     refine qK hK HS ?_;clear hK K
     refine qA 5 23 575 HT_ ?_
     refine qA 6 29 639 HT_ ?_
     refine qA 7 30 767 HT_ ?_
     refine qA 8 31 1023 HT_ ?_
     refine qO 10 (some 10) 2047 HT_ (fun K hK=>?_)
     refine alloc_step (by rfl) rfl rfl tz102 HL.out ?_
     intro gb10 w9_ HL_ hb_ hg_
     replace HX:=mk_ (HX.out.new hb_ hg_)
     replace HS:=mk_ (HS.out.call hb_)
     replace HL:=mk_ HL_
     clear HL_ hb_ hg_
     refine qK hK HS ?_;clear hK K
     refine qE 11 none 4095 HT_ (fun K hK=>?_)
     refine store_step (by rfl) rfl rfl rfl gz kz kz HL.out pz ?_
     intro w9_ HL_ hs_ hf_
     replace HL:=mk_ HL_
     replace HX:=mk_ (HX.out.step (fun j_ h_ _=>hf_ j_ (by first|exact h_.2|exact h_.1.2)))
     clear HL_ hs_ hf_
     refine hK.out _ _ ?_;clear hK K
     refine qE 12 none 8191 HT_ (fun K hK=>?_)
     refine store_step (by rfl) rfl rfl rfl gz kz kz HL.out pz ?_
     intro w9_ HL_ hs_ hf_
     replace HL:=mk_ HL_
     replace HX:=mk_ (HX.out.step (fun j_ h_ _=>hf_ j_ (by first|exact h_.2|exact h_.1.2)))
     clear HL_ hs_ hf_
     refine hK.out _ _ ?_;clear hK K
     refine qA 13 11 16383 HT_ ?_
     refine qF HT_ ?_
     clear HT_ HW_ HS
     try go_wp2
     go_meet
     case rel=>exact ⟨gb9,gb10,r,B2,j2,B4,j4,f0,f1,f2,f3,f4,f5,f6,f7,Af,nf,kf,fb,rfl,rfl,rfl,⟨Lok_four HL.out hz hz hz hz (nz HL.out)⟩,⟨HX.out.r⟩,⟨SR.out⟩⟩
    ·refine alloc_step (by rfl) rfl rfl tz102 HL.out ?_
     intro gb10 w9_ HL_ hb_ hg_
     replace HN:=mk_ (HN.out.below hb_)
     replace HBc:=mk_ (below_step HBc.out hb_)
     replace HS:=mk_ (HS.out.call hb_)
     replace HL:=mk_ HL_
     clear HL_ hb_ hg_
     refine qK hK HS ?_;clear hK K
     refine qO 4 (some 28) 1567 HT_ (fun K hK=>?_)
     refine goes_ Try.func113 kz rfl #[.agg #[.int .i64 c0,.int .i64 c1,.int .i64 c2,.int .i64 c3,.int .i64 c4],vc,.int .i64 0] rz rfl rfl am ?_
     refine (send_calls _ vc b2_ b4_ c0 c1 c2 c3 c4 _ _ HBc.out HN.out S0.out G.out.2.2.2.2.2.1 (by have h8:=G.out.2.1;have h9:=G.out.2.2.1;dsimp only at h8 h9 ⊢;omega)).mono ?_
     rintro e w9_ ⟨vr,r,vf,fb,rfl,hr_,sr_,⟨f0,f1,f2,f3,f4,f5,f6,f7,Af,nf,kf,rfl⟩,hb_,hk_⟩
     refine ⟨_,rfl,?_⟩
     obtain ⟨B2,j2,B4,j4,rfl,g2_,gk2_,g4_,gk4_⟩:=hr_.mono (ok':=fun k_=>((True∧k_≠gb9)∧k_≠gb10)) (fun k_ h_=>⟨⟨trivial,ty_ne HL.out (g:=gb9) hz (by decide) h_⟩,ty_ne HL.out (g:=gb10) hz (by decide) h_⟩)
     have HX:=mk_ (show Txf w9_ (fun k_=>((True∧k_≠gb9)∧k_≠gb10)) r (.agg #[.int .i64 r.a0,.int .i64 r.a1,.slice B2 r.fl.length j2,.int .i64 r.a3,.slice B4 r.q.length j4,.bool r.a5,.int .i64 r.a6,.bool r.a7,.int .i64 r.a8,.bool r.a9]) from ⟨B2,j2,B4,j4,rfl,g2_,gk2_,g4_,gk4_⟩)
     clear g2_ gk2_ g4_ gk4_
     replace HS:=mk_ (Lok_kept HS.out (below_step HB0.out hb_) hk_ (HN.out.ne2 HS.out (by rfl)))
     replace HL:=mk_ (Lok_kept HL.out (below_step HB0.out hb_) hk_ (HN.out.ne2 HL.out (by rfl)))
     have SR:=mk_ sr_
     clear hr_ sr_ hb_ hk_ HN HBc HB0
     refine qK hK HS ?_;clear hK K
     refine qA 5 23 1599 HT_ ?_
     refine qA 6 29 1663 HT_ ?_
     refine qA 7 30 1791 HT_ ?_
     refine qA 8 31 2047 HT_ ?_
     refine qE 11 none 4095 HT_ (fun K hK=>?_)
     refine store_step (by rfl) rfl rfl rfl gz kz kz HL.out pz ?_
     intro w9_ HL_ hs_ hf_
     replace HL:=mk_ HL_
     replace HX:=mk_ (HX.out.step (fun j_ h_ _=>hf_ j_ (by first|exact h_.2|exact h_.1.2)))
     clear HL_ hs_ hf_
     refine hK.out _ _ ?_;clear hK K
     refine qE 12 none 8191 HT_ (fun K hK=>?_)
     refine store_step (by rfl) rfl rfl rfl gz kz kz HL.out pz ?_
     intro w9_ HL_ hs_ hf_
     replace HL:=mk_ HL_
     replace HX:=mk_ (HX.out.step (fun j_ h_ _=>hf_ j_ (by first|exact h_.2|exact h_.1.2)))
     clear HL_ hs_ hf_
     refine hK.out _ _ ?_;clear hK K
     refine qA 13 11 16383 HT_ ?_
     refine qF HT_ ?_
     clear HT_ HW_ HS
     try go_wp2
     go_meet
     case rel=>exact ⟨gb9,gb10,r,B2,j2,B4,j4,f0,f1,f2,f3,f4,f5,f6,f7,Af,nf,kf,fb,rfl,rfl,rfl,⟨Lok_four HL.out hz hz hz hz (nz HL.out)⟩,⟨HX.out.r⟩,⟨SR.out⟩⟩
   ·refine alloc_step (by rfl) rfl rfl tz102 HL.out ?_
    intro gb10 w9_ HL_ hb_ hg_
    replace HN:=mk_ (HN.out.below hb_)
    replace HBc:=mk_ (below_step HBc.out hb_)
    replace HS:=mk_ (HS.out.call hb_)
    replace HL:=mk_ HL_
    clear HL_ hb_ hg_
    refine qK hK HS ?_;clear hK K
    refine two_ (i:=4) (j:=9) (Ni:=some 28) (Nj:=some 9) (YteknaofnageihaaLoc.bm 14 1055) (YteknaofnageihaaLoc.bm 14 1551) rfl rfl rfl rfl (two_of HT_.out kz) (by decide) (by decide) (fun K hK=>?_) (fun K hK=>?_)
    ·refine goes_ Try.func113 kz rfl #[.agg #[.int .i64 c0,.int .i64 c1,.int .i64 c2,.int .i64 c3,.int .i64 c4],vc,.int .i64 0] rz rfl rfl am ?_
     refine (send_calls _ vc b2_ b4_ c0 c1 c2 c3 c4 _ _ HBc.out HN.out S0.out G.out.2.2.2.2.2.1 (by have h8:=G.out.2.1;have h9:=G.out.2.2.1;dsimp only at h8 h9 ⊢;omega)).mono ?_
     rintro e w9_ ⟨vr,r,vf,fb,rfl,hr_,sr_,⟨f0,f1,f2,f3,f4,f5,f6,f7,Af,nf,kf,rfl⟩,hb_,hk_⟩
     refine ⟨_,rfl,?_⟩
     obtain ⟨B2,j2,B4,j4,rfl,g2_,gk2_,g4_,gk4_⟩:=hr_.mono (ok':=fun k_=>(True∧k_≠gb10)) (fun k_ h_=>⟨trivial,ty_ne HL.out (g:=gb10) hz (by decide) h_⟩)
     have HX:=mk_ (show Txf w9_ (fun k_=>(True∧k_≠gb10)) r (.agg #[.int .i64 r.a0,.int .i64 r.a1,.slice B2 r.fl.length j2,.int .i64 r.a3,.slice B4 r.q.length j4,.bool r.a5,.int .i64 r.a6,.bool r.a7,.int .i64 r.a8,.bool r.a9]) from ⟨B2,j2,B4,j4,rfl,g2_,gk2_,g4_,gk4_⟩)
     clear g2_ gk2_ g4_ gk4_
     replace HS:=mk_ (Lok_kept HS.out (below_step HB0.out hb_) hk_ (HN.out.ne2 HS.out (by rfl)))
     replace HL:=mk_ (Lok_kept HL.out (below_step HB0.out hb_) hk_ (HN.out.ne2 HL.out (by rfl)))
     have SR:=mk_ sr_
     clear hr_ sr_ hb_ hk_ HN HBc HB0
     refine qK hK HS ?_;clear hK K
     refine qA 5 23 1087 HT_ ?_
     refine qA 6 29 1151 HT_ ?_
     refine qA 7 30 1279 HT_ ?_
     refine qA 8 31 1535 HT_ ?_
     refine qO 9 (some 9) 2047 HT_ (fun K hK=>?_)
     refine alloc_step (by rfl) rfl rfl tz69 HL.out ?_
     intro gb9 w9_ HL_ hb_ hg_
     replace HX:=mk_ (HX.out.new hb_ hg_)
     replace HS:=mk_ (HS.out.call hb_)
     replace HL:=mk_ HL_
     clear HL_ hb_ hg_
     refine qK hK HS ?_;clear hK K
     refine qE 11 none 4095 HT_ (fun K hK=>?_)
     refine store_step (by rfl) rfl rfl rfl gz kz kz HL.out pz ?_
     intro w9_ HL_ hs_ hf_
     replace HL:=mk_ HL_
     replace HX:=mk_ (HX.out.step (fun j_ h_ _=>hf_ j_ (by first|exact h_.2|exact h_.1.2)))
     clear HL_ hs_ hf_
     refine hK.out _ _ ?_;clear hK K
     refine qE 12 none 8191 HT_ (fun K hK=>?_)
     refine store_step (by rfl) rfl rfl rfl gz kz kz HL.out pz ?_
     intro w9_ HL_ hs_ hf_
     replace HL:=mk_ HL_
     replace HX:=mk_ (HX.out.step (fun j_ h_ _=>hf_ j_ (by first|exact h_.2|exact h_.1.2)))
     clear HL_ hs_ hf_
     refine hK.out _ _ ?_;clear hK K
     refine qA 13 11 16383 HT_ ?_
     refine qF HT_ ?_
     clear HT_ HW_ HS
     try go_wp2
     go_meet
     case rel=>exact ⟨gb9,gb10,r,B2,j2,B4,j4,f0,f1,f2,f3,f4,f5,f6,f7,Af,nf,kf,fb,rfl,rfl,rfl,⟨Lok_four HL.out hz hz hz hz (nz HL.out)⟩,⟨HX.out.r⟩,⟨SR.out⟩⟩
    ·refine alloc_step (by rfl) rfl rfl tz69 HL.out ?_
     intro gb9 w9_ HL_ hb_ hg_
     replace HN:=mk_ (HN.out.below hb_)
     replace HBc:=mk_ (below_step HBc.out hb_)
     replace HS:=mk_ (HS.out.call hb_)
     replace HL:=mk_ HL_
     clear HL_ hb_ hg_
     refine qK hK HS ?_;clear hK K
     refine qO 4 (some 28) 1567 HT_ (fun K hK=>?_)
     refine goes_ Try.func113 kz rfl #[.agg #[.int .i64 c0,.int .i64 c1,.int .i64 c2,.int .i64 c3,.int .i64 c4],vc,.int .i64 0] rz rfl rfl am ?_
     refine (send_calls _ vc b2_ b4_ c0 c1 c2 c3 c4 _ _ HBc.out HN.out S0.out G.out.2.2.2.2.2.1 (by have h8:=G.out.2.1;have h9:=G.out.2.2.1;dsimp only at h8 h9 ⊢;omega)).mono ?_
     rintro e w9_ ⟨vr,r,vf,fb,rfl,hr_,sr_,⟨f0,f1,f2,f3,f4,f5,f6,f7,Af,nf,kf,rfl⟩,hb_,hk_⟩
     refine ⟨_,rfl,?_⟩
     obtain ⟨B2,j2,B4,j4,rfl,g2_,gk2_,g4_,gk4_⟩:=hr_.mono (ok':=fun k_=>((True∧k_≠gb9)∧k_≠gb10)) (fun k_ h_=>⟨⟨trivial,ty_ne HL.out (g:=gb9) hz (by decide) h_⟩,ty_ne HL.out (g:=gb10) hz (by decide) h_⟩)
     have HX:=mk_ (show Txf w9_ (fun k_=>((True∧k_≠gb9)∧k_≠gb10)) r (.agg #[.int .i64 r.a0,.int .i64 r.a1,.slice B2 r.fl.length j2,.int .i64 r.a3,.slice B4 r.q.length j4,.bool r.a5,.int .i64 r.a6,.bool r.a7,.int .i64 r.a8,.bool r.a9]) from ⟨B2,j2,B4,j4,rfl,g2_,gk2_,g4_,gk4_⟩)
     clear g2_ gk2_ g4_ gk4_
     replace HS:=mk_ (Lok_kept HS.out (below_step HB0.out hb_) hk_ (HN.out.ne2 HS.out (by rfl)))
     replace HL:=mk_ (Lok_kept HL.out (below_step HB0.out hb_) hk_ (HN.out.ne2 HL.out (by rfl)))
     have SR:=mk_ sr_
     clear hr_ sr_ hb_ hk_ HN HBc HB0
     refine qK hK HS ?_;clear hK K
     refine qA 5 23 1599 HT_ ?_
     refine qA 6 29 1663 HT_ ?_
     refine qA 7 30 1791 HT_ ?_
     refine qA 8 31 2047 HT_ ?_
     refine qE 11 none 4095 HT_ (fun K hK=>?_)
     refine store_step (by rfl) rfl rfl rfl gz kz kz HL.out pz ?_
     intro w9_ HL_ hs_ hf_
     replace HL:=mk_ HL_
     replace HX:=mk_ (HX.out.step (fun j_ h_ _=>hf_ j_ (by first|exact h_.2|exact h_.1.2)))
     clear HL_ hs_ hf_
     refine hK.out _ _ ?_;clear hK K
     refine qE 12 none 8191 HT_ (fun K hK=>?_)
     refine store_step (by rfl) rfl rfl rfl gz kz kz HL.out pz ?_
     intro w9_ HL_ hs_ hf_
     replace HL:=mk_ HL_
     replace HX:=mk_ (HX.out.step (fun j_ h_ _=>hf_ j_ (by first|exact h_.2|exact h_.1.2)))
     clear HL_ hs_ hf_
     refine hK.out _ _ ?_;clear hK K
     refine qA 13 11 16383 HT_ ?_
     refine qF HT_ ?_
     clear HT_ HW_ HS
     try go_wp2
     go_meet
     case rel=>exact ⟨gb9,gb10,r,B2,j2,B4,j4,f0,f1,f2,f3,f4,f5,f6,f7,Af,nf,kf,fb,rfl,rfl,rfl,⟨Lok_four HL.out hz hz hz hz (nz HL.out)⟩,⟨HX.out.r⟩,⟨SR.out⟩⟩
  ·refine alloc_step (by rfl) rfl rfl tz69 HL.out ?_
   intro gb9 w9_ HL_ hb_ hg_
   replace HS:=mk_ (HS.out.call hb_)
   replace HL:=mk_ HL_
   clear HL_ hb_ hg_
   refine qK hK HS ?_;clear hK K
   refine two_ (i:=2) (j:=10) (Ni:=some 26) (Nj:=some 10) (YteknaofnageihaaLoc.bm 14 527) (YteknaofnageihaaLoc.bm 14 1547) rfl rfl rfl rfl (two_of HT_.out kz) (by decide) (by decide) (fun K hK=>?_) (fun K hK=>?_)
   ·refine goes_ Try.func112 kz rfl #[.agg #[.int .i64 t0,.int .i64 t1,.slice A2 fl.length k2,.int .i64 t3,.slice A4 q.length k4,.bool t5,.int .i64 t6,.bool t7,.int .i64 t8,.bool t9]] rz rfl rfl am ?_
    refine (copy_calls _ _ _ (HT.out.below HL.out.bel) S0.out).mono ?_
    rintro e w9_ ⟨vc,b2_,b4_,rfl,hn_,hb_⟩
    have HN:=mk_ hn_
    have HBc:=mk_ hb_
    have HB0:=mk_ HL.out.bel
    clear hn_
    refine ⟨_,rfl,?_⟩
    replace HL:=mk_ (HL.out.call hb_)
    replace HS:=mk_ (HS.out.call hb_)
    clear hb_
    refine qK hK HS ?_;clear hK K
    refine two_ (i:=4) (j:=10) (Ni:=some 28) (Nj:=some 10) (YteknaofnageihaaLoc.bm 14 543) (YteknaofnageihaaLoc.bm 14 1551) rfl rfl rfl rfl (two_of HT_.out kz) (by decide) (by decide) (fun K hK=>?_) (fun K hK=>?_)
    ·refine goes_ Try.func113 kz rfl #[.agg #[.int .i64 c0,.int .i64 c1,.int .i64 c2,.int .i64 c3,.int .i64 c4],vc,.int .i64 0] rz rfl rfl am ?_
     refine (send_calls _ vc b2_ b4_ c0 c1 c2 c3 c4 _ _ HBc.out HN.out S0.out G.out.2.2.2.2.2.1 (by have h8:=G.out.2.1;have h9:=G.out.2.2.1;dsimp only at h8 h9 ⊢;omega)).mono ?_
     rintro e w9_ ⟨vr,r,vf,fb,rfl,hr_,sr_,⟨f0,f1,f2,f3,f4,f5,f6,f7,Af,nf,kf,rfl⟩,hb_,hk_⟩
     refine ⟨_,rfl,?_⟩
     obtain ⟨B2,j2,B4,j4,rfl,g2_,gk2_,g4_,gk4_⟩:=hr_.mono (ok':=fun k_=>(True∧k_≠gb9)) (fun k_ h_=>⟨trivial,ty_ne HL.out (g:=gb9) hz (by decide) h_⟩)
     have HX:=mk_ (show Txf w9_ (fun k_=>(True∧k_≠gb9)) r (.agg #[.int .i64 r.a0,.int .i64 r.a1,.slice B2 r.fl.length j2,.int .i64 r.a3,.slice B4 r.q.length j4,.bool r.a5,.int .i64 r.a6,.bool r.a7,.int .i64 r.a8,.bool r.a9]) from ⟨B2,j2,B4,j4,rfl,g2_,gk2_,g4_,gk4_⟩)
     clear g2_ gk2_ g4_ gk4_
     replace HS:=mk_ (Lok_kept HS.out (below_step HB0.out hb_) hk_ (HN.out.ne2 HS.out (by rfl)))
     replace HL:=mk_ (Lok_kept HL.out (below_step HB0.out hb_) hk_ (HN.out.ne2 HL.out (by rfl)))
     have SR:=mk_ sr_
     clear hr_ sr_ hb_ hk_ HN HBc HB0
     refine qK hK HS ?_;clear hK K
     refine qA 5 23 575 HT_ ?_
     refine qA 6 29 639 HT_ ?_
     refine qA 7 30 767 HT_ ?_
     refine qA 8 31 1023 HT_ ?_
     refine qO 10 (some 10) 2047 HT_ (fun K hK=>?_)
     refine alloc_step (by rfl) rfl rfl tz102 HL.out ?_
     intro gb10 w9_ HL_ hb_ hg_
     replace HX:=mk_ (HX.out.new hb_ hg_)
     replace HS:=mk_ (HS.out.call hb_)
     replace HL:=mk_ HL_
     clear HL_ hb_ hg_
     refine qK hK HS ?_;clear hK K
     refine qE 11 none 4095 HT_ (fun K hK=>?_)
     refine store_step (by rfl) rfl rfl rfl gz kz kz HL.out pz ?_
     intro w9_ HL_ hs_ hf_
     replace HL:=mk_ HL_
     replace HX:=mk_ (HX.out.step (fun j_ h_ _=>hf_ j_ (by first|exact h_.2|exact h_.1.2)))
     clear HL_ hs_ hf_
     refine hK.out _ _ ?_;clear hK K
     refine qE 12 none 8191 HT_ (fun K hK=>?_)
     refine store_step (by rfl) rfl rfl rfl gz kz kz HL.out pz ?_
     intro w9_ HL_ hs_ hf_
     replace HL:=mk_ HL_
     replace HX:=mk_ (HX.out.step (fun j_ h_ _=>hf_ j_ (by first|exact h_.2|exact h_.1.2)))
     clear HL_ hs_ hf_
     refine hK.out _ _ ?_;clear hK K
     refine qA 13 11 16383 HT_ ?_
     refine qF HT_ ?_
     clear HT_ HW_ HS
     try go_wp2
     go_meet
     case rel=>exact ⟨gb9,gb10,r,B2,j2,B4,j4,f0,f1,f2,f3,f4,f5,f6,f7,Af,nf,kf,fb,rfl,rfl,rfl,⟨Lok_four HL.out hz hz hz hz (nz HL.out)⟩,⟨HX.out.r⟩,⟨SR.out⟩⟩
    ·refine alloc_step (by rfl) rfl rfl tz102 HL.out ?_
     intro gb10 w9_ HL_ hb_ hg_
     replace HN:=mk_ (HN.out.below hb_)
     replace HBc:=mk_ (below_step HBc.out hb_)
     replace HS:=mk_ (HS.out.call hb_)
     replace HL:=mk_ HL_
     clear HL_ hb_ hg_
     refine qK hK HS ?_;clear hK K
     refine qO 4 (some 28) 1567 HT_ (fun K hK=>?_)
     refine goes_ Try.func113 kz rfl #[.agg #[.int .i64 c0,.int .i64 c1,.int .i64 c2,.int .i64 c3,.int .i64 c4],vc,.int .i64 0] rz rfl rfl am ?_
     refine (send_calls _ vc b2_ b4_ c0 c1 c2 c3 c4 _ _ HBc.out HN.out S0.out G.out.2.2.2.2.2.1 (by have h8:=G.out.2.1;have h9:=G.out.2.2.1;dsimp only at h8 h9 ⊢;omega)).mono ?_
     rintro e w9_ ⟨vr,r,vf,fb,rfl,hr_,sr_,⟨f0,f1,f2,f3,f4,f5,f6,f7,Af,nf,kf,rfl⟩,hb_,hk_⟩
     refine ⟨_,rfl,?_⟩
     obtain ⟨B2,j2,B4,j4,rfl,g2_,gk2_,g4_,gk4_⟩:=hr_.mono (ok':=fun k_=>((True∧k_≠gb9)∧k_≠gb10)) (fun k_ h_=>⟨⟨trivial,ty_ne HL.out (g:=gb9) hz (by decide) h_⟩,ty_ne HL.out (g:=gb10) hz (by decide) h_⟩)
     have HX:=mk_ (show Txf w9_ (fun k_=>((True∧k_≠gb9)∧k_≠gb10)) r (.agg #[.int .i64 r.a0,.int .i64 r.a1,.slice B2 r.fl.length j2,.int .i64 r.a3,.slice B4 r.q.length j4,.bool r.a5,.int .i64 r.a6,.bool r.a7,.int .i64 r.a8,.bool r.a9]) from ⟨B2,j2,B4,j4,rfl,g2_,gk2_,g4_,gk4_⟩)
     clear g2_ gk2_ g4_ gk4_
     replace HS:=mk_ (Lok_kept HS.out (below_step HB0.out hb_) hk_ (HN.out.ne2 HS.out (by rfl)))
     replace HL:=mk_ (Lok_kept HL.out (below_step HB0.out hb_) hk_ (HN.out.ne2 HL.out (by rfl)))
     have SR:=mk_ sr_
     clear hr_ sr_ hb_ hk_ HN HBc HB0
     refine qK hK HS ?_;clear hK K
     refine qA 5 23 1599 HT_ ?_
     refine qA 6 29 1663 HT_ ?_
     refine qA 7 30 1791 HT_ ?_
     refine qA 8 31 2047 HT_ ?_
     refine qE 11 none 4095 HT_ (fun K hK=>?_)
     refine store_step (by rfl) rfl rfl rfl gz kz kz HL.out pz ?_
     intro w9_ HL_ hs_ hf_
     replace HL:=mk_ HL_
     replace HX:=mk_ (HX.out.step (fun j_ h_ _=>hf_ j_ (by first|exact h_.2|exact h_.1.2)))
     clear HL_ hs_ hf_
     refine hK.out _ _ ?_;clear hK K
     refine qE 12 none 8191 HT_ (fun K hK=>?_)
     refine store_step (by rfl) rfl rfl rfl gz kz kz HL.out pz ?_
     intro w9_ HL_ hs_ hf_
     replace HL:=mk_ HL_
     replace HX:=mk_ (HX.out.step (fun j_ h_ _=>hf_ j_ (by first|exact h_.2|exact h_.1.2)))
     clear HL_ hs_ hf_
     refine hK.out _ _ ?_;clear hK K
     refine qA 13 11 16383 HT_ ?_
     refine qF HT_ ?_
     clear HT_ HW_ HS
     try go_wp2
     go_meet
     case rel=>exact ⟨gb9,gb10,r,B2,j2,B4,j4,f0,f1,f2,f3,f4,f5,f6,f7,Af,nf,kf,fb,rfl,rfl,rfl,⟨Lok_four HL.out hz hz hz hz (nz HL.out)⟩,⟨HX.out.r⟩,⟨SR.out⟩⟩
   ·refine alloc_step (by rfl) rfl rfl tz102 HL.out ?_
    intro gb10 w9_ HL_ hb_ hg_
    replace HS:=mk_ (HS.out.call hb_)
    replace HL:=mk_ HL_
    clear HL_ hb_ hg_
    refine qK hK HS ?_;clear hK K
    refine qO 2 (some 26) 1551 HT_ (fun K hK=>?_)
    refine goes_ Try.func112 kz rfl #[.agg #[.int .i64 t0,.int .i64 t1,.slice A2 fl.length k2,.int .i64 t3,.slice A4 q.length k4,.bool t5,.int .i64 t6,.bool t7,.int .i64 t8,.bool t9]] rz rfl rfl am ?_
    refine (copy_calls _ _ _ (HT.out.below HL.out.bel) S0.out).mono ?_
    rintro e w9_ ⟨vc,b2_,b4_,rfl,hn_,hb_⟩
    have HN:=mk_ hn_
    have HBc:=mk_ hb_
    have HB0:=mk_ HL.out.bel
    clear hn_
    refine ⟨_,rfl,?_⟩
    replace HL:=mk_ (HL.out.call hb_)
    replace HS:=mk_ (HS.out.call hb_)
    clear hb_
    refine qK hK HS ?_;clear hK K
    refine qO 4 (some 28) 1567 HT_ (fun K hK=>?_)
    refine goes_ Try.func113 kz rfl #[.agg #[.int .i64 c0,.int .i64 c1,.int .i64 c2,.int .i64 c3,.int .i64 c4],vc,.int .i64 0] rz rfl rfl am ?_
    refine (send_calls _ vc b2_ b4_ c0 c1 c2 c3 c4 _ _ HBc.out HN.out S0.out G.out.2.2.2.2.2.1 (by have h8:=G.out.2.1;have h9:=G.out.2.2.1;dsimp only at h8 h9 ⊢;omega)).mono ?_
    rintro e w9_ ⟨vr,r,vf,fb,rfl,hr_,sr_,⟨f0,f1,f2,f3,f4,f5,f6,f7,Af,nf,kf,rfl⟩,hb_,hk_⟩
    refine ⟨_,rfl,?_⟩
    obtain ⟨B2,j2,B4,j4,rfl,g2_,gk2_,g4_,gk4_⟩:=hr_.mono (ok':=fun k_=>((True∧k_≠gb9)∧k_≠gb10)) (fun k_ h_=>⟨⟨trivial,ty_ne HL.out (g:=gb9) hz (by decide) h_⟩,ty_ne HL.out (g:=gb10) hz (by decide) h_⟩)
    have HX:=mk_ (show Txf w9_ (fun k_=>((True∧k_≠gb9)∧k_≠gb10)) r (.agg #[.int .i64 r.a0,.int .i64 r.a1,.slice B2 r.fl.length j2,.int .i64 r.a3,.slice B4 r.q.length j4,.bool r.a5,.int .i64 r.a6,.bool r.a7,.int .i64 r.a8,.bool r.a9]) from ⟨B2,j2,B4,j4,rfl,g2_,gk2_,g4_,gk4_⟩)
    clear g2_ gk2_ g4_ gk4_
    replace HS:=mk_ (Lok_kept HS.out (below_step HB0.out hb_) hk_ (HN.out.ne2 HS.out (by rfl)))
    replace HL:=mk_ (Lok_kept HL.out (below_step HB0.out hb_) hk_ (HN.out.ne2 HL.out (by rfl)))
    have SR:=mk_ sr_
    clear hr_ sr_ hb_ hk_ HN HBc HB0
    refine qK hK HS ?_;clear hK K
    refine qA 5 23 1599 HT_ ?_
    refine qA 6 29 1663 HT_ ?_
    refine qA 7 30 1791 HT_ ?_
    refine qA 8 31 2047 HT_ ?_
    refine qE 11 none 4095 HT_ (fun K hK=>?_)
    refine store_step (by rfl) rfl rfl rfl gz kz kz HL.out pz ?_
    intro w9_ HL_ hs_ hf_
    replace HL:=mk_ HL_
    replace HX:=mk_ (HX.out.step (fun j_ h_ _=>hf_ j_ (by first|exact h_.2|exact h_.1.2)))
    clear HL_ hs_ hf_
    refine hK.out _ _ ?_;clear hK K
    refine qE 12 none 8191 HT_ (fun K hK=>?_)
    refine store_step (by rfl) rfl rfl rfl gz kz kz HL.out pz ?_
    intro w9_ HL_ hs_ hf_
    replace HL:=mk_ HL_
    replace HX:=mk_ (HX.out.step (fun j_ h_ _=>hf_ j_ (by first|exact h_.2|exact h_.1.2)))
    clear HL_ hs_ hf_
    refine hK.out _ _ ?_;clear hK K
    refine qA 13 11 16383 HT_ ?_
    refine qF HT_ ?_
    clear HT_ HW_ HS
    try go_wp2
    go_meet
    case rel=>exact ⟨gb9,gb10,r,B2,j2,B4,j4,f0,f1,f2,f3,f4,f5,f6,f7,Af,nf,kf,fb,rfl,rfl,rfl,⟨Lok_four HL.out hz hz hz hz (nz HL.out)⟩,⟨HX.out.r⟩,⟨SR.out⟩⟩
  ·refine alloc_step (by rfl) rfl rfl tz102 HL.out ?_
   intro gb10 w9_ HL_ hb_ hg_
   replace HS:=mk_ (HS.out.call hb_)
   replace HL:=mk_ HL_
   clear HL_ hb_ hg_
   refine qK hK HS ?_;clear hK K
   refine two_ (i:=2) (j:=9) (Ni:=some 26) (Nj:=some 9) (YteknaofnageihaaLoc.bm 14 1039) (YteknaofnageihaaLoc.bm 14 1547) rfl rfl rfl rfl (two_of HT_.out kz) (by decide) (by decide) (fun K hK=>?_) (fun K hK=>?_)
   ·refine goes_ Try.func112 kz rfl #[.agg #[.int .i64 t0,.int .i64 t1,.slice A2 fl.length k2,.int .i64 t3,.slice A4 q.length k4,.bool t5,.int .i64 t6,.bool t7,.int .i64 t8,.bool t9]] rz rfl rfl am ?_
    refine (copy_calls _ _ _ (HT.out.below HL.out.bel) S0.out).mono ?_
    rintro e w9_ ⟨vc,b2_,b4_,rfl,hn_,hb_⟩
    have HN:=mk_ hn_
    have HBc:=mk_ hb_
    have HB0:=mk_ HL.out.bel
    clear hn_
    refine ⟨_,rfl,?_⟩
    replace HL:=mk_ (HL.out.call hb_)
    replace HS:=mk_ (HS.out.call hb_)
    clear hb_
    refine qK hK HS ?_;clear hK K
    refine two_ (i:=4) (j:=9) (Ni:=some 28) (Nj:=some 9) (YteknaofnageihaaLoc.bm 14 1055) (YteknaofnageihaaLoc.bm 14 1551) rfl rfl rfl rfl (two_of HT_.out kz) (by decide) (by decide) (fun K hK=>?_) (fun K hK=>?_)
    ·refine goes_ Try.func113 kz rfl #[.agg #[.int .i64 c0,.int .i64 c1,.int .i64 c2,.int .i64 c3,.int .i64 c4],vc,.int .i64 0] rz rfl rfl am ?_
     refine (send_calls _ vc b2_ b4_ c0 c1 c2 c3 c4 _ _ HBc.out HN.out S0.out G.out.2.2.2.2.2.1 (by have h8:=G.out.2.1;have h9:=G.out.2.2.1;dsimp only at h8 h9 ⊢;omega)).mono ?_
     rintro e w9_ ⟨vr,r,vf,fb,rfl,hr_,sr_,⟨f0,f1,f2,f3,f4,f5,f6,f7,Af,nf,kf,rfl⟩,hb_,hk_⟩
     refine ⟨_,rfl,?_⟩
     obtain ⟨B2,j2,B4,j4,rfl,g2_,gk2_,g4_,gk4_⟩:=hr_.mono (ok':=fun k_=>(True∧k_≠gb10)) (fun k_ h_=>⟨trivial,ty_ne HL.out (g:=gb10) hz (by decide) h_⟩)
     have HX:=mk_ (show Txf w9_ (fun k_=>(True∧k_≠gb10)) r (.agg #[.int .i64 r.a0,.int .i64 r.a1,.slice B2 r.fl.length j2,.int .i64 r.a3,.slice B4 r.q.length j4,.bool r.a5,.int .i64 r.a6,.bool r.a7,.int .i64 r.a8,.bool r.a9]) from ⟨B2,j2,B4,j4,rfl,g2_,gk2_,g4_,gk4_⟩)
     clear g2_ gk2_ g4_ gk4_
     replace HS:=mk_ (Lok_kept HS.out (below_step HB0.out hb_) hk_ (HN.out.ne2 HS.out (by rfl)))
     replace HL:=mk_ (Lok_kept HL.out (below_step HB0.out hb_) hk_ (HN.out.ne2 HL.out (by rfl)))
     have SR:=mk_ sr_
     clear hr_ sr_ hb_ hk_ HN HBc HB0
     refine qK hK HS ?_;clear hK K
     refine qA 5 23 1087 HT_ ?_
     refine qA 6 29 1151 HT_ ?_
     refine qA 7 30 1279 HT_ ?_
     refine qA 8 31 1535 HT_ ?_
     refine qO 9 (some 9) 2047 HT_ (fun K hK=>?_)
     refine alloc_step (by rfl) rfl rfl tz69 HL.out ?_
     intro gb9 w9_ HL_ hb_ hg_
     replace HX:=mk_ (HX.out.new hb_ hg_)
     replace HS:=mk_ (HS.out.call hb_)
     replace HL:=mk_ HL_
     clear HL_ hb_ hg_
     refine qK hK HS ?_;clear hK K
     refine qE 11 none 4095 HT_ (fun K hK=>?_)
     refine store_step (by rfl) rfl rfl rfl gz kz kz HL.out pz ?_
     intro w9_ HL_ hs_ hf_
     replace HL:=mk_ HL_
     replace HX:=mk_ (HX.out.step (fun j_ h_ _=>hf_ j_ (by first|exact h_.2|exact h_.1.2)))
     clear HL_ hs_ hf_
     refine hK.out _ _ ?_;clear hK K
     refine qE 12 none 8191 HT_ (fun K hK=>?_)
     refine store_step (by rfl) rfl rfl rfl gz kz kz HL.out pz ?_
     intro w9_ HL_ hs_ hf_
     replace HL:=mk_ HL_
     replace HX:=mk_ (HX.out.step (fun j_ h_ _=>hf_ j_ (by first|exact h_.2|exact h_.1.2)))
     clear HL_ hs_ hf_
     refine hK.out _ _ ?_;clear hK K
     refine qA 13 11 16383 HT_ ?_
     refine qF HT_ ?_
     clear HT_ HW_ HS
     try go_wp2
     go_meet
     case rel=>exact ⟨gb9,gb10,r,B2,j2,B4,j4,f0,f1,f2,f3,f4,f5,f6,f7,Af,nf,kf,fb,rfl,rfl,rfl,⟨Lok_four HL.out hz hz hz hz (nz HL.out)⟩,⟨HX.out.r⟩,⟨SR.out⟩⟩
    ·refine alloc_step (by rfl) rfl rfl tz69 HL.out ?_
     intro gb9 w9_ HL_ hb_ hg_
     replace HN:=mk_ (HN.out.below hb_)
     replace HBc:=mk_ (below_step HBc.out hb_)
     replace HS:=mk_ (HS.out.call hb_)
     replace HL:=mk_ HL_
     clear HL_ hb_ hg_
     refine qK hK HS ?_;clear hK K
     refine qO 4 (some 28) 1567 HT_ (fun K hK=>?_)
     refine goes_ Try.func113 kz rfl #[.agg #[.int .i64 c0,.int .i64 c1,.int .i64 c2,.int .i64 c3,.int .i64 c4],vc,.int .i64 0] rz rfl rfl am ?_
     refine (send_calls _ vc b2_ b4_ c0 c1 c2 c3 c4 _ _ HBc.out HN.out S0.out G.out.2.2.2.2.2.1 (by have h8:=G.out.2.1;have h9:=G.out.2.2.1;dsimp only at h8 h9 ⊢;omega)).mono ?_
     rintro e w9_ ⟨vr,r,vf,fb,rfl,hr_,sr_,⟨f0,f1,f2,f3,f4,f5,f6,f7,Af,nf,kf,rfl⟩,hb_,hk_⟩
     refine ⟨_,rfl,?_⟩
     obtain ⟨B2,j2,B4,j4,rfl,g2_,gk2_,g4_,gk4_⟩:=hr_.mono (ok':=fun k_=>((True∧k_≠gb9)∧k_≠gb10)) (fun k_ h_=>⟨⟨trivial,ty_ne HL.out (g:=gb9) hz (by decide) h_⟩,ty_ne HL.out (g:=gb10) hz (by decide) h_⟩)
     have HX:=mk_ (show Txf w9_ (fun k_=>((True∧k_≠gb9)∧k_≠gb10)) r (.agg #[.int .i64 r.a0,.int .i64 r.a1,.slice B2 r.fl.length j2,.int .i64 r.a3,.slice B4 r.q.length j4,.bool r.a5,.int .i64 r.a6,.bool r.a7,.int .i64 r.a8,.bool r.a9]) from ⟨B2,j2,B4,j4,rfl,g2_,gk2_,g4_,gk4_⟩)
     clear g2_ gk2_ g4_ gk4_
     replace HS:=mk_ (Lok_kept HS.out (below_step HB0.out hb_) hk_ (HN.out.ne2 HS.out (by rfl)))
     replace HL:=mk_ (Lok_kept HL.out (below_step HB0.out hb_) hk_ (HN.out.ne2 HL.out (by rfl)))
     have SR:=mk_ sr_
     clear hr_ sr_ hb_ hk_ HN HBc HB0
     refine qK hK HS ?_;clear hK K
     refine qA 5 23 1599 HT_ ?_
     refine qA 6 29 1663 HT_ ?_
     refine qA 7 30 1791 HT_ ?_
     refine qA 8 31 2047 HT_ ?_
     refine qE 11 none 4095 HT_ (fun K hK=>?_)
     refine store_step (by rfl) rfl rfl rfl gz kz kz HL.out pz ?_
     intro w9_ HL_ hs_ hf_
     replace HL:=mk_ HL_
     replace HX:=mk_ (HX.out.step (fun j_ h_ _=>hf_ j_ (by first|exact h_.2|exact h_.1.2)))
     clear HL_ hs_ hf_
     refine hK.out _ _ ?_;clear hK K
     refine qE 12 none 8191 HT_ (fun K hK=>?_)
     refine store_step (by rfl) rfl rfl rfl gz kz kz HL.out pz ?_
     intro w9_ HL_ hs_ hf_
     replace HL:=mk_ HL_
     replace HX:=mk_ (HX.out.step (fun j_ h_ _=>hf_ j_ (by first|exact h_.2|exact h_.1.2)))
     clear HL_ hs_ hf_
     refine hK.out _ _ ?_;clear hK K
     refine qA 13 11 16383 HT_ ?_
     refine qF HT_ ?_
     clear HT_ HW_ HS
     try go_wp2
     go_meet
     case rel=>exact ⟨gb9,gb10,r,B2,j2,B4,j4,f0,f1,f2,f3,f4,f5,f6,f7,Af,nf,kf,fb,rfl,rfl,rfl,⟨Lok_four HL.out hz hz hz hz (nz HL.out)⟩,⟨HX.out.r⟩,⟨SR.out⟩⟩
   ·refine alloc_step (by rfl) rfl rfl tz69 HL.out ?_
    intro gb9 w9_ HL_ hb_ hg_
    replace HS:=mk_ (HS.out.call hb_)
    replace HL:=mk_ HL_
    clear HL_ hb_ hg_
    refine qK hK HS ?_;clear hK K
    refine qO 2 (some 26) 1551 HT_ (fun K hK=>?_)
    refine goes_ Try.func112 kz rfl #[.agg #[.int .i64 t0,.int .i64 t1,.slice A2 fl.length k2,.int .i64 t3,.slice A4 q.length k4,.bool t5,.int .i64 t6,.bool t7,.int .i64 t8,.bool t9]] rz rfl rfl am ?_
    refine (copy_calls _ _ _ (HT.out.below HL.out.bel) S0.out).mono ?_
    rintro e w9_ ⟨vc,b2_,b4_,rfl,hn_,hb_⟩
    have HN:=mk_ hn_
    have HBc:=mk_ hb_
    have HB0:=mk_ HL.out.bel
    clear hn_
    refine ⟨_,rfl,?_⟩
    replace HL:=mk_ (HL.out.call hb_)
    replace HS:=mk_ (HS.out.call hb_)
    clear hb_
    refine qK hK HS ?_;clear hK K
    refine qO 4 (some 28) 1567 HT_ (fun K hK=>?_)
    refine goes_ Try.func113 kz rfl #[.agg #[.int .i64 c0,.int .i64 c1,.int .i64 c2,.int .i64 c3,.int .i64 c4],vc,.int .i64 0] rz rfl rfl am ?_
    refine (send_calls _ vc b2_ b4_ c0 c1 c2 c3 c4 _ _ HBc.out HN.out S0.out G.out.2.2.2.2.2.1 (by have h8:=G.out.2.1;have h9:=G.out.2.2.1;dsimp only at h8 h9 ⊢;omega)).mono ?_
    rintro e w9_ ⟨vr,r,vf,fb,rfl,hr_,sr_,⟨f0,f1,f2,f3,f4,f5,f6,f7,Af,nf,kf,rfl⟩,hb_,hk_⟩
    refine ⟨_,rfl,?_⟩
    obtain ⟨B2,j2,B4,j4,rfl,g2_,gk2_,g4_,gk4_⟩:=hr_.mono (ok':=fun k_=>((True∧k_≠gb9)∧k_≠gb10)) (fun k_ h_=>⟨⟨trivial,ty_ne HL.out (g:=gb9) hz (by decide) h_⟩,ty_ne HL.out (g:=gb10) hz (by decide) h_⟩)
    have HX:=mk_ (show Txf w9_ (fun k_=>((True∧k_≠gb9)∧k_≠gb10)) r (.agg #[.int .i64 r.a0,.int .i64 r.a1,.slice B2 r.fl.length j2,.int .i64 r.a3,.slice B4 r.q.length j4,.bool r.a5,.int .i64 r.a6,.bool r.a7,.int .i64 r.a8,.bool r.a9]) from ⟨B2,j2,B4,j4,rfl,g2_,gk2_,g4_,gk4_⟩)
    clear g2_ gk2_ g4_ gk4_
    replace HS:=mk_ (Lok_kept HS.out (below_step HB0.out hb_) hk_ (HN.out.ne2 HS.out (by rfl)))
    replace HL:=mk_ (Lok_kept HL.out (below_step HB0.out hb_) hk_ (HN.out.ne2 HL.out (by rfl)))
    have SR:=mk_ sr_
    clear hr_ sr_ hb_ hk_ HN HBc HB0
    refine qK hK HS ?_;clear hK K
    refine qA 5 23 1599 HT_ ?_
    refine qA 6 29 1663 HT_ ?_
    refine qA 7 30 1791 HT_ ?_
    refine qA 8 31 2047 HT_ ?_
    refine qE 11 none 4095 HT_ (fun K hK=>?_)
    refine store_step (by rfl) rfl rfl rfl gz kz kz HL.out pz ?_
    intro w9_ HL_ hs_ hf_
    replace HL:=mk_ HL_
    replace HX:=mk_ (HX.out.step (fun j_ h_ _=>hf_ j_ (by first|exact h_.2|exact h_.1.2)))
    clear HL_ hs_ hf_
    refine hK.out _ _ ?_;clear hK K
    refine qE 12 none 8191 HT_ (fun K hK=>?_)
    refine store_step (by rfl) rfl rfl rfl gz kz kz HL.out pz ?_
    intro w9_ HL_ hs_ hf_
    replace HL:=mk_ HL_
    replace HX:=mk_ (HX.out.step (fun j_ h_ _=>hf_ j_ (by first|exact h_.2|exact h_.1.2)))
    clear HL_ hs_ hf_
    refine hK.out _ _ ?_;clear hK K
    refine qA 13 11 16383 HT_ ?_
    refine qF HT_ ?_
    clear HT_ HW_ HS
    try go_wp2
    go_meet
    case rel=>exact ⟨gb9,gb10,r,B2,j2,B4,j4,f0,f1,f2,f3,f4,f5,f6,f7,Af,nf,kf,fb,rfl,rfl,rfl,⟨Lok_four HL.out hz hz hz hz (nz HL.out)⟩,⟨HX.out.r⟩,⟨SR.out⟩⟩
 case rest =>
  obtain ⟨gb9,gb10,r,B2,j2,B4,j4,f0,f1,f2,f3,f4,f5,f6,f7,Af,nf,kf,fb,rfl,rfl,rfl,hl_,hx_,sr_⟩:=hcut
  replace HL:=hl_
  have HX:=hx_
  have SR:=sr_
  clear hl_ hx_ sr_
  go_upto_region 4 with (first|((with_reducible refine gate_gd rfl ?_);first|((with_reducible refine gd_on rfl ?_ ?_);rfl;dsimp only)|((with_reducible refine gd_off rfl ?_ ?_);rfl))|((with_reducible refine gate_ld0 (t:=69) rfl ?_);refine loc_load (n:=10) rfl rfl kz rfl kz HL.out sz ?_)|((with_reducible refine gate_ld0 rfl ?_);refine loc_load1 rfl rfl kz rfl HL.out sz ?_))
  refine start_ (n:=7) (S:=fun w'=>Lok w w' _) (ds:=[5]) (YteknaofnageihaaLoc.bm 7 0) kz rfl rfl (Lok_two (g1:=gb9) (g2:=gb10) HL.out.drew hz hz (nz HL.out)) (fun hHeld=>?_)
  refine with_tabW fx103.tab4 fx103.bits4 (fun HT_ HW_=>?_)
  have HS:=mk_ hHeld
  clear hHeld
  replace HL:=mk_ HL.out.drew
  replace HX:=mk_ (HX.out.below (below_drew (Below.refl _ _)))
  revert HS HL HX
  generalize World.drew _=w8_
  intro HS HL HX
  refine qL 0 32 1 10 HT_ HW_ HS ?_
  refine qL 2 34 5 9 HT_ HW_ HS ?_
  refine qA 3 35 13 HT_ ?_
  refine qO 1 (some 33) 15 HT_ (fun K hK=>?_)
  refine goes_ Try.func112 kz rfl #[.agg #[.int .i64 r.a0,.int .i64 r.a1,.slice B2 r.fl.length j2,.int .i64 r.a3,.slice B4 r.q.length j4,.bool r.a5,.int .i64 r.a6,.bool r.a7,.int .i64 r.a8,.bool r.a9]] rz rfl rfl am ?_
  refine (copy_calls r _ _ HX.out SR.out).mono ?_
  rintro e w9_ ⟨vd,d2_,d4_,rfl,hn_,hb_⟩
  have LT1:=mk_ (blk_lt (HL.out.blk (g:=gb6) hz))
  have LT2:=mk_ (blk_lt (HL.out.blk (g:=gb7) hz))
  have LTB:=mk_ HL.out.bel.size
  obtain ⟨D2,l2,D4,l4,hvd,e2_,e4_,n2_,n4_⟩:=hn_
  subst hvd
  have HY:=mk_ (show Txn w9_ _ r (.agg #[.int .i64 r.a0,.int .i64 r.a1,.slice D2 r.fl.length l2,.int .i64 r.a3,.slice D4 r.q.length l4,.bool r.a5,.int .i64 r.a6,.bool r.a7,.int .i64 r.a8,.bool r.a9]) d2_ d4_ from ⟨D2,l2,D4,l4,rfl,e2_,e4_,n2_,n4_⟩)
  clear e2_ e4_ n2_ n4_
  refine ⟨_,rfl,?_⟩
  replace HL:=mk_ (HL.out.call hb_)
  replace HS:=mk_ (HS.out.call hb_)
  clear hb_
  refine qK hK HS ?_;clear hK K
  refine qO 4 none 31 HT_ (fun K hK=>?_)
  refine store_step (by rfl) rfl rfl rfl gz kz kz HL.out pz ?_
  intro w9_ HL_ hs_ hf_
  replace HS:=mk_ (Lok_far HS.out HL_.bel hf_ (by intro b_ hb9;simp only [List.mem_cons,List.not_mem_nil,or_false] at hb9;have h9:=HL.out.ne;simp only [List.map_cons,List.nodup_cons,List.mem_cons,List.map_nil,not_or] at h9;rcases hb9 with rfl|rfl <;> (dsimp only;omega)))
  replace HL:=mk_ HL_
  replace HY:=mk_ (by first|exact HY.out.far LT1.out hf_|exact HY.out.far LT2.out hf_)
  clear HL_ hs_ hf_
  refine qN hK HS ?_;clear hK K
  refine qE 5 none 63 HT_ (fun K hK=>?_)
  refine store_step (by rfl) rfl rfl rfl gz kz kz HL.out pz ?_
  intro w9_ HL_ hs_ hf_
  replace HL:=mk_ HL_
  replace HY:=mk_ (by first|exact HY.out.far LT1.out hf_|exact HY.out.far LT2.out hf_)
  clear HL_ hs_ hf_
  refine hK.out _ _ ?_;clear hK K
  refine qA 6 8 127 HT_ ?_
  refine qF HT_ ?_
  clear HT_ HW_ HS
  go_wp2
  refine bodyPost_ret (results_list (rs:=[.cell 6 69,.cell 7 102,.tmp 8]) rfl (by simp) (.cell _ 69 _ (0,0) _ rfl (HL.out.blk hz) Try.underlying69 rfl kz (.cell _ 102 _ (0,0) _ rfl (HL.out.blk hz) Try.underlying102 rfl kz (.tmp .nil)))) rfl ?_
  exact mkTxFE r _ _ _ ez (HY.out.lower LTB.out) SR.out (mkFrv _ _ _ _ _ _ _ _ _ _ _) HL.out.bel
end Go.Proofs.Yteknaofnageihaa.QFnTxOk
