-- Texts by hand for FnTxLeft, FnTxOk.
import Derived.Test.YteknaofnageihaaTks
namespace Go.Proofs.Yteknaofnageihaa.QFnTxOk
open Go.RowKit Go.Proofs.YteknaofnageihaaW.PrintWords Go.Proofs.YteknaofnageihaaW.PrintLast Go.Proofs.YteknaofnageihaaW.PrintMore Go.Proofs.YteknaofnageihaaLoc
attribute [local go_sem] max2_int min2_int max_two min_two max_three min_three max_four min_four   -- for this text's walks alone
set_option linter.unusedVariables false
set_option linter.unusedSimpArgs false
open Go.Proofs.Yteknaofnageihaa.Pure
set_option maxHeartbeats 60000000 in
set_option maxRecDepth 100000 in
theorem send_calls (t:Tx) (v:Value) (b2 b4:Option Nat) (c0 c1 c2 c3 c4:Int) (w0 w:World) (hB:Below w0.heap.size w0 w) (ht:Txn w w0.heap.size t v b2 b4) (hs:Sm t) (h3:0≤t.a3∧t.a3≤(t.fl.length:Int)) (h4:t.fl.length≤4):Calls Try.prog 113 #[.agg #[.int .i64 c0,.int .i64 c1,.int .i64 c2,.int .i64 c3,.int .i64 c4],v,.int .i64 0] w (TxF w0 w b2 (TY w)):=by
 obtain ⟨t0,t1,fl,t3,q,t5,t6,t7,t8,t9⟩:=t
 obtain ⟨A2,k2,A4,k4,rfl,rfl,rfl,s2,s4⟩:=ht
 dsimp only at s2 s4 h3 h4 ⊢
 have HT:=mk_ (show Txn w w0.heap.size ⟨t0,t1,fl,t3,q,t5,t6,t7,t8,t9⟩ _ _ _ from ⟨A2,k2,A4,k4,rfl,rfl,rfl,s2,s4⟩);have N2:=mk_ (Kd.S_N (Kd.S_mono (ok':=fun k_=>TY w k_) (Kd.S_bound s2) (fun _ h_=>ty_of h_.2.2.2)))
 have F4:=mk_ (Kd.S_F (Kd.S_mono (ok':=fun k_=>TY w k_∧some k_≠(Value.slice A2 fl.length k2).ownBlock) (Kd.S_bound s4) (fun _ h_=>⟨ty_of h_.2.2.2,h_.1⟩)))
 have F2:=mk_ (Kd.N_F N2.out)
 have K2:=mk_ (Kd.S_reads' s2).2.1
 have K4:=mk_ (Kd.S_reads' s4).2.1
 have HB:=mk_ hB
 have HL:=mk_ (Lok.start w)
 have S0:=mk_ (show Sm2 fl q from hs)
 have H3:=mk_ h3
 have H4:=mk_ h4
 clear s2 s4 hs h3 h4 hB
 cases t9
 rotate_left
 ·go_enter Try.func113,Try.ntmps113
  go_wp2_with (first|((with_reducible refine gate_gd rfl ?_);first|((with_reducible refine gd_on rfl ?_ ?_);rfl;dsimp only)|((with_reducible refine gd_off rfl ?_ ?_);rfl))|((with_reducible refine gate_dst (N:=3) rfl ?_);refine loc_box rfl rfl gz HL.out ?_;intro gb3 w_ HL_;replace HL:=mk_ HL_;clear HL_)|((with_reducible refine gate_dst (N:=4) rfl ?_);refine loc_box rfl rfl gz HL.out ?_;intro gb4 w_ HL_;replace HL:=mk_ HL_;clear HL_)|((with_reducible refine gate_dst (N:=6) rfl ?_);refine loc_alloc rfl rfl tz69 HL.out ?_;intro gb6 w_ HL_;replace HL:=mk_ HL_;clear HL_)|((with_reducible refine gate_dst (N:=7) rfl ?_);refine loc_alloc rfl rfl tz102 HL.out ?_;intro gb7 w_ HL_;replace HL:=mk_ HL_;clear HL_)|((with_reducible refine gate_ld0 (t:=69) rfl ?_);refine loc_load (n:=10) rfl rfl kz rfl kz HL.out sz ?_)|((with_reducible refine gate_ld0 (t:=66) rfl ?_);refine loc_load (n:=5) rfl rfl kz rfl kz HL.out sz ?_)|((with_reducible refine gate_ld0 rfl ?_);refine loc_load1 rfl rfl kz rfl HL.out sz ?_)|((with_reducible refine gate_st0 rfl ?_);refine loc_store rfl rfl rfl gz kz kz HL.out pz ?_;intro w_ HL_;replace HL:=mk_ HL_;clear HL_))
  refine bodyPost_ret (results_list (rs:=[.cell 6 69,.cell 7 102,.tmp 8]) rfl (by simp) (.cell _ 69 _ (0,0) _ rfl (HL.out.blk hz) Try.underlying69 rfl kz (.cell _ 102 _ (0,0) _ rfl (HL.out.blk hz) Try.underlying102 rfl kz (.tmp .nil)))) rfl ?_
  exact mkTxF ⟨_,_,fl,_,q,_,_,_,_,_⟩ _ _ _ ez ⟨A2,k2,A4,k4,rfl,Kd.F_mono (Kd.F_below F2.out HL.out.bel) (fun _ h_=>Or.inl h_),K2.out,Kd.F_mono (Kd.F_below F4.out HL.out.bel) (fun _ h_=>Or.inl h_.1),K4.out⟩ S0.out (mkFrv _ _ _ _ _ _ _ _ _ _ _) (Lok_base HL.out HB.out).bel (kept_below _ HL.out.bel)
 cases t5
 rotate_left
 ·go_enter Try.func113,Try.ntmps113
  go_wp2_with (first|((with_reducible refine gate_gd rfl ?_);first|((with_reducible refine gd_on rfl ?_ ?_);rfl;dsimp only)|((with_reducible refine gd_off rfl ?_ ?_);rfl))|((with_reducible refine gate_dst (N:=3) rfl ?_);refine loc_box rfl rfl gz HL.out ?_;intro gb3 w_ HL_;replace HL:=mk_ HL_;clear HL_)|((with_reducible refine gate_dst (N:=4) rfl ?_);refine loc_box rfl rfl gz HL.out ?_;intro gb4 w_ HL_;replace HL:=mk_ HL_;clear HL_)|((with_reducible refine gate_dst (N:=6) rfl ?_);refine loc_alloc rfl rfl tz69 HL.out ?_;intro gb6 w_ HL_;replace HL:=mk_ HL_;clear HL_)|((with_reducible refine gate_dst (N:=7) rfl ?_);refine loc_alloc rfl rfl tz102 HL.out ?_;intro gb7 w_ HL_;replace HL:=mk_ HL_;clear HL_)|((with_reducible refine gate_ld0 (t:=69) rfl ?_);refine loc_load (n:=10) rfl rfl kz rfl kz HL.out sz ?_)|((with_reducible refine gate_ld0 (t:=66) rfl ?_);refine loc_load (n:=5) rfl rfl kz rfl kz HL.out sz ?_)|((with_reducible refine gate_ld0 rfl ?_);refine loc_load1 rfl rfl kz rfl HL.out sz ?_)|((with_reducible refine gate_st0 rfl ?_);refine loc_store rfl rfl rfl gz kz kz HL.out pz ?_;intro w_ HL_;replace HL:=mk_ HL_;clear HL_))
  refine bodyPost_ret (results_list (rs:=[.cell 6 69,.cell 7 102,.tmp 8]) rfl (by simp) (.cell _ 69 _ (0,0) _ rfl (HL.out.blk hz) Try.underlying69 rfl kz (.cell _ 102 _ (0,0) _ rfl (HL.out.blk hz) Try.underlying102 rfl kz (.tmp .nil)))) rfl ?_
  exact mkTxF ⟨_,_,fl,_,q,_,_,_,_,_⟩ _ _ _ ez ⟨A2,k2,A4,k4,rfl,Kd.F_mono (Kd.F_below F2.out HL.out.bel) (fun _ h_=>Or.inl h_),K2.out,Kd.F_mono (Kd.F_below F4.out HL.out.bel) (fun _ h_=>Or.inl h_.1),K4.out⟩ S0.out (mkFrv _ _ _ _ _ _ _ _ _ _ _) (Lok_base HL.out HB.out).bel (kept_below _ HL.out.bel)
 cases t7
 rotate_left
 ·go_enter Try.func113,Try.ntmps113
  go_wp2_with (first|((with_reducible refine gate_gd rfl ?_);first|((with_reducible refine gd_on rfl ?_ ?_);rfl;dsimp only)|((with_reducible refine gd_off rfl ?_ ?_);rfl))|((with_reducible refine gate_dst (N:=3) rfl ?_);refine loc_box rfl rfl gz HL.out ?_;intro gb3 w_ HL_;replace HL:=mk_ HL_;clear HL_)|((with_reducible refine gate_dst (N:=4) rfl ?_);refine loc_box rfl rfl gz HL.out ?_;intro gb4 w_ HL_;replace HL:=mk_ HL_;clear HL_)|((with_reducible refine gate_dst (N:=6) rfl ?_);refine loc_alloc rfl rfl tz69 HL.out ?_;intro gb6 w_ HL_;replace HL:=mk_ HL_;clear HL_)|((with_reducible refine gate_dst (N:=7) rfl ?_);refine loc_alloc rfl rfl tz102 HL.out ?_;intro gb7 w_ HL_;replace HL:=mk_ HL_;clear HL_)|((with_reducible refine gate_ld0 (t:=69) rfl ?_);refine loc_load (n:=10) rfl rfl kz rfl kz HL.out sz ?_)|((with_reducible refine gate_ld0 (t:=66) rfl ?_);refine loc_load (n:=5) rfl rfl kz rfl kz HL.out sz ?_)|((with_reducible refine gate_ld0 rfl ?_);refine loc_load1 rfl rfl kz rfl HL.out sz ?_)|((with_reducible refine gate_st0 rfl ?_);refine loc_store rfl rfl rfl gz kz kz HL.out pz ?_;intro w_ HL_;replace HL:=mk_ HL_;clear HL_))
  refine bodyPost_ret (results_list (rs:=[.cell 6 69,.cell 7 102,.tmp 8]) rfl (by simp) (.cell _ 69 _ (0,0) _ rfl (HL.out.blk hz) Try.underlying69 rfl kz (.cell _ 102 _ (0,0) _ rfl (HL.out.blk hz) Try.underlying102 rfl kz (.tmp .nil)))) rfl ?_
  exact mkTxF ⟨_,_,fl,_,q,_,_,_,_,_⟩ _ _ _ ez ⟨A2,k2,A4,k4,rfl,Kd.F_mono (Kd.F_below F2.out HL.out.bel) (fun _ h_=>Or.inl h_),K2.out,Kd.F_mono (Kd.F_below F4.out HL.out.bel) (fun _ h_=>Or.inl h_.1),K4.out⟩ S0.out (mkFrv _ _ _ _ _ _ _ _ _ _ _) (Lok_base HL.out HB.out).bel (kept_below _ HL.out.bel)
 by_cases d1:t3=(fl.length:Int)
 rotate_left
 ·have d1b:(t3 == (fl.length:Int))=false:=beq_eq_false_iff_ne.mpr d1
  have T0:=mk_ (show 0≤t3∧t3<(fl.length:Int) by have:=H3.out;omega)
  have d2b:decide (0≤t3)=true:=decide_eq_true T0.out.1
  have d3b:decide (t3<(fl.length:Int))=true:=decide_eq_true T0.out.2
  clear d1
  go_enter Try.func113,Try.ntmps113
  go_upto_region 9 with (first|((with_reducible refine gate_gd rfl ?_);first|((with_reducible refine gd_on rfl ?_ ?_);rfl;dsimp only)|((with_reducible refine gd_off rfl ?_ ?_);rfl))|((with_reducible refine gate_dst (N:=3) rfl ?_);refine loc_box rfl rfl gz HL.out ?_;intro gb3 w_ HL_;replace HL:=mk_ HL_;clear HL_)|((with_reducible refine gate_dst (N:=4) rfl ?_);refine loc_box rfl rfl gz HL.out ?_;intro gb4 w_ HL_;replace HL:=mk_ HL_;clear HL_)|((with_reducible refine gate_dst (N:=6) rfl ?_);refine loc_alloc rfl rfl tz69 HL.out ?_;intro gb6 w_ HL_;replace HL:=mk_ HL_;clear HL_)|((with_reducible refine gate_dst (N:=7) rfl ?_);refine loc_alloc rfl rfl tz102 HL.out ?_;intro gb7 w_ HL_;replace HL:=mk_ HL_;clear HL_)|((with_reducible refine gate_ld0 (t:=69) rfl ?_);refine loc_load (n:=10) rfl rfl kz rfl kz HL.out sz ?_)|((with_reducible refine gate_ld0 (t:=66) rfl ?_);refine loc_load (n:=5) rfl rfl kz rfl kz HL.out sz ?_)|((with_reducible refine gate_ld0 rfl ?_);refine loc_load1 rfl rfl kz rfl HL.out sz ?_)|((with_reducible refine gate_st0 rfl ?_);refine loc_store rfl rfl rfl gz kz kz HL.out pz ?_;intro w_ HL_;replace HL:=mk_ HL_;clear HL_))
  have HX:=mk_ (show PX w _ (fun k_=>some k_=(Value.slice A2 fl.length k2).ownBlock) (fun k_=>k_≠gb4∧k_≠gb6∧k_≠gb7∧(TY w k_∨w.heap.size≤k_)) A2 fl A4 q from ⟨Kd.F_mono (Kd.F_below (Kd.F_bound F2.out) HL.out.bel) (fun k_ h_=>by have h6:=h_.2;have h7:=Lok_ge HL.out (g:=gb4) hz;have h8:=Lok_ge HL.out (g:=gb6) hz;have h9:=Lok_ge HL.out (g:=gb7) hz;exact ⟨by omega,by omega,by omega,Or.inl h_.1⟩),Kd.F_mono (Kd.F_below (Kd.F_bound F4.out) HL.out.bel) (fun k_ h_=>by have h6:=h_.2;have h7:=Lok_ge HL.out (g:=gb4) hz;have h8:=Lok_ge HL.out (g:=gb6) hz;have h9:=Lok_ge HL.out (g:=gb7) hz;exact ⟨by omega,by omega,by omega,Or.inl h_.1.1⟩),kept_below _ HL.out.bel⟩)
  have GE4:=mk_ (Lok_ge HL.out (g:=gb4) hz)
  have GE6:=mk_ (Lok_ge HL.out (g:=gb6) hz)
  have GE7:=mk_ (Lok_ge HL.out (g:=gb7) hz)
  replace HL:=mk_ (Lok_base HL.out HB.out)
  have KF:=K2
  have KQ:=K4
  have S1:=S0
  obtain ⟨ad,x,D,d,hA,hxm,hce,hdl,hdf⟩:=elem_at HX.out.f2 t3 T0.out.1 T0.out.2
  subst hA
  have KD:=mk_ hdl
  have HDF:=mk_ hdf
  have HCE:=mk_ hce
  clear hdl hdf hce
  obtain ⟨fr,hfr⟩:∃ r,spec_l6Frame.f x.f0 x.f1 x.f2 (Int.tmod (wrap64 (t1+t3)) 8) 0=some r:=p_frame x.f0 x.f1 x.f2 _ _ (S1.out.1.2 x hxm)
  obtain ⟨e0,e1,e2,e3,e4,e5,e6,e7,e8⟩:=fr
  have PFR:=mk_ hfr
  clear hfr hxm
  refine start_ (n:=16) (S:=fun w'=>Lok w0 w' _∧CellsAt w' (ad.add (t3.toNat * 3)) [.int .i64 x.f0,.int .i64 x.f1,.slice D x.f2.length d]) (ds:=[15]) (YteknaofnageihaaLoc.bm 16 0) kz rfl rfl ⟨HL.out.drew,HCE.out.below (below_drew (Below.refl _ _))⟩ (fun hHeld=>?_)
  refine with_tabW fx113.tab9 fx113.bits9 (fun HT_ HW_=>?_)
  have HS:=mk_ hHeld
  clear hHeld
  replace HL:=mk_ HL.out.drew
  replace HX:=mk_ (HX.out.call (below_drew (Below.refl _ _)))
  replace HDF:=mk_ (Kd.F_below HDF.out (below_drew (Below.refl _ _)))
  clear HCE
  revert HS HL HX HDF
  generalize World.drew _=w8_
  intro HS HL HX HDF
  refine qA 0 69 1 HT_ ?_
  refine qT 1 70 3 rfl rfl HT_ HW_ HS (fun w' hS=>loc_load1_run kz rfl rfl hS.1 sz) ?_
  refine qA 2 71 7 HT_ ?_
  refine qT 3 72 15 rfl rfl HT_ HW_ HS (fun w' hS=>loc_load1_run kz rfl rfl hS.1 sz) ?_
  refine pA (v:=.pointer (some (ad.add (t3.toNat * 3)))) 4 (some 73) (YteknaofnageihaaLoc.bm 16 31) rfl rfl HT_.out kz (fun _ _ _ h=>h) (by rfl) (by intro w';go_simp;intro h9;exact absurd (h9 T0.out.1) (by have:=T0.out.2;omega)) uz ?_
  refine qT 5 74 63 rfl rfl HT_ HW_ HS (fun w' hS=>elem_run kz rfl rfl kz rfl hS.2) ?_
  refine qA 6 75 127 HT_ ?_
  refine qT 7 76 255 rfl rfl HT_ HW_ HS (fun w' hS=>loc_load1_run kz rfl rfl hS.1 sz) ?_
  refine qA 8 77 511 HT_ ?_
  refine qT 9 78 1023 rfl rfl HT_ HW_ HS (fun w' hS=>loc_load1_run kz rfl rfl hS.1 sz) ?_
  refine qA 10 79 2047 HT_ ?_
  refine qA 11 80 4095 HT_ ?_
  refine qA 12 81 8191 HT_ ?_
  refine two_ (i:=13) (j:=14) (Ni:=some 82) (Nj:=some 9) (YteknaofnageihaaLoc.bm 16 16383) (YteknaofnageihaaLoc.bm 16 24575) rfl rfl rfl rfl (two_of HT_.out kz) (by decide) (by decide) (fun K hK=>?_) (fun K hK=>?_)
  ·refine goes_ Try.func119 kz rfl #[.agg #[.int .i64 x.f0,.int .i64 x.f1,.slice D x.f2.length d],.int .i64 (Int.tmod (wrap64 (t1+t3)) 8),.int .i64 0] rz rfl rfl am ?_
   refine (spec_l6Frame.calls x.f0 x.f1 D d x.f2 _ _ e0 e1 e2 e3 e4 e5 e6 e7 e8 _ (Kd.F_now HDF.out) KD.out PFR.out).mono ?_
   rintro e w9_ ⟨v8_,rfl,h8_,hb_⟩
   obtain ⟨E8,c8,hv8⟩:=Kd.R_slice h8_
   subst hv8
   refine ⟨_,rfl,?_⟩
   replace HX:=mk_ (HX.out.call hb_)
   replace HDF:=mk_ (Kd.F_below HDF.out hb_)
   replace HL:=mk_ (HL.out.call hb_)
   replace HS:=mk_ (And.intro (HS.out.1.call hb_) (HS.out.2.below hb_))
   clear hb_ h8_
   refine qK hK HS ?_;clear hK K
   refine qO 14 (some 9) 32767 HT_ (fun K hK=>?_)
   refine alloc_step (by rfl) rfl rfl tz102 HL.out ?_
   intro gb9 w9_ HL_ hb_ hg_
   have GE9:=mk_ (show w.heap.size≤gb9 by rw [hg_];exact HX.out.kp.1)
   replace HX:=mk_ (HX.out.new hb_ hg_)
   replace HDF:=mk_ (Kd.F_below HDF.out hb_)
   replace HS:=mk_ (And.intro (HS.out.1.call hb_) (HS.out.2.below hb_))
   replace HL:=mk_ HL_
   clear HL_ hb_ hg_
   refine qK hK HS ?_;clear hK K
   refine qE 15 none 65535 HT_ (fun K hK=>?_)
   refine store_step (by rfl) rfl rfl rfl gz kz kz HL.out pz ?_
   intro w9_ HL_ hs_ hf_
   replace HX:=mk_ (HX.out.far hs_ hf_ (fun j_ h_=>h_.2) GE9.out)
   replace HL:=mk_ HL_
   clear HL_ hs_ hf_
   refine hK.out _ _ ?_;clear hK K
   refine qF HT_ ?_
   clear HT_ HW_ HS
   go_upto_region 11 with (first|((with_reducible refine gate_gd rfl ?_);first|((with_reducible refine gd_on rfl ?_ ?_);rfl;dsimp only)|((with_reducible refine gd_off rfl ?_ ?_);rfl))|((with_reducible refine gate_ld0 rfl ?_);refine loc_load1 rfl rfl kz rfl HL.out sz ?_)|((with_reducible refine gate_st0 rfl ?_);refine tx_store rfl rfl rfl gz kz kz HL.out pz ?_;intro w_ HL_ hs_ hf_;replace HX:=mk_ (HX.out.far hs_ hf_ (fun j_ h_=>h_.1.1) GE4.out);replace HL:=mk_ HL_;clear HL_ hs_ hf_))
   refine start_ (n:=5) (S:=fun w'=>Lok w0 w' _) (ds:=[3]) (YteknaofnageihaaLoc.bm 5 0) kz rfl rfl (Lok_two (g1:=gb4) (g2:=gb9) HL.out.drew hz hz (nz HL.out)) (fun hHeld=>?_)
   refine with_tabW fx113.tab11 fx113.bits11 (fun HT_ HW_=>?_)
   have HS:=mk_ hHeld
   clear hHeld
   replace HL:=mk_ HL.out.drew
   replace HX:=mk_ (HX.out.call (below_drew (Below.refl _ _)))
   revert HS HL HX
   generalize World.drew _=w8_
   intro HS HL HX
   refine qL 0 87 1 10 HT_ HW_ HS ?_
   refine qL 1 88 3 9 HT_ HW_ HS ?_
   refine qO 2 none 7 HT_ (fun K hK=>?_)
   refine store_step (by rfl) rfl rfl rfl gz kz kz HL.out pz ?_
   intro w9_ HL_ hs_ hf_
   replace HS:=mk_ (Lok_far HS.out HL_.bel hf_ (by intro b_ hb9;simp only [List.mem_cons,List.not_mem_nil,or_false] at hb9;have h9:=HL.out.ne;simp only [List.map_cons,List.nodup_cons,List.mem_cons,List.map_nil,not_or] at h9;rcases hb9 with rfl|rfl <;> (dsimp only;omega)))
   replace HX:=mk_ (HX.out.far hs_ hf_ (fun j_ h_=>h_.1.2.1) GE6.out)
   replace HL:=mk_ HL_
   clear HL_ hs_ hf_
   refine qN hK HS ?_;clear hK K
   refine qE 3 none 15 HT_ (fun K hK=>?_)
   refine store_step (by rfl) rfl rfl rfl gz kz kz HL.out pz ?_
   intro w9_ HL_ hs_ hf_
   replace HX:=mk_ (HX.out.far hs_ hf_ (fun j_ h_=>h_.1.2.2.1) GE7.out)
   replace HL:=mk_ HL_
   clear HL_ hs_ hf_
   refine hK.out _ _ ?_;clear hK K
   refine qA 4 8 31 HT_ ?_
   refine qF HT_ ?_
   clear HT_ HW_ HS
   go_wp2
   refine bodyPost_ret (results_list (rs:=[.cell 6 69,.cell 7 102,.tmp 8]) rfl (by simp) (.cell _ 69 _ (0,0) _ rfl (HL.out.blk hz) Try.underlying69 rfl kz (.cell _ 102 _ (0,0) _ rfl (HL.out.blk hz) Try.underlying102 rfl kz (.tmp .nil)))) rfl ?_
   exact mkTxF ⟨_,_,fl,_,q,_,_,_,_,_⟩ _ _ _ ez ⟨some ad,k2,A4,k4,rfl,Kd.F_mono HX.out.f2 (fun _ h_=>h_.1.2.2.2),KF.out,Kd.F_mono HX.out.f4 (fun _ h_=>h_.1.2.2.2),KQ.out⟩ S1.out (mkFrv _ _ _ _ _ _ _ _ _ _ _) HL.out.bel HX.out.kp
  ·refine alloc_step (by rfl) rfl rfl tz102 HL.out ?_
   intro gb9 w9_ HL_ hb_ hg_
   have GE9:=mk_ (show w.heap.size≤gb9 by rw [hg_];exact HX.out.kp.1)
   replace HX:=mk_ (HX.out.new hb_ hg_)
   replace HDF:=mk_ (Kd.F_below HDF.out hb_)
   replace HS:=mk_ (And.intro (HS.out.1.call hb_) (HS.out.2.below hb_))
   replace HL:=mk_ HL_
   clear HL_ hb_ hg_
   refine qK hK HS ?_;clear hK K
   refine qO 13 (some 82) 32767 HT_ (fun K hK=>?_)
   refine goes_ Try.func119 kz rfl #[.agg #[.int .i64 x.f0,.int .i64 x.f1,.slice D x.f2.length d],.int .i64 (Int.tmod (wrap64 (t1+t3)) 8),.int .i64 0] rz rfl rfl am ?_
   refine (spec_l6Frame.calls x.f0 x.f1 D d x.f2 _ _ e0 e1 e2 e3 e4 e5 e6 e7 e8 _ (Kd.F_now HDF.out) KD.out PFR.out).mono ?_
   rintro e w9_ ⟨v8_,rfl,h8_,hb_⟩
   obtain ⟨E8,c8,hv8⟩:=Kd.R_slice h8_
   subst hv8
   refine ⟨_,rfl,?_⟩
   replace HX:=mk_ (HX.out.call hb_)
   replace HDF:=mk_ (Kd.F_below HDF.out hb_)
   replace HL:=mk_ (HL.out.call hb_)
   replace HS:=mk_ (And.intro (HS.out.1.call hb_) (HS.out.2.below hb_))
   clear hb_ h8_
   refine qK hK HS ?_;clear hK K
   refine qE 15 none 65535 HT_ (fun K hK=>?_)
   refine store_step (by rfl) rfl rfl rfl gz kz kz HL.out pz ?_
   intro w9_ HL_ hs_ hf_
   replace HX:=mk_ (HX.out.far hs_ hf_ (fun j_ h_=>h_.2) GE9.out)
   replace HL:=mk_ HL_
   clear HL_ hs_ hf_
   refine hK.out _ _ ?_;clear hK K
   refine qF HT_ ?_
   clear HT_ HW_ HS
   go_upto_region 11 with (first|((with_reducible refine gate_gd rfl ?_);first|((with_reducible refine gd_on rfl ?_ ?_);rfl;dsimp only)|((with_reducible refine gd_off rfl ?_ ?_);rfl))|((with_reducible refine gate_ld0 rfl ?_);refine loc_load1 rfl rfl kz rfl HL.out sz ?_)|((with_reducible refine gate_st0 rfl ?_);refine tx_store rfl rfl rfl gz kz kz HL.out pz ?_;intro w_ HL_ hs_ hf_;replace HX:=mk_ (HX.out.far hs_ hf_ (fun j_ h_=>h_.1.1) GE4.out);replace HL:=mk_ HL_;clear HL_ hs_ hf_))
   refine start_ (n:=5) (S:=fun w'=>Lok w0 w' _) (ds:=[3]) (YteknaofnageihaaLoc.bm 5 0) kz rfl rfl (Lok_two (g1:=gb4) (g2:=gb9) HL.out.drew hz hz (nz HL.out)) (fun hHeld=>?_)
   refine with_tabW fx113.tab11 fx113.bits11 (fun HT_ HW_=>?_)
   have HS:=mk_ hHeld
   clear hHeld
   replace HL:=mk_ HL.out.drew
   replace HX:=mk_ (HX.out.call (below_drew (Below.refl _ _)))
   revert HS HL HX
   generalize World.drew _=w8_
   intro HS HL HX
   refine qL 0 87 1 10 HT_ HW_ HS ?_
   refine qL 1 88 3 9 HT_ HW_ HS ?_
   refine qO 2 none 7 HT_ (fun K hK=>?_)
   refine store_step (by rfl) rfl rfl rfl gz kz kz HL.out pz ?_
   intro w9_ HL_ hs_ hf_
   replace HS:=mk_ (Lok_far HS.out HL_.bel hf_ (by intro b_ hb9;simp only [List.mem_cons,List.not_mem_nil,or_false] at hb9;have h9:=HL.out.ne;simp only [List.map_cons,List.nodup_cons,List.mem_cons,List.map_nil,not_or] at h9;rcases hb9 with rfl|rfl <;> (dsimp only;omega)))
   replace HX:=mk_ (HX.out.far hs_ hf_ (fun j_ h_=>h_.1.2.1) GE6.out)
   replace HL:=mk_ HL_
   clear HL_ hs_ hf_
   refine qN hK HS ?_;clear hK K
   refine qE 3 none 15 HT_ (fun K hK=>?_)
   refine store_step (by rfl) rfl rfl rfl gz kz kz HL.out pz ?_
   intro w9_ HL_ hs_ hf_
   replace HX:=mk_ (HX.out.far hs_ hf_ (fun j_ h_=>h_.1.2.2.1) GE7.out)
   replace HL:=mk_ HL_
   clear HL_ hs_ hf_
   refine hK.out _ _ ?_;clear hK K
   refine qA 4 8 31 HT_ ?_
   refine qF HT_ ?_
   clear HT_ HW_ HS
   go_wp2
   refine bodyPost_ret (results_list (rs:=[.cell 6 69,.cell 7 102,.tmp 8]) rfl (by simp) (.cell _ 69 _ (0,0) _ rfl (HL.out.blk hz) Try.underlying69 rfl kz (.cell _ 102 _ (0,0) _ rfl (HL.out.blk hz) Try.underlying102 rfl kz (.tmp .nil)))) rfl ?_
   exact mkTxF ⟨_,_,fl,_,q,_,_,_,_,_⟩ _ _ _ ez ⟨some ad,k2,A4,k4,rfl,Kd.F_mono HX.out.f2 (fun _ h_=>h_.1.2.2.2),KF.out,Kd.F_mono HX.out.f4 (fun _ h_=>h_.1.2.2.2),KQ.out⟩ S1.out (mkFrv _ _ _ _ _ _ _ _ _ _ _) HL.out.bel HX.out.kp
 have d1b:(t3 == (fl.length:Int))=true:=beq_iff_eq.mpr d1
 have d1c:decide (t3=(fl.length:Int))=true:=decide_eq_true d1
 by_cases e1:(fl.length:Int)=c1
 ·have e1b:((fl.length:Int) == c1)=true:=beq_iff_eq.mpr e1
  have e1c:decide ((fl.length:Int)=c1)=true:=decide_eq_true e1
  go_enter Try.func113,Try.ntmps113
  go_wp2_with (first|((with_reducible refine gate_gd rfl ?_);first|((with_reducible refine gd_on rfl ?_ ?_);rfl;dsimp only)|((with_reducible refine gd_off rfl ?_ ?_);rfl))|((with_reducible refine gate_dst (N:=3) rfl ?_);refine loc_box rfl rfl gz HL.out ?_;intro gb3 w_ HL_;replace HL:=mk_ HL_;clear HL_)|((with_reducible refine gate_dst (N:=4) rfl ?_);refine loc_box rfl rfl gz HL.out ?_;intro gb4 w_ HL_;replace HL:=mk_ HL_;clear HL_)|((with_reducible refine gate_dst (N:=6) rfl ?_);refine loc_alloc rfl rfl tz69 HL.out ?_;intro gb6 w_ HL_;replace HL:=mk_ HL_;clear HL_)|((with_reducible refine gate_dst (N:=7) rfl ?_);refine loc_alloc rfl rfl tz102 HL.out ?_;intro gb7 w_ HL_;replace HL:=mk_ HL_;clear HL_)|((with_reducible refine gate_ld0 (t:=69) rfl ?_);refine loc_load (n:=10) rfl rfl kz rfl kz HL.out sz ?_)|((with_reducible refine gate_ld0 (t:=66) rfl ?_);refine loc_load (n:=5) rfl rfl kz rfl kz HL.out sz ?_)|((with_reducible refine gate_ld0 rfl ?_);refine loc_load1 rfl rfl kz rfl HL.out sz ?_)|((with_reducible refine gate_st0 rfl ?_);refine loc_store rfl rfl rfl gz kz kz HL.out pz ?_;intro w_ HL_;replace HL:=mk_ HL_;clear HL_))
  refine bodyPost_ret (results_list (rs:=[.cell 6 69,.cell 7 102,.tmp 8]) rfl (by simp) (.cell _ 69 _ (0,0) _ rfl (HL.out.blk hz) Try.underlying69 rfl kz (.cell _ 102 _ (0,0) _ rfl (HL.out.blk hz) Try.underlying102 rfl kz (.tmp .nil)))) rfl ?_
  exact mkTxF ⟨_,_,fl,_,q,_,_,_,_,_⟩ _ _ _ ez ⟨A2,k2,A4,k4,rfl,Kd.F_mono (Kd.F_below F2.out HL.out.bel) (fun _ h_=>Or.inl h_),K2.out,Kd.F_mono (Kd.F_below F4.out HL.out.bel) (fun _ h_=>Or.inl h_.1),K4.out⟩ S0.out (mkFrv _ _ _ _ _ _ _ _ _ _ _) (Lok_base HL.out HB.out).bel (kept_below _ HL.out.bel)
 have e1b:((fl.length:Int) == c1)=false:=beq_eq_false_iff_ne.mpr e1
 have e1c:decide ((fl.length:Int)=c1)=false:=decide_eq_false e1
 by_cases e2:(q.length:Int)=0
 ·have e2b:((q.length:Int) == 0)=true:=beq_iff_eq.mpr e2
  have e2c:decide ((q.length:Int)=0)=true:=decide_eq_true e2
  go_enter Try.func113,Try.ntmps113
  go_wp2_with (first|((with_reducible refine gate_gd rfl ?_);first|((with_reducible refine gd_on rfl ?_ ?_);rfl;dsimp only)|((with_reducible refine gd_off rfl ?_ ?_);rfl))|((with_reducible refine gate_dst (N:=3) rfl ?_);refine loc_box rfl rfl gz HL.out ?_;intro gb3 w_ HL_;replace HL:=mk_ HL_;clear HL_)|((with_reducible refine gate_dst (N:=4) rfl ?_);refine loc_box rfl rfl gz HL.out ?_;intro gb4 w_ HL_;replace HL:=mk_ HL_;clear HL_)|((with_reducible refine gate_dst (N:=6) rfl ?_);refine loc_alloc rfl rfl tz69 HL.out ?_;intro gb6 w_ HL_;replace HL:=mk_ HL_;clear HL_)|((with_reducible refine gate_dst (N:=7) rfl ?_);refine loc_alloc rfl rfl tz102 HL.out ?_;intro gb7 w_ HL_;replace HL:=mk_ HL_;clear HL_)|((with_reducible refine gate_ld0 (t:=69) rfl ?_);refine loc_load (n:=10) rfl rfl kz rfl kz HL.out sz ?_)|((with_reducible refine gate_ld0 (t:=66) rfl ?_);refine loc_load (n:=5) rfl rfl kz rfl kz HL.out sz ?_)|((with_reducible refine gate_ld0 rfl ?_);refine loc_load1 rfl rfl kz rfl HL.out sz ?_)|((with_reducible refine gate_st0 rfl ?_);refine loc_store rfl rfl rfl gz kz kz HL.out pz ?_;intro w_ HL_;replace HL:=mk_ HL_;clear HL_))
  refine bodyPost_ret (results_list (rs:=[.cell 6 69,.cell 7 102,.tmp 8]) rfl (by simp) (.cell _ 69 _ (0,0) _ rfl (HL.out.blk hz) Try.underlying69 rfl kz (.cell _ 102 _ (0,0) _ rfl (HL.out.blk hz) Try.underlying102 rfl kz (.tmp .nil)))) rfl ?_
  exact mkTxF ⟨_,_,fl,_,q,_,_,_,_,_⟩ _ _ _ ez ⟨A2,k2,A4,k4,rfl,Kd.F_mono (Kd.F_below F2.out HL.out.bel) (fun _ h_=>Or.inl h_),K2.out,Kd.F_mono (Kd.F_below F4.out HL.out.bel) (fun _ h_=>Or.inl h_.1),K4.out⟩ S0.out (mkFrv _ _ _ _ _ _ _ _ _ _ _) (Lok_base HL.out HB.out).bel (kept_below _ HL.out.bel)
 have e2b:((q.length:Int) == 0)=false:=beq_eq_false_iff_ne.mpr e2
 have e2c:decide ((q.length:Int)=0)=false:=decide_eq_false e2
 by_cases e3:9999≤wrap64 (t8+(fl.length:Int))
 ·have e3b:decide (9999≤wrap64 (t8+(fl.length:Int)))=true:=decide_eq_true e3
  go_enter Try.func113,Try.ntmps113
  go_wp2_with (first|((with_reducible refine gate_gd rfl ?_);first|((with_reducible refine gd_on rfl ?_ ?_);rfl;dsimp only)|((with_reducible refine gd_off rfl ?_ ?_);rfl))|((with_reducible refine gate_dst (N:=3) rfl ?_);refine loc_box rfl rfl gz HL.out ?_;intro gb3 w_ HL_;replace HL:=mk_ HL_;clear HL_)|((with_reducible refine gate_dst (N:=4) rfl ?_);refine loc_box rfl rfl gz HL.out ?_;intro gb4 w_ HL_;replace HL:=mk_ HL_;clear HL_)|((with_reducible refine gate_dst (N:=6) rfl ?_);refine loc_alloc rfl rfl tz69 HL.out ?_;intro gb6 w_ HL_;replace HL:=mk_ HL_;clear HL_)|((with_reducible refine gate_dst (N:=7) rfl ?_);refine loc_alloc rfl rfl tz102 HL.out ?_;intro gb7 w_ HL_;replace HL:=mk_ HL_;clear HL_)|((with_reducible refine gate_ld0 (t:=69) rfl ?_);refine loc_load (n:=10) rfl rfl kz rfl kz HL.out sz ?_)|((with_reducible refine gate_ld0 (t:=66) rfl ?_);refine loc_load (n:=5) rfl rfl kz rfl kz HL.out sz ?_)|((with_reducible refine gate_ld0 rfl ?_);refine loc_load1 rfl rfl kz rfl HL.out sz ?_)|((with_reducible refine gate_st0 rfl ?_);refine loc_store rfl rfl rfl gz kz kz HL.out pz ?_;intro w_ HL_;replace HL:=mk_ HL_;clear HL_))
  refine bodyPost_ret (results_list (rs:=[.cell 6 69,.cell 7 102,.tmp 8]) rfl (by simp) (.cell _ 69 _ (0,0) _ rfl (HL.out.blk hz) Try.underlying69 rfl kz (.cell _ 102 _ (0,0) _ rfl (HL.out.blk hz) Try.underlying102 rfl kz (.tmp .nil)))) rfl ?_
  exact mkTxF ⟨_,_,fl,_,q,_,_,_,_,_⟩ _ _ _ ez ⟨A2,k2,A4,k4,rfl,Kd.F_mono (Kd.F_below F2.out HL.out.bel) (fun _ h_=>Or.inl h_),K2.out,Kd.F_mono (Kd.F_below F4.out HL.out.bel) (fun _ h_=>Or.inl h_.1),K4.out⟩ S0.out (mkFrv _ _ _ _ _ _ _ _ _ _ _) (Lok_base HL.out HB.out).bel (kept_below _ HL.out.bel)
 exact send_b2 ⟨t0,t1,fl,t3,q,false,t6,false,t8,false⟩ _ _ _ c0 c1 c2 c3 c4 w0 w HB.out HT.out S0.out H3.out H4.out rfl rfl rfl d1 e1 e2 e3
end Go.Proofs.Yteknaofnageihaa.QFnTxOk
