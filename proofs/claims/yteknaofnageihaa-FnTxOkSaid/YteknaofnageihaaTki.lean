-- Texts by hand for FnTxLeft, FnTxOk.
import Derived.Test.YteknaofnageihaaTke
import Derived.Test.YteknaofnageihaaQFnTxOkx11
import Derived.Test.YteknaofnageihaaQFnTxOkx19
namespace Go.Proofs.Yteknaofnageihaa.QFnTxOk
open Go.RowKit Go.Proofs.YteknaofnageihaaW.PrintWords Go.Proofs.YteknaofnageihaaW.PrintLast Go.Proofs.YteknaofnageihaaW.PrintMore Go.Proofs.YteknaofnageihaaLoc
attribute [local go_sem] max2_int min2_int max_two min_two max_three min_three max_four min_four   -- for this text's walks alone
set_option linter.unusedVariables false
set_option linter.unusedSimpArgs false
open Go.Proofs.Yteknaofnageihaa.Pure
theorem Lok_four {w0 w:World} {H:List Blk} {g1 g2 g3 g4:Nat} {c1 c2 c3 c4:List Value} {t1 t2 t3 t4:TypeId} (h:Lok w0 w H) (h1:Has H g1 c1 t1) (h2:Has H g2 c2 t2) (h3:Has H g3 c3 t3) (h4:Has H g4 c4 t4) (hn:(g1≠g2∧g1≠g3∧g1≠g4)∧(g2≠g3∧g2≠g4)∧g3≠g4):Lok w0 w [(g1,c1,t1),(g2,c2,t2),(g3,c3,t3),(g4,c4,t4)]:=by
 have k1:=h.blk h1;have k2:=h.blk h2;have k3:=h.blk h3;have k4:=h.blk h4
 refine ⟨h.bel,?_,by simp [hn]⟩
 intro x hx
 simp only [List.mem_cons,List.not_mem_nil,or_false] at hx
 rcases hx with rfl|rfl|rfl|rfl
 ·exact ⟨k1,Lok_ge h h1⟩
 ·exact ⟨k2,Lok_ge h h2⟩
 ·exact ⟨k3,Lok_ge h h3⟩
 ·exact ⟨k4,Lok_ge h h4⟩
def TxFE (w:World):Ending→World→Prop:=fun e w'=>∃ v t vf fb b2 b4,e=.returned (.tuple #[v,vf,.bool fb])∧Txn w' w.heap.size t v b2 b4∧Sm t∧Frv vf∧Below w.heap.size w w'
theorem mkTxFE {w w':World} {e:Ending} {b2 b4:Option Nat} (t:Tx) (v vf:Value) (fb:Bool) (h:e=.returned (.tuple #[v,vf,.bool fb])) (h1:Txn w' w.heap.size t v b2 b4) (hs:Sm t) (hf:Frv vf) (h2:Below w.heap.size w w'):TxFE w e w':=⟨v,t,vf,fb,b2,b4,h,h1,hs,hf,h2⟩
def fx105.T3:Bool × List (List Nat × List Nat):=(true,[([],[]),([],[]),([1],[1]),([],[]),([],[]),([0,2,3,4,2],[0,2,3,4]),([5],[5]),([6],[6]),([6],[6]),([6],[6]),([],[]),([],[]),([10,7,5,0,1,2,3,4,5,6,7,10,11],[7,10]),([11,8,12,0,1,2,3,4,5,6,7,8,10,11,12],[8,11]),([9,13,0,1,2,3,4,5,6,7,8,9,10,11,12,13],[9])])
def fx105.B3:List Nat:=[0,0,2,0,0,31,63,127,127,127,0,0,3327,7679,16383]
theorem fx105.tab3:rtab .any (opsOf Try.f105 3)=fx105.T3:=by kernel_rfl
theorem fx105.bits3:waitsOk fx105.T3.2 fx105.B3=true:=by kernel_rfl
def fx105.T4:Bool × List (List Nat × List Nat):=(true,[([],[]),([0],[0]),([],[]),([],[]),([1,1,0,1],[1]),([2,4,0,1,2,4],[2]),([3,5,0,1,2,3,4,5],[3])])
def fx105.B4:List Nat:=[0,1,0,0,3,23,63]
theorem fx105.tab4:rtab .any (opsOf Try.f105 4)=fx105.T4:=by kernel_rfl
theorem fx105.bits4:waitsOk fx105.T4.2 fx105.B4=true:=by kernel_rfl
set_option maxHeartbeats 60000000 in
set_option maxRecDepth 100000 in
theorem txtick_calls (t:Tx) (v:Value) (c0 c1 c2 c3 c4:Int) (w:World) (ht:Txr w t v) (hs:Sm t):Calls Try.prog 105 #[.agg #[.int .i64 c0,.int .i64 c1,.int .i64 c2,.int .i64 c3,.int .i64 c4],v,.int .i64 0,.bool false] w (TxFE w):=by
 obtain ⟨t0,t1,fl,t3,q,t5,t6,t7,t8,t9⟩:=t
 obtain ⟨A2,k2,A4,k4,rfl,h2,hk2,h4,hk4⟩:=ht
 dsimp only at h2 hk2 h4 hk4 ⊢
 have H2:=mk_ h2
 have K2:=mk_ hk2
 have H4:=mk_ h4
 have K4:=mk_ hk4
 clear h2 hk2 h4 hk4
 have HL:=mk_ (Lok.start w)
 obtain ⟨k1,b,hok,hg⟩:=p_ok c0 c1 c2 c3 c4 _ hs
 have POK:=mk_ hok
 have S0:=mk_ hs
 clear hs hok
 cases b
 ·go_enter Try.func105,Try.ntmps105
  go_wp2_with (first|((with_reducible refine gate_gd rfl ?_);first|((with_reducible refine gd_on rfl ?_ ?_);rfl;dsimp only)|((with_reducible refine gd_off rfl ?_ ?_);rfl))|((with_reducible refine gate_dst (N:=16) rfl ?_);(with_reducible refine gate_callee (f:=48) rfl ?_);refine goesL_ (some 16) rfl rfl Try.func48 kz rfl #[.agg #[.int .i64 c0,.int .i64 c1,.int .i64 c2,.int .i64 c3,.int .i64 c4],.agg #[.int .i64 t0,.int .i64 t1,.slice A2 fl.length k2,.int .i64 t3,.slice A4 q.length k4,.bool t5,.int .i64 t6,.bool t7,.int .i64 t8,.bool t9]] rfl am ?_;(with_reducible refine (spec_TxOk.calls k1 c0 c1 c2 c3 c4 t0 t1 A2 k2 fl t3 A4 k4 q t5 t6 t7 t8 t9 _ _ (Kd.C_below H2.out HL.out.bel) K2.out (Kd.C_below H4.out HL.out.bel) K4.out POK.out).mono ?_);rintro e w_ ⟨rfl,hb_⟩;refine ⟨_,rfl,?_⟩;replace HL:=mk_ (HL.out.call hb_);clear hb_)|((with_reducible refine gate_dst (N:=20) rfl ?_);(with_reducible refine gate_callee (f:=64) rfl ?_);refine goesL_ (some 20) rfl rfl Try.func64 kz rfl #[.int .i64 0,.int .i64 0,.int .i64 7] rfl am ?_;(with_reducible refine (spec_l1In.calls 0 0 7 true _ rfl).mono ?_);rintro e w_ ⟨rfl,hb_⟩;refine ⟨_,rfl,?_⟩;replace HL:=mk_ (HL.out.call hb_.below);clear hb_)|((with_reducible refine gate_dst (N:=4) rfl ?_);refine loc_box rfl rfl gz HL.out ?_;intro gb4 w_ HL_;replace HL:=mk_ HL_;clear HL_)|((with_reducible refine gate_dst (N:=5) rfl ?_);refine loc_box rfl rfl gz HL.out ?_;intro gb5 w_ HL_;replace HL:=mk_ HL_;clear HL_)|((with_reducible refine gate_dst (N:=8) rfl ?_);refine loc_alloc rfl rfl tz69 HL.out ?_;intro gb8 w_ HL_;replace HL:=mk_ HL_;clear HL_)|((with_reducible refine gate_dst (N:=9) rfl ?_);refine loc_alloc rfl rfl tz102 HL.out ?_;intro gb9 w_ HL_;replace HL:=mk_ HL_;clear HL_)|((with_reducible refine gate_ld0 (t:=69) rfl ?_);refine loc_load (n:=10) rfl rfl kz rfl kz HL.out sz ?_)|((with_reducible refine gate_ld0 (t:=66) rfl ?_);refine loc_load (n:=5) rfl rfl kz rfl kz HL.out sz ?_)|((with_reducible refine gate_ld0 (t:=102) rfl ?_);refine loc_load (n:=9) rfl rfl kz rfl kz HL.out sz ?_)|((with_reducible refine gate_ld0 rfl ?_);refine loc_load1 rfl rfl kz rfl HL.out sz ?_)|((with_reducible refine gate_st0 rfl ?_);refine loc_store rfl rfl rfl gz kz kz HL.out pz ?_;intro w_ HL_;replace HL:=mk_ HL_;clear HL_))
  refine bodyPost_ret (results_list (rs:=[.cell 8 69,.cell 9 102,.tmp 10]) rfl (by simp) (.cell _ 69 _ (0,0) _ rfl (HL.out.blk hz) Try.underlying69 rfl kz (.cell _ 102 _ (0,0) _ rfl (HL.out.blk hz) Try.underlying102 rfl kz (.tmp .nil)))) rfl ?_
  exact mkTxFE ⟨0,0,[],0,[],false,0,false,0,false⟩ _ _ _ ez (Txn_zero _ _) Sm_zero (mkFrv _ _ _ _ _ _ _ _ _ _ _) HL.out.bel
 have G:=mk_ (hg rfl)
 clear hg
 have HT:=mk_ (show Txr w ⟨t0,t1,fl,t3,q,t5,t6,t7,t8,t9⟩ (.agg #[.int .i64 t0,.int .i64 t1,.slice A2 fl.length k2,.int .i64 t3,.slice A4 q.length k4,.bool t5,.int .i64 t6,.bool t7,.int .i64 t8,.bool t9]) from ⟨A2,k2,A4,k4,rfl,H2.out,K2.out,H4.out,K4.out⟩)
 go_enter Try.func105,Try.ntmps105
 go_upto_region 3 with (first|((with_reducible refine gate_gd rfl ?_);first|((with_reducible refine gd_on rfl ?_ ?_);rfl;dsimp only)|((with_reducible refine gd_off rfl ?_ ?_);rfl))|((with_reducible refine gate_dst (N:=16) rfl ?_);(with_reducible refine gate_callee (f:=48) rfl ?_);refine goesL_ (some 16) rfl rfl Try.func48 kz rfl #[.agg #[.int .i64 c0,.int .i64 c1,.int .i64 c2,.int .i64 c3,.int .i64 c4],.agg #[.int .i64 t0,.int .i64 t1,.slice A2 fl.length k2,.int .i64 t3,.slice A4 q.length k4,.bool t5,.int .i64 t6,.bool t7,.int .i64 t8,.bool t9]] rfl am ?_;(with_reducible refine (spec_TxOk.calls k1 c0 c1 c2 c3 c4 t0 t1 A2 k2 fl t3 A4 k4 q t5 t6 t7 t8 t9 _ _ (Kd.C_below H2.out HL.out.bel) K2.out (Kd.C_below H4.out HL.out.bel) K4.out POK.out).mono ?_);rintro e w_ ⟨rfl,hb_⟩;refine ⟨_,rfl,?_⟩;replace HL:=mk_ (HL.out.call hb_);clear hb_)|((with_reducible refine gate_dst (N:=20) rfl ?_);(with_reducible refine gate_callee (f:=64) rfl ?_);refine goesL_ (some 20) rfl rfl Try.func64 kz rfl #[.int .i64 0,.int .i64 0,.int .i64 7] rfl am ?_;(with_reducible refine (spec_l1In.calls 0 0 7 true _ rfl).mono ?_);rintro e w_ ⟨rfl,hb_⟩;refine ⟨_,rfl,?_⟩;replace HL:=mk_ (HL.out.call hb_.below);clear hb_)|((with_reducible refine gate_dst (N:=4) rfl ?_);refine loc_box rfl rfl gz HL.out ?_;intro gb4 w_ HL_;replace HL:=mk_ HL_;clear HL_)|((with_reducible refine gate_dst (N:=5) rfl ?_);refine loc_box rfl rfl gz HL.out ?_;intro gb5 w_ HL_;replace HL:=mk_ HL_;clear HL_)|((with_reducible refine gate_dst (N:=8) rfl ?_);refine loc_alloc rfl rfl tz69 HL.out ?_;intro gb8 w_ HL_;replace HL:=mk_ HL_;clear HL_)|((with_reducible refine gate_dst (N:=9) rfl ?_);refine loc_alloc rfl rfl tz102 HL.out ?_;intro gb9 w_ HL_;replace HL:=mk_ HL_;clear HL_)|((with_reducible refine gate_ld0 (t:=69) rfl ?_);refine loc_load (n:=10) rfl rfl kz rfl kz HL.out sz ?_)|((with_reducible refine gate_ld0 (t:=66) rfl ?_);refine loc_load (n:=5) rfl rfl kz rfl kz HL.out sz ?_)|((with_reducible refine gate_ld0 (t:=102) rfl ?_);refine loc_load (n:=9) rfl rfl kz rfl kz HL.out sz ?_)|((with_reducible refine gate_ld0 rfl ?_);refine loc_load1 rfl rfl kz rfl HL.out sz ?_)|((with_reducible refine gate_st0 rfl ?_);refine loc_store rfl rfl rfl gz kz kz HL.out pz ?_;intro w_ HL_;replace HL:=mk_ HL_;clear HL_))
 (try simp only [Act.put,List.setIfInBounds_toArray,List.set_cons_zero,List.set_cons_succ])
 go_cut [11,12,13] (fun vs vt vb wc=>∃ (gb11 gb12:Nat) (r:Tx) (B2:Option Addr) (j2:Nat) (B4:Option Addr) (j4:Nat) (f0 f1 f2:Int) (f3 f4:Bool) (f5 f6 f7:Int) (Af:Option Addr) (nf kf:Nat) (fb:Bool),vs=.pointer (some ⟨gb11,0,none⟩)∧vt=.pointer (some ⟨gb12,0,none⟩)∧vb=.bool fb∧Aside0 (Lok w wc [(gb11,[.int .i64 r.a0,.int .i64 r.a1,.slice B2 r.fl.length j2,.int .i64 r.a3,.slice B4 r.q.length j4,.bool r.a5,.int .i64 r.a6,.bool r.a7,.int .i64 r.a8,.bool r.a9],69),(gb12,[.int .i64 f0,.int .i64 f1,.int .i64 f2,.bool f3,.bool f4,.int .i64 f5,.int .i64 f6,.int .i64 f7,.slice Af nf kf],102),(gb8,[.int .i64 0,.int .i64 0,.slice none 0 0,.int .i64 0,.slice none 0 0,.bool false,.int .i64 0,.bool false,.int .i64 0,.bool false],69),(gb9,[.int .i64 0,.int .i64 0,.int .i64 0,.bool false,.bool false,.int .i64 0,.int .i64 0,.int .i64 0,.slice none 0 0],102)])∧Aside0 (Txr wc r (.agg #[.int .i64 r.a0,.int .i64 r.a1,.slice B2 r.fl.length j2,.int .i64 r.a3,.slice B4 r.q.length j4,.bool r.a5,.int .i64 r.a6,.bool r.a7,.int .i64 r.a8,.bool r.a9]))∧Aside0 (Sm r))
 case first =>
  refine start_ (n:=15) (S:=fun w'=>Lok w w' _) (ds:=[12,13]) (YteknaofnageihaaLoc.bm 15 0) kz rfl rfl HL.out.drew (fun hHeld=>?_)
  refine with_tabW fx105.tab3 fx105.bits3 (fun HT_ HW_=>?_)
  have HS:=mk_ hHeld
  clear hHeld
  replace HL:=mk_ HL.out.drew
  revert HS HL 
  generalize World.drew _=w8_
  intro HS HL 
  refine qL 0 26 1 5 HT_ HW_ HS ?_
  refine qL 1 27 3 10 HT_ HW_ HS ?_
  refine qA 3 29 11 HT_ ?_
  refine qA 4 30 27 HT_ ?_
  refine three_ (i:=2) (j:=10) (k:=11) (Ni:=some 28) (Nj:=some 11) (Nk:=some 12) (YteknaofnageihaaLoc.bm 15 31) (YteknaofnageihaaLoc.bm 15 1051) (YteknaofnageihaaLoc.bm 15 2075) rfl rfl rfl rfl rfl rfl (three_of HT_.out kz) (by decide) (by decide) (by decide) (fun K hK=>?_) (fun K hK=>?_) (fun K hK=>?_)
  ·refine goes_ Try.func112 kz rfl #[.agg #[.int .i64 t0,.int .i64 t1,.slice A2 fl.length k2,.int .i64 t3,.slice A4 q.length k4,.bool t5,.int .i64 t6,.bool t7,.int .i64 t8,.bool t9]] rz rfl rfl am ?_
   refine (copy_calls _ _ _ (HT.out.below HL.out.bel) S0.out).mono ?_
   rintro e w9_ ⟨vc,b2_,b4_,rfl,hn_,hb_⟩
   have HN:=mk_ hn_
   have HBc:=mk_ hb_
   have HB0:=mk_ HL.out.bel
   clear hn_
   refine ⟨_,rfl,?_⟩
   replace HL:=mk_ (HL.out.call hb_)
   replace HS:=mk_ (HS.out.call hb_)
   clear hb_
   refine qK hK HS ?_;clear hK K
   refine three_ (i:=5) (j:=10) (k:=11) (Ni:=some 31) (Nj:=some 11) (Nk:=some 12) (YteknaofnageihaaLoc.bm 15 63) (YteknaofnageihaaLoc.bm 15 1055) (YteknaofnageihaaLoc.bm 15 2079) rfl rfl rfl rfl rfl rfl (three_of HT_.out kz) (by decide) (by decide) (by decide) (fun K hK=>?_) (fun K hK=>?_) (fun K hK=>?_)
   ·refine goes_ Try.func116 kz rfl #[.agg #[.int .i64 c0,.int .i64 c1,.int .i64 c2,.int .i64 c3,.int .i64 c4],vc,.int .i64 0,.bool false] rz rfl rfl am ?_
    refine (tick_calls _ vc c0 c1 c2 c3 c4 0 false (TY _) _ HN.out.ty S0.out).mono ?_
    rintro e w9_ ⟨vr,r,vf,fb,rfl,hr_,sr_,⟨f0,f1,f2,f3,f4,f5,f6,f7,Af,nf,kf,rfl⟩,hb_,hk_⟩
    refine ⟨_,rfl,?_⟩
    obtain ⟨B2,j2,B4,j4,rfl,g2_,gk2_,g4_,gk4_⟩:=hr_.mono (ok':=fun k_=>True) (fun k_ h_=>trivial)
    have HX:=mk_ (show Txf w9_ (fun k_=>True) r (.agg #[.int .i64 r.a0,.int .i64 r.a1,.slice B2 r.fl.length j2,.int .i64 r.a3,.slice B4 r.q.length j4,.bool r.a5,.int .i64 r.a6,.bool r.a7,.int .i64 r.a8,.bool r.a9]) from ⟨B2,j2,B4,j4,rfl,g2_,gk2_,g4_,gk4_⟩)
    clear g2_ gk2_ g4_ gk4_
    replace HS:=mk_ (HS.out.call hb_)
    replace HL:=mk_ (HL.out.call hb_)
    have SR:=mk_ sr_
    clear hr_ sr_ hb_ hk_ HN HBc HB0
    refine qK hK HS ?_;clear hK K
    refine qA 6 25 127 HT_ ?_
    refine qA 7 32 255 HT_ ?_
    refine qA 8 33 511 HT_ ?_
    refine qA 9 34 1023 HT_ ?_
    refine two_ (i:=10) (j:=11) (Ni:=some 11) (Nj:=some 12) (YteknaofnageihaaLoc.bm 15 2047) (YteknaofnageihaaLoc.bm 15 3071) rfl rfl rfl rfl (two_of HT_.out kz) (by decide) (by decide) (fun K hK=>?_) (fun K hK=>?_)
    ·refine alloc_step (by rfl) rfl rfl tz69 HL.out ?_
     intro gb11 w9_ HL_ hb_ hg_
     replace HX:=mk_ (HX.out.new hb_ hg_)
     replace HS:=mk_ (HS.out.call hb_)
     replace HL:=mk_ HL_
     clear HL_ hb_ hg_
     refine qK hK HS ?_;clear hK K
     refine qO 11 (some 12) 4095 HT_ (fun K hK=>?_)
     refine alloc_step (by rfl) rfl rfl tz102 HL.out ?_
     intro gb12 w9_ HL_ hb_ hg_
     replace HX:=mk_ (HX.out.new hb_ hg_)
     replace HS:=mk_ (HS.out.call hb_)
     replace HL:=mk_ HL_
     clear HL_ hb_ hg_
     refine qK hK HS ?_;clear hK K
     refine qE 12 none 8191 HT_ (fun K hK=>?_)
     refine store_step (by rfl) rfl rfl rfl gz kz kz HL.out pz ?_
     intro w9_ HL_ hs_ hf_
     replace HL:=mk_ HL_
     replace HX:=mk_ (HX.out.step (fun j_ h_ _=>hf_ j_ (by first|exact h_.2|exact h_.1.2)))
     clear HL_ hs_ hf_
     refine hK.out _ _ ?_;clear hK K
     refine qE 13 none 16383 HT_ (fun K hK=>?_)
     refine store_step (by rfl) rfl rfl rfl gz kz kz HL.out pz ?_
     intro w9_ HL_ hs_ hf_
     replace HL:=mk_ HL_
     replace HX:=mk_ (HX.out.step (fun j_ h_ _=>hf_ j_ (by first|exact h_.2|exact h_.1.2)))
     clear HL_ hs_ hf_
     refine hK.out _ _ ?_;clear hK K
     refine qA 14 13 32767 HT_ ?_
     refine qF HT_ ?_
     clear HT_ HW_ HS
     try go_wp2
     go_meet
     case rel=>exact ⟨gb11,gb12,r,B2,j2,B4,j4,f0,f1,f2,f3,f4,f5,f6,f7,Af,nf,kf,fb,rfl,rfl,rfl,⟨Lok_four HL.out hz hz hz hz (nz HL.out)⟩,⟨HX.out.r⟩,⟨SR.out⟩⟩
    ·refine alloc_step (by rfl) rfl rfl tz102 HL.out ?_
     intro gb12 w9_ HL_ hb_ hg_
     replace HX:=mk_ (HX.out.new hb_ hg_)
     replace HS:=mk_ (HS.out.call hb_)
     replace HL:=mk_ HL_
     clear HL_ hb_ hg_
     refine qK hK HS ?_;clear hK K
     refine qO 10 (some 11) 4095 HT_ (fun K hK=>?_)
     refine alloc_step (by rfl) rfl rfl tz69 HL.out ?_
     intro gb11 w9_ HL_ hb_ hg_
     replace HX:=mk_ (HX.out.new hb_ hg_)
     replace HS:=mk_ (HS.out.call hb_)
     replace HL:=mk_ HL_
     clear HL_ hb_ hg_
     refine qK hK HS ?_;clear hK K
     refine qE 12 none 8191 HT_ (fun K hK=>?_)
     refine store_step (by rfl) rfl rfl rfl gz kz kz HL.out pz ?_
     intro w9_ HL_ hs_ hf_
     replace HL:=mk_ HL_
     replace HX:=mk_ (HX.out.step (fun j_ h_ _=>hf_ j_ (by first|exact h_.2|exact h_.1.2)))
     clear HL_ hs_ hf_
     refine hK.out _ _ ?_;clear hK K
     refine qE 13 none 16383 HT_ (fun K hK=>?_)
     refine store_step (by rfl) rfl rfl rfl gz kz kz HL.out pz ?_
     intro w9_ HL_ hs_ hf_
     replace HL:=mk_ HL_
     replace HX:=mk_ (HX.out.step (fun j_ h_ _=>hf_ j_ (by first|exact h_.2|exact h_.1.2)))
     clear HL_ hs_ hf_
     refine hK.out _ _ ?_;clear hK K
     refine qA 14 13 32767 HT_ ?_
     refine qF HT_ ?_
     clear HT_ HW_ HS
     try go_wp2
     go_meet
     case rel=>exact ⟨gb11,gb12,r,B2,j2,B4,j4,f0,f1,f2,f3,f4,f5,f6,f7,Af,nf,kf,fb,rfl,rfl,rfl,⟨Lok_four HL.out hz hz hz hz (nz HL.out)⟩,⟨HX.out.r⟩,⟨SR.out⟩⟩
   ·refine alloc_step (by rfl) rfl rfl tz69 HL.out ?_
    intro gb11 w9_ HL_ hb_ hg_
    replace HN:=mk_ (HN.out.below hb_)
    replace HBc:=mk_ (below_step HBc.out hb_)
    replace HS:=mk_ (HS.out.call hb_)
    replace HL:=mk_ HL_
    clear HL_ hb_ hg_
    refine qK hK HS ?_;clear hK K
    refine two_ (i:=5) (j:=11) (Ni:=some 31) (Nj:=some 12) (YteknaofnageihaaLoc.bm 15 1087) (YteknaofnageihaaLoc.bm 15 3103) rfl rfl rfl rfl (two_of HT_.out kz) (by decide) (by decide) (fun K hK=>?_) (fun K hK=>?_)
    ·refine goes_ Try.func116 kz rfl #[.agg #[.int .i64 c0,.int .i64 c1,.int .i64 c2,.int .i64 c3,.int .i64 c4],vc,.int .i64 0,.bool false] rz rfl rfl am ?_
     refine (tick_calls _ vc c0 c1 c2 c3 c4 0 false (TY _) _ HN.out.ty S0.out).mono ?_
     rintro e w9_ ⟨vr,r,vf,fb,rfl,hr_,sr_,⟨f0,f1,f2,f3,f4,f5,f6,f7,Af,nf,kf,rfl⟩,hb_,hk_⟩
     refine ⟨_,rfl,?_⟩
     obtain ⟨B2,j2,B4,j4,rfl,g2_,gk2_,g4_,gk4_⟩:=hr_.mono (ok':=fun k_=>(True∧k_≠gb11)) (fun k_ h_=>⟨trivial,ty_ne HL.out (g:=gb11) hz (by decide) h_⟩)
     have HX:=mk_ (show Txf w9_ (fun k_=>(True∧k_≠gb11)) r (.agg #[.int .i64 r.a0,.int .i64 r.a1,.slice B2 r.fl.length j2,.int .i64 r.a3,.slice B4 r.q.length j4,.bool r.a5,.int .i64 r.a6,.bool r.a7,.int .i64 r.a8,.bool r.a9]) from ⟨B2,j2,B4,j4,rfl,g2_,gk2_,g4_,gk4_⟩)
     clear g2_ gk2_ g4_ gk4_
     replace HS:=mk_ (HS.out.call hb_)
     replace HL:=mk_ (HL.out.call hb_)
     have SR:=mk_ sr_
     clear hr_ sr_ hb_ hk_ HN HBc HB0
     refine qK hK HS ?_;clear hK K
     refine qA 6 25 1151 HT_ ?_
     refine qA 7 32 1279 HT_ ?_
     refine qA 8 33 1535 HT_ ?_
     refine qA 9 34 2047 HT_ ?_
     refine qO 11 (some 12) 4095 HT_ (fun K hK=>?_)
     refine alloc_step (by rfl) rfl rfl tz102 HL.out ?_
     intro gb12 w9_ HL_ hb_ hg_
     replace HX:=mk_ (HX.out.new hb_ hg_)
     replace HS:=mk_ (HS.out.call hb_)
     replace HL:=mk_ HL_
     clear HL_ hb_ hg_
     refine qK hK HS ?_;clear hK K
     refine qE 12 none 8191 HT_ (fun K hK=>?_)
     refine store_step (by rfl) rfl rfl rfl gz kz kz HL.out pz ?_
     intro w9_ HL_ hs_ hf_
     replace HL:=mk_ HL_
     replace HX:=mk_ (HX.out.step (fun j_ h_ _=>hf_ j_ (by first|exact h_.2|exact h_.1.2)))
     clear HL_ hs_ hf_
     refine hK.out _ _ ?_;clear hK K
     refine qE 13 none 16383 HT_ (fun K hK=>?_)
     refine store_step (by rfl) rfl rfl rfl gz kz kz HL.out pz ?_
     intro w9_ HL_ hs_ hf_
     replace HL:=mk_ HL_
     replace HX:=mk_ (HX.out.step (fun j_ h_ _=>hf_ j_ (by first|exact h_.2|exact h_.1.2)))
     clear HL_ hs_ hf_
     refine hK.out _ _ ?_;clear hK K
     refine qA 14 13 32767 HT_ ?_
     refine qF HT_ ?_
     clear HT_ HW_ HS
     try go_wp2
     go_meet
     case rel=>exact ⟨gb11,gb12,r,B2,j2,B4,j4,f0,f1,f2,f3,f4,f5,f6,f7,Af,nf,kf,fb,rfl,rfl,rfl,⟨Lok_four HL.out hz hz hz hz (nz HL.out)⟩,⟨HX.out.r⟩,⟨SR.out⟩⟩
    ·refine alloc_step (by rfl) rfl rfl tz102 HL.out ?_
     intro gb12 w9_ HL_ hb_ hg_
     replace HN:=mk_ (HN.out.below hb_)
     replace HBc:=mk_ (below_step HBc.out hb_)
     replace HS:=mk_ (HS.out.call hb_)
     replace HL:=mk_ HL_
     clear HL_ hb_ hg_
     refine qK hK HS ?_;clear hK K
     refine qO 5 (some 31) 3135 HT_ (fun K hK=>?_)
     refine goes_ Try.func116 kz rfl #[.agg #[.int .i64 c0,.int .i64 c1,.int .i64 c2,.int .i64 c3,.int .i64 c4],vc,.int .i64 0,.bool false] rz rfl rfl am ?_
     refine (tick_calls _ vc c0 c1 c2 c3 c4 0 false (TY _) _ HN.out.ty S0.out).mono ?_
     rintro e w9_ ⟨vr,r,vf,fb,rfl,hr_,sr_,⟨f0,f1,f2,f3,f4,f5,f6,f7,Af,nf,kf,rfl⟩,hb_,hk_⟩
     refine ⟨_,rfl,?_⟩
     obtain ⟨B2,j2,B4,j4,rfl,g2_,gk2_,g4_,gk4_⟩:=hr_.mono (ok':=fun k_=>((True∧k_≠gb11)∧k_≠gb12)) (fun k_ h_=>⟨⟨trivial,ty_ne HL.out (g:=gb11) hz (by decide) h_⟩,ty_ne HL.out (g:=gb12) hz (by decide) h_⟩)
     have HX:=mk_ (show Txf w9_ (fun k_=>((True∧k_≠gb11)∧k_≠gb12)) r (.agg #[.int .i64 r.a0,.int .i64 r.a1,.slice B2 r.fl.length j2,.int .i64 r.a3,.slice B4 r.q.length j4,.bool r.a5,.int .i64 r.a6,.bool r.a7,.int .i64 r.a8,.bool r.a9]) from ⟨B2,j2,B4,j4,rfl,g2_,gk2_,g4_,gk4_⟩)
     clear g2_ gk2_ g4_ gk4_
     replace HS:=mk_ (HS.out.call hb_)
     replace HL:=mk_ (HL.out.call hb_)
     have SR:=mk_ sr_
     clear hr_ sr_ hb_ hk_ HN HBc HB0
     refine qK hK HS ?_;clear hK K
     refine qA 6 25 3199 HT_ ?_
     refine qA 7 32 3327 HT_ ?_
     refine qA 8 33 3583 HT_ ?_
     refine qA 9 34 4095 HT_ ?_
     refine qE 12 none 8191 HT_ (fun K hK=>?_)
     refine store_step (by rfl) rfl rfl rfl gz kz kz HL.out pz ?_
     intro w9_ HL_ hs_ hf_
     replace HL:=mk_ HL_
     replace HX:=mk_ (HX.out.step (fun j_ h_ _=>hf_ j_ (by first|exact h_.2|exact h_.1.2)))
     clear HL_ hs_ hf_
     refine hK.out _ _ ?_;clear hK K
     refine qE 13 none 16383 HT_ (fun K hK=>?_)
     refine store_step (by rfl) rfl rfl rfl gz kz kz HL.out pz ?_
     intro w9_ HL_ hs_ hf_
     replace HL:=mk_ HL_
     replace HX:=mk_ (HX.out.step (fun j_ h_ _=>hf_ j_ (by first|exact h_.2|exact h_.1.2)))
     clear HL_ hs_ hf_
     refine hK.out _ _ ?_;clear hK K
     refine qA 14 13 32767 HT_ ?_
     refine qF HT_ ?_
     clear HT_ HW_ HS
     try go_wp2
     go_meet
     case rel=>exact ⟨gb11,gb12,r,B2,j2,B4,j4,f0,f1,f2,f3,f4,f5,f6,f7,Af,nf,kf,fb,rfl,rfl,rfl,⟨Lok_four HL.out hz hz hz hz (nz HL.out)⟩,⟨HX.out.r⟩,⟨SR.out⟩⟩
   ·refine alloc_step (by rfl) rfl rfl tz102 HL.out ?_
    intro gb12 w9_ HL_ hb_ hg_
    replace HN:=mk_ (HN.out.below hb_)
    replace HBc:=mk_ (below_step HBc.out hb_)
    replace HS:=mk_ (HS.out.call hb_)
    replace HL:=mk_ HL_
    clear HL_ hb_ hg_
    refine qK hK HS ?_;clear hK K
    refine two_ (i:=5) (j:=10) (Ni:=some 31) (Nj:=some 11) (YteknaofnageihaaLoc.bm 15 2111) (YteknaofnageihaaLoc.bm 15 3103) rfl rfl rfl rfl (two_of HT_.out kz) (by decide) (by decide) (fun K hK=>?_) (fun K hK=>?_)
    ·refine goes_ Try.func116 kz rfl #[.agg #[.int .i64 c0,.int .i64 c1,.int .i64 c2,.int .i64 c3,.int .i64 c4],vc,.int .i64 0,.bool false] rz rfl rfl am ?_
     refine (tick_calls _ vc c0 c1 c2 c3 c4 0 false (TY _) _ HN.out.ty S0.out).mono ?_
     rintro e w9_ ⟨vr,r,vf,fb,rfl,hr_,sr_,⟨f0,f1,f2,f3,f4,f5,f6,f7,Af,nf,kf,rfl⟩,hb_,hk_⟩
     refine ⟨_,rfl,?_⟩
     obtain ⟨B2,j2,B4,j4,rfl,g2_,gk2_,g4_,gk4_⟩:=hr_.mono (ok':=fun k_=>(True∧k_≠gb12)) (fun k_ h_=>⟨trivial,ty_ne HL.out (g:=gb12) hz (by decide) h_⟩)
     have HX:=mk_ (show Txf w9_ (fun k_=>(True∧k_≠gb12)) r (.agg #[.int .i64 r.a0,.int .i64 r.a1,.slice B2 r.fl.length j2,.int .i64 r.a3,.slice B4 r.q.length j4,.bool r.a5,.int .i64 r.a6,.bool r.a7,.int .i64 r.a8,.bool r.a9]) from ⟨B2,j2,B4,j4,rfl,g2_,gk2_,g4_,gk4_⟩)
     clear g2_ gk2_ g4_ gk4_
     replace HS:=mk_ (HS.out.call hb_)
     replace HL:=mk_ (HL.out.call hb_)
     have SR:=mk_ sr_
     clear hr_ sr_ hb_ hk_ HN HBc HB0
     refine qK hK HS ?_;clear hK K
     refine qA 6 25 2175 HT_ ?_
     refine qA 7 32 2303 HT_ ?_
     refine qA 8 33 2559 HT_ ?_
     refine qA 9 34 3071 HT_ ?_
     refine qO 10 (some 11) 4095 HT_ (fun K hK=>?_)
     refine alloc_step (by rfl) rfl rfl tz69 HL.out ?_
     intro gb11 w9_ HL_ hb_ hg_
     replace HX:=mk_ (HX.out.new hb_ hg_)
     replace HS:=mk_ (HS.out.call hb_)
     replace HL:=mk_ HL_
     clear HL_ hb_ hg_
     refine qK hK HS ?_;clear hK K
     refine qE 12 none 8191 HT_ (fun K hK=>?_)
     refine store_step (by rfl) rfl rfl rfl gz kz kz HL.out pz ?_
     intro w9_ HL_ hs_ hf_
     replace HL:=mk_ HL_
     replace HX:=mk_ (HX.out.step (fun j_ h_ _=>hf_ j_ (by first|exact h_.2|exact h_.1.2)))
     clear HL_ hs_ hf_
     refine hK.out _ _ ?_;clear hK K
     refine qE 13 none 16383 HT_ (fun K hK=>?_)
     refine store_step (by rfl) rfl rfl rfl gz kz kz HL.out pz ?_
     intro w9_ HL_ hs_ hf_
     replace HL:=mk_ HL_
     replace HX:=mk_ (HX.out.step (fun j_ h_ _=>hf_ j_ (by first|exact h_.2|exact h_.1.2)))
     clear HL_ hs_ hf_
     refine hK.out _ _ ?_;clear hK K
     refine qA 14 13 32767 HT_ ?_
     refine qF HT_ ?_
     clear HT_ HW_ HS
     try go_wp2
     go_meet
     case rel=>exact ⟨gb11,gb12,r,B2,j2,B4,j4,f0,f1,f2,f3,f4,f5,f6,f7,Af,nf,kf,fb,rfl,rfl,rfl,⟨Lok_four HL.out hz hz hz hz (nz HL.out)⟩,⟨HX.out.r⟩,⟨SR.out⟩⟩
    ·refine alloc_step (by rfl) rfl rfl tz69 HL.out ?_
     intro gb11 w9_ HL_ hb_ hg_
     replace HN:=mk_ (HN.out.below hb_)
     replace HBc:=mk_ (below_step HBc.out hb_)
     replace HS:=mk_ (HS.out.call hb_)
     replace HL:=mk_ HL_
     clear HL_ hb_ hg_
     refine qK hK HS ?_;clear hK K
     refine qO 5 (some 31) 3135 HT_ (fun K hK=>?_)
     refine goes_ Try.func116 kz rfl #[.agg #[.int .i64 c0,.int .i64 c1,.int .i64 c2,.int .i64 c3,.int .i64 c4],vc,.int .i64 0,.bool false] rz rfl rfl am ?_
     refine (tick_calls _ vc c0 c1 c2 c3 c4 0 false (TY _) _ HN.out.ty S0.out).mono ?_
     rintro e w9_ ⟨vr,r,vf,fb,rfl,hr_,sr_,⟨f0,f1,f2,f3,f4,f5,f6,f7,Af,nf,kf,rfl⟩,hb_,hk_⟩
     refine ⟨_,rfl,?_⟩
     obtain ⟨B2,j2,B4,j4,rfl,g2_,gk2_,g4_,gk4_⟩:=hr_.mono (ok':=fun k_=>((True∧k_≠gb11)∧k_≠gb12)) (fun k_ h_=>⟨⟨trivial,ty_ne HL.out (g:=gb11) hz (by decide) h_⟩,ty_ne HL.out (g:=gb12) hz (by decide) h_⟩)
     have HX:=mk_ (show Txf w9_ (fun k_=>((True∧k_≠gb11)∧k_≠gb12)) r (.agg #[.int .i64 r.a0,.int .i64 r.a1,.slice B2 r.fl.length j2,.int .i64 r.a3,.slice B4 r.q.length j4,.bool r.a5,.int .i64 r.a6,.bool r.a7,.int .i64 r.a8,.bool r.a9]) from ⟨B2,j2,B4,j4,rfl,g2_,gk2_,g4_,gk4_⟩)
     clear g2_ gk2_ g4_ gk4_
     replace HS:=mk_ (HS.out.call hb_)
     replace HL:=mk_ (HL.out.call hb_)
     have SR:=mk_ sr_
     clear hr_ sr_ hb_ hk_ HN HBc HB0
     refine qK hK HS ?_;clear hK K
     refine qA 6 25 3199 HT_ ?_
     refine qA 7 32 3327 HT_ ?_
     refine qA 8 33 3583 HT_ ?_
     refine qA 9 34 4095 HT_ ?_
     refine qE 12 none 8191 HT_ (fun K hK=>?_)
     refine store_step (by rfl) rfl rfl rfl gz kz kz HL.out pz ?_
     intro w9_ HL_ hs_ hf_
     replace HL:=mk_ HL_
     replace HX:=mk_ (HX.out.step (fun j_ h_ _=>hf_ j_ (by first|exact h_.2|exact h_.1.2)))
     clear HL_ hs_ hf_
     refine hK.out _ _ ?_;clear hK K
     refine qE 13 none 16383 HT_ (fun K hK=>?_)
     refine store_step (by rfl) rfl rfl rfl gz kz kz HL.out pz ?_
     intro w9_ HL_ hs_ hf_
     replace HL:=mk_ HL_
     replace HX:=mk_ (HX.out.step (fun j_ h_ _=>hf_ j_ (by first|exact h_.2|exact h_.1.2)))
     clear HL_ hs_ hf_
     refine hK.out _ _ ?_;clear hK K
     refine qA 14 13 32767 HT_ ?_
     refine qF HT_ ?_
     clear HT_ HW_ HS
     try go_wp2
     go_meet
     case rel=>exact ⟨gb11,gb12,r,B2,j2,B4,j4,f0,f1,f2,f3,f4,f5,f6,f7,Af,nf,kf,fb,rfl,rfl,rfl,⟨Lok_four HL.out hz hz hz hz (nz HL.out)⟩,⟨HX.out.r⟩,⟨SR.out⟩⟩
  ·refine alloc_step (by rfl) rfl rfl tz69 HL.out ?_
   intro gb11 w9_ HL_ hb_ hg_
   replace HS:=mk_ (HS.out.call hb_)
   replace HL:=mk_ HL_
   clear HL_ hb_ hg_
   refine qK hK HS ?_;clear hK K
   refine two_ (i:=2) (j:=11) (Ni:=some 28) (Nj:=some 12) (YteknaofnageihaaLoc.bm 15 1055) (YteknaofnageihaaLoc.bm 15 3099) rfl rfl rfl rfl (two_of HT_.out kz) (by decide) (by decide) (fun K hK=>?_) (fun K hK=>?_)
   ·refine goes_ Try.func112 kz rfl #[.agg #[.int .i64 t0,.int .i64 t1,.slice A2 fl.length k2,.int .i64 t3,.slice A4 q.length k4,.bool t5,.int .i64 t6,.bool t7,.int .i64 t8,.bool t9]] rz rfl rfl am ?_
    refine (copy_calls _ _ _ (HT.out.below HL.out.bel) S0.out).mono ?_
    rintro e w9_ ⟨vc,b2_,b4_,rfl,hn_,hb_⟩
    have HN:=mk_ hn_
    have HBc:=mk_ hb_
    have HB0:=mk_ HL.out.bel
    clear hn_
    refine ⟨_,rfl,?_⟩
    replace HL:=mk_ (HL.out.call hb_)
    replace HS:=mk_ (HS.out.call hb_)
    clear hb_
    refine qK hK HS ?_;clear hK K
    refine two_ (i:=5) (j:=11) (Ni:=some 31) (Nj:=some 12) (YteknaofnageihaaLoc.bm 15 1087) (YteknaofnageihaaLoc.bm 15 3103) rfl rfl rfl rfl (two_of HT_.out kz) (by decide) (by decide) (fun K hK=>?_) (fun K hK=>?_)
    ·refine goes_ Try.func116 kz rfl #[.agg #[.int .i64 c0,.int .i64 c1,.int .i64 c2,.int .i64 c3,.int .i64 c4],vc,.int .i64 0,.bool false] rz rfl rfl am ?_
     refine (tick_calls _ vc c0 c1 c2 c3 c4 0 false (TY _) _ HN.out.ty S0.out).mono ?_
     rintro e w9_ ⟨vr,r,vf,fb,rfl,hr_,sr_,⟨f0,f1,f2,f3,f4,f5,f6,f7,Af,nf,kf,rfl⟩,hb_,hk_⟩
     refine ⟨_,rfl,?_⟩
     obtain ⟨B2,j2,B4,j4,rfl,g2_,gk2_,g4_,gk4_⟩:=hr_.mono (ok':=fun k_=>(True∧k_≠gb11)) (fun k_ h_=>⟨trivial,ty_ne HL.out (g:=gb11) hz (by decide) h_⟩)
     have HX:=mk_ (show Txf w9_ (fun k_=>(True∧k_≠gb11)) r (.agg #[.int .i64 r.a0,.int .i64 r.a1,.slice B2 r.fl.length j2,.int .i64 r.a3,.slice B4 r.q.length j4,.bool r.a5,.int .i64 r.a6,.bool r.a7,.int .i64 r.a8,.bool r.a9]) from ⟨B2,j2,B4,j4,rfl,g2_,gk2_,g4_,gk4_⟩)
     clear g2_ gk2_ g4_ gk4_
     replace HS:=mk_ (HS.out.call hb_)
     replace HL:=mk_ (HL.out.call hb_)
     have SR:=mk_ sr_
     clear hr_ sr_ hb_ hk_ HN HBc HB0
     refine qK hK HS ?_;clear hK K
     refine qA 6 25 1151 HT_ ?_
     refine qA 7 32 1279 HT_ ?_
     refine qA 8 33 1535 HT_ ?_
     refine qA 9 34 2047 HT_ ?_
     refine qO 11 (some 12) 4095 HT_ (fun K hK=>?_)
     refine alloc_step (by rfl) rfl rfl tz102 HL.out ?_
     intro gb12 w9_ HL_ hb_ hg_
     replace HX:=mk_ (HX.out.new hb_ hg_)
     replace HS:=mk_ (HS.out.call hb_)
     replace HL:=mk_ HL_
     clear HL_ hb_ hg_
     refine qK hK HS ?_;clear hK K
     refine qE 12 none 8191 HT_ (fun K hK=>?_)
     refine store_step (by rfl) rfl rfl rfl gz kz kz HL.out pz ?_
     intro w9_ HL_ hs_ hf_
     replace HL:=mk_ HL_
     replace HX:=mk_ (HX.out.step (fun j_ h_ _=>hf_ j_ (by first|exact h_.2|exact h_.1.2)))
     clear HL_ hs_ hf_
     refine hK.out _ _ ?_;clear hK K
     refine qE 13 none 16383 HT_ (fun K hK=>?_)
     refine store_step (by rfl) rfl rfl rfl gz kz kz HL.out pz ?_
     intro w9_ HL_ hs_ hf_
     replace HL:=mk_ HL_
     replace HX:=mk_ (HX.out.step (fun j_ h_ _=>hf_ j_ (by first|exact h_.2|exact h_.1.2)))
     clear HL_ hs_ hf_
     refine hK.out _ _ ?_;clear hK K
     refine qA 14 13 32767 HT_ ?_
     refine qF HT_ ?_
     clear HT_ HW_ HS
     try go_wp2
     go_meet
     case rel=>exact ⟨gb11,gb12,r,B2,j2,B4,j4,f0,f1,f2,f3,f4,f5,f6,f7,Af,nf,kf,fb,rfl,rfl,rfl,⟨Lok_four HL.out hz hz hz hz (nz HL.out)⟩,⟨HX.out.r⟩,⟨SR.out⟩⟩
    ·refine alloc_step (by rfl) rfl rfl tz102 HL.out ?_
     intro gb12 w9_ HL_ hb_ hg_
     replace HN:=mk_ (HN.out.below hb_)
     replace HBc:=mk_ (below_step HBc.out hb_)
     replace HS:=mk_ (HS.out.call hb_)
     replace HL:=mk_ HL_
     clear HL_ hb_ hg_
     refine qK hK HS ?_;clear hK K
     refine qO 5 (some 31) 3135 HT_ (fun K hK=>?_)
     refine goes_ Try.func116 kz rfl #[.agg #[.int .i64 c0,.int .i64 c1,.int .i64 c2,.int .i64 c3,.int .i64 c4],vc,.int .i64 0,.bool false] rz rfl rfl am ?_
     refine (tick_calls _ vc c0 c1 c2 c3 c4 0 false (TY _) _ HN.out.ty S0.out).mono ?_
     rintro e w9_ ⟨vr,r,vf,fb,rfl,hr_,sr_,⟨f0,f1,f2,f3,f4,f5,f6,f7,Af,nf,kf,rfl⟩,hb_,hk_⟩
     refine ⟨_,rfl,?_⟩
     obtain ⟨B2,j2,B4,j4,rfl,g2_,gk2_,g4_,gk4_⟩:=hr_.mono (ok':=fun k_=>((True∧k_≠gb11)∧k_≠gb12)) (fun k_ h_=>⟨⟨trivial,ty_ne HL.out (g:=gb11) hz (by decide) h_⟩,ty_ne HL.out (g:=gb12) hz (by decide) h_⟩)
     have HX:=mk_ (show Txf w9_ (fun k_=>((True∧k_≠gb11)∧k_≠gb12)) r (.agg #[.int .i64 r.a0,.int .i64 r.a1,.slice B2 r.fl.length j2,.int .i64 r.a3,.slice B4 r.q.length j4,.bool r.a5,.int .i64 r.a6,.bool r.a7,.int .i64 r.a8,.bool r.a9]) from ⟨B2,j2,B4,j4,rfl,g2_,gk2_,g4_,gk4_⟩)
     clear g2_ gk2_ g4_ gk4_
     replace HS:=mk_ (HS.out.call hb_)
     replace HL:=mk_ (HL.out.call hb_)
     have SR:=mk_ sr_
     clear hr_ sr_ hb_ hk_ HN HBc HB0
     refine qK hK HS ?_;clear hK K
     refine qA 6 25 3199 HT_ ?_
     refine qA 7 32 3327 HT_ ?_
     refine qA 8 33 3583 HT_ ?_
     refine qA 9 34 4095 HT_ ?_
     refine qE 12 none 8191 HT_ (fun K hK=>?_)
     refine store_step (by rfl) rfl rfl rfl gz kz kz HL.out pz ?_
     intro w9_ HL_ hs_ hf_
     replace HL:=mk_ HL_
     replace HX:=mk_ (HX.out.step (fun j_ h_ _=>hf_ j_ (by first|exact h_.2|exact h_.1.2)))
     clear HL_ hs_ hf_
     refine hK.out _ _ ?_;clear hK K
     refine qE 13 none 16383 HT_ (fun K hK=>?_)
     refine store_step (by rfl) rfl rfl rfl gz kz kz HL.out pz ?_
     intro w9_ HL_ hs_ hf_
     replace HL:=mk_ HL_
     replace HX:=mk_ (HX.out.step (fun j_ h_ _=>hf_ j_ (by first|exact h_.2|exact h_.1.2)))
     clear HL_ hs_ hf_
     refine hK.out _ _ ?_;clear hK K
     refine qA 14 13 32767 HT_ ?_
     refine qF HT_ ?_
     clear HT_ HW_ HS
     try go_wp2
     go_meet
     case rel=>exact ⟨gb11,gb12,r,B2,j2,B4,j4,f0,f1,f2,f3,f4,f5,f6,f7,Af,nf,kf,fb,rfl,rfl,rfl,⟨Lok_four HL.out hz hz hz hz (nz HL.out)⟩,⟨HX.out.r⟩,⟨SR.out⟩⟩
   ·refine alloc_step (by rfl) rfl rfl tz102 HL.out ?_
    intro gb12 w9_ HL_ hb_ hg_
    replace HS:=mk_ (HS.out.call hb_)
    replace HL:=mk_ HL_
    clear HL_ hb_ hg_
    refine qK hK HS ?_;clear hK K
    refine qO 2 (some 28) 3103 HT_ (fun K hK=>?_)
    refine goes_ Try.func112 kz rfl #[.agg #[.int .i64 t0,.int .i64 t1,.slice A2 fl.length k2,.int .i64 t3,.slice A4 q.length k4,.bool t5,.int .i64 t6,.bool t7,.int .i64 t8,.bool t9]] rz rfl rfl am ?_
    refine (copy_calls _ _ _ (HT.out.below HL.out.bel) S0.out).mono ?_
    rintro e w9_ ⟨vc,b2_,b4_,rfl,hn_,hb_⟩
    have HN:=mk_ hn_
    have HBc:=mk_ hb_
    have HB0:=mk_ HL.out.bel
    clear hn_
    refine ⟨_,rfl,?_⟩
    replace HL:=mk_ (HL.out.call hb_)
    replace HS:=mk_ (HS.out.call hb_)
    clear hb_
    refine qK hK HS ?_;clear hK K
    refine qO 5 (some 31) 3135 HT_ (fun K hK=>?_)
    refine goes_ Try.func116 kz rfl #[.agg #[.int .i64 c0,.int .i64 c1,.int .i64 c2,.int .i64 c3,.int .i64 c4],vc,.int .i64 0,.bool false] rz rfl rfl am ?_
    refine (tick_calls _ vc c0 c1 c2 c3 c4 0 false (TY _) _ HN.out.ty S0.out).mono ?_
    rintro e w9_ ⟨vr,r,vf,fb,rfl,hr_,sr_,⟨f0,f1,f2,f3,f4,f5,f6,f7,Af,nf,kf,rfl⟩,hb_,hk_⟩
    refine ⟨_,rfl,?_⟩
    obtain ⟨B2,j2,B4,j4,rfl,g2_,gk2_,g4_,gk4_⟩:=hr_.mono (ok':=fun k_=>((True∧k_≠gb11)∧k_≠gb12)) (fun k_ h_=>⟨⟨trivial,ty_ne HL.out (g:=gb11) hz (by decide) h_⟩,ty_ne HL.out (g:=gb12) hz (by decide) h_⟩)
    have HX:=mk_ (show Txf w9_ (fun k_=>((True∧k_≠gb11)∧k_≠gb12)) r (.agg #[.int .i64 r.a0,.int .i64 r.a1,.slice B2 r.fl.length j2,.int .i64 r.a3,.slice B4 r.q.length j4,.bool r.a5,.int .i64 r.a6,.bool r.a7,.int .i64 r.a8,.bool r.a9]) from ⟨B2,j2,B4,j4,rfl,g2_,gk2_,g4_,gk4_⟩)
    clear g2_ gk2_ g4_ gk4_
    replace HS:=mk_ (HS.out.call hb_)
    replace HL:=mk_ (HL.out.call hb_)
    have SR:=mk_ sr_
    clear hr_ sr_ hb_ hk_ HN HBc HB0
    refine qK hK HS ?_;clear hK K
    refine qA 6 25 3199 HT_ ?_
    refine qA 7 32 3327 HT_ ?_
    refine qA 8 33 3583 HT_ ?_
    refine qA 9 34 4095 HT_ ?_
    refine qE 12 none 8191 HT_ (fun K hK=>?_)
    refine store_step (by rfl) rfl rfl rfl gz kz kz HL.out pz ?_
    intro w9_ HL_ hs_ hf_
    replace HL:=mk_ HL_
    replace HX:=mk_ (HX.out.step (fun j_ h_ _=>hf_ j_ (by first|exact h_.2|exact h_.1.2)))
    clear HL_ hs_ hf_
    refine hK.out _ _ ?_;clear hK K
    refine qE 13 none 16383 HT_ (fun K hK=>?_)
    refine store_step (by rfl) rfl rfl rfl gz kz kz HL.out pz ?_
    intro w9_ HL_ hs_ hf_
    replace HL:=mk_ HL_
    replace HX:=mk_ (HX.out.step (fun j_ h_ _=>hf_ j_ (by first|exact h_.2|exact h_.1.2)))
    clear HL_ hs_ hf_
    refine hK.out _ _ ?_;clear hK K
    refine qA 14 13 32767 HT_ ?_
    refine qF HT_ ?_
    clear HT_ HW_ HS
    try go_wp2
    go_meet
    case rel=>exact ⟨gb11,gb12,r,B2,j2,B4,j4,f0,f1,f2,f3,f4,f5,f6,f7,Af,nf,kf,fb,rfl,rfl,rfl,⟨Lok_four HL.out hz hz hz hz (nz HL.out)⟩,⟨HX.out.r⟩,⟨SR.out⟩⟩
  ·refine alloc_step (by rfl) rfl rfl tz102 HL.out ?_
   intro gb12 w9_ HL_ hb_ hg_
   replace HS:=mk_ (HS.out.call hb_)
   replace HL:=mk_ HL_
   clear HL_ hb_ hg_
   refine qK hK HS ?_;clear hK K
   refine two_ (i:=2) (j:=10) (Ni:=some 28) (Nj:=some 11) (YteknaofnageihaaLoc.bm 15 2079) (YteknaofnageihaaLoc.bm 15 3099) rfl rfl rfl rfl (two_of HT_.out kz) (by decide) (by decide) (fun K hK=>?_) (fun K hK=>?_)
   ·refine goes_ Try.func112 kz rfl #[.agg #[.int .i64 t0,.int .i64 t1,.slice A2 fl.length k2,.int .i64 t3,.slice A4 q.length k4,.bool t5,.int .i64 t6,.bool t7,.int .i64 t8,.bool t9]] rz rfl rfl am ?_
    refine (copy_calls _ _ _ (HT.out.below HL.out.bel) S0.out).mono ?_
    rintro e w9_ ⟨vc,b2_,b4_,rfl,hn_,hb_⟩
    have HN:=mk_ hn_
    have HBc:=mk_ hb_
    have HB0:=mk_ HL.out.bel
    clear hn_
    refine ⟨_,rfl,?_⟩
    replace HL:=mk_ (HL.out.call hb_)
    replace HS:=mk_ (HS.out.call hb_)
    clear hb_
    refine qK hK HS ?_;clear hK K
    refine two_ (i:=5) (j:=10) (Ni:=some 31) (Nj:=some 11) (YteknaofnageihaaLoc.bm 15 2111) (YteknaofnageihaaLoc.bm 15 3103) rfl rfl rfl rfl (two_of HT_.out kz) (by decide) (by decide) (fun K hK=>?_) (fun K hK=>?_)
    ·refine goes_ Try.func116 kz rfl #[.agg #[.int .i64 c0,.int .i64 c1,.int .i64 c2,.int .i64 c3,.int .i64 c4],vc,.int .i64 0,.bool false] rz rfl rfl am ?_
     refine (tick_calls _ vc c0 c1 c2 c3 c4 0 false (TY _) _ HN.out.ty S0.out).mono ?_
     rintro e w9_ ⟨vr,r,vf,fb,rfl,hr_,sr_,⟨f0,f1,f2,f3,f4,f5,f6,f7,Af,nf,kf,rfl⟩,hb_,hk_⟩
     refine ⟨_,rfl,?_⟩
     obtain ⟨B2,j2,B4,j4,rfl,g2_,gk2_,g4_,gk4_⟩:=hr_.mono (ok':=fun k_=>(True∧k_≠gb12)) (fun k_ h_=>⟨trivial,ty_ne HL.out (g:=gb12) hz (by decide) h_⟩)
     have HX:=mk_ (show Txf w9_ (fun k_=>(True∧k_≠gb12)) r (.agg #[.int .i64 r.a0,.int .i64 r.a1,.slice B2 r.fl.length j2,.int .i64 r.a3,.slice B4 r.q.length j4,.bool r.a5,.int .i64 r.a6,.bool r.a7,.int .i64 r.a8,.bool r.a9]) from ⟨B2,j2,B4,j4,rfl,g2_,gk2_,g4_,gk4_⟩)
     clear g2_ gk2_ g4_ gk4_
     replace HS:=mk_ (HS.out.call hb_)
     replace HL:=mk_ (HL.out.call hb_)
     have SR:=mk_ sr_
     clear hr_ sr_ hb_ hk_ HN HBc HB0
     refine qK hK HS ?_;clear hK K
     refine qA 6 25 2175 HT_ ?_
     refine qA 7 32 2303 HT_ ?_
     refine qA 8 33 2559 HT_ ?_
     refine qA 9 34 3071 HT_ ?_
     refine qO 10 (some 11) 4095 HT_ (fun K hK=>?_)
     refine alloc_step (by rfl) rfl rfl tz69 HL.out ?_
     intro gb11 w9_ HL_ hb_ hg_
     replace HX:=mk_ (HX.out.new hb_ hg_)
     replace HS:=mk_ (HS.out.call hb_)
     replace HL:=mk_ HL_
     clear HL_ hb_ hg_
     refine qK hK HS ?_;clear hK K
     refine qE 12 none 8191 HT_ (fun K hK=>?_)
     refine store_step (by rfl) rfl rfl rfl gz kz kz HL.out pz ?_
     intro w9_ HL_ hs_ hf_
     replace HL:=mk_ HL_
     replace HX:=mk_ (HX.out.step (fun j_ h_ _=>hf_ j_ (by first|exact h_.2|exact h_.1.2)))
     clear HL_ hs_ hf_
     refine hK.out _ _ ?_;clear hK K
     refine qE 13 none 16383 HT_ (fun K hK=>?_)
     refine store_step (by rfl) rfl rfl rfl gz kz kz HL.out pz ?_
     intro w9_ HL_ hs_ hf_
     replace HL:=mk_ HL_
     replace HX:=mk_ (HX.out.step (fun j_ h_ _=>hf_ j_ (by first|exact h_.2|exact h_.1.2)))
     clear HL_ hs_ hf_
     refine hK.out _ _ ?_;clear hK K
     refine qA 14 13 32767 HT_ ?_
     refine qF HT_ ?_
     clear HT_ HW_ HS
     try go_wp2
     go_meet
     case rel=>exact ⟨gb11,gb12,r,B2,j2,B4,j4,f0,f1,f2,f3,f4,f5,f6,f7,Af,nf,kf,fb,rfl,rfl,rfl,⟨Lok_four HL.out hz hz hz hz (nz HL.out)⟩,⟨HX.out.r⟩,⟨SR.out⟩⟩
    ·refine alloc_step (by rfl) rfl rfl tz69 HL.out ?_
     intro gb11 w9_ HL_ hb_ hg_
     replace HN:=mk_ (HN.out.below hb_)
     replace HBc:=mk_ (below_step HBc.out hb_)
     replace HS:=mk_ (HS.out.call hb_)
     replace HL:=mk_ HL_
     clear HL_ hb_ hg_
     refine qK hK HS ?_;clear hK K
     refine qO 5 (some 31) 3135 HT_ (fun K hK=>?_)
     refine goes_ Try.func116 kz rfl #[.agg #[.int .i64 c0,.int .i64 c1,.int .i64 c2,.int .i64 c3,.int .i64 c4],vc,.int .i64 0,.bool false] rz rfl rfl am ?_
     refine (tick_calls _ vc c0 c1 c2 c3 c4 0 false (TY _) _ HN.out.ty S0.out).mono ?_
     rintro e w9_ ⟨vr,r,vf,fb,rfl,hr_,sr_,⟨f0,f1,f2,f3,f4,f5,f6,f7,Af,nf,kf,rfl⟩,hb_,hk_⟩
     refine ⟨_,rfl,?_⟩
     obtain ⟨B2,j2,B4,j4,rfl,g2_,gk2_,g4_,gk4_⟩:=hr_.mono (ok':=fun k_=>((True∧k_≠gb11)∧k_≠gb12)) (fun k_ h_=>⟨⟨trivial,ty_ne HL.out (g:=gb11) hz (by decide) h_⟩,ty_ne HL.out (g:=gb12) hz (by decide) h_⟩)
     have HX:=mk_ (show Txf w9_ (fun k_=>((True∧k_≠gb11)∧k_≠gb12)) r (.agg #[.int .i64 r.a0,.int .i64 r.a1,.slice B2 r.fl.length j2,.int .i64 r.a3,.slice B4 r.q.length j4,.bool r.a5,.int .i64 r.a6,.bool r.a7,.int .i64 r.a8,.bool r.a9]) from ⟨B2,j2,B4,j4,rfl,g2_,gk2_,g4_,gk4_⟩)
     clear g2_ gk2_ g4_ gk4_
     replace HS:=mk_ (HS.out.call hb_)
     replace HL:=mk_ (HL.out.call hb_)
     have SR:=mk_ sr_
     clear hr_ sr_ hb_ hk_ HN HBc HB0
     refine qK hK HS ?_;clear hK K
     refine qA 6 25 3199 HT_ ?_
     refine qA 7 32 3327 HT_ ?_
     refine qA 8 33 3583 HT_ ?_
     refine qA 9 34 4095 HT_ ?_
     refine qE 12 none 8191 HT_ (fun K hK=>?_)
     refine store_step (by rfl) rfl rfl rfl gz kz kz HL.out pz ?_
     intro w9_ HL_ hs_ hf_
     replace HL:=mk_ HL_
     replace HX:=mk_ (HX.out.step (fun j_ h_ _=>hf_ j_ (by first|exact h_.2|exact h_.1.2)))
     clear HL_ hs_ hf_
     refine hK.out _ _ ?_;clear hK K
     refine qE 13 none 16383 HT_ (fun K hK=>?_)
     refine store_step (by rfl) rfl rfl rfl gz kz kz HL.out pz ?_
     intro w9_ HL_ hs_ hf_
     replace HL:=mk_ HL_
     replace HX:=mk_ (HX.out.step (fun j_ h_ _=>hf_ j_ (by first|exact h_.2|exact h_.1.2)))
     clear HL_ hs_ hf_
     refine hK.out _ _ ?_;clear hK K
     refine qA 14 13 32767 HT_ ?_
     refine qF HT_ ?_
     clear HT_ HW_ HS
     try go_wp2
     go_meet
     case rel=>exact ⟨gb11,gb12,r,B2,j2,B4,j4,f0,f1,f2,f3,f4,f5,f6,f7,Af,nf,kf,fb,rfl,rfl,rfl,⟨Lok_four HL.out hz hz hz hz (nz HL.out)⟩,⟨HX.out.r⟩,⟨SR.out⟩⟩
   ·refine alloc_step (by rfl) rfl rfl tz69 HL.out ?_
    intro gb11 w9_ HL_ hb_ hg_
    replace HS:=mk_ (HS.out.call hb_)
    replace HL:=mk_ HL_
    clear HL_ hb_ hg_
    refine qK hK HS ?_;clear hK K
    refine qO 2 (some 28) 3103 HT_ (fun K hK=>?_)
    refine goes_ Try.func112 kz rfl #[.agg #[.int .i64 t0,.int .i64 t1,.slice A2 fl.length k2,.int .i64 t3,.slice A4 q.length k4,.bool t5,.int .i64 t6,.bool t7,.int .i64 t8,.bool t9]] rz rfl rfl am ?_
    refine (copy_calls _ _ _ (HT.out.below HL.out.bel) S0.out).mono ?_
    rintro e w9_ ⟨vc,b2_,b4_,rfl,hn_,hb_⟩
    have HN:=mk_ hn_
    have HBc:=mk_ hb_
    have HB0:=mk_ HL.out.bel
    clear hn_
    refine ⟨_,rfl,?_⟩
    replace HL:=mk_ (HL.out.call hb_)
    replace HS:=mk_ (HS.out.call hb_)
    clear hb_
    refine qK hK HS ?_;clear hK K
    refine qO 5 (some 31) 3135 HT_ (fun K hK=>?_)
    refine goes_ Try.func116 kz rfl #[.agg #[.int .i64 c0,.int .i64 c1,.int .i64 c2,.int .i64 c3,.int .i64 c4],vc,.int .i64 0,.bool false] rz rfl rfl am ?_
    refine (tick_calls _ vc c0 c1 c2 c3 c4 0 false (TY _) _ HN.out.ty S0.out).mono ?_
    rintro e w9_ ⟨vr,r,vf,fb,rfl,hr_,sr_,⟨f0,f1,f2,f3,f4,f5,f6,f7,Af,nf,kf,rfl⟩,hb_,hk_⟩
    refine ⟨_,rfl,?_⟩
    obtain ⟨B2,j2,B4,j4,rfl,g2_,gk2_,g4_,gk4_⟩:=hr_.mono (ok':=fun k_=>((True∧k_≠gb11)∧k_≠gb12)) (fun k_ h_=>⟨⟨trivial,ty_ne HL.out (g:=gb11) hz (by decide) h_⟩,ty_ne HL.out (g:=gb12) hz (by decide) h_⟩)
    have HX:=mk_ (show Txf w9_ (fun k_=>((True∧k_≠gb11)∧k_≠gb12)) r (.agg #[.int .i64 r.a0,.int .i64 r.a1,.slice B2 r.fl.length j2,.int .i64 r.a3,.slice B4 r.q.length j4,.bool r.a5,.int .i64 r.a6,.bool r.a7,.int .i64 r.a8,.bool r.a9]) from ⟨B2,j2,B4,j4,rfl,g2_,gk2_,g4_,gk4_⟩)
    clear g2_ gk2_ g4_ gk4_
    replace HS:=mk_ (HS.out.call hb_)
    replace HL:=mk_ (HL.out.call hb_)
    have SR:=mk_ sr_
    clear hr_ sr_ hb_ hk_ HN HBc HB0
    refine qK hK HS ?_;clear hK K
    refine qA 6 25 3199 HT_ ?_
    refine qA 7 32 3327 HT_ ?_
    refine qA 8 33 3583 HT_ ?_
    refine qA 9 34 4095 HT_ ?_
    refine qE 12 none 8191 HT_ (fun K hK=>?_)
    refine store_step (by rfl) rfl rfl rfl gz kz kz HL.out pz ?_
    intro w9_ HL_ hs_ hf_
    replace HL:=mk_ HL_
    replace HX:=mk_ (HX.out.step (fun j_ h_ _=>hf_ j_ (by first|exact h_.2|exact h_.1.2)))
    clear HL_ hs_ hf_
    refine hK.out _ _ ?_;clear hK K
    refine qE 13 none 16383 HT_ (fun K hK=>?_)
    refine store_step (by rfl) rfl rfl rfl gz kz kz HL.out pz ?_
    intro w9_ HL_ hs_ hf_
    replace HL:=mk_ HL_
    replace HX:=mk_ (HX.out.step (fun j_ h_ _=>hf_ j_ (by first|exact h_.2|exact h_.1.2)))
    clear HL_ hs_ hf_
    refine hK.out _ _ ?_;clear hK K
    refine qA 14 13 32767 HT_ ?_
    refine qF HT_ ?_
    clear HT_ HW_ HS
    try go_wp2
    go_meet
    case rel=>exact ⟨gb11,gb12,r,B2,j2,B4,j4,f0,f1,f2,f3,f4,f5,f6,f7,Af,nf,kf,fb,rfl,rfl,rfl,⟨Lok_four HL.out hz hz hz hz (nz HL.out)⟩,⟨HX.out.r⟩,⟨SR.out⟩⟩
 case rest =>
  obtain ⟨gb11,gb12,r,B2,j2,B4,j4,f0,f1,f2,f3,f4,f5,f6,f7,Af,nf,kf,fb,rfl,rfl,rfl,hl_,hx_,sr_⟩:=hcut
  replace HL:=hl_
  have HX:=hx_
  have SR:=sr_
  clear hl_ hx_ sr_
  go_upto_region 4 with (first|((with_reducible refine gate_gd rfl ?_);first|((with_reducible refine gd_on rfl ?_ ?_);rfl;dsimp only)|((with_reducible refine gd_off rfl ?_ ?_);rfl))|((with_reducible refine gate_ld0 (t:=69) rfl ?_);refine loc_load (n:=10) rfl rfl kz rfl kz HL.out sz ?_)|((with_reducible refine gate_ld0 rfl ?_);refine loc_load1 rfl rfl kz rfl HL.out sz ?_))
  refine start_ (n:=7) (S:=fun w'=>Lok w w' _) (ds:=[5]) (YteknaofnageihaaLoc.bm 7 0) kz rfl rfl (Lok_two (g1:=gb11) (g2:=gb12) HL.out.drew hz hz (nz HL.out)) (fun hHeld=>?_)
  refine with_tabW fx105.tab4 fx105.bits4 (fun HT_ HW_=>?_)
  have HS:=mk_ hHeld
  clear hHeld
  replace HL:=mk_ HL.out.drew
  replace HX:=mk_ (HX.out.below (below_drew (Below.refl _ _)))
  revert HS HL HX
  generalize World.drew _=w8_
  intro HS HL HX
  refine qL 0 35 1 10 HT_ HW_ HS ?_
  refine qL 2 37 5 9 HT_ HW_ HS ?_
  refine qA 3 38 13 HT_ ?_
  refine qO 1 (some 36) 15 HT_ (fun K hK=>?_)
  refine goes_ Try.func112 kz rfl #[.agg #[.int .i64 r.a0,.int .i64 r.a1,.slice B2 r.fl.length j2,.int .i64 r.a3,.slice B4 r.q.length j4,.bool r.a5,.int .i64 r.a6,.bool r.a7,.int .i64 r.a8,.bool r.a9]] rz rfl rfl am ?_
  refine (copy_calls r _ _ HX.out SR.out).mono ?_
  rintro e w9_ ⟨vd,d2_,d4_,rfl,hn_,hb_⟩
  have LT1:=mk_ (blk_lt (HL.out.blk (g:=gb8) hz))
  have LT2:=mk_ (blk_lt (HL.out.blk (g:=gb9) hz))
  have LTB:=mk_ HL.out.bel.size
  obtain ⟨D2,l2,D4,l4,hvd,e2_,e4_,n2_,n4_⟩:=hn_
  subst hvd
  have HY:=mk_ (show Txn w9_ _ r (.agg #[.int .i64 r.a0,.int .i64 r.a1,.slice D2 r.fl.length l2,.int .i64 r.a3,.slice D4 r.q.length l4,.bool r.a5,.int .i64 r.a6,.bool r.a7,.int .i64 r.a8,.bool r.a9]) d2_ d4_ from ⟨D2,l2,D4,l4,rfl,e2_,e4_,n2_,n4_⟩)
  clear e2_ e4_ n2_ n4_
  refine ⟨_,rfl,?_⟩
  replace HL:=mk_ (HL.out.call hb_)
  replace HS:=mk_ (HS.out.call hb_)
  clear hb_
  refine qK hK HS ?_;clear hK K
  refine qO 4 none 31 HT_ (fun K hK=>?_)
  refine store_step (by rfl) rfl rfl rfl gz kz kz HL.out pz ?_
  intro w9_ HL_ hs_ hf_
  replace HS:=mk_ (Lok_far HS.out HL_.bel hf_ (by intro b_ hb9;simp only [List.mem_cons,List.not_mem_nil,or_false] at hb9;have h9:=HL.out.ne;simp only [List.map_cons,List.nodup_cons,List.mem_cons,List.map_nil,not_or] at h9;rcases hb9 with rfl|rfl <;> (dsimp only;omega)))
  replace HL:=mk_ HL_
  replace HY:=mk_ (by first|exact HY.out.far LT1.out hf_|exact HY.out.far LT2.out hf_)
  clear HL_ hs_ hf_
  refine qN hK HS ?_;clear hK K
  refine qE 5 none 63 HT_ (fun K hK=>?_)
  refine store_step (by rfl) rfl rfl rfl gz kz kz HL.out pz ?_
  intro w9_ HL_ hs_ hf_
  replace HL:=mk_ HL_
  replace HY:=mk_ (by first|exact HY.out.far LT1.out hf_|exact HY.out.far LT2.out hf_)
  clear HL_ hs_ hf_
  refine hK.out _ _ ?_;clear hK K
  refine qA 6 10 127 HT_ ?_
  refine qF HT_ ?_
  clear HT_ HW_ HS
  go_wp2
  refine bodyPost_ret (results_list (rs:=[.cell 8 69,.cell 9 102,.tmp 10]) rfl (by simp) (.cell _ 69 _ (0,0) _ rfl (HL.out.blk hz) Try.underlying69 rfl kz (.cell _ 102 _ (0,0) _ rfl (HL.out.blk hz) Try.underlying102 rfl kz (.tmp .nil)))) rfl ?_
  exact mkTxFE r _ _ _ ez (HY.out.lower LTB.out) SR.out (mkFrv _ _ _ _ _ _ _ _ _ _ _) HL.out.bel
end Go.Proofs.Yteknaofnageihaa.QFnTxOk
