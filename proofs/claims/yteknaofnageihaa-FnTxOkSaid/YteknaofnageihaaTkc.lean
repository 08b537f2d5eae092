-- Texts by hand for FnTxLeft, FnTxOk.
import Derived.Test.YteknaofnageihaaTkb
namespace Go.Proofs.Yteknaofnageihaa.QFnTxOk
open Go.RowKit Go.Proofs.YteknaofnageihaaW.PrintWords Go.Proofs.YteknaofnageihaaW.PrintLast Go.Proofs.YteknaofnageihaaW.PrintMore Go.Proofs.YteknaofnageihaaLoc
attribute [local go_sem] max2_int min2_int max_two min_two max_three min_three max_four min_four   -- for this text's walks alone
set_option linter.unusedVariables false
set_option linter.unusedSimpArgs false
def worldOf {w0 w:World} {H:List Blk} (_:Lok w0 w H):Nat:=w.heap.size
/-- What the drawn states keep: short rows. -/
def Sl (l:List S39):Prop:=l.length≤60∧∀ p ∈ l,p.f2.length≤1000
def Sm2 (l q:List S39):Prop:=Sl l∧Sl q
def Sm (t:Tx):Prop:=Sm2 t.fl t.q
def TxE (w:World):Ending→World→Prop:=fun e w'=>∃ v t,e=.returned v∧Txr w' t v∧Sm t∧Below w.heap.size w w'
theorem mkTxE {w w':World} {e:Ending} (t:Tx) (v:Value) (h:e=.returned v) (h1:Txr w' t v) (hs:Sm t) (h2:Below w.heap.size w w'):TxE w e w':=⟨v,t,h,h1,hs,h2⟩
set_option maxHeartbeats 60000000 in
set_option maxRecDepth 100000 in
theorem hear_calls (k:Nat) (t y:Tx) (v:Value) (f1 f2:Int) (f3 f4:Bool) (f5 f6 f7:Int) (Af:Option Addr) (nf kf:Nat) (w:World) (ht:Txr w t v) (h:AckF k t f2=some y) (hs:Sm t) (hsy:Sm y):Calls Try.prog 115 #[v,.agg #[.int .i64 2,.int .i64 f1,.int .i64 f2,.bool f3,.bool f4,.int .i64 f5,.int .i64 f6,.int .i64 f7,.slice Af nf kf]] w (TxE w):=by
 obtain ⟨t0,t1,fl,t3,q,t5,t6,t7,t8,t9⟩:=t
 obtain ⟨A2,k2,A4,k4,rfl,h2,hk2,h4,hk4⟩:=ht
 dsimp only at h2 hk2 h4 hk4 ⊢
 have H2:=mk_ h2
 have K2:=mk_ hk2
 have H4:=mk_ h4
 have K4:=mk_ hk4
 clear h2 hk2 h4 hk4
 have HL:=mk_ (Lok.start w)
 have PY:=mk_ h
 have S0:=mk_ hs
 have S1:=mk_ hsy
 clear h hs hsy
 cases t9
 rotate_left
 ·go_enter Try.func115,Try.ntmps115
  go_wp2_with (first|((with_reducible refine gate_gd rfl ?_);first|((with_reducible refine gd_on rfl ?_ ?_);rfl;dsimp only)|((with_reducible refine gd_off rfl ?_ ?_);rfl))|((with_reducible refine gate_dst (N:=2) rfl ?_);refine loc_box rfl rfl gz HL.out ?_;intro gb2 w_ HL_;replace HL:=mk_ HL_;clear HL_)|((with_reducible refine gate_dst (N:=3) rfl ?_);refine loc_box rfl rfl gz HL.out ?_;intro gb3 w_ HL_;replace HL:=mk_ HL_;clear HL_)|((with_reducible refine gate_dst (N:=4) rfl ?_);refine loc_alloc rfl rfl tz69 HL.out ?_;intro gb4 w_ HL_;replace HL:=mk_ HL_;clear HL_)|((with_reducible refine gate_ld0 (t:=69) rfl ?_);refine loc_load (n:=10) rfl rfl kz rfl kz HL.out sz ?_)|((with_reducible refine gate_ld0 rfl ?_);refine loc_load1 rfl rfl kz rfl HL.out sz ?_)|((with_reducible refine gate_st0 rfl ?_);refine loc_store rfl rfl rfl gz kz kz HL.out pz ?_;intro w_ HL_;replace HL:=mk_ HL_;clear HL_))
  refine bodyPost_ret (results_cell_row rfl _ _ _ 69 _ (0,0) _ rfl (HL.out.blk hz) Try.underlying69 rfl kz) rfl ?_
  exact mkTxE _ _ ez ⟨A2,k2,A4,k4,rfl,Kd.C_below H2.out HL.out.bel,K2.out,Kd.C_below H4.out HL.out.bel,K4.out⟩ S0.out HL.out.bel
 have HT:=mk_ (show Txr w ⟨t0,t1,fl,t3,q,t5,t6,t7,t8,false⟩ (.agg #[.int .i64 t0,.int .i64 t1,.slice A2 fl.length k2,.int .i64 t3,.slice A4 q.length k4,.bool t5,.int .i64 t6,.bool t7,.int .i64 t8,.bool false]) from ⟨A2,k2,A4,k4,rfl,H2.out,K2.out,H4.out,K4.out⟩)
 obtain ⟨y0,y1,yf,y3,yq,y5,y6,y7,y8,y9⟩:=y
 replace S1:=mk_ (show Sm2 yf yq from S1.out)
 cases y9
 rotate_left
 ·go_enter Try.func115,Try.ntmps115
  go_wp2_with (first|((with_reducible refine gate_gd rfl ?_);first|((with_reducible refine gd_on rfl ?_ ?_);rfl;dsimp only)|((with_reducible refine gd_off rfl ?_ ?_);rfl))|((with_reducible refine gate_dst (N:=11) rfl ?_);(with_reducible refine gate_callee (f:=120) rfl ?_);refine goesL_ (some 11) rfl rfl Try.func120 kz rfl #[.agg #[.int .i64 t0,.int .i64 t1,.slice A2 fl.length k2,.int .i64 t3,.slice A4 q.length k4,.bool t5,.int .i64 t6,.bool t7,.int .i64 t8,.bool false],.int .i64 f2] rfl am ?_;(with_reducible refine (acked_calls k _ _ _ f2 _ _ (HT.out.f.below HL.out.bel) PY.out).mono ?_);rintro e w_ ⟨vy,rfl,⟨B2,j2,B4,j4,hvy,g2,gk2,g4,gk4⟩,hb_⟩;subst hvy;refine ⟨_,rfl,?_⟩;have J2:=mk_ gk2;have J4:=mk_ gk4;have GE2:=mk_ (Lok_ge HL.out (g:=gb2) hz);have GE4:=mk_ (Lok_ge HL.out (g:=gb4) hz);have LT2:=mk_ (blk_lt (HL.out.blk (g:=gb2) hz));have LT4:=mk_ (blk_lt (HL.out.blk (g:=gb4) hz));have hok_:∀ k_,(k_<w.heap.size∨worldOf HL.out≤k_)→k_≠gb2∧k_≠gb4:=(fun k_ h_=>by have h7:=GE2.out;have h8:=GE4.out;have h9:=LT2.out;have h10:=LT4.out;unfold worldOf at h_;omega);have HX:=mk_ (And.intro (Kd.F_mono g2 hok_) (Kd.F_mono g4 hok_));replace HL:=mk_ (HL.out.call hb_);clear hb_ g2 gk2 g4 gk4 hok_)|((with_reducible refine gate_dst (N:=2) rfl ?_);refine loc_box rfl rfl gz HL.out ?_;intro gb2 w_ HL_;replace HL:=mk_ HL_;clear HL_)|((with_reducible refine gate_dst (N:=3) rfl ?_);refine loc_box rfl rfl gz HL.out ?_;intro gb3 w_ HL_;replace HL:=mk_ HL_;clear HL_)|((with_reducible refine gate_dst (N:=4) rfl ?_);refine loc_alloc rfl rfl tz69 HL.out ?_;intro gb4 w_ HL_;replace HL:=mk_ HL_;clear HL_)|((with_reducible refine gate_ld0 (t:=69) rfl ?_);refine loc_load (n:=10) rfl rfl kz rfl kz HL.out sz ?_)|((with_reducible refine gate_ld0 rfl ?_);refine loc_load1 rfl rfl kz rfl HL.out sz ?_)|((with_reducible refine gate_st0 rfl ?_);refine tx_store rfl rfl rfl gz kz kz HL.out pz ?_;intro w_ HL_ hs_ hf_;replace HL:=mk_ HL_;replace HX:=mk_ (And.intro (Kd.F_step HX.out.1 (fun j_ h_ _=>hf_ j_ (by first|exact h_.1|exact h_.2))) (Kd.F_step HX.out.2 (fun j_ h_ _=>hf_ j_ (by first|exact h_.1|exact h_.2))));clear HL_ hs_ hf_))
  refine bodyPost_ret (results_cell_row rfl _ _ _ 69 _ (0,0) _ rfl (HL.out.blk hz) Try.underlying69 rfl kz) rfl ?_
  exact mkTxE ⟨_,_,yf,_,yq,_,_,_,_,_⟩ _ ez ⟨B2,j2,B4,j4,rfl,Kd.F_now HX.out.1,J2.out,Kd.F_now HX.out.2,J4.out⟩ S1.out HL.out.bel
 cases f4 <;> cases y5
 all_goals (by_cases d1:f5=1)
 all_goals (first|(have d1b:decide (f5=1)=true:=decide_eq_true d1)|(have d1b:decide (f5=1)=false:=decide_eq_false d1))
 all_goals (go_enter Try.func115,Try.ntmps115;go_wp2_with (first|((with_reducible refine gate_gd rfl ?_);first|((with_reducible refine gd_on rfl ?_ ?_);rfl;dsimp only)|((with_reducible refine gd_off rfl ?_ ?_);rfl))|((with_reducible refine gate_dst (N:=11) rfl ?_);(with_reducible refine gate_callee (f:=120) rfl ?_);refine goesL_ (some 11) rfl rfl Try.func120 kz rfl #[.agg #[.int .i64 t0,.int .i64 t1,.slice A2 fl.length k2,.int .i64 t3,.slice A4 q.length k4,.bool t5,.int .i64 t6,.bool t7,.int .i64 t8,.bool false],.int .i64 f2] rfl am ?_;(with_reducible refine (acked_calls k _ _ _ f2 _ _ (HT.out.f.below HL.out.bel) PY.out).mono ?_);rintro e w_ ⟨vy,rfl,⟨B2,j2,B4,j4,hvy,g2,gk2,g4,gk4⟩,hb_⟩;subst hvy;refine ⟨_,rfl,?_⟩;have J2:=mk_ gk2;have J4:=mk_ gk4;have GE2:=mk_ (Lok_ge HL.out (g:=gb2) hz);have GE4:=mk_ (Lok_ge HL.out (g:=gb4) hz);have LT2:=mk_ (blk_lt (HL.out.blk (g:=gb2) hz));have LT4:=mk_ (blk_lt (HL.out.blk (g:=gb4) hz));have hok_:∀ k_,(k_<w.heap.size∨worldOf HL.out≤k_)→k_≠gb2∧k_≠gb4:=(fun k_ h_=>by have h7:=GE2.out;have h8:=GE4.out;have h9:=LT2.out;have h10:=LT4.out;unfold worldOf at h_;omega);have HX:=mk_ (And.intro (Kd.F_mono g2 hok_) (Kd.F_mono g4 hok_));replace HL:=mk_ (HL.out.call hb_);clear hb_ g2 gk2 g4 gk4 hok_)|((with_reducible refine gate_dst (N:=2) rfl ?_);refine loc_box rfl rfl gz HL.out ?_;intro gb2 w_ HL_;replace HL:=mk_ HL_;clear HL_)|((with_reducible refine gate_dst (N:=3) rfl ?_);refine loc_box rfl rfl gz HL.out ?_;intro gb3 w_ HL_;replace HL:=mk_ HL_;clear HL_)|((with_reducible refine gate_dst (N:=4) rfl ?_);refine loc_alloc rfl rfl tz69 HL.out ?_;intro gb4 w_ HL_;replace HL:=mk_ HL_;clear HL_)|((with_reducible refine gate_ld0 (t:=69) rfl ?_);refine loc_load (n:=10) rfl rfl kz rfl kz HL.out sz ?_)|((with_reducible refine gate_ld0 rfl ?_);refine loc_load1 rfl rfl kz rfl HL.out sz ?_)|((with_reducible refine gate_st0 rfl ?_);refine tx_store rfl rfl rfl gz kz kz HL.out pz ?_;intro w_ HL_ hs_ hf_;replace HL:=mk_ HL_;replace HX:=mk_ (And.intro (Kd.F_step HX.out.1 (fun j_ h_ _=>hf_ j_ (by first|exact h_.1|exact h_.2))) (Kd.F_step HX.out.2 (fun j_ h_ _=>hf_ j_ (by first|exact h_.1|exact h_.2))));clear HL_ hs_ hf_));refine bodyPost_ret (results_cell_row rfl _ _ _ 69 _ (0,0) _ rfl (HL.out.blk hz) Try.underlying69 rfl kz) rfl ?_;exact mkTxE ⟨_,_,yf,_,yq,_,_,_,_,_⟩ _ ez ⟨B2,j2,B4,j4,rfl,Kd.F_now HX.out.1,J2.out,Kd.F_now HX.out.2,J4.out⟩ S1.out HL.out.bel)
end Go.Proofs.Yteknaofnageihaa.QFnTxOk
