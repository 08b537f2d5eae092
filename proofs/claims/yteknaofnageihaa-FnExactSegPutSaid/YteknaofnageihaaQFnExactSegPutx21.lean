-- Written by a program of this session, a turned copy of the print (not by print.sh itself). Lean checks it.
import Derived.Test.YteknaofnageihaaQFnExactSegPutx0
import Derived.Test.YteknaofnageihaaQFnExactSegPutx20
namespace Go.Proofs.Yteknaofnageihaa.QFnExactSegPut
open Go.RowKit Go.Proofs.YteknaofnageihaaW.PrintWords Go.Proofs.YteknaofnageihaaW.PrintLast Go.Proofs.YteknaofnageihaaW.PrintMore Go.Proofs.YteknaofnageihaaLoc
attribute [local go_sem] max2_int min2_int max_two min_two max_three min_three max_four min_four   -- for this text's walks alone
set_option linter.unusedVariables false
set_option linter.unusedSimpArgs false

/-! ### laws_toSegJoin: function 35 -/
def laws_toSegJoin.f (k : Nat) (a0_0 : Int) (l0_1 : List Int) : Option (Int × List Int) := (laws_toByteS.f k l0_1).bind fun t231 => (some (a0_0, t231))
theorem laws_toSegJoin.mono : ∀ a0 a1 k, LeO (laws_toSegJoin.f k a0 a1) (laws_toSegJoin.f (k + 1) a0 a1) := by
 intro a0 a1 k
 unfold laws_toSegJoin.f
 repeat' first
     | (with_reducible exact laws_toByteS.mono _ _)
     | (with_reducible exact LeO.refl _)
     | (with_reducible exact LeO.none _)
     | (with_reducible refine LeO.ite ?_ ?_)
     | (with_reducible refine LeO.bind ?_ (fun _ => ?_))
     | exact laws_toByteS.mono _ _
     | exact LeO.none _
     | refine LeO.ite ?_ ?_
     | refine LeO.bind ?_ (fun _ => ?_)
set_option maxHeartbeats 60000000 in
set_option maxRecDepth 100000 in
theorem laws_toSegJoin.calls (k : Nat) (a0_0 : Int) (A0_1 : Option Addr) (c0_1 : Nat) (l0_1 : List Int) (r1 : Int) (r2 : List Int) (w : World) (hr0_1 : Kd.C (Kd.int .u8) w A0_1 l0_1.length l0_1) (hc0_1 : l0_1.length ≤ c0_1) (h : laws_toSegJoin.f k a0_0 l0_1 = some (r1, r2)) :
  Calls Try.prog 35 #[.agg #[.int .i64 a0_0,.slice A0_1 l0_1.length c0_1]] w fun e w'=>∃ v1_:Value,e=.returned (.agg #[.int .i64 r1,v1_])∧Kd.R ku 5 w' w.heap.size (fun _=>True) v1_ r2∧Below w.heap.size w w':=by
 have hu46:=Try.underlying46
 have hu35:=Try.underlying35
 have Ak:=mk_ hr0_1
 have Al:=mk_ hc0_1
 clear hr0_1 hc0_1
 have HB:=mk_ (Below.refl w.heap.size w)
 have H:((laws_toByteS.f k l0_1).bind fun t231=>(some (a0_0,t231)))=some (r1,r2):=h
 clear h
 replace H:=Option.bind_eq_some_iff.mp H
 obtain ⟨t231,Ap,H⟩:=H
 try dsimp only at H
 have A2:=mk_ Ap
 clear Ap
 simp only [Option.some.injEq,Prod.mk.injEq] at H
 obtain ⟨rfl,rfl⟩:=H
 go_enter Try.func35,Try.ntmps35
 go_wp2_with (first|((with_reducible refine gate_dst (N:=1) rfl ?_);refine box_event ?hg (N:=1) ?hd (cs:=#[.int .i64 a0_0,.slice A0_1 l0_1.length c0_1]) (t:=46) ?hr ?_;(case hd=>rfl);(case hg=>rfl);(case hr=>first|(go_simp;done)|(go_simp;rfl));intro gb228 hg w3 hbox hb;have Aa:=mk_ (hbox);have Am:=mk_ ((by rw [hg];exact (zr2 (yu0 HB.out)):w.heap.size≤gb228));have A7:=Am;replace HB:=mk_ (zr3 (yu0 HB.out) hb);clear hb hbox hg)|((with_reducible refine gate_dst (N:=2) rfl ?_);refine box_event ?hg (N:=2) ?hd (cs:=#[.int .i64 0,.slice none 0 0]) (t:=35) ?hr ?_;(case hd=>rfl);(case hg=>rfl);(case hr=>first|(go_simp;done)|(go_simp;rfl));intro gb229 hg w4 hbox hb;have Ab:=mk_ (hbox);have An:=mk_ ((by rw [hg];exact (zr2 (yu1 HB.out)):w.heap.size≤gb229));have A8:=An;replace HB:=mk_ (zr3 (yu1 HB.out) hb);have Af:=mk_ ((by rw [hg];exact zm2 (zr6 (by exact Aa.out)):gb228≠gb229));replace Aa:=mk_ (zq6 (by exact Aa.out) hb);have Ag:=mk_ Af.out.symm;clear hb hbox hg)|((with_reducible refine gate_dst (N:=3) rfl ?_);refine box_event ?hg (N:=3) ?hd (cs:=#[.int .i64 0,.slice none 0 0]) (t:=35) ?hr ?_;(case hd=>rfl);(case hg=>rfl);(case hr=>first|(go_simp;done)|(go_simp;rfl));intro gb230 hg w5 hbox hb;have Ad:=mk_ (hbox);have Ao:=mk_ ((by rw [hg];exact (zr2 (yu1 HB.out)):w.heap.size≤gb230));have A9:=Ao;replace HB:=mk_ (zr3 (yu1 HB.out) hb);have Ae:=mk_ ((by rw [hg];exact zm2 (zr6 (by exact Aa.out)):gb228≠gb230));replace Aa:=mk_ (zq6 (by exact Aa.out) hb);have Ah:=mk_ Ae.out.symm;have Ac:=mk_ ((by rw [hg];exact zm2 (zr6 (by exact Ab.out)):gb229≠gb230));replace Ab:=mk_ (zq6 (by exact Ab.out) hb);have Ai:=mk_ Ac.out.symm;clear hb hbox hg;have Ba:=Af.out;have Bb:=Ag.out;have Bc:=Ae.out;have Bd:=Ah.out;obtain ⟨A3,A4⟩:=cz2 Aa.out;obtain ⟨A5,A6⟩:=fz2 Aa.out;have Be:=Ai.out;have Bf:=Ac.out;obtain ⟨Aq,Ar⟩:=cz2 Ad.out;obtain ⟨As,At⟩:=fz2 Ad.out)|((with_reducible refine gate_callee (f:=16) rfl ?_);refine goesL_ (some 9) rfl rfl Try.func16 (by kernel_rfl) rfl #[.slice A0_1 l0_1.length c0_1] rfl am ?_;(with_reducible refine (laws_toByteS.calls k _ _ l0_1 t231 _ ?side1 ?side2 A2.out).mono ?_);(case side1=>exact Kd.C_below Ak.out (yu1 HB.out));(case side2=>exact Al.out);rintro e Bg ⟨v232,rfl,ho0,hb⟩;refine ⟨_,rfl,?_⟩;have Aj:=mk_ (Kd.R_lower ho0 (zr2 (yu1 HB.out)));replace Aa:=mk_ (zq6 (g:=gb228) (o:=.cells #[.int .i64 a0_0,.slice A0_1 l0_1.length c0_1] 46 (0,0)) (yv1 Ae.out Aa.out) hb);replace Ab:=mk_ (zq6 (g:=gb229) (o:=.cells #[.int .i64 0,.slice none 0 0] 35 (0,0)) (yv1 Ac.out Ab.out) hb);replace Ad:=mk_ (zq6 (g:=gb230) (o:=.cells #[.int .i64 a0_0,.slice none 0 0] 35 (0,0)) (by (with_reducible repeat (first|refine zq1 ?_ _|refine zq2 ?_|refine zq3 ?_ _));refine zq4 (cs:=#[.int .i64 0,.slice none 0 0]) ?_ 0 _ rfl;(with_reducible repeat (first|refine zq1 ?_ _|refine zq2 ?_|refine zq3 ?_ _));exact Ad.out) hb);replace HB:=mk_ (zr3 (yu1 HB.out) hb);(try clear hb);(try clear hb2);(try clear hk);(try clear hi);(try clear ho0);obtain ⟨Ao12,co12,eo12⟩:=Kd.R_slice Aj.out;subst eo12;obtain ⟨Au,Av⟩:=cz2 Ad.out;obtain ⟨Aw,Ax⟩:=fz2 Ad.out;obtain ⟨Ay,Az⟩:=cz2 Ab.out;obtain ⟨A0,A1⟩:=fz2 Ab.out))
 refine bodyPost_ret (results_cell_row rfl _ _ gb229 35 #[.int .i64 a0_0,.slice Ao12 t231.length co12] (0,0) _ rfl (yv2 Ac.out Ab.out) Try.underlying35 rfl (by kernel_rfl)) rfl ?_
 exact ⟨_,by first|rfl|(simp [errW_none,errW_some] <;> rfl)|(simp [*,errW_none,errW_some] <;> rfl),by (with_reducible repeat (first|apply Kd.R_alloc|apply Kd.R_drewN|apply Kd.R_drew));exact Kd.R_mono (Kd.R_far (p:=⟨gb229,1,none⟩) (Kd.R_far (p:=⟨gb229,0,none⟩) (Kd.R_far (p:=⟨gb230,1,none⟩) (Kd.R_types (Kd.R_types Aj.out Ad.out (by decide)) Ab.out (by decide)) (fun _ hk=>hk.1.2) (.slice Ao12 t231.length co12)) (fun _ hk=>hk.2) (.int .i64 a0_0)) (fun _ hk=>hk.2) (.slice Ao12 t231.length co12)) (fun _ hk=>trivial),by exact yu1 HB.out⟩

end Go.Proofs.Yteknaofnageihaa.QFnExactSegPut
