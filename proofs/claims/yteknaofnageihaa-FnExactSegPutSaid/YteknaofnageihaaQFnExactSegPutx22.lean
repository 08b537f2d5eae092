-- Written by a program of this session, a turned copy of the print (not by print.sh itself). Lean checks it.
import Derived.Test.YteknaofnageihaaQFnExactSegPutx0
import Derived.Test.YteknaofnageihaaQFnExactSegPutx20
namespace Go.Proofs.Yteknaofnageihaa.QFnExactSegPut
open Go.RowKit Go.Proofs.YteknaofnageihaaW.PrintWords Go.Proofs.YteknaofnageihaaW.PrintLast Go.Proofs.YteknaofnageihaaW.PrintMore Go.Proofs.YteknaofnageihaaLoc
attribute [local go_sem] max2_int min2_int max_two min_two max_three min_three max_four min_four   -- for this text's walks alone
set_option linter.unusedVariables false
set_option linter.unusedSimpArgs false

/-! ### laws_toSegPart: function 36 -/
def laws_toSegPart.f (k : Nat) (a0_0 : Int) (a0_1 : Int) (l0_2 : List Int) : Option (Int × Int × List Int) := (laws_toByteS.f k l0_2).bind fun t237 => (some (a0_0, a0_1, t237))
theorem laws_toSegPart.mono : ∀ a0 a1 a2 k, LeO (laws_toSegPart.f k a0 a1 a2) (laws_toSegPart.f (k + 1) a0 a1 a2) := by
 intro a0 a1 a2 k
 unfold laws_toSegPart.f
 repeat' first
     | (with_reducible exact laws_toByteS.mono _ _)
     | (with_reducible exact LeO.refl _)
     | (with_reducible exact LeO.none _)
     | (with_reducible refine LeO.ite ?_ ?_)
     | (with_reducible refine LeO.bind ?_ (fun _ => ?_))
     | exact laws_toByteS.mono _ _
     | exact LeO.none _
     | refine LeO.ite ?_ ?_
     | refine LeO.bind ?_ (fun _ => ?_)
set_option maxHeartbeats 60000000 in
set_option maxRecDepth 100000 in
theorem laws_toSegPart.calls (k : Nat) (a0_0 : Int) (a0_1 : Int) (A0_2 : Option Addr) (c0_2 : Nat) (l0_2 : List Int) (r1 : Int) (r2 : Int) (r3 : List Int) (w : World) (hr0_2 : Kd.C (Kd.int .u8) w A0_2 l0_2.length l0_2) (hc0_2 : l0_2.length ≤ c0_2) (h : laws_toSegPart.f k a0_0 a0_1 l0_2 = some (r1, r2, r3)) :
  Calls Try.prog 36 #[.agg #[.int .i64 a0_0,.int .i64 a0_1,.slice A0_2 l0_2.length c0_2]] w fun e w'=>∃ v2_:Value,e=.returned (.agg #[.int .i64 r1,.int .i64 r2,v2_])∧Kd.R ku 5 w' w.heap.size (fun _=>True) v2_ r3∧Below w.heap.size w w':=by
 have hu47:=Try.underlying47
 have hu39:=Try.underlying39
 have Ak:=mk_ hr0_2
 have Al:=mk_ hc0_2
 clear hr0_2 hc0_2
 have HB:=mk_ (Below.refl w.heap.size w)
 have H:((laws_toByteS.f k l0_2).bind fun t237=>(some (a0_0,a0_1,t237)))=some (r1,r2,r3):=h
 clear h
 replace H:=Option.bind_eq_some_iff.mp H
 obtain ⟨t237,Ap,H⟩:=H
 try dsimp only at H
 have A2:=mk_ Ap
 clear Ap
 simp only [Option.some.injEq,Prod.mk.injEq] at H
 obtain ⟨rfl,rfl,rfl⟩:=H
 go_enter Try.func36,Try.ntmps36
 go_wp2_with (first|((with_reducible refine gate_dst (N:=1) rfl ?_);refine box_event ?hg (N:=1) ?hd (cs:=#[.int .i64 a0_0,.int .i64 a0_1,.slice A0_2 l0_2.length c0_2]) (t:=47) ?hr ?_;(case hd=>rfl);(case hg=>rfl);(case hr=>first|(go_simp;done)|(go_simp;rfl));intro gb234 hg w3 hbox hb;have Aa:=mk_ (hbox);have Am:=mk_ ((by rw [hg];exact (zr2 (yu0 HB.out)):w.heap.size≤gb234));have Bf:=Am;replace HB:=mk_ (zr3 (yu0 HB.out) hb);clear hb hbox hg)|((with_reducible refine gate_dst (N:=2) rfl ?_);refine box_event ?hg (N:=2) ?hd (cs:=#[.int .i64 0,.int .i64 0,.slice none 0 0]) (t:=39) ?hr ?_;(case hd=>rfl);(case hg=>rfl);(case hr=>first|(go_simp;done)|(go_simp;rfl));intro gb235 hg w4 hbox hb;have Ab:=mk_ (hbox);have An:=mk_ ((by rw [hg];exact (zr2 (yu1 HB.out)):w.heap.size≤gb235));have Bg:=An;replace HB:=mk_ (zr3 (yu1 HB.out) hb);have Af:=mk_ ((by rw [hg];exact zm2 (zr6 (by exact Aa.out)):gb234≠gb235));replace Aa:=mk_ (zq6 (by exact Aa.out) hb);have Ag:=mk_ Af.out.symm;clear hb hbox hg)|((with_reducible refine gate_dst (N:=3) rfl ?_);refine box_event ?hg (N:=3) ?hd (cs:=#[.int .i64 0,.int .i64 0,.slice none 0 0]) (t:=39) ?hr ?_;(case hd=>rfl);(case hg=>rfl);(case hr=>first|(go_simp;done)|(go_simp;rfl));intro gb236 hg w5 hbox hb;have Ad:=mk_ (hbox);have Ao:=mk_ ((by rw [hg];exact (zr2 (yu1 HB.out)):w.heap.size≤gb236));have Bh:=Ao;replace HB:=mk_ (zr3 (yu1 HB.out) hb);have Ae:=mk_ ((by rw [hg];exact zm2 (zr6 (by exact Aa.out)):gb234≠gb236));replace Aa:=mk_ (zq6 (by exact Aa.out) hb);have Ah:=mk_ Ae.out.symm;have Ac:=mk_ ((by rw [hg];exact zm2 (zr6 (by exact Ab.out)):gb235≠gb236));replace Ab:=mk_ (zq6 (by exact Ab.out) hb);have Ai:=mk_ Ac.out.symm;clear hb hbox hg;have Bi:=Af.out;have Bj:=Ag.out;have Bk:=Ae.out;have Bl:=Ah.out;obtain ⟨A9,Ba,Bb⟩:=cz3 Aa.out;obtain ⟨Bc,Bd,Be⟩:=fz3 Aa.out;have Bm:=Ai.out;have Bn:=Ac.out;obtain ⟨Aq,Ar,As⟩:=cz3 Ad.out;obtain ⟨At,Au,Av⟩:=fz3 Ad.out)|((with_reducible refine gate_callee (f:=16) rfl ?_);refine goesL_ (some 12) rfl rfl Try.func16 (by kernel_rfl) rfl #[.slice A0_2 l0_2.length c0_2] rfl am ?_;(with_reducible refine (laws_toByteS.calls k _ _ l0_2 t237 _ ?side1 ?side2 A2.out).mono ?_);(case side1=>exact Kd.C_below Ak.out (yu1 HB.out));(case side2=>exact Al.out);rintro e Bo ⟨v238,rfl,ho0,hb⟩;refine ⟨_,rfl,?_⟩;have Aj:=mk_ (Kd.R_lower ho0 (zr2 (yu1 HB.out)));replace Aa:=mk_ (zq6 (g:=gb234) (o:=.cells #[.int .i64 a0_0,.int .i64 a0_1,.slice A0_2 l0_2.length c0_2] 47 (0,0)) (yv3 Ae.out Aa.out) hb);replace Ab:=mk_ (zq6 (g:=gb235) (o:=.cells #[.int .i64 0,.int .i64 0,.slice none 0 0] 39 (0,0)) (yv3 Ac.out Ab.out) hb);replace Ad:=mk_ (zq6 (g:=gb236) (o:=.cells #[.int .i64 a0_0,.int .i64 a0_1,.slice none 0 0] 39 (0,0)) (by (with_reducible repeat (first|refine zq1 ?_ _|refine zq2 ?_|refine zq3 ?_ _));refine zq4 (cs:=#[.int .i64 a0_0,.int .i64 0,.slice none 0 0]) ?_ 1 _ rfl;(with_reducible repeat (first|refine zq1 ?_ _|refine zq2 ?_|refine zq3 ?_ _));refine zq4 (cs:=#[.int .i64 0,.int .i64 0,.slice none 0 0]) ?_ 0 _ rfl;(with_reducible repeat (first|refine zq1 ?_ _|refine zq2 ?_|refine zq3 ?_ _));exact Ad.out) hb);replace HB:=mk_ (zr3 (yu1 HB.out) hb);(try clear hb);(try clear hb2);(try clear hk);(try clear hi);(try clear ho0);obtain ⟨Ao12,co12,eo12⟩:=Kd.R_slice Aj.out;subst eo12;obtain ⟨Aw,Ax,Ay⟩:=cz3 Ad.out;obtain ⟨Az,A0,A1⟩:=fz3 Ad.out;obtain ⟨A3,A4,A5⟩:=cz3 Ab.out;obtain ⟨A6,A7,A8⟩:=fz3 Ab.out))
 refine bodyPost_ret (results_cell_row rfl _ _ gb235 39 #[.int .i64 a0_0,.int .i64 a0_1,.slice Ao12 t237.length co12] (0,0) _ rfl (yv4 Ac.out Ab.out) Try.underlying39 rfl (by kernel_rfl)) rfl ?_
 exact ⟨_,by first|rfl|(simp [errW_none,errW_some] <;> rfl)|(simp [*,errW_none,errW_some] <;> rfl),by (with_reducible repeat (first|apply Kd.R_alloc|apply Kd.R_drewN|apply Kd.R_drew));exact Kd.R_mono (Kd.R_far (p:=⟨gb235,2,none⟩) (Kd.R_far (p:=⟨gb235,1,none⟩) (Kd.R_far (p:=⟨gb235,0,none⟩) (Kd.R_far (p:=⟨gb236,2,none⟩) (Kd.R_types (Kd.R_types Aj.out Ad.out (by decide)) Ab.out (by decide)) (fun _ hk=>hk.1.2) (.slice Ao12 t237.length co12)) (fun _ hk=>hk.2) (.int .i64 a0_0)) (fun _ hk=>hk.2) (.int .i64 a0_1)) (fun _ hk=>hk.2) (.slice Ao12 t237.length co12)) (fun _ hk=>trivial),by exact yu1 HB.out⟩

end Go.Proofs.Yteknaofnageihaa.QFnExactSegPut
