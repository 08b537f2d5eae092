-- Written by a program of this session, a turned copy of the print (not by print.sh itself). Lean checks it.
import Derived.Test.YteknaofnageihaaQFnExactSegPutx0
import Derived.Test.YteknaofnageihaaQFnExactSegPutx5
import Derived.Test.YteknaofnageihaaQFnExactSegPutx6
import Derived.Test.YteknaofnageihaaQFnExactSegPutx8
namespace Go.Proofs.Yteknaofnageihaa.QFnExactSegPut
open Go.RowKit Go.Proofs.YteknaofnageihaaW.PrintWords Go.Proofs.YteknaofnageihaaW.PrintLast Go.Proofs.YteknaofnageihaaW.PrintMore Go.Proofs.YteknaofnageihaaLoc
attribute [local go_sem] max2_int min2_int max_two min_two max_three min_three max_four min_four   -- for this text's walks alone
set_option linter.unusedVariables false
set_option linter.unusedSimpArgs false

/-! ### impl_SegPut: function 26 -/
def impl_SegPut.f (k : Nat) (a0_0 : Int) (l0_1 : List Int) (a1_0 : Int) (a1_1 : Int) (l1_2 : List Int) : Option (Int × List Int × List Int × Int) := (impl_JoinOk.f a0_0 l0_1).bind fun t118 => (if t118 = true then ((impl_PartOk.f a1_0 a1_1 l1_2).bind fun t119 => (if t119 = true then ((impl_SegJoin_put.f k a0_0 l0_1 a1_0 a1_1 l1_2).bind fun bt120 => (some (bt120.1, bt120.2.1, bt120.2.2.1, bt120.2.2.2))) else (some (0, ([] : List Int), ([] : List Int), 0)))) else (some (0, ([] : List Int), ([] : List Int), 0)))
theorem impl_SegPut.mono : ∀ a0 a1 a2 a3 a4 k, LeO (impl_SegPut.f k a0 a1 a2 a3 a4) (impl_SegPut.f (k + 1) a0 a1 a2 a3 a4) := by
 intro a0 a1 a2 a3 a4 k
 unfold impl_SegPut.f
 repeat' first
     | (with_reducible exact impl_SegJoin_put.mono _ _ _ _ _ _)
     | (with_reducible exact LeO.refl _)
     | (with_reducible exact LeO.none _)
     | (with_reducible refine LeO.ite ?_ ?_)
     | (with_reducible refine LeO.bind ?_ (fun _ => ?_))
     | exact impl_SegJoin_put.mono _ _ _ _ _ _
     | exact LeO.none _
     | refine LeO.ite ?_ ?_
     | refine LeO.bind ?_ (fun _ => ?_)
set_option maxHeartbeats 60000000 in
set_option maxRecDepth 100000 in
theorem impl_SegPut.calls (k : Nat) (a0_0 : Int) (A0_1 : Option Addr) (c0_1 : Nat) (l0_1 : List Int) (a1_0 : Int) (a1_1 : Int) (A1_2 : Option Addr) (c1_2 : Nat) (l1_2 : List Int) (r1 : Int) (r2 : List Int) (r3 : List Int) (r4 : Int) (w : World) (hr0_1 : Kd.C (Kd.int .u8) w A0_1 l0_1.length l0_1) (hc0_1 : l0_1.length ≤ c0_1) (hr1_2 : Kd.C (Kd.int .u8) w A1_2 l1_2.length l1_2) (hc1_2 : l1_2.length ≤ c1_2) (h : impl_SegPut.f k a0_0 l0_1 a1_0 a1_1 l1_2 = some (r1, r2, r3, r4)) :
  Calls Try.prog 26 #[.agg #[.int .i64 a0_0,.slice A0_1 l0_1.length c0_1],.agg #[.int .i64 a1_0,.int .i64 a1_1,.slice A1_2 l1_2.length c1_2]] w fun e w'=>∃ v1_ v2_:Value,e=.returned (.tuple #[.agg #[.int .i64 r1,v1_],v2_,.int .i64 r4])∧RR ku 5 w' w.heap.size (fun k_=>some k_≠(v2_:Value).ownBlock) v1_ r2∧RR ku 5 w' w.heap.size (fun k_=>some k_≠(v1_:Value).ownBlock) v2_ r3∧Below w.heap.size w w':=by
 have hu35:=Try.underlying35
 have hu39:=Try.underlying39
 have Am:=mk_ hr0_1
 have An:=mk_ hc0_1
 clear hr0_1 hc0_1
 have Ao:=mk_ hr1_2
 have Ap:=mk_ hc1_2
 clear hr1_2 hc1_2
 have HB:=mk_ (Below.refl w.heap.size w)
 have H:((impl_JoinOk.f a0_0 l0_1).bind fun t118=>(if t118=true then ((impl_PartOk.f a1_0 a1_1 l1_2).bind fun t119=>(if t119=true then ((impl_SegJoin_put.f k a0_0 l0_1 a1_0 a1_1 l1_2).bind fun bt120=>(some (bt120.1,bt120.2.1,bt120.2.2.1,bt120.2.2.2))) else (some (0,([]:List Int),([]:List Int),0)))) else (some (0,([]:List Int),([]:List Int),0))))=some (r1,r2,r3,r4):=h
 clear h
 replace H:=Option.bind_eq_some_iff.mp H
 obtain ⟨t118,Av,H⟩:=H
 try dsimp only at H
 have A3:=mk_ Av
 clear Av
 by_cases c4:t118=true
 rotate_left
 ·replace c4:=Bool.eq_false_iff.mpr c4
  subst c4
  have H1:(some (0,([]:List Int),([]:List Int),0))=some (r1,r2,r3,r4):=by rw [if_neg (show ¬ (false=true) by decide)] at H;exact H
  clear H
  have H:=H1
  clear H1
  simp only [Option.some.injEq,Prod.mk.injEq] at H
  obtain ⟨rfl,rfl,rfl,rfl⟩:=H
  go_enter Try.func26,Try.ntmps26
  go_wp2_with (first|((with_reducible refine gate_dst (N:=2) rfl ?_);refine box_event ?hg (N:=2) ?hd (cs:=#[.int .i64 a0_0,.slice A0_1 l0_1.length c0_1]) (t:=35) ?hr ?_;(case hd=>rfl);(case hg=>rfl);(case hr=>first|(go_simp;done)|(go_simp;rfl));intro gb115 hg Ct hbox hb;have Aa:=mk_ (hbox);have Aj:=mk_ ((by rw [hg];exact (zr2 (yu0 HB.out)):w.heap.size≤gb115));have Aq:=Aj;replace HB:=mk_ (zr3 (yu0 HB.out) hb);clear hb hbox hg)|((with_reducible refine gate_dst (N:=3) rfl ?_);refine box_event ?hg (N:=3) ?hd (cs:=#[.int .i64 a1_0,.int .i64 a1_1,.slice A1_2 l1_2.length c1_2]) (t:=39) ?hr ?_;(case hd=>rfl);(case hg=>rfl);(case hr=>first|(go_simp;done)|(go_simp;rfl));intro gb116 hg Cu hbox hb;have Ab:=mk_ (hbox);have Ak:=mk_ ((by rw [hg];exact (zr2 (yu1 HB.out)):w.heap.size≤gb116));have Ar:=Ak;replace HB:=mk_ (zr3 (yu1 HB.out) hb);have Ad:=mk_ ((by rw [hg];exact zm2 (zr6 (by exact Aa.out)):gb115≠gb116));replace Aa:=mk_ (zq6 (by exact Aa.out) hb);have Ag:=mk_ Ad.out.symm;clear hb hbox hg)|((with_reducible refine gate_dst (N:=4) rfl ?_);refine box_event ?hg (N:=4) ?hd (cs:=#[.int .i64 0,.slice none 0 0]) (t:=35) ?hr ?_;(case hd=>rfl);(case hg=>rfl);(case hr=>first|(go_simp;done)|(go_simp;rfl));intro gb117 hg Cv hbox hb;have Ac:=mk_ (hbox);have Al:=mk_ ((by rw [hg];exact (zr2 (yu1 HB.out)):w.heap.size≤gb117));have As:=Al;replace HB:=mk_ (zr3 (yu1 HB.out) hb);have Ae:=mk_ ((by rw [hg];exact zm2 (zr6 (by exact Aa.out)):gb115≠gb117));replace Aa:=mk_ (zq6 (by exact Aa.out) hb);have Ah:=mk_ Ae.out.symm;have Af:=mk_ ((by rw [hg];exact zm2 (zr6 (by exact Ab.out)):gb116≠gb117));replace Ab:=mk_ (zq6 (by exact Ab.out) hb);have Ai:=mk_ Af.out.symm;clear hb hbox hg;have Cb:=Ad.out;have Cc:=Ag.out;have Cd:=Ae.out;have Ce:=Ah.out;obtain ⟨Ay,Az⟩:=cz2 Aa.out;obtain ⟨A0,A1⟩:=fz2 Aa.out)|((with_reducible refine gate_callee (f:=46) rfl ?_);refine goesL_ (some 8) rfl rfl Try.func46 (by kernel_rfl) rfl #[.agg #[.int .i64 a0_0,.slice A0_1 l0_1.length c0_1]] rfl am ?_;(with_reducible refine (impl_JoinOk.calls a0_0 _ _ l0_1 false _ ?side1 ?side2 A3.out).mono ?_);(case side1=>repeat (first|exact (Kd.C_below Am.out HB.out)|(with_reducible refine Kd.C_alloc ?_ _)|(with_reducible refine Kd.C_drewN ?_ _)|(with_reducible refine Kd.C_drew ?_)));(case side2=>exact An.out);rintro e Cw ⟨rfl,hb⟩;refine ⟨_,rfl,?_⟩;replace Aa:=mk_ (zq6 (by exact Aa.out) hb);replace Ab:=mk_ (zq6 (by exact Ab.out) hb);replace Ac:=mk_ (zq6 (by exact Ac.out) hb);replace HB:=mk_ (zr3 (yu1 HB.out) hb);(try clear hb);(try clear hb2);(try clear hk);(try clear hi);have Cf:=Ai.out;have Cg:=Af.out;obtain ⟨A2,A4⟩:=cz2 Ac.out;obtain ⟨A6,A8⟩:=fz2 Ac.out))
  refine bodyPost_ret (results_ctt rfl _ _ gb117 35 #[.int .i64 0,.slice none 0 0] (0,0) _ rfl (yv0 Ac.out) Try.underlying35 rfl (by kernel_rfl)) rfl ?_
  exact ⟨_,_,by first|rfl|(simp [errW_none,errW_some] <;> rfl)|(simp [*,errW_none,errW_some] <;> rfl),by first|exact RR_nil _ _ _ _ _|exact Kd.N_nil _ _ _ _ _|exact Kd.V_nil _ _ _ _ _|exact Kd.Q_nil _ _ _ _ _|exact Kd.S_nil _ _ _ _ _,by first|exact RR_nil _ _ _ _ _|exact Kd.N_nil _ _ _ _ _|exact Kd.V_nil _ _ _ _ _|exact Kd.Q_nil _ _ _ _ _|exact Kd.S_nil _ _ _ _ _,by exact yu1 HB.out⟩
 subst c4
 have H1:((impl_PartOk.f a1_0 a1_1 l1_2).bind fun t119=>(if t119=true then ((impl_SegJoin_put.f k a0_0 l0_1 a1_0 a1_1 l1_2).bind fun bt120=>(some (bt120.1,bt120.2.1,bt120.2.2.1,bt120.2.2.2))) else (some (0,([]:List Int),([]:List Int),0))))=some (r1,r2,r3,r4):=by rw [if_pos rfl] at H;exact H
 clear H
 have H:=H1
 clear H1
 replace H:=Option.bind_eq_some_iff.mp H
 obtain ⟨t119,Aw,H⟩:=H
 try dsimp only at H
 have A5:=mk_ Aw
 clear Aw
 by_cases c6:t119=true
 rotate_left
 ·replace c6:=Bool.eq_false_iff.mpr c6
  subst c6
  have H1:(some (0,([]:List Int),([]:List Int),0))=some (r1,r2,r3,r4):=by rw [if_neg (show ¬ (false=true) by decide)] at H;exact H
  clear H
  have H:=H1
  clear H1
  simp only [Option.some.injEq,Prod.mk.injEq] at H
  obtain ⟨rfl,rfl,rfl,rfl⟩:=H
  go_enter Try.func26,Try.ntmps26
  go_wp2_with (first|((with_reducible refine gate_dst (N:=2) rfl ?_);refine box_event ?hg (N:=2) ?hd (cs:=#[.int .i64 a0_0,.slice A0_1 l0_1.length c0_1]) (t:=35) ?hr ?_;(case hd=>rfl);(case hg=>rfl);(case hr=>first|(go_simp;done)|(go_simp;rfl));intro gb115 hg Cx hbox hb;have Aa:=mk_ (hbox);have Aj:=mk_ ((by rw [hg];exact (zr2 (yu0 HB.out)):w.heap.size≤gb115));have Aq:=Aj;replace HB:=mk_ (zr3 (yu0 HB.out) hb);clear hb hbox hg)|((with_reducible refine gate_dst (N:=3) rfl ?_);refine box_event ?hg (N:=3) ?hd (cs:=#[.int .i64 a1_0,.int .i64 a1_1,.slice A1_2 l1_2.length c1_2]) (t:=39) ?hr ?_;(case hd=>rfl);(case hg=>rfl);(case hr=>first|(go_simp;done)|(go_simp;rfl));intro gb116 hg Cy hbox hb;have Ab:=mk_ (hbox);have Ak:=mk_ ((by rw [hg];exact (zr2 (yu1 HB.out)):w.heap.size≤gb116));have Ar:=Ak;replace HB:=mk_ (zr3 (yu1 HB.out) hb);have Ad:=mk_ ((by rw [hg];exact zm2 (zr6 (by exact Aa.out)):gb115≠gb116));replace Aa:=mk_ (zq6 (by exact Aa.out) hb);have Ag:=mk_ Ad.out.symm;clear hb hbox hg)|((with_reducible refine gate_dst (N:=4) rfl ?_);refine box_event ?hg (N:=4) ?hd (cs:=#[.int .i64 0,.slice none 0 0]) (t:=35) ?hr ?_;(case hd=>rfl);(case hg=>rfl);(case hr=>first|(go_simp;done)|(go_simp;rfl));intro gb117 hg Cz hbox hb;have Ac:=mk_ (hbox);have Al:=mk_ ((by rw [hg];exact (zr2 (yu1 HB.out)):w.heap.size≤gb117));have As:=Al;replace HB:=mk_ (zr3 (yu1 HB.out) hb);have Ae:=mk_ ((by rw [hg];exact zm2 (zr6 (by exact Aa.out)):gb115≠gb117));replace Aa:=mk_ (zq6 (by exact Aa.out) hb);have Ah:=mk_ Ae.out.symm;have Af:=mk_ ((by rw [hg];exact zm2 (zr6 (by exact Ab.out)):gb116≠gb117));replace Ab:=mk_ (zq6 (by exact Ab.out) hb);have Ai:=mk_ Af.out.symm;clear hb hbox hg;have Ch:=Ad.out;have Ci:=Ag.out;have Cj:=Ae.out;have Ck:=Ah.out;obtain ⟨A9,Ba⟩:=cz2 Aa.out;obtain ⟨Bb,Bc⟩:=fz2 Aa.out)|((with_reducible refine gate_callee (f:=46) rfl ?_);refine goesL_ (some 8) rfl rfl Try.func46 (by kernel_rfl) rfl #[.agg #[.int .i64 a0_0,.slice A0_1 l0_1.length c0_1]] rfl am ?_;(with_reducible refine (impl_JoinOk.calls a0_0 _ _ l0_1 true _ ?side1 ?side2 A3.out).mono ?_);(case side1=>repeat (first|exact (Kd.C_below Am.out HB.out)|(with_reducible refine Kd.C_alloc ?_ _)|(with_reducible refine Kd.C_drewN ?_ _)|(with_reducible refine Kd.C_drew ?_)));(case side2=>exact An.out);rintro e C0 ⟨rfl,hb⟩;refine ⟨_,rfl,?_⟩;replace Aa:=mk_ (zq6 (by exact Aa.out) hb);replace Ab:=mk_ (zq6 (by exact Ab.out) hb);replace Ac:=mk_ (zq6 (by exact Ac.out) hb);replace HB:=mk_ (zr3 (yu1 HB.out) hb);(try clear hb);(try clear hb2);(try clear hk);(try clear hi);have Cl:=Af.out;have Cm:=Ai.out;obtain ⟨Bd,Be,Bf⟩:=cz3 Ab.out;obtain ⟨Bg,Bh,Bi⟩:=fz3 Ab.out)|(go_at_call 27;(with_reducible refine (impl_PartOk.calls a1_0 a1_1 _ _ l1_2 false _ ?side1 ?side2 A5.out).mono ?_);(case side1=>repeat (first|exact (Kd.C_below Ao.out HB.out)|(with_reducible refine Kd.C_alloc ?_ _)|(with_reducible refine Kd.C_drewN ?_ _)|(with_reducible refine Kd.C_drew ?_)));(case side2=>exact Ap.out);rintro e C1 ⟨rfl,hb⟩;replace Aa:=mk_ (zq6 (by exact Aa.out) hb);replace Ab:=mk_ (zq6 (by exact Ab.out) hb);replace Ac:=mk_ (zq6 (by exact Ac.out) hb);replace HB:=mk_ (zr3 (yu1 HB.out) hb);(try clear hb);(try clear hb2);(try clear hk);(try clear hi);obtain ⟨Bj,Bk⟩:=cz2 Ac.out;obtain ⟨Bl,Bm⟩:=fz2 Ac.out))
  refine bodyPost_ret (results_ctt rfl _ _ gb117 35 #[.int .i64 0,.slice none 0 0] (0,0) _ rfl (yv0 Ac.out) Try.underlying35 rfl (by kernel_rfl)) rfl ?_
  exact ⟨_,_,by first|rfl|(simp [errW_none,errW_some] <;> rfl)|(simp [*,errW_none,errW_some] <;> rfl),by first|exact RR_nil _ _ _ _ _|exact Kd.N_nil _ _ _ _ _|exact Kd.V_nil _ _ _ _ _|exact Kd.Q_nil _ _ _ _ _|exact Kd.S_nil _ _ _ _ _,by first|exact RR_nil _ _ _ _ _|exact Kd.N_nil _ _ _ _ _|exact Kd.V_nil _ _ _ _ _|exact Kd.Q_nil _ _ _ _ _|exact Kd.S_nil _ _ _ _ _,by exact yu1 HB.out⟩
 subst c6
 have H1:((impl_SegJoin_put.f k a0_0 l0_1 a1_0 a1_1 l1_2).bind fun bt120=>(some (bt120.1,bt120.2.1,bt120.2.2.1,bt120.2.2.2)))=some (r1,r2,r3,r4):=by rw [if_pos rfl] at H;exact H
 clear H
 have H:=H1
 clear H1
 replace H:=Option.bind_eq_some_iff.mp H
 obtain ⟨⟨t120,t121,t124,t127⟩,Ax,H⟩:=H
 try dsimp only at H
 have A7:=mk_ Ax
 clear Ax
 simp only [Option.some.injEq,Prod.mk.injEq] at H
 obtain ⟨rfl,rfl,rfl,rfl⟩:=H
 go_enter Try.func26,Try.ntmps26
 go_wp2_with (first|((with_reducible refine gate_dst (N:=2) rfl ?_);refine box_event ?hg (N:=2) ?hd (cs:=#[.int .i64 a0_0,.slice A0_1 l0_1.length c0_1]) (t:=35) ?hr ?_;(case hd=>rfl);(case hg=>rfl);(case hr=>first|(go_simp;done)|(go_simp;rfl));intro gb115 hg w8 hbox hb;have Aa:=mk_ (hbox);have Aj:=mk_ ((by rw [hg];exact (zr2 (yu0 HB.out)):w.heap.size≤gb115));have Aq:=Aj;replace HB:=mk_ (zr3 (yu0 HB.out) hb);clear hb hbox hg)|((with_reducible refine gate_dst (N:=3) rfl ?_);refine box_event ?hg (N:=3) ?hd (cs:=#[.int .i64 a1_0,.int .i64 a1_1,.slice A1_2 l1_2.length c1_2]) (t:=39) ?hr ?_;(case hd=>rfl);(case hg=>rfl);(case hr=>first|(go_simp;done)|(go_simp;rfl));intro gb116 hg w9 hbox hb;have Ab:=mk_ (hbox);have Ak:=mk_ ((by rw [hg];exact (zr2 (yu1 HB.out)):w.heap.size≤gb116));have Ar:=Ak;replace HB:=mk_ (zr3 (yu1 HB.out) hb);have Ad:=mk_ ((by rw [hg];exact zm2 (zr6 (by exact Aa.out)):gb115≠gb116));replace Aa:=mk_ (zq6 (by exact Aa.out) hb);have Ag:=mk_ Ad.out.symm;clear hb hbox hg)|((with_reducible refine gate_dst (N:=4) rfl ?_);refine box_event ?hg (N:=4) ?hd (cs:=#[.int .i64 0,.slice none 0 0]) (t:=35) ?hr ?_;(case hd=>rfl);(case hg=>rfl);(case hr=>first|(go_simp;done)|(go_simp;rfl));intro gb117 hg C2 hbox hb;have Ac:=mk_ (hbox);have Al:=mk_ ((by rw [hg];exact (zr2 (yu1 HB.out)):w.heap.size≤gb117));have As:=Al;replace HB:=mk_ (zr3 (yu1 HB.out) hb);have Ae:=mk_ ((by rw [hg];exact zm2 (zr6 (by exact Aa.out)):gb115≠gb117));replace Aa:=mk_ (zq6 (by exact Aa.out) hb);have Ah:=mk_ Ae.out.symm;have Af:=mk_ ((by rw [hg];exact zm2 (zr6 (by exact Ab.out)):gb116≠gb117));replace Ab:=mk_ (zq6 (by exact Ab.out) hb);have Ai:=mk_ Af.out.symm;clear hb hbox hg;have Cn:=Ad.out;have Co:=Ag.out;have Cp:=Ae.out;have Cq:=Ah.out;obtain ⟨Bn,Bo⟩:=cz2 Aa.out;obtain ⟨Bp,Bq⟩:=fz2 Aa.out)|((with_reducible refine gate_callee (f:=46) rfl ?_);refine goesL_ (some 8) rfl rfl Try.func46 (by kernel_rfl) rfl #[.agg #[.int .i64 a0_0,.slice A0_1 l0_1.length c0_1]] rfl am ?_;(with_reducible refine (impl_JoinOk.calls a0_0 _ _ l0_1 true _ ?side1 ?side2 A3.out).mono ?_);(case side1=>repeat (first|exact (Kd.C_below Am.out HB.out)|(with_reducible refine Kd.C_alloc ?_ _)|(with_reducible refine Kd.C_drewN ?_ _)|(with_reducible refine Kd.C_drew ?_)));(case side2=>exact An.out);rintro e C3 ⟨rfl,hb⟩;refine ⟨_,rfl,?_⟩;replace Aa:=mk_ (zq6 (by exact Aa.out) hb);replace Ab:=mk_ (zq6 (by exact Ab.out) hb);replace Ac:=mk_ (zq6 (by exact Ac.out) hb);replace HB:=mk_ (zr3 (yu1 HB.out) hb);(try clear hb);(try clear hb2);(try clear hk);(try clear hi);have Cr:=Af.out;have Cs:=Ai.out;obtain ⟨Br,Bs,Bt⟩:=cz3 Ab.out;obtain ⟨Bu,Bv,Bw⟩:=fz3 Ab.out)|(go_at_call 27;(with_reducible refine (impl_PartOk.calls a1_0 a1_1 _ _ l1_2 true _ ?side1 ?side2 A5.out).mono ?_);(case side1=>repeat (first|exact (Kd.C_below Ao.out HB.out)|(with_reducible refine Kd.C_alloc ?_ _)|(with_reducible refine Kd.C_drewN ?_ _)|(with_reducible refine Kd.C_drew ?_)));(case side2=>exact Ap.out);rintro e C4 ⟨rfl,hb⟩;replace Aa:=mk_ (zq6 (by exact Aa.out) hb);replace Ab:=mk_ (zq6 (by exact Ab.out) hb);replace Ac:=mk_ (zq6 (by exact Ac.out) hb);replace HB:=mk_ (zr3 (yu1 HB.out) hb);(try clear hb);(try clear hb2);(try clear hk);(try clear hi);obtain ⟨Bx,By⟩:=cz2 Aa.out;obtain ⟨Bz,B0⟩:=fz2 Aa.out;obtain ⟨B1,B2,B3⟩:=cz3 Ab.out;obtain ⟨B4,B5,B6⟩:=fz3 Ab.out)|((with_reducible refine gate_callee (f:=73) rfl ?_);refine goesL_ (some 18) rfl rfl Try.func73 (by kernel_rfl) rfl #[.agg #[.int .i64 a0_0,.slice A0_1 l0_1.length c0_1],.agg #[.int .i64 a1_0,.int .i64 a1_1,.slice A1_2 l1_2.length c1_2]] rfl am ?_;(with_reducible refine (impl_SegJoin_put.calls k a0_0 _ _ l0_1 a1_0 a1_1 _ _ l1_2 t120 t121 t124 t127 _ ?side1 ?side2 ?side3 ?side4 A7.out).mono ?_);(case side1=>repeat (first|exact (Kd.C_below Am.out HB.out)|(with_reducible refine Kd.C_alloc ?_ _)|(with_reducible refine Kd.C_drewN ?_ _)|(with_reducible refine Kd.C_drew ?_)));(case side2=>exact An.out);(case side3=>repeat (first|exact (Kd.C_below Ao.out HB.out)|(with_reducible refine Kd.C_alloc ?_ _)|(with_reducible refine Kd.C_drewN ?_ _)|(with_reducible refine Kd.C_drew ?_)));(case side4=>exact Ap.out);rintro e C5 ⟨v122,v125,rfl,ho0,ho1,hb⟩;refine ⟨_,rfl,?_⟩;have At:=mk_ (RR_lower ho0 (zr2 (yu1 HB.out)));have Au:=mk_ (RR_lower ho1 (zr2 (yu1 HB.out)));replace Aa:=mk_ (zq6 (by exact Aa.out) hb);replace Ab:=mk_ (zq6 (by exact Ab.out) hb);replace Ac:=mk_ (zq6 (by exact Ac.out) hb);replace HB:=mk_ (zr3 (yu1 HB.out) hb);(try clear hb);(try clear hb2);(try clear hk);(try clear hi);(try clear ho0);(try clear ho1);obtain ⟨B7,B8⟩:=cz2 Ac.out;obtain ⟨B9,Ca⟩:=fz2 Ac.out;obtain ⟨Ao22,co22,eo22⟩:=RR_slice At.out;subst eo22))
 refine bodyPost_ret (results_ctt rfl _ _ gb117 35 #[.int .i64 t120,.slice Ao22 t121.length co22] (0,0) _ rfl (yv0 Ac.out) Try.underlying35 rfl (by kernel_rfl)) rfl ?_
 exact ⟨_,_,by first|rfl|(simp [errW_none,errW_some] <;> rfl)|(simp [*,errW_none,errW_some] <;> rfl),by (with_reducible repeat (first|apply RR_alloc|apply RR_drewN|apply RR_drew));exact RR_mono (RR_far (p:=⟨gb117,1,none⟩) (RR_far (p:=⟨gb117,0,none⟩) (RR_types At.out Ac.out (by decide)) (fun _ hk=>hk.2) (.int .i64 t120)) (fun _ hk=>hk.2) (.slice Ao22 t121.length co22)) (fun _ hk=>hk.1),by (with_reducible repeat (first|apply RR_alloc|apply RR_drewN|apply RR_drew));exact RR_mono (RR_far (p:=⟨gb117,1,none⟩) (RR_far (p:=⟨gb117,0,none⟩) (RR_types Au.out Ac.out (by decide)) (fun _ hk=>hk.2) (.int .i64 t120)) (fun _ hk=>hk.2) (.slice Ao22 t121.length co22)) (fun _ hk=>hk.1),by exact yu1 HB.out⟩

end Go.Proofs.Yteknaofnageihaa.QFnExactSegPut
