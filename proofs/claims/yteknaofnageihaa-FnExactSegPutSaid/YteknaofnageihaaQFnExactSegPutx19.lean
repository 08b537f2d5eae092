-- Written by a program of this session, a turned copy of the print (not by print.sh itself). Lean checks it.
import Derived.Test.YteknaofnageihaaQFnExactSegPutx0
import Derived.Test.YteknaofnageihaaQFnExactSegPutx14
import Derived.Test.YteknaofnageihaaQFnExactSegPutx16
import Derived.Test.YteknaofnageihaaQFnExactSegPutx18
namespace Go.Proofs.Yteknaofnageihaa.QFnExactSegPut
open Go.RowKit Go.Proofs.YteknaofnageihaaW.PrintWords Go.Proofs.YteknaofnageihaaW.PrintLast Go.Proofs.YteknaofnageihaaW.PrintMore Go.Proofs.YteknaofnageihaaLoc
attribute [local go_sem] max2_int min2_int max_two min_two max_three min_three max_four min_four   -- for this text's walks alone
set_option linter.unusedVariables false
set_option linter.unusedSimpArgs false

/-! ### spec_SegPut: function 34 -/
def spec_SegPut.f (k : Nat) (a0_0 : Int) (l0_1 : List Int) (a1_0 : Int) (a1_1 : Int) (l1_2 : List Int) : Option (Int × List Int × List Int × Int) := (spec_JoinOk.f a0_0 l0_1).bind fun t207 => (if t207 = true then ((spec_PartOk.f k a1_0 a1_1 l1_2).bind fun t208 => (if t208 = true then ((spec_l4Put.f k a0_0 l0_1 a1_0 a1_1 l1_2).bind fun bt209 => (some (bt209.1, bt209.2.1, bt209.2.2.1, bt209.2.2.2))) else (some (0, ([] : List Int), (([] : List Int)), 0)))) else (some (0, ([] : List Int), (([] : List Int)), 0)))
theorem spec_SegPut.mono : ∀ a0 a1 a2 a3 a4 k, LeO (spec_SegPut.f k a0 a1 a2 a3 a4) (spec_SegPut.f (k + 1) a0 a1 a2 a3 a4) := by
 intro a0 a1 a2 a3 a4 k
 unfold spec_SegPut.f
 repeat' first
     | (with_reducible exact spec_PartOk.mono _ _ _ _)
     | (with_reducible exact spec_l4Put.mono _ _ _ _ _ _)
     | (with_reducible exact LeO.refl _)
     | (with_reducible exact LeO.none _)
     | (with_reducible refine LeO.ite ?_ ?_)
     | (with_reducible refine LeO.bind ?_ (fun _ => ?_))
     | exact spec_PartOk.mono _ _ _ _
     | exact spec_l4Put.mono _ _ _ _ _ _
     | exact LeO.none _
     | refine LeO.ite ?_ ?_
     | refine LeO.bind ?_ (fun _ => ?_)
set_option maxHeartbeats 60000000 in
set_option maxRecDepth 100000 in
theorem spec_SegPut.calls (k : Nat) (a0_0 : Int) (A0_1 : Option Addr) (c0_1 : Nat) (l0_1 : List Int) (a1_0 : Int) (a1_1 : Int) (A1_2 : Option Addr) (c1_2 : Nat) (l1_2 : List Int) (r1 : Int) (r2 : List Int) (r3 : List Int) (r4 : Int) (w : World) (hr0_1 : Kd.C (Kd.int .u8) w A0_1 l0_1.length l0_1) (hc0_1 : l0_1.length ≤ c0_1) (hr1_2 : Kd.C (Kd.int .u8) w A1_2 l1_2.length l1_2) (hc1_2 : l1_2.length ≤ c1_2) (h : spec_SegPut.f k a0_0 l0_1 a1_0 a1_1 l1_2 = some (r1, r2, r3, r4)) :
  Calls Try.prog 34 #[.agg #[.int .i64 a0_0,.slice A0_1 l0_1.length c0_1],.agg #[.int .i64 a1_0,.int .i64 a1_1,.slice A1_2 l1_2.length c1_2]] w fun e w'=>∃ v1_ v2_:Value,e=.returned (.tuple #[.agg #[.int .i64 r1,v1_],v2_,.int .i64 r4])∧Kd.R ku 5 w' w.heap.size (fun k_=>some k_≠(v2_:Value).ownBlock) v1_ r2∧Kd.R ku 5 w' w.heap.size (fun k_=>some k_≠(v1_:Value).ownBlock) v2_ r3∧Below w.heap.size w w':=by
 have hu35:=Try.underlying35
 have hu39:=Try.underlying39
 have Am:=mk_ hr0_1
 have An:=mk_ hc0_1
 clear hr0_1 hc0_1
 have Ao:=mk_ hr1_2
 have Ap:=mk_ hc1_2
 clear hr1_2 hc1_2
 have HB:=mk_ (Below.refl w.heap.size w)
 have H:((spec_JoinOk.f a0_0 l0_1).bind fun t207=>(if t207=true then ((spec_PartOk.f k a1_0 a1_1 l1_2).bind fun t208=>(if t208=true then ((spec_l4Put.f k a0_0 l0_1 a1_0 a1_1 l1_2).bind fun bt209=>(some (bt209.1,bt209.2.1,bt209.2.2.1,bt209.2.2.2))) else (some (0,([]:List Int),(([]:List Int)),0)))) else (some (0,([]:List Int),(([]:List Int)),0))))=some (r1,r2,r3,r4):=h
 clear h
 replace H:=Option.bind_eq_some_iff.mp H
 obtain ⟨t207,Ax,H⟩:=H
 try dsimp only at H
 have A3:=mk_ Ax
 clear Ax
 by_cases c4:t207=true
 rotate_left
 ·replace c4:=Bool.eq_false_iff.mpr c4
  subst c4
  have H1:(some (0,([]:List Int),(([]:List Int)),0))=some (r1,r2,r3,r4):=by rw [if_neg (show ¬ (false=true) by decide)] at H;exact H
  clear H
  have H:=H1
  clear H1
  obtain ⟨y220,hy220⟩:∃ y_:List Int,y_=(([]:List Int)):=⟨_,rfl⟩
  replace H:(some (0,([]:List Int),y220,0))=some (r1,r2,r3,r4):=by first|(rw [hy220];with_reducible exact H)|(have H2_:=(Option.bind_some _ _).symm.trans H;rw [hy220];with_reducible exact H2_)|(have H2_:=(Option.bind_some _ _).symm.trans H;with_reducible exact H2_)|with_reducible exact H|(rw [hy220];exact H)|exact H
  have Ny220:=mk_ hy220
  clear hy220
  simp only [Option.some.injEq,Prod.mk.injEq] at H
  obtain ⟨rfl,rfl,rfl,rfl⟩:=H
  go_enter Try.func34,Try.ntmps34
  go_wp2_with (first|((with_reducible refine gate_dst (N:=2) rfl ?_);refine box_event ?hg (N:=2) ?hd (cs:=#[.int .i64 a0_0,.slice A0_1 l0_1.length c0_1]) (t:=35) ?hr ?_;(case hd=>rfl);(case hg=>rfl);(case hr=>first|(go_simp;done)|(go_simp;rfl));intro gb204 hg Cv hbox hb;have Aa:=mk_ (hbox);have Aj:=mk_ ((by rw [hg];exact (zr2 (yu0 HB.out)):w.heap.size≤gb204));have Aq:=Aj;replace HB:=mk_ (zr3 (yu0 HB.out) hb);clear hb hbox hg)|((with_reducible refine gate_dst (N:=3) rfl ?_);refine box_event ?hg (N:=3) ?hd (cs:=#[.int .i64 a1_0,.int .i64 a1_1,.slice A1_2 l1_2.length c1_2]) (t:=39) ?hr ?_;(case hd=>rfl);(case hg=>rfl);(case hr=>first|(go_simp;done)|(go_simp;rfl));intro gb205 hg Cw hbox hb;have Ab:=mk_ (hbox);have Ak:=mk_ ((by rw [hg];exact (zr2 (yu1 HB.out)):w.heap.size≤gb205));have Ar:=Ak;replace HB:=mk_ (zr3 (yu1 HB.out) hb);have Ad:=mk_ ((by rw [hg];exact zm2 (zr6 (by exact Aa.out)):gb204≠gb205));replace Aa:=mk_ (zq6 (by exact Aa.out) hb);have Ag:=mk_ Ad.out.symm;clear hb hbox hg)|((with_reducible refine gate_dst (N:=4) rfl ?_);refine box_event ?hg (N:=4) ?hd (cs:=#[.int .i64 0,.slice none 0 0]) (t:=35) ?hr ?_;(case hd=>rfl);(case hg=>rfl);(case hr=>first|(go_simp;done)|(go_simp;rfl));intro gb206 hg Cx hbox hb;have Ac:=mk_ (hbox);have Al:=mk_ ((by rw [hg];exact (zr2 (yu1 HB.out)):w.heap.size≤gb206));have As:=Al;replace HB:=mk_ (zr3 (yu1 HB.out) hb);have Ae:=mk_ ((by rw [hg];exact zm2 (zr6 (by exact Aa.out)):gb204≠gb206));replace Aa:=mk_ (zq6 (by exact Aa.out) hb);have Ah:=mk_ Ae.out.symm;have Af:=mk_ ((by rw [hg];exact zm2 (zr6 (by exact Ab.out)):gb205≠gb206));replace Ab:=mk_ (zq6 (by exact Ab.out) hb);have Ai:=mk_ Af.out.symm;clear hb hbox hg;have Cd:=Ad.out;have Ce:=Ag.out;have Cf:=Ae.out;have Cg:=Ah.out;obtain ⟨A0,A1⟩:=cz2 Aa.out;obtain ⟨A2,A4⟩:=fz2 Aa.out)|((with_reducible refine gate_callee (f:=44) rfl ?_);refine goesL_ (some 8) rfl rfl Try.func44 (by kernel_rfl) rfl #[.agg #[.int .i64 a0_0,.slice A0_1 l0_1.length c0_1]] rfl am ?_;(with_reducible refine (spec_JoinOk.calls a0_0 _ _ l0_1 false _ ?side1 ?side2 A3.out).mono ?_);(case side1=>repeat (first|exact (Kd.C_below Am.out HB.out)|(with_reducible refine Kd.C_alloc ?_ _)|(with_reducible refine Kd.C_drewN ?_ _)|(with_reducible refine Kd.C_drew ?_)));(case side2=>exact An.out);rintro e Cy ⟨rfl,hb⟩;refine ⟨_,rfl,?_⟩;replace Aa:=mk_ (zq6 (by exact Aa.out) hb);replace Ab:=mk_ (zq6 (by exact Ab.out) hb);replace Ac:=mk_ (zq6 (by exact Ac.out) hb);replace HB:=mk_ (zr3 (yu1 HB.out) hb);(try clear hb);(try clear hb2);(try clear hk);(try clear hi))|((with_reducible refine gate_dst (N:=16) rfl ?_);refine Kd.R_lit ku _ 5 ?hg (N:=16) ?hd (xs:=([]:List Int)) (inner:=[]) (ok:=fun _=>True) (okp:=fun _=>True) ?hr ?hp (fun _ hk=>hk) trivial (Below.refl _ _) (Nat.le_refl _) (by simp) ?_;(case hd=>rfl);(case hg=>rfl);(case hr=>first|(go_simp;done)|(go_simp;rfl));(case hp=>exact (Reps.none _ _));intro v221 Cz ho44 hb hg_ hnew_;clear hg_ hnew_;(first|rw [← Ny220.out] at ho44|(simp only [Int.reduceToNat] at ho44;rw [← Ny220.out] at ho44));have Au:=mk_ (Kd.R_lower ho44 (zr2 (yu1 HB.out)));replace Aa:=mk_ (zq6 (by exact Aa.out) hb);replace Ab:=mk_ (zq6 (by exact Ab.out) hb);replace Ac:=mk_ (zq6 (by exact Ac.out) hb);replace HB:=mk_ (zr3 (yu1 HB.out) hb);clear hb ho44;have Ch:=Ai.out;have Ci:=Af.out;obtain ⟨A6,A8⟩:=cz2 Ac.out;obtain ⟨A9,Ba⟩:=fz2 Ac.out))
  refine bodyPost_ret (results_ctt rfl _ _ gb206 35 #[.int .i64 0,.slice none 0 0] (0,0) _ rfl (yv0 Ac.out) Try.underlying35 rfl (by kernel_rfl)) rfl ?_
  exact ⟨_,_,by first|rfl|(simp [errW_none,errW_some] <;> rfl)|(simp [*,errW_none,errW_some] <;> rfl),by first|exact Kd.R_nil _ _ _ _ _|exact Kd.N_nil _ _ _ _ _|exact Kd.V_nil _ _ _ _ _|exact Kd.Q_nil _ _ _ _ _|exact Kd.S_nil _ _ _ _ _,by (with_reducible repeat (first|apply Kd.R_alloc|apply Kd.R_drewN|apply Kd.R_drew));exact Kd.R_mono (Kd.R_far (p:=⟨gb206,1,none⟩) (Kd.R_far (p:=⟨gb206,0,none⟩) (Kd.R_types Au.out Ac.out (by decide)) (fun _ hk=>hk.2) (.int .i64 0)) (fun _ hk=>hk.2) (.slice none 0 0)) (fun _ hk=>(by simp [Value.ownBlock])),by exact yu1 HB.out⟩
 subst c4
 have H1:((spec_PartOk.f k a1_0 a1_1 l1_2).bind fun t208=>(if t208=true then ((spec_l4Put.f k a0_0 l0_1 a1_0 a1_1 l1_2).bind fun bt209=>(some (bt209.1,bt209.2.1,bt209.2.2.1,bt209.2.2.2))) else (some (0,([]:List Int),(([]:List Int)),0))))=some (r1,r2,r3,r4):=by rw [if_pos rfl] at H;exact H
 clear H
 have H:=H1
 clear H1
 replace H:=Option.bind_eq_some_iff.mp H
 obtain ⟨t208,Ay,H⟩:=H
 try dsimp only at H
 have A5:=mk_ Ay
 clear Ay
 by_cases c6:t208=true
 rotate_left
 ·replace c6:=Bool.eq_false_iff.mpr c6
  subst c6
  have H1:(some (0,([]:List Int),(([]:List Int)),0))=some (r1,r2,r3,r4):=by rw [if_neg (show ¬ (false=true) by decide)] at H;exact H
  clear H
  have H:=H1
  clear H1
  obtain ⟨y217,hy217⟩:∃ y_:List Int,y_=(([]:List Int)):=⟨_,rfl⟩
  replace H:(some (0,([]:List Int),y217,0))=some (r1,r2,r3,r4):=by first|(rw [hy217];with_reducible exact H)|(have H2_:=(Option.bind_some _ _).symm.trans H;rw [hy217];with_reducible exact H2_)|(have H2_:=(Option.bind_some _ _).symm.trans H;with_reducible exact H2_)|with_reducible exact H|(rw [hy217];exact H)|exact H
  have Ny217:=mk_ hy217
  clear hy217
  simp only [Option.some.injEq,Prod.mk.injEq] at H
  obtain ⟨rfl,rfl,rfl,rfl⟩:=H
  go_enter Try.func34,Try.ntmps34
  go_wp2_with (first|((with_reducible refine gate_dst (N:=2) rfl ?_);refine box_event ?hg (N:=2) ?hd (cs:=#[.int .i64 a0_0,.slice A0_1 l0_1.length c0_1]) (t:=35) ?hr ?_;(case hd=>rfl);(case hg=>rfl);(case hr=>first|(go_simp;done)|(go_simp;rfl));intro gb204 hg C0 hbox hb;have Aa:=mk_ (hbox);have Aj:=mk_ ((by rw [hg];exact (zr2 (yu0 HB.out)):w.heap.size≤gb204));have Aq:=Aj;replace HB:=mk_ (zr3 (yu0 HB.out) hb);clear hb hbox hg)|((with_reducible refine gate_dst (N:=3) rfl ?_);refine box_event ?hg (N:=3) ?hd (cs:=#[.int .i64 a1_0,.int .i64 a1_1,.slice A1_2 l1_2.length c1_2]) (t:=39) ?hr ?_;(case hd=>rfl);(case hg=>rfl);(case hr=>first|(go_simp;done)|(go_simp;rfl));intro gb205 hg C1 hbox hb;have Ab:=mk_ (hbox);have Ak:=mk_ ((by rw [hg];exact (zr2 (yu1 HB.out)):w.heap.size≤gb205));have Ar:=Ak;replace HB:=mk_ (zr3 (yu1 HB.out) hb);have Ad:=mk_ ((by rw [hg];exact zm2 (zr6 (by exact Aa.out)):gb204≠gb205));replace Aa:=mk_ (zq6 (by exact Aa.out) hb);have Ag:=mk_ Ad.out.symm;clear hb hbox hg)|((with_reducible refine gate_dst (N:=4) rfl ?_);refine box_event ?hg (N:=4) ?hd (cs:=#[.int .i64 0,.slice none 0 0]) (t:=35) ?hr ?_;(case hd=>rfl);(case hg=>rfl);(case hr=>first|(go_simp;done)|(go_simp;rfl));intro gb206 hg C2 hbox hb;have Ac:=mk_ (hbox);have Al:=mk_ ((by rw [hg];exact (zr2 (yu1 HB.out)):w.heap.size≤gb206));have As:=Al;replace HB:=mk_ (zr3 (yu1 HB.out) hb);have Ae:=mk_ ((by rw [hg];exact zm2 (zr6 (by exact Aa.out)):gb204≠gb206));replace Aa:=mk_ (zq6 (by exact Aa.out) hb);have Ah:=mk_ Ae.out.symm;have Af:=mk_ ((by rw [hg];exact zm2 (zr6 (by exact Ab.out)):gb205≠gb206));replace Ab:=mk_ (zq6 (by exact Ab.out) hb);have Ai:=mk_ Af.out.symm;clear hb hbox hg;have Cj:=Ad.out;have Ck:=Ag.out;have Cl:=Ae.out;have Cm:=Ah.out;obtain ⟨Bb,Bc⟩:=cz2 Aa.out;obtain ⟨Bd,Be⟩:=fz2 Aa.out)|((with_reducible refine gate_callee (f:=44) rfl ?_);refine goesL_ (some 8) rfl rfl Try.func44 (by kernel_rfl) rfl #[.agg #[.int .i64 a0_0,.slice A0_1 l0_1.length c0_1]] rfl am ?_;(with_reducible refine (spec_JoinOk.calls a0_0 _ _ l0_1 true _ ?side1 ?side2 A3.out).mono ?_);(case side1=>repeat (first|exact (Kd.C_below Am.out HB.out)|(with_reducible refine Kd.C_alloc ?_ _)|(with_reducible refine Kd.C_drewN ?_ _)|(with_reducible refine Kd.C_drew ?_)));(case side2=>exact An.out);rintro e C3 ⟨rfl,hb⟩;refine ⟨_,rfl,?_⟩;replace Aa:=mk_ (zq6 (by exact Aa.out) hb);replace Ab:=mk_ (zq6 (by exact Ab.out) hb);replace Ac:=mk_ (zq6 (by exact Ac.out) hb);replace HB:=mk_ (zr3 (yu1 HB.out) hb);(try clear hb);(try clear hb2);(try clear hk);(try clear hi);have Cn:=Af.out;have Co:=Ai.out;obtain ⟨Bf,Bg,Bh⟩:=cz3 Ab.out;obtain ⟨Bi,Bj,Bk⟩:=fz3 Ab.out)|(go_at_call 45;(with_reducible refine (spec_PartOk.calls k a1_0 a1_1 _ _ l1_2 false _ ?side1 ?side2 A5.out).mono ?_);(case side1=>repeat (first|exact (Kd.C_below Ao.out HB.out)|(with_reducible refine Kd.C_alloc ?_ _)|(with_reducible refine Kd.C_drewN ?_ _)|(with_reducible refine Kd.C_drew ?_)));(case side2=>exact Ap.out);rintro e C4 ⟨rfl,hb⟩;replace Aa:=mk_ (zq6 (by exact Aa.out) hb);replace Ab:=mk_ (zq6 (by exact Ab.out) hb);replace Ac:=mk_ (zq6 (by exact Ac.out) hb);replace HB:=mk_ (zr3 (yu1 HB.out) hb);(try clear hb);(try clear hb2);(try clear hk);(try clear hi))|((with_reducible refine gate_dst (N:=16) rfl ?_);refine Kd.R_lit ku _ 5 ?hg (N:=16) ?hd (xs:=([]:List Int)) (inner:=[]) (ok:=fun _=>True) (okp:=fun _=>True) ?hr ?hp (fun _ hk=>hk) trivial (Below.refl _ _) (Nat.le_refl _) (by simp) ?_;(case hd=>rfl);(case hg=>rfl);(case hr=>first|(go_simp;done)|(go_simp;rfl));(case hp=>exact (Reps.none _ _));intro v218 C5 ho34 hb hg_ hnew_;clear hg_ hnew_;(first|rw [← Ny217.out] at ho34|(simp only [Int.reduceToNat] at ho34;rw [← Ny217.out] at ho34));have Av:=mk_ (Kd.R_lower ho34 (zr2 (yu1 HB.out)));replace Aa:=mk_ (zq6 (by exact Aa.out) hb);replace Ab:=mk_ (zq6 (by exact Ab.out) hb);replace Ac:=mk_ (zq6 (by exact Ac.out) hb);replace HB:=mk_ (zr3 (yu1 HB.out) hb);clear hb ho34;obtain ⟨Bl,Bm⟩:=cz2 Ac.out;obtain ⟨Bn,Bo⟩:=fz2 Ac.out))
  refine bodyPost_ret (results_ctt rfl _ _ gb206 35 #[.int .i64 0,.slice none 0 0] (0,0) _ rfl (yv0 Ac.out) Try.underlying35 rfl (by kernel_rfl)) rfl ?_
  exact ⟨_,_,by first|rfl|(simp [errW_none,errW_some] <;> rfl)|(simp [*,errW_none,errW_some] <;> rfl),by first|exact Kd.R_nil _ _ _ _ _|exact Kd.N_nil _ _ _ _ _|exact Kd.V_nil _ _ _ _ _|exact Kd.Q_nil _ _ _ _ _|exact Kd.S_nil _ _ _ _ _,by (with_reducible repeat (first|apply Kd.R_alloc|apply Kd.R_drewN|apply Kd.R_drew));exact Kd.R_mono (Kd.R_far (p:=⟨gb206,1,none⟩) (Kd.R_far (p:=⟨gb206,0,none⟩) (Kd.R_types Av.out Ac.out (by decide)) (fun _ hk=>hk.2) (.int .i64 0)) (fun _ hk=>hk.2) (.slice none 0 0)) (fun _ hk=>(by simp [Value.ownBlock])),by exact yu1 HB.out⟩
 subst c6
 have H1:((spec_l4Put.f k a0_0 l0_1 a1_0 a1_1 l1_2).bind fun bt209=>(some (bt209.1,bt209.2.1,bt209.2.2.1,bt209.2.2.2)))=some (r1,r2,r3,r4):=by rw [if_pos rfl] at H;exact H
 clear H
 have H:=H1
 clear H1
 replace H:=Option.bind_eq_some_iff.mp H
 obtain ⟨⟨t209,t210,t213,t216⟩,Az,H⟩:=H
 try dsimp only at H
 have A7:=mk_ Az
 clear Az
 simp only [Option.some.injEq,Prod.mk.injEq] at H
 obtain ⟨rfl,rfl,rfl,rfl⟩:=H
 go_enter Try.func34,Try.ntmps34
 go_wp2_with (first|((with_reducible refine gate_dst (N:=2) rfl ?_);refine box_event ?hg (N:=2) ?hd (cs:=#[.int .i64 a0_0,.slice A0_1 l0_1.length c0_1]) (t:=35) ?hr ?_;(case hd=>rfl);(case hg=>rfl);(case hr=>first|(go_simp;done)|(go_simp;rfl));intro gb204 hg w8 hbox hb;have Aa:=mk_ (hbox);have Aj:=mk_ ((by rw [hg];exact (zr2 (yu0 HB.out)):w.heap.size≤gb204));have Aq:=Aj;replace HB:=mk_ (zr3 (yu0 HB.out) hb);clear hb hbox hg)|((with_reducible refine gate_dst (N:=3) rfl ?_);refine box_event ?hg (N:=3) ?hd (cs:=#[.int .i64 a1_0,.int .i64 a1_1,.slice A1_2 l1_2.length c1_2]) (t:=39) ?hr ?_;(case hd=>rfl);(case hg=>rfl);(case hr=>first|(go_simp;done)|(go_simp;rfl));intro gb205 hg w9 hbox hb;have Ab:=mk_ (hbox);have Ak:=mk_ ((by rw [hg];exact (zr2 (yu1 HB.out)):w.heap.size≤gb205));have Ar:=Ak;replace HB:=mk_ (zr3 (yu1 HB.out) hb);have Ad:=mk_ ((by rw [hg];exact zm2 (zr6 (by exact Aa.out)):gb204≠gb205));replace Aa:=mk_ (zq6 (by exact Aa.out) hb);have Ag:=mk_ Ad.out.symm;clear hb hbox hg)|((with_reducible refine gate_dst (N:=4) rfl ?_);refine box_event ?hg (N:=4) ?hd (cs:=#[.int .i64 0,.slice none 0 0]) (t:=35) ?hr ?_;(case hd=>rfl);(case hg=>rfl);(case hr=>first|(go_simp;done)|(go_simp;rfl));intro gb206 hg C6 hbox hb;have Ac:=mk_ (hbox);have Al:=mk_ ((by rw [hg];exact (zr2 (yu1 HB.out)):w.heap.size≤gb206));have As:=Al;replace HB:=mk_ (zr3 (yu1 HB.out) hb);have Ae:=mk_ ((by rw [hg];exact zm2 (zr6 (by exact Aa.out)):gb204≠gb206));replace Aa:=mk_ (zq6 (by exact Aa.out) hb);have Ah:=mk_ Ae.out.symm;have Af:=mk_ ((by rw [hg];exact zm2 (zr6 (by exact Ab.out)):gb205≠gb206));replace Ab:=mk_ (zq6 (by exact Ab.out) hb);have Ai:=mk_ Af.out.symm;clear hb hbox hg;have Cp:=Ad.out;have Cq:=Ag.out;have Cr:=Ae.out;have Cs:=Ah.out;obtain ⟨Bp,Bq⟩:=cz2 Aa.out;obtain ⟨Br,Bs⟩:=fz2 Aa.out)|((with_reducible refine gate_callee (f:=44) rfl ?_);refine goesL_ (some 8) rfl rfl Try.func44 (by kernel_rfl) rfl #[.agg #[.int .i64 a0_0,.slice A0_1 l0_1.length c0_1]] rfl am ?_;(with_reducible refine (spec_JoinOk.calls a0_0 _ _ l0_1 true _ ?side1 ?side2 A3.out).mono ?_);(case side1=>repeat (first|exact (Kd.C_below Am.out HB.out)|(with_reducible refine Kd.C_alloc ?_ _)|(with_reducible refine Kd.C_drewN ?_ _)|(with_reducible refine Kd.C_drew ?_)));(case side2=>exact An.out);rintro e C7 ⟨rfl,hb⟩;refine ⟨_,rfl,?_⟩;replace Aa:=mk_ (zq6 (by exact Aa.out) hb);replace Ab:=mk_ (zq6 (by exact Ab.out) hb);replace Ac:=mk_ (zq6 (by exact Ac.out) hb);replace HB:=mk_ (zr3 (yu1 HB.out) hb);(try clear hb);(try clear hb2);(try clear hk);(try clear hi);have Ct:=Af.out;have Cu:=Ai.out;obtain ⟨Bt,Bu,Bv⟩:=cz3 Ab.out;obtain ⟨Bw,Bx,By⟩:=fz3 Ab.out)|(go_at_call 45;(with_reducible refine (spec_PartOk.calls k a1_0 a1_1 _ _ l1_2 true _ ?side1 ?side2 A5.out).mono ?_);(case side1=>repeat (first|exact (Kd.C_below Ao.out HB.out)|(with_reducible refine Kd.C_alloc ?_ _)|(with_reducible refine Kd.C_drewN ?_ _)|(with_reducible refine Kd.C_drew ?_)));(case side2=>exact Ap.out);rintro e C8 ⟨rfl,hb⟩;replace Aa:=mk_ (zq6 (by exact Aa.out) hb);replace Ab:=mk_ (zq6 (by exact Ab.out) hb);replace Ac:=mk_ (zq6 (by exact Ac.out) hb);replace HB:=mk_ (zr3 (yu1 HB.out) hb);(try clear hb);(try clear hb2);(try clear hk);(try clear hi);obtain ⟨Bz,B0⟩:=cz2 Aa.out;obtain ⟨B1,B2⟩:=fz2 Aa.out;obtain ⟨B3,B4,B5⟩:=cz3 Ab.out;obtain ⟨B6,B7,B8⟩:=fz3 Ab.out)|((with_reducible refine gate_callee (f:=76) rfl ?_);refine goesL_ (some 19) rfl rfl Try.func76 (by kernel_rfl) rfl #[.agg #[.int .i64 a0_0,.slice A0_1 l0_1.length c0_1],.agg #[.int .i64 a1_0,.int .i64 a1_1,.slice A1_2 l1_2.length c1_2]] rfl am ?_;(with_reducible refine (spec_l4Put.calls k a0_0 _ _ l0_1 a1_0 a1_1 _ _ l1_2 t209 t210 t213 t216 _ ?side1 ?side2 ?side3 ?side4 A7.out).mono ?_);(case side1=>repeat (first|exact (Kd.C_below Am.out HB.out)|(with_reducible refine Kd.C_alloc ?_ _)|(with_reducible refine Kd.C_drewN ?_ _)|(with_reducible refine Kd.C_drew ?_)));(case side2=>exact An.out);(case side3=>repeat (first|exact (Kd.C_below Ao.out HB.out)|(with_reducible refine Kd.C_alloc ?_ _)|(with_reducible refine Kd.C_drewN ?_ _)|(with_reducible refine Kd.C_drew ?_)));(case side4=>exact Ap.out);rintro e C9 ⟨v211,v214,rfl,ho0,ho1,hb⟩;refine ⟨_,rfl,?_⟩;have At:=mk_ (Kd.R_lower ho0 (zr2 (yu1 HB.out)));have Aw:=mk_ (Kd.R_lower ho1 (zr2 (yu1 HB.out)));replace Aa:=mk_ (zq6 (by exact Aa.out) hb);replace Ab:=mk_ (zq6 (by exact Ab.out) hb);replace Ac:=mk_ (zq6 (by exact Ac.out) hb);replace HB:=mk_ (zr3 (yu1 HB.out) hb);(try clear hb);(try clear hb2);(try clear hk);(try clear hi);(try clear ho0);(try clear ho1);obtain ⟨B9,Ca⟩:=cz2 Ac.out;obtain ⟨Cb,Cc⟩:=fz2 Ac.out;obtain ⟨Ao22,co22,eo22⟩:=Kd.R_slice At.out;subst eo22))
 refine bodyPost_ret (results_ctt rfl _ _ gb206 35 #[.int .i64 t209,.slice Ao22 t210.length co22] (0,0) _ rfl (yv0 Ac.out) Try.underlying35 rfl (by kernel_rfl)) rfl ?_
 exact ⟨_,_,by first|rfl|(simp [errW_none,errW_some] <;> rfl)|(simp [*,errW_none,errW_some] <;> rfl),by (with_reducible repeat (first|apply Kd.R_alloc|apply Kd.R_drewN|apply Kd.R_drew));exact Kd.R_mono (Kd.R_far (p:=⟨gb206,1,none⟩) (Kd.R_far (p:=⟨gb206,0,none⟩) (Kd.R_types At.out Ac.out (by decide)) (fun _ hk=>hk.2) (.int .i64 t209)) (fun _ hk=>hk.2) (.slice Ao22 t210.length co22)) (fun _ hk=>hk.1),by (with_reducible repeat (first|apply Kd.R_alloc|apply Kd.R_drewN|apply Kd.R_drew));exact Kd.R_mono (Kd.R_far (p:=⟨gb206,1,none⟩) (Kd.R_far (p:=⟨gb206,0,none⟩) (Kd.R_types Aw.out Ac.out (by decide)) (fun _ hk=>hk.2) (.int .i64 t209)) (fun _ hk=>hk.2) (.slice Ao22 t210.length co22)) (fun _ hk=>hk.1),by exact yu1 HB.out⟩

end Go.Proofs.Yteknaofnageihaa.QFnExactSegPut
