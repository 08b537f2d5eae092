-- Written by a program of this session, a turned copy of the print (not by print.sh itself). Lean checks it.
import Derived.Test.YteknaofnageihaaQFnCrdTxOkx0
import Derived.Test.YteknaofnageihaaQFnCrdTxOkx4
import Derived.Test.YteknaofnageihaaQFnCrdTxOkx5
import Derived.Test.YteknaofnageihaaQFnCrdTxOkx8
namespace Go.Proofs.Yteknaofnageihaa.QFnCrdTxOk
open Go.RowKit Go.Proofs.YteknaofnageihaaW.PrintWords Go.Proofs.YteknaofnageihaaW.PrintLast Go.Proofs.YteknaofnageihaaW.PrintMore Go.Proofs.YteknaofnageihaaLoc
attribute [local go_sem] max2_int min2_int max_two min_two max_three min_three max_four min_four   -- for this text's walks alone
set_option linter.unusedVariables false
set_option linter.unusedSimpArgs false

/-! ### spec_CrdTxOk: function 54 -/
def spec_CrdTxOk.f (k : Nat) (a0_0 : Int) (a0_1 : Int) (a0_2 : Int) (a0_3 : Int) (a0_4 : Int) (a1_0 : Int) (l1_1 : List (S39)) (a1_2 : Int) (a1_3 : Int) (a1_4 : Bool) : Option (Bool) := (spec_CfgOk.f a0_0 a0_1 a0_2 a0_3 a0_4).bind fun t124 => (if t124 = true then ((spec_l1In.f a1_0 0 255).bind fun t125 => (if t125 = true then (if (l1_1.length : Int) ≤ 24 then ((spec_l1In.f a1_2 0 9999).bind fun t126 => (if t126 = true then ((spec_l1In.f a1_3 0 9999).bind fun t127 => (if t127 = true then (if (wrap64 (a1_2 - a1_3)) = a1_0 then ((spec_l6Parts.f k l1_1 a0_2).bind fun t128 => (some t128)) else (some false)) else (some false))) else (some false))) else (some false)) else (some false))) else (some false))
theorem spec_CrdTxOk.mono : ∀ a0 a1 a2 a3 a4 a5 a6 a7 a8 a9 k, LeO (spec_CrdTxOk.f k a0 a1 a2 a3 a4 a5 a6 a7 a8 a9) (spec_CrdTxOk.f (k + 1) a0 a1 a2 a3 a4 a5 a6 a7 a8 a9) := by
 intro a0 a1 a2 a3 a4 a5 a6 a7 a8 a9 k
 unfold spec_CrdTxOk.f
 repeat' first
     | (with_reducible exact spec_l6Parts.mono _ _ _)
     | (with_reducible exact LeO.refl _)
     | (with_reducible exact LeO.none _)
     | (with_reducible refine LeO.ite ?_ ?_)
     | (with_reducible refine LeO.bind ?_ (fun _ => ?_))
     | exact spec_l6Parts.mono _ _ _
     | exact LeO.none _
     | refine LeO.ite ?_ ?_
     | refine LeO.bind ?_ (fun _ => ?_)
set_option maxHeartbeats 60000000 in
set_option maxRecDepth 100000 in
theorem spec_CrdTxOk.calls (k : Nat) (a0_0 : Int) (a0_1 : Int) (a0_2 : Int) (a0_3 : Int) (a0_4 : Int) (a1_0 : Int) (A1_1 : Option Addr) (c1_1 : Nat) (l1_1 : List (S39)) (a1_2 : Int) (a1_3 : Int) (a1_4 : Bool) (r : Bool) (w : World) (hr1_1 : Kd.C k39 w A1_1 l1_1.length l1_1) (hc1_1 : l1_1.length ≤ c1_1) (h : spec_CrdTxOk.f k a0_0 a0_1 a0_2 a0_3 a0_4 a1_0 l1_1 a1_2 a1_3 a1_4 = some r) :
  Calls Try.prog 54 #[.agg #[.int .i64 a0_0,.int .i64 a0_1,.int .i64 a0_2,.int .i64 a0_3,.int .i64 a0_4],.agg #[.int .i64 a1_0,.slice A1_1 l1_1.length c1_1,.int .i64 a1_2,.int .i64 a1_3,.bool a1_4]] w fun e w'=>e=.returned (.bool r)∧Below w.heap.size w w':=by
 have hu66:=Try.underlying66
 have hu78:=Try.underlying78
 have Al:=mk_ hr1_1
 have Am:=mk_ hc1_1
 clear hr1_1 hc1_1
 have HB:=mk_ (Below.refl w.heap.size w)
 have H:((spec_CfgOk.f a0_0 a0_1 a0_2 a0_3 a0_4).bind fun t124=>(if t124=true then ((spec_l1In.f a1_0 0 255).bind fun t125=>(if t125=true then (if (l1_1.length:Int)≤24 then ((spec_l1In.f a1_2 0 9999).bind fun t126=>(if t126=true then ((spec_l1In.f a1_3 0 9999).bind fun t127=>(if t127=true then (if (wrap64 (a1_2 - a1_3))=a1_0 then ((spec_l6Parts.f k l1_1 a0_2).bind fun t128=>(some t128)) else (some false)) else (some false))) else (some false))) else (some false)) else (some false))) else (some false)))=some r:=h
 clear h
 replace H:=Option.bind_eq_some_iff.mp H
 obtain ⟨t124,An,H⟩:=H
 try dsimp only at H
 have A3:=mk_ An
 clear An
 by_cases c4:t124=true
 rotate_left
 ·replace c4:=Bool.eq_false_iff.mpr c4
  subst c4
  have H1:(some false)=some r:=by rw [if_neg (show ¬ (false=true) by decide)] at H;exact H
  clear H
  have H:=H1
  clear H1
  obtain rfl:=Option.some.inj H
  go_enter Try.func54,Try.ntmps54
  go_wp2_with (first|((with_reducible refine gate_dst (N:=2) rfl ?_);(try (refine gate_guard (by rfl) ?_;dsimp only));refine box_event ?hg (N:=2) ?hd (cs:=#[.int .i64 a0_0,.int .i64 a0_1,.int .i64 a0_2,.int .i64 a0_3,.int .i64 a0_4]) (t:=66) ?hr ?_;(case hd=>rfl);(case hg=>rfl);(case hr=>first|(go_simp;done)|(go_simp;rfl));intro gb122 hg E4 hbox hb;have Aa:=mk_ (hbox);have Ae:=mk_ ((by rw [hg];exact (zr2 (yu0 HB.out)):w.heap.size≤gb122));have Ag:=Ae;replace HB:=mk_ (zr3 (yu0 HB.out) hb);clear hb hbox hg)|((with_reducible refine gate_dst (N:=3) rfl ?_);(try (refine gate_guard (by rfl) ?_;dsimp only));refine box_event ?hg (N:=3) ?hd (cs:=#[.int .i64 a1_0,.slice A1_1 l1_1.length c1_1,.int .i64 a1_2,.int .i64 a1_3,.bool a1_4]) (t:=78) ?hr ?_;(case hd=>rfl);(case hg=>rfl);(case hr=>first|(go_simp;done)|(go_simp;rfl));intro gb123 hg E5 hbox hb;have Ac:=mk_ (hbox);have Af:=mk_ ((by rw [hg];exact (zr2 (yu1 HB.out)):w.heap.size≤gb123));have Ah:=Af;replace HB:=mk_ (zr3 (yu1 HB.out) hb);have Ab:=mk_ ((by rw [hg];exact zm2 (zr6 (by exact Aa.out)):gb122≠gb123));replace Aa:=mk_ (zq6 (by exact Aa.out) hb);have Ad:=mk_ Ab.out.symm;clear hb hbox hg;have Eq:=Ab.out;have Er:=Ad.out;obtain ⟨Aq,Ar,As,At,Au⟩:=cz5 Aa.out;obtain ⟨Av,Aw,Ax,Ay,Az⟩:=fz5 Aa.out)|((with_reducible refine gate_callee (f:=81) rfl ?_);refine goesL_ (some 6) rfl rfl Try.func81 (by kernel_rfl) rfl #[.agg #[.int .i64 a0_0,.int .i64 a0_1,.int .i64 a0_2,.int .i64 a0_3,.int .i64 a0_4]] rfl am ?_;(with_reducible refine (spec_CfgOk.calls a0_0 a0_1 a0_2 a0_3 a0_4 false _ A3.out).mono ?_);rintro e E6 ⟨rfl,hb⟩;refine ⟨_,rfl,?_⟩;replace Aa:=mk_ (zq6 (by exact Aa.out) hb);replace Ac:=mk_ (zq6 (by exact Ac.out) hb);replace HB:=mk_ (zr3 (yu1 HB.out) hb);(try clear hb);(try clear hb2);(try clear hk);(try clear hi)))
  go_ret
  exact ⟨by first|rfl|(simp [errW_none,errW_some] <;> rfl)|(simp [*,errW_none,errW_some] <;> rfl),by exact yu1 HB.out⟩
 subst c4
 have H1:((spec_l1In.f a1_0 0 255).bind fun t125=>(if t125=true then (if (l1_1.length:Int)≤24 then ((spec_l1In.f a1_2 0 9999).bind fun t126=>(if t126=true then ((spec_l1In.f a1_3 0 9999).bind fun t127=>(if t127=true then (if (wrap64 (a1_2 - a1_3))=a1_0 then ((spec_l6Parts.f k l1_1 a0_2).bind fun t128=>(some t128)) else (some false)) else (some false))) else (some false))) else (some false)) else (some false)))=some r:=by rw [if_pos rfl] at H;exact H
 clear H
 have H:=H1
 clear H1
 replace H:=Option.bind_eq_some_iff.mp H
 obtain ⟨t125,Ao,H⟩:=H
 try dsimp only at H
 have A5:=mk_ Ao
 clear Ao
 by_cases c6:t125=true
 rotate_left
 ·replace c6:=Bool.eq_false_iff.mpr c6
  subst c6
  have H1:(some false)=some r:=by rw [if_neg (show ¬ (false=true) by decide)] at H;exact H
  clear H
  have H:=H1
  clear H1
  obtain rfl:=Option.some.inj H
  go_enter Try.func54,Try.ntmps54
  go_wp2_with (first|((with_reducible refine gate_dst (N:=2) rfl ?_);(try (refine gate_guard (by rfl) ?_;dsimp only));refine box_event ?hg (N:=2) ?hd (cs:=#[.int .i64 a0_0,.int .i64 a0_1,.int .i64 a0_2,.int .i64 a0_3,.int .i64 a0_4]) (t:=66) ?hr ?_;(case hd=>rfl);(case hg=>rfl);(case hr=>first|(go_simp;done)|(go_simp;rfl));intro gb122 hg E7 hbox hb;have Aa:=mk_ (hbox);have Ae:=mk_ ((by rw [hg];exact (zr2 (yu0 HB.out)):w.heap.size≤gb122));have Ag:=Ae;replace HB:=mk_ (zr3 (yu0 HB.out) hb);clear hb hbox hg)|((with_reducible refine gate_dst (N:=3) rfl ?_);(try (refine gate_guard (by rfl) ?_;dsimp only));refine box_event ?hg (N:=3) ?hd (cs:=#[.int .i64 a1_0,.slice A1_1 l1_1.length c1_1,.int .i64 a1_2,.int .i64 a1_3,.bool a1_4]) (t:=78) ?hr ?_;(case hd=>rfl);(case hg=>rfl);(case hr=>first|(go_simp;done)|(go_simp;rfl));intro gb123 hg E8 hbox hb;have Ac:=mk_ (hbox);have Af:=mk_ ((by rw [hg];exact (zr2 (yu1 HB.out)):w.heap.size≤gb123));have Ah:=Af;replace HB:=mk_ (zr3 (yu1 HB.out) hb);have Ab:=mk_ ((by rw [hg];exact zm2 (zr6 (by exact Aa.out)):gb122≠gb123));replace Aa:=mk_ (zq6 (by exact Aa.out) hb);have Ad:=mk_ Ab.out.symm;clear hb hbox hg;have Es:=Ab.out;have Et:=Ad.out;obtain ⟨A0,A1,A2,A4,A6⟩:=cz5 Aa.out;obtain ⟨A7,A9,Ba,Bb,Bc⟩:=fz5 Aa.out)|((with_reducible refine gate_callee (f:=81) rfl ?_);refine goesL_ (some 6) rfl rfl Try.func81 (by kernel_rfl) rfl #[.agg #[.int .i64 a0_0,.int .i64 a0_1,.int .i64 a0_2,.int .i64 a0_3,.int .i64 a0_4]] rfl am ?_;(with_reducible refine (spec_CfgOk.calls a0_0 a0_1 a0_2 a0_3 a0_4 true _ A3.out).mono ?_);rintro e E9 ⟨rfl,hb⟩;refine ⟨_,rfl,?_⟩;replace Aa:=mk_ (zq6 (by exact Aa.out) hb);replace Ac:=mk_ (zq6 (by exact Ac.out) hb);replace HB:=mk_ (zr3 (yu1 HB.out) hb);(try clear hb);(try clear hb2);(try clear hk);(try clear hi);obtain ⟨Bd,Be,Bf,Bg,Bh⟩:=cz5 Ac.out;obtain ⟨Bi,Bj,Bk,Bl,Bm⟩:=fz5 Ac.out)|(go_at_call 64;(with_reducible refine (spec_l1In.calls a1_0 0 255 false _ A5.out).mono ?_);rintro e w' ⟨rfl,⟨nd,rfl⟩⟩))
  go_ret
  exact ⟨by first|rfl|(simp [errW_none,errW_some] <;> rfl)|(simp [*,errW_none,errW_some] <;> rfl),by exact yu1 HB.out⟩
 subst c6
 have H1:(if (l1_1.length:Int)≤24 then ((spec_l1In.f a1_2 0 9999).bind fun t126=>(if t126=true then ((spec_l1In.f a1_3 0 9999).bind fun t127=>(if t127=true then (if (wrap64 (a1_2 - a1_3))=a1_0 then ((spec_l6Parts.f k l1_1 a0_2).bind fun t128=>(some t128)) else (some false)) else (some false))) else (some false))) else (some false))=some r:=by rw [if_pos rfl] at H;exact H
 clear H
 have H:=H1
 clear H1
 by_cases c7:(l1_1.length:Int)≤24
 rotate_left
 ·rw [if_neg c7] at H
  have c7b0:decide ((l1_1.length:Int)≤24)=false:=decide_eq_false c7
  have c7b1:decide (l1_1.length≤24)=false:=decide_eq_false (by omega)
  clear c7
  obtain rfl:=Option.some.inj H
  go_enter Try.func54,Try.ntmps54
  go_wp2_with (first|((with_reducible refine gate_dst (N:=2) rfl ?_);(try (refine gate_guard (by rfl) ?_;dsimp only));refine box_event ?hg (N:=2) ?hd (cs:=#[.int .i64 a0_0,.int .i64 a0_1,.int .i64 a0_2,.int .i64 a0_3,.int .i64 a0_4]) (t:=66) ?hr ?_;(case hd=>rfl);(case hg=>rfl);(case hr=>first|(go_simp;done)|(go_simp;rfl));intro gb122 hg Fa hbox hb;have Aa:=mk_ (hbox);have Ae:=mk_ ((by rw [hg];exact (zr2 (yu0 HB.out)):w.heap.size≤gb122));have Ag:=Ae;replace HB:=mk_ (zr3 (yu0 HB.out) hb);clear hb hbox hg)|((with_reducible refine gate_dst (N:=3) rfl ?_);(try (refine gate_guard (by rfl) ?_;dsimp only));refine box_event ?hg (N:=3) ?hd (cs:=#[.int .i64 a1_0,.slice A1_1 l1_1.length c1_1,.int .i64 a1_2,.int .i64 a1_3,.bool a1_4]) (t:=78) ?hr ?_;(case hd=>rfl);(case hg=>rfl);(case hr=>first|(go_simp;done)|(go_simp;rfl));intro gb123 hg Fb hbox hb;have Ac:=mk_ (hbox);have Af:=mk_ ((by rw [hg];exact (zr2 (yu1 HB.out)):w.heap.size≤gb123));have Ah:=Af;replace HB:=mk_ (zr3 (yu1 HB.out) hb);have Ab:=mk_ ((by rw [hg];exact zm2 (zr6 (by exact Aa.out)):gb122≠gb123));replace Aa:=mk_ (zq6 (by exact Aa.out) hb);have Ad:=mk_ Ab.out.symm;clear hb hbox hg;have Eu:=Ab.out;have Ev:=Ad.out;obtain ⟨Bn,Bo,Bp,Bq,Br⟩:=cz5 Aa.out;obtain ⟨Bs,Bt,Bu,Bv,Bw⟩:=fz5 Aa.out)|((with_reducible refine gate_callee (f:=81) rfl ?_);refine goesL_ (some 6) rfl rfl Try.func81 (by kernel_rfl) rfl #[.agg #[.int .i64 a0_0,.int .i64 a0_1,.int .i64 a0_2,.int .i64 a0_3,.int .i64 a0_4]] rfl am ?_;(with_reducible refine (spec_CfgOk.calls a0_0 a0_1 a0_2 a0_3 a0_4 true _ A3.out).mono ?_);rintro e Fc ⟨rfl,hb⟩;refine ⟨_,rfl,?_⟩;replace Aa:=mk_ (zq6 (by exact Aa.out) hb);replace Ac:=mk_ (zq6 (by exact Ac.out) hb);replace HB:=mk_ (zr3 (yu1 HB.out) hb);(try clear hb);(try clear hb2);(try clear hk);(try clear hi);obtain ⟨Bx,By,Bz,B0,B1⟩:=cz5 Ac.out;obtain ⟨B2,B3,B4,B5,B6⟩:=fz5 Ac.out)|(go_at_call 64;(with_reducible refine (spec_l1In.calls a1_0 0 255 true _ A5.out).mono ?_);rintro e w' ⟨rfl,⟨nd,rfl⟩⟩))
  go_ret
  exact ⟨by first|rfl|(simp [errW_none,errW_some] <;> rfl)|(simp [*,errW_none,errW_some] <;> rfl),by exact yu1 HB.out⟩
 rw [if_pos c7] at H
 have c7b0:decide ((l1_1.length:Int)≤24)=true:=decide_eq_true c7
 have c7b1:decide (l1_1.length≤24)=true:=decide_eq_true (by omega)
 clear c7
 replace H:=Option.bind_eq_some_iff.mp H
 obtain ⟨t126,Ap,H⟩:=H
 try dsimp only at H
 have A8:=mk_ Ap
 clear Ap
 by_cases c9:t126=true
 rotate_left
 ·replace c9:=Bool.eq_false_iff.mpr c9
  subst c9
  have H1:(some false)=some r:=by rw [if_neg (show ¬ (false=true) by decide)] at H;exact H
  clear H
  have H:=H1
  clear H1
  obtain rfl:=Option.some.inj H
  go_enter Try.func54,Try.ntmps54
  go_wp2_with (first|((with_reducible refine gate_dst (N:=2) rfl ?_);(try (refine gate_guard (by rfl) ?_;dsimp only));refine box_event ?hg (N:=2) ?hd (cs:=#[.int .i64 a0_0,.int .i64 a0_1,.int .i64 a0_2,.int .i64 a0_3,.int .i64 a0_4]) (t:=66) ?hr ?_;(case hd=>rfl);(case hg=>rfl);(case hr=>first|(go_simp;done)|(go_simp;rfl));intro gb122 hg Fd hbox hb;have Aa:=mk_ (hbox);have Ae:=mk_ ((by rw [hg];exact (zr2 (yu0 HB.out)):w.heap.size≤gb122));have Ag:=Ae;replace HB:=mk_ (zr3 (yu0 HB.out) hb);clear hb hbox hg)|((with_reducible refine gate_dst (N:=3) rfl ?_);(try (refine gate_guard (by rfl) ?_;dsimp only));refine box_event ?hg (N:=3) ?hd (cs:=#[.int .i64 a1_0,.slice A1_1 l1_1.length c1_1,.int .i64 a1_2,.int .i64 a1_3,.bool a1_4]) (t:=78) ?hr ?_;(case hd=>rfl);(case hg=>rfl);(case hr=>first|(go_simp;done)|(go_simp;rfl));intro gb123 hg Fe hbox hb;have Ac:=mk_ (hbox);have Af:=mk_ ((by rw [hg];exact (zr2 (yu1 HB.out)):w.heap.size≤gb123));have Ah:=Af;replace HB:=mk_ (zr3 (yu1 HB.out) hb);have Ab:=mk_ ((by rw [hg];exact zm2 (zr6 (by exact Aa.out)):gb122≠gb123));replace Aa:=mk_ (zq6 (by exact Aa.out) hb);have Ad:=mk_ Ab.out.symm;clear hb hbox hg;have Ew:=Ab.out;have Ex:=Ad.out;obtain ⟨B7,B8,B9,Ca,Cb⟩:=cz5 Aa.out;obtain ⟨Cc,Cd,Ce,Cf,Cg⟩:=fz5 Aa.out)|((with_reducible refine gate_callee (f:=81) rfl ?_);refine goesL_ (some 6) rfl rfl Try.func81 (by kernel_rfl) rfl #[.agg #[.int .i64 a0_0,.int .i64 a0_1,.int .i64 a0_2,.int .i64 a0_3,.int .i64 a0_4]] rfl am ?_;(with_reducible refine (spec_CfgOk.calls a0_0 a0_1 a0_2 a0_3 a0_4 true _ A3.out).mono ?_);rintro e Ff ⟨rfl,hb⟩;refine ⟨_,rfl,?_⟩;replace Aa:=mk_ (zq6 (by exact Aa.out) hb);replace Ac:=mk_ (zq6 (by exact Ac.out) hb);replace HB:=mk_ (zr3 (yu1 HB.out) hb);(try clear hb);(try clear hb2);(try clear hk);(try clear hi);obtain ⟨Ch,Ci,Cj,Ck,Cl⟩:=cz5 Ac.out;obtain ⟨Cm,Cn,Co,Cp,Cq⟩:=fz5 Ac.out)|(go_at_call 64;(with_reducible refine (spec_l1In.calls a1_0 0 255 true _ A5.out).mono ?_);rintro e w' ⟨rfl,⟨nd,rfl⟩⟩)|(go_at_call 64;(with_reducible refine (spec_l1In.calls a1_2 0 9999 false _ A8.out).mono ?_);rintro e w' ⟨rfl,⟨nd,rfl⟩⟩))
  go_ret
  exact ⟨by first|rfl|(simp [errW_none,errW_some] <;> rfl)|(simp [*,errW_none,errW_some] <;> rfl),by exact yu1 HB.out⟩
 subst c9
 have H1:((spec_l1In.f a1_3 0 9999).bind fun t127=>(if t127=true then (if (wrap64 (a1_2 - a1_3))=a1_0 then ((spec_l6Parts.f k l1_1 a0_2).bind fun t128=>(some t128)) else (some false)) else (some false)))=some r:=by rw [if_pos rfl] at H;exact H
 clear H
 have H:=H1
 clear H1
 replace H:=Option.bind_eq_some_iff.mp H
 obtain ⟨t127,Ai,H⟩:=H
 try dsimp only at H
 have Aj:=mk_ Ai
 clear Ai
 by_cases c11:t127=true
 rotate_left
 ·replace c11:=Bool.eq_false_iff.mpr c11
  subst c11
  have H1:(some false)=some r:=by rw [if_neg (show ¬ (false=true) by decide)] at H;exact H
  clear H
  have H:=H1
  clear H1
  obtain rfl:=Option.some.inj H
  go_enter Try.func54,Try.ntmps54
  go_wp2_with (first|((with_reducible refine gate_dst (N:=2) rfl ?_);(try (refine gate_guard (by rfl) ?_;dsimp only));refine box_event ?hg (N:=2) ?hd (cs:=#[.int .i64 a0_0,.int .i64 a0_1,.int .i64 a0_2,.int .i64 a0_3,.int .i64 a0_4]) (t:=66) ?hr ?_;(case hd=>rfl);(case hg=>rfl);(case hr=>first|(go_simp;done)|(go_simp;rfl));intro gb122 hg Fg hbox hb;have Aa:=mk_ (hbox);have Ae:=mk_ ((by rw [hg];exact (zr2 (yu0 HB.out)):w.heap.size≤gb122));have Ag:=Ae;replace HB:=mk_ (zr3 (yu0 HB.out) hb);clear hb hbox hg)|((with_reducible refine gate_dst (N:=3) rfl ?_);(try (refine gate_guard (by rfl) ?_;dsimp only));refine box_event ?hg (N:=3) ?hd (cs:=#[.int .i64 a1_0,.slice A1_1 l1_1.length c1_1,.int .i64 a1_2,.int .i64 a1_3,.bool a1_4]) (t:=78) ?hr ?_;(case hd=>rfl);(case hg=>rfl);(case hr=>first|(go_simp;done)|(go_simp;rfl));intro gb123 hg Fh hbox hb;have Ac:=mk_ (hbox);have Af:=mk_ ((by rw [hg];exact (zr2 (yu1 HB.out)):w.heap.size≤gb123));have Ah:=Af;replace HB:=mk_ (zr3 (yu1 HB.out) hb);have Ab:=mk_ ((by rw [hg];exact zm2 (zr6 (by exact Aa.out)):gb122≠gb123));replace Aa:=mk_ (zq6 (by exact Aa.out) hb);have Ad:=mk_ Ab.out.symm;clear hb hbox hg;have Ey:=Ab.out;have Ez:=Ad.out;obtain ⟨Cr,Cs,Ct,Cu,Cv⟩:=cz5 Aa.out;obtain ⟨Cw,Cx,Cy,Cz,C0⟩:=fz5 Aa.out)|((with_reducible refine gate_callee (f:=81) rfl ?_);refine goesL_ (some 6) rfl rfl Try.func81 (by kernel_rfl) rfl #[.agg #[.int .i64 a0_0,.int .i64 a0_1,.int .i64 a0_2,.int .i64 a0_3,.int .i64 a0_4]] rfl am ?_;(with_reducible refine (spec_CfgOk.calls a0_0 a0_1 a0_2 a0_3 a0_4 true _ A3.out).mono ?_);rintro e Fi ⟨rfl,hb⟩;refine ⟨_,rfl,?_⟩;replace Aa:=mk_ (zq6 (by exact Aa.out) hb);replace Ac:=mk_ (zq6 (by exact Ac.out) hb);replace HB:=mk_ (zr3 (yu1 HB.out) hb);(try clear hb);(try clear hb2);(try clear hk);(try clear hi);obtain ⟨C1,C2,C3,C4,C5⟩:=cz5 Ac.out;obtain ⟨C6,C7,C8,C9,Da⟩:=fz5 Ac.out)|(go_at_call 64;(with_reducible refine (spec_l1In.calls a1_0 0 255 true _ A5.out).mono ?_);rintro e w' ⟨rfl,⟨nd,rfl⟩⟩)|(go_at_call 64;(with_reducible refine (spec_l1In.calls a1_2 0 9999 true _ A8.out).mono ?_);rintro e w' ⟨rfl,⟨nd,rfl⟩⟩)|(go_at_call 64;(with_reducible refine (spec_l1In.calls a1_3 0 9999 false _ Aj.out).mono ?_);rintro e w' ⟨rfl,⟨nd,rfl⟩⟩))
  go_ret
  exact ⟨by first|rfl|(simp [errW_none,errW_some] <;> rfl)|(simp [*,errW_none,errW_some] <;> rfl),by exact yu1 HB.out⟩
 subst c11
 have H1:(if (wrap64 (a1_2 - a1_3))=a1_0 then ((spec_l6Parts.f k l1_1 a0_2).bind fun t128=>(some t128)) else (some false))=some r:=by rw [if_pos rfl] at H;exact H
 clear H
 have H:=H1
 clear H1
 by_cases c12:(wrap64 (a1_2 - a1_3))=a1_0
 rotate_left
 ·rw [if_neg c12] at H
  have c12b0:((wrap64 (a1_2 - a1_3)) == a1_0)=false:=beq_eq_false_iff_ne.mpr c12
  have c12b1:((wrap64 (a1_2 - a1_3)) != a1_0)=true:=bne_iff_ne.mpr c12
  obtain rfl:=Option.some.inj H
  go_enter Try.func54,Try.ntmps54
  go_wp2_with (first|((with_reducible refine gate_dst (N:=2) rfl ?_);(try (refine gate_guard (by rfl) ?_;dsimp only));refine box_event ?hg (N:=2) ?hd (cs:=#[.int .i64 a0_0,.int .i64 a0_1,.int .i64 a0_2,.int .i64 a0_3,.int .i64 a0_4]) (t:=66) ?hr ?_;(case hd=>rfl);(case hg=>rfl);(case hr=>first|(go_simp;done)|(go_simp;rfl));intro gb122 hg Fj hbox hb;have Aa:=mk_ (hbox);have Ae:=mk_ ((by rw [hg];exact (zr2 (yu0 HB.out)):w.heap.size≤gb122));have Ag:=Ae;replace HB:=mk_ (zr3 (yu0 HB.out) hb);clear hb hbox hg)|((with_reducible refine gate_dst (N:=3) rfl ?_);(try (refine gate_guard (by rfl) ?_;dsimp only));refine box_event ?hg (N:=3) ?hd (cs:=#[.int .i64 a1_0,.slice A1_1 l1_1.length c1_1,.int .i64 a1_2,.int .i64 a1_3,.bool a1_4]) (t:=78) ?hr ?_;(case hd=>rfl);(case hg=>rfl);(case hr=>first|(go_simp;done)|(go_simp;rfl));intro gb123 hg Fk hbox hb;have Ac:=mk_ (hbox);have Af:=mk_ ((by rw [hg];exact (zr2 (yu1 HB.out)):w.heap.size≤gb123));have Ah:=Af;replace HB:=mk_ (zr3 (yu1 HB.out) hb);have Ab:=mk_ ((by rw [hg];exact zm2 (zr6 (by exact Aa.out)):gb122≠gb123));replace Aa:=mk_ (zq6 (by exact Aa.out) hb);have Ad:=mk_ Ab.out.symm;clear hb hbox hg;have E0:=Ab.out;have E1:=Ad.out;obtain ⟨Db,Dc,Dd,De,Df⟩:=cz5 Aa.out;obtain ⟨Dg,Dh,Di,Dj,Dk⟩:=fz5 Aa.out)|((with_reducible refine gate_callee (f:=81) rfl ?_);refine goesL_ (some 6) rfl rfl Try.func81 (by kernel_rfl) rfl #[.agg #[.int .i64 a0_0,.int .i64 a0_1,.int .i64 a0_2,.int .i64 a0_3,.int .i64 a0_4]] rfl am ?_;(with_reducible refine (spec_CfgOk.calls a0_0 a0_1 a0_2 a0_3 a0_4 true _ A3.out).mono ?_);rintro e Fl ⟨rfl,hb⟩;refine ⟨_,rfl,?_⟩;replace Aa:=mk_ (zq6 (by exact Aa.out) hb);replace Ac:=mk_ (zq6 (by exact Ac.out) hb);replace HB:=mk_ (zr3 (yu1 HB.out) hb);(try clear hb);(try clear hb2);(try clear hk);(try clear hi);obtain ⟨Dl,Dm,Dn,Do,Dp⟩:=cz5 Ac.out;obtain ⟨Dq,Dr,Ds,Dt,Du⟩:=fz5 Ac.out)|(go_at_call 64;(with_reducible refine (spec_l1In.calls a1_0 0 255 true _ A5.out).mono ?_);rintro e w' ⟨rfl,⟨nd,rfl⟩⟩)|(go_at_call 64;(with_reducible refine (spec_l1In.calls a1_2 0 9999 true _ A8.out).mono ?_);rintro e w' ⟨rfl,⟨nd,rfl⟩⟩)|(go_at_call 64;(with_reducible refine (spec_l1In.calls a1_3 0 9999 true _ Aj.out).mono ?_);rintro e w' ⟨rfl,⟨nd,rfl⟩⟩))
  go_ret
  exact ⟨by first|rfl|(simp [errW_none,errW_some] <;> rfl)|(simp [*,errW_none,errW_some] <;> rfl),by exact yu1 HB.out⟩
 rw [if_pos c12] at H
 have c12b0:((wrap64 (a1_2 - a1_3)) == a1_0)=true:=beq_iff_eq.mpr c12
 have c12b1:((wrap64 (a1_2 - a1_3)) != a1_0)=false:=bne_eq_false_iff_eq.mpr c12
 clear c12
 replace H:=Option.bind_eq_some_iff.mp H
 obtain ⟨t128,Ak,H⟩:=H
 try dsimp only at H
 have Ep:=mk_ Ak
 clear Ak
 obtain rfl:=Option.some.inj H
 go_enter Try.func54,Try.ntmps54
 go_wp2_with (first|((with_reducible refine gate_dst (N:=2) rfl ?_);(try (refine gate_guard (by rfl) ?_;dsimp only));refine box_event ?hg (N:=2) ?hd (cs:=#[.int .i64 a0_0,.int .i64 a0_1,.int .i64 a0_2,.int .i64 a0_3,.int .i64 a0_4]) (t:=66) ?hr ?_;(case hd=>rfl);(case hg=>rfl);(case hr=>first|(go_simp;done)|(go_simp;rfl));intro gb122 hg Fm hbox hb;have Aa:=mk_ (hbox);have Ae:=mk_ ((by rw [hg];exact (zr2 (yu0 HB.out)):w.heap.size≤gb122));have Ag:=Ae;replace HB:=mk_ (zr3 (yu0 HB.out) hb);clear hb hbox hg)|((with_reducible refine gate_dst (N:=3) rfl ?_);(try (refine gate_guard (by rfl) ?_;dsimp only));refine box_event ?hg (N:=3) ?hd (cs:=#[.int .i64 a1_0,.slice A1_1 l1_1.length c1_1,.int .i64 a1_2,.int .i64 a1_3,.bool a1_4]) (t:=78) ?hr ?_;(case hd=>rfl);(case hg=>rfl);(case hr=>first|(go_simp;done)|(go_simp;rfl));intro gb123 hg Fn hbox hb;have Ac:=mk_ (hbox);have Af:=mk_ ((by rw [hg];exact (zr2 (yu1 HB.out)):w.heap.size≤gb123));have Ah:=Af;replace HB:=mk_ (zr3 (yu1 HB.out) hb);have Ab:=mk_ ((by rw [hg];exact zm2 (zr6 (by exact Aa.out)):gb122≠gb123));replace Aa:=mk_ (zq6 (by exact Aa.out) hb);have Ad:=mk_ Ab.out.symm;clear hb hbox hg;have E2:=Ab.out;have E3:=Ad.out;obtain ⟨Dv,Dw,Dx,Dy,Dz⟩:=cz5 Aa.out;obtain ⟨D0,D1,D2,D3,D4⟩:=fz5 Aa.out)|((with_reducible refine gate_callee (f:=81) rfl ?_);refine goesL_ (some 6) rfl rfl Try.func81 (by kernel_rfl) rfl #[.agg #[.int .i64 a0_0,.int .i64 a0_1,.int .i64 a0_2,.int .i64 a0_3,.int .i64 a0_4]] rfl am ?_;(with_reducible refine (spec_CfgOk.calls a0_0 a0_1 a0_2 a0_3 a0_4 true _ A3.out).mono ?_);rintro e Fo ⟨rfl,hb⟩;refine ⟨_,rfl,?_⟩;replace Aa:=mk_ (zq6 (by exact Aa.out) hb);replace Ac:=mk_ (zq6 (by exact Ac.out) hb);replace HB:=mk_ (zr3 (yu1 HB.out) hb);(try clear hb);(try clear hb2);(try clear hk);(try clear hi);obtain ⟨D5,D6,D7,D8,D9⟩:=cz5 Ac.out;obtain ⟨Ea,Eb,Ec,Ed,Ee⟩:=fz5 Ac.out)|(go_at_call 64;(with_reducible refine (spec_l1In.calls a1_0 0 255 true _ A5.out).mono ?_);rintro e w' ⟨rfl,⟨nd,rfl⟩⟩)|(go_at_call 64;(with_reducible refine (spec_l1In.calls a1_2 0 9999 true _ A8.out).mono ?_);rintro e w' ⟨rfl,⟨nd,rfl⟩⟩)|(go_at_call 64;(with_reducible refine (spec_l1In.calls a1_3 0 9999 true _ Aj.out).mono ?_);rintro e w' ⟨rfl,⟨nd,rfl⟩⟩;obtain ⟨Ef,Eg,Eh,Ei,Ej⟩:=cz5 Aa.out;obtain ⟨Ek,El,Em,En,Eo⟩:=fz5 Aa.out)|(go_at_call 84;(with_reducible refine (spec_l6Parts.calls k _ _ l1_1 a0_2 t128 _ ?side1 ?side2 Ep.out).mono ?_);(case side1=>repeat (first|exact (Kd.C_below Al.out (yu1 HB.out))|(with_reducible refine Kd.C_alloc ?_ _)|(with_reducible refine Kd.C_drewN ?_ _)|(with_reducible refine Kd.C_drew ?_)));(case side2=>exact Am.out);rintro e Fp ⟨rfl,hb⟩;replace Aa:=mk_ (zq6 (by exact Aa.out) hb);replace Ac:=mk_ (zq6 (by exact Ac.out) hb);replace HB:=mk_ (zr3 (yu1 HB.out) hb);(try clear hb);(try clear hb2);(try clear hk);(try clear hi)))
 go_ret
 exact ⟨by first|rfl|(simp [errW_none,errW_some] <;> rfl)|(simp [*,errW_none,errW_some] <;> rfl),by exact yu1 HB.out⟩

end Go.Proofs.Yteknaofnageihaa.QFnCrdTxOk
