-- Written by a program of this session, a turned copy of the print (not by print.sh itself). Lean checks it.
import Derived.Test.YteknaofnageihaaQFnCrdTxOkx0
import Derived.Test.YteknaofnageihaaQFnCrdTxOkx1
import Derived.Test.YteknaofnageihaaQFnCrdTxOkx2
import Derived.Test.YteknaofnageihaaQFnCrdTxOkx12
namespace Go.Proofs.Yteknaofnageihaa.QFnCrdTxOk
open Go.RowKit Go.Proofs.YteknaofnageihaaW.PrintWords Go.Proofs.YteknaofnageihaaW.PrintLast Go.Proofs.YteknaofnageihaaW.PrintMore Go.Proofs.YteknaofnageihaaLoc
attribute [local go_sem] max2_int min2_int max_two min_two max_three min_three max_four min_four   -- for this text's walks alone
set_option linter.unusedVariables false
set_option linter.unusedSimpArgs false

/-! ### impl_CrdTxOk: function 56 -/
def impl_CrdTxOk.f (k : Nat) (a0_0 : Int) (a0_1 : Int) (a0_2 : Int) (a0_3 : Int) (a0_4 : Int) (a1_0 : Int) (l1_1 : List (S39)) (a1_2 : Int) (a1_3 : Int) (a1_4 : Bool) : Option (Bool) := (impl_CfgOk.f a0_0 a0_1 a0_2 a0_3 a0_4).bind fun t137 => (if t137 = true then ((impl_in.f a1_0 0 255).bind fun t138 => (if t138 = true then ((impl_in.f a1_2 0 9999).bind fun t139 => (if t139 = true then ((impl_in.f a1_3 0 9999).bind fun t140 => (if t140 = true then (if a1_0 = (wrap64 (a1_2 - a1_3)) then (if (l1_1.length : Int) ≤ 24 then ((impl_CfgOpts_partsOk.f k a0_0 a0_1 a0_2 a0_3 a0_4 l1_1).bind fun t141 => (some t141)) else (some false)) else (some false)) else (some false))) else (some false))) else (some false))) else (some false))
theorem impl_CrdTxOk.mono : ∀ a0 a1 a2 a3 a4 a5 a6 a7 a8 a9 k, LeO (impl_CrdTxOk.f k a0 a1 a2 a3 a4 a5 a6 a7 a8 a9) (impl_CrdTxOk.f (k + 1) a0 a1 a2 a3 a4 a5 a6 a7 a8 a9) := by
 intro a0 a1 a2 a3 a4 a5 a6 a7 a8 a9 k
 unfold impl_CrdTxOk.f
 repeat' first
     | (with_reducible exact impl_CfgOpts_partsOk.mono _ _ _ _ _ _ _)
     | (with_reducible exact LeO.refl _)
     | (with_reducible exact LeO.none _)
     | (with_reducible refine LeO.ite ?_ ?_)
     | (with_reducible refine LeO.bind ?_ (fun _ => ?_))
     | exact impl_CfgOpts_partsOk.mono _ _ _ _ _ _ _
     | exact LeO.none _
     | refine LeO.ite ?_ ?_
     | refine LeO.bind ?_ (fun _ => ?_)
set_option maxHeartbeats 60000000 in
set_option maxRecDepth 100000 in
theorem impl_CrdTxOk.calls (k : Nat) (a0_0 : Int) (a0_1 : Int) (a0_2 : Int) (a0_3 : Int) (a0_4 : Int) (a1_0 : Int) (A1_1 : Option Addr) (c1_1 : Nat) (l1_1 : List (S39)) (a1_2 : Int) (a1_3 : Int) (a1_4 : Bool) (r : Bool) (w : World) (hr1_1 : Kd.C k39 w A1_1 l1_1.length l1_1) (hc1_1 : l1_1.length ≤ c1_1) (h : impl_CrdTxOk.f k a0_0 a0_1 a0_2 a0_3 a0_4 a1_0 l1_1 a1_2 a1_3 a1_4 = some r) :
  Calls Try.prog 56 #[.agg #[.int .i64 a0_0,.int .i64 a0_1,.int .i64 a0_2,.int .i64 a0_3,.int .i64 a0_4],.agg #[.int .i64 a1_0,.slice A1_1 l1_1.length c1_1,.int .i64 a1_2,.int .i64 a1_3,.bool a1_4]] w fun e w'=>e=.returned (.bool r)∧Below w.heap.size w w':=by
 have hu66:=Try.underlying66
 have hu78:=Try.underlying78
 have Aj:=mk_ hr1_1
 have Ak:=mk_ hc1_1
 clear hr1_1 hc1_1
 have HB:=mk_ (Below.refl w.heap.size w)
 have H:((impl_CfgOk.f a0_0 a0_1 a0_2 a0_3 a0_4).bind fun t137=>(if t137=true then ((impl_in.f a1_0 0 255).bind fun t138=>(if t138=true then ((impl_in.f a1_2 0 9999).bind fun t139=>(if t139=true then ((impl_in.f a1_3 0 9999).bind fun t140=>(if t140=true then (if a1_0=(wrap64 (a1_2 - a1_3)) then (if (l1_1.length:Int)≤24 then ((impl_CfgOpts_partsOk.f k a0_0 a0_1 a0_2 a0_3 a0_4 l1_1).bind fun t141=>(some t141)) else (some false)) else (some false)) else (some false))) else (some false))) else (some false))) else (some false)))=some r:=h
 clear h
 replace H:=Option.bind_eq_some_iff.mp H
 obtain ⟨t137,Al,H⟩:=H
 try dsimp only at H
 have A3:=mk_ Al
 clear Al
 by_cases c4:t137=true
 rotate_left
 ·replace c4:=Bool.eq_false_iff.mpr c4
  subst c4
  have H1:(some false)=some r:=by rw [if_neg (show ¬ (false=true) by decide)] at H;exact H
  clear H
  have H:=H1
  clear H1
  obtain rfl:=Option.some.inj H
  go_enter Try.func56,Try.ntmps56
  go_wp2_with (first|((with_reducible refine gate_dst (N:=2) rfl ?_);(try (refine gate_guard (by rfl) ?_;dsimp only));refine box_event ?hg (N:=2) ?hd (cs:=#[.int .i64 a0_0,.int .i64 a0_1,.int .i64 a0_2,.int .i64 a0_3,.int .i64 a0_4]) (t:=66) ?hr ?_;(case hd=>rfl);(case hg=>rfl);(case hr=>first|(go_simp;done)|(go_simp;rfl));intro gb135 hg E4 hbox hb;have Aa:=mk_ (hbox);have Ae:=mk_ ((by rw [hg];exact (zr2 (yu0 HB.out)):w.heap.size≤gb135));have Ag:=Ae;replace HB:=mk_ (zr3 (yu0 HB.out) hb);clear hb hbox hg)|((with_reducible refine gate_dst (N:=3) rfl ?_);(try (refine gate_guard (by rfl) ?_;dsimp only));refine box_event ?hg (N:=3) ?hd (cs:=#[.int .i64 a1_0,.slice A1_1 l1_1.length c1_1,.int .i64 a1_2,.int .i64 a1_3,.bool a1_4]) (t:=78) ?hr ?_;(case hd=>rfl);(case hg=>rfl);(case hr=>first|(go_simp;done)|(go_simp;rfl));intro gb136 hg E5 hbox hb;have Ac:=mk_ (hbox);have Af:=mk_ ((by rw [hg];exact (zr2 (yu1 HB.out)):w.heap.size≤gb136));have Ah:=Af;replace HB:=mk_ (zr3 (yu1 HB.out) hb);have Ab:=mk_ ((by rw [hg];exact zm2 (zr6 (by exact Aa.out)):gb135≠gb136));replace Aa:=mk_ (zq6 (by exact Aa.out) hb);have Ad:=mk_ Ab.out.symm;clear hb hbox hg;have Eq:=Ab.out;have Er:=Ad.out;obtain ⟨Ap,Aq,Ar,As,At⟩:=cz5 Aa.out;obtain ⟨Au,Av,Aw,Ax,Ay⟩:=fz5 Aa.out)|((with_reducible refine gate_callee (f:=72) rfl ?_);refine goesL_ (some 6) rfl rfl Try.func72 (by kernel_rfl) rfl #[.agg #[.int .i64 a0_0,.int .i64 a0_1,.int .i64 a0_2,.int .i64 a0_3,.int .i64 a0_4]] rfl am ?_;(with_reducible refine (impl_CfgOk.calls a0_0 a0_1 a0_2 a0_3 a0_4 false _ A3.out).mono ?_);rintro e E6 ⟨rfl,hb⟩;refine ⟨_,rfl,?_⟩;replace Aa:=mk_ (zq6 (by exact Aa.out) hb);replace Ac:=mk_ (zq6 (by exact Ac.out) hb);replace HB:=mk_ (zr3 (yu1 HB.out) hb);(try clear hb);(try clear hb2);(try clear hk);(try clear hi)))
  go_ret
  exact ⟨by first|rfl|(simp [errW_none,errW_some] <;> rfl)|(simp [*,errW_none,errW_some] <;> rfl),by exact yu1 HB.out⟩
 subst c4
 have H1:((impl_in.f a1_0 0 255).bind fun t138=>(if t138=true then ((impl_in.f a1_2 0 9999).bind fun t139=>(if t139=true then ((impl_in.f a1_3 0 9999).bind fun t140=>(if t140=true then (if a1_0=(wrap64 (a1_2 - a1_3)) then (if (l1_1.length:Int)≤24 then ((impl_CfgOpts_partsOk.f k a0_0 a0_1 a0_2 a0_3 a0_4 l1_1).bind fun t141=>(some t141)) else (some false)) else (some false)) else (some false))) else (some false))) else (some false)))=some r:=by rw [if_pos rfl] at H;exact H
 clear H
 have H:=H1
 clear H1
 replace H:=Option.bind_eq_some_iff.mp H
 obtain ⟨t138,Am,H⟩:=H
 try dsimp only at H
 have A5:=mk_ Am
 clear Am
 by_cases c6:t138=true
 rotate_left
 ·replace c6:=Bool.eq_false_iff.mpr c6
  subst c6
  have H1:(some false)=some r:=by rw [if_neg (show ¬ (false=true) by decide)] at H;exact H
  clear H
  have H:=H1
  clear H1
  obtain rfl:=Option.some.inj H
  go_enter Try.func56,Try.ntmps56
  go_wp2_with (first|((with_reducible refine gate_dst (N:=2) rfl ?_);(try (refine gate_guard (by rfl) ?_;dsimp only));refine box_event ?hg (N:=2) ?hd (cs:=#[.int .i64 a0_0,.int .i64 a0_1,.int .i64 a0_2,.int .i64 a0_3,.int .i64 a0_4]) (t:=66) ?hr ?_;(case hd=>rfl);(case hg=>rfl);(case hr=>first|(go_simp;done)|(go_simp;rfl));intro gb135 hg E7 hbox hb;have Aa:=mk_ (hbox);have Ae:=mk_ ((by rw [hg];exact (zr2 (yu0 HB.out)):w.heap.size≤gb135));have Ag:=Ae;replace HB:=mk_ (zr3 (yu0 HB.out) hb);clear hb hbox hg)|((with_reducible refine gate_dst (N:=3) rfl ?_);(try (refine gate_guard (by rfl) ?_;dsimp only));refine box_event ?hg (N:=3) ?hd (cs:=#[.int .i64 a1_0,.slice A1_1 l1_1.length c1_1,.int .i64 a1_2,.int .i64 a1_3,.bool a1_4]) (t:=78) ?hr ?_;(case hd=>rfl);(case hg=>rfl);(case hr=>first|(go_simp;done)|(go_simp;rfl));intro gb136 hg E8 hbox hb;have Ac:=mk_ (hbox);have Af:=mk_ ((by rw [hg];exact (zr2 (yu1 HB.out)):w.heap.size≤gb136));have Ah:=Af;replace HB:=mk_ (zr3 (yu1 HB.out) hb);have Ab:=mk_ ((by rw [hg];exact zm2 (zr6 (by exact Aa.out)):gb135≠gb136));replace Aa:=mk_ (zq6 (by exact Aa.out) hb);have Ad:=mk_ Ab.out.symm;clear hb hbox hg;have Es:=Ab.out;have Et:=Ad.out;obtain ⟨Az,A0,A1,A2,A4⟩:=cz5 Aa.out;obtain ⟨A6,A8,Ba,Bb,Bc⟩:=fz5 Aa.out)|((with_reducible refine gate_callee (f:=72) rfl ?_);refine goesL_ (some 6) rfl rfl Try.func72 (by kernel_rfl) rfl #[.agg #[.int .i64 a0_0,.int .i64 a0_1,.int .i64 a0_2,.int .i64 a0_3,.int .i64 a0_4]] rfl am ?_;(with_reducible refine (impl_CfgOk.calls a0_0 a0_1 a0_2 a0_3 a0_4 true _ A3.out).mono ?_);rintro e E9 ⟨rfl,hb⟩;refine ⟨_,rfl,?_⟩;replace Aa:=mk_ (zq6 (by exact Aa.out) hb);replace Ac:=mk_ (zq6 (by exact Ac.out) hb);replace HB:=mk_ (zr3 (yu1 HB.out) hb);(try clear hb);(try clear hb2);(try clear hk);(try clear hi);obtain ⟨Bd,Be,Bf,Bg,Bh⟩:=cz5 Ac.out;obtain ⟨Bi,Bj,Bk,Bl,Bm⟩:=fz5 Ac.out)|(go_at_call 65;(with_reducible refine (impl_in.calls a1_0 0 255 false _ A5.out).mono ?_);rintro e w' ⟨rfl,⟨nd,rfl⟩⟩))
  go_ret
  exact ⟨by first|rfl|(simp [errW_none,errW_some] <;> rfl)|(simp [*,errW_none,errW_some] <;> rfl),by exact yu1 HB.out⟩
 subst c6
 have H1:((impl_in.f a1_2 0 9999).bind fun t139=>(if t139=true then ((impl_in.f a1_3 0 9999).bind fun t140=>(if t140=true then (if a1_0=(wrap64 (a1_2 - a1_3)) then (if (l1_1.length:Int)≤24 then ((impl_CfgOpts_partsOk.f k a0_0 a0_1 a0_2 a0_3 a0_4 l1_1).bind fun t141=>(some t141)) else (some false)) else (some false)) else (some false))) else (some false)))=some r:=by rw [if_pos rfl] at H;exact H
 clear H
 have H:=H1
 clear H1
 replace H:=Option.bind_eq_some_iff.mp H
 obtain ⟨t139,An,H⟩:=H
 try dsimp only at H
 have A7:=mk_ An
 clear An
 by_cases c8:t139=true
 rotate_left
 ·replace c8:=Bool.eq_false_iff.mpr c8
  subst c8
  have H1:(some false)=some r:=by rw [if_neg (show ¬ (false=true) by decide)] at H;exact H
  clear H
  have H:=H1
  clear H1
  obtain rfl:=Option.some.inj H
  go_enter Try.func56,Try.ntmps56
  go_wp2_with (first|((with_reducible refine gate_dst (N:=2) rfl ?_);(try (refine gate_guard (by rfl) ?_;dsimp only));refine box_event ?hg (N:=2) ?hd (cs:=#[.int .i64 a0_0,.int .i64 a0_1,.int .i64 a0_2,.int .i64 a0_3,.int .i64 a0_4]) (t:=66) ?hr ?_;(case hd=>rfl);(case hg=>rfl);(case hr=>first|(go_simp;done)|(go_simp;rfl));intro gb135 hg Fa hbox hb;have Aa:=mk_ (hbox);have Ae:=mk_ ((by rw [hg];exact (zr2 (yu0 HB.out)):w.heap.size≤gb135));have Ag:=Ae;replace HB:=mk_ (zr3 (yu0 HB.out) hb);clear hb hbox hg)|((with_reducible refine gate_dst (N:=3) rfl ?_);(try (refine gate_guard (by rfl) ?_;dsimp only));refine box_event ?hg (N:=3) ?hd (cs:=#[.int .i64 a1_0,.slice A1_1 l1_1.length c1_1,.int .i64 a1_2,.int .i64 a1_3,.bool a1_4]) (t:=78) ?hr ?_;(case hd=>rfl);(case hg=>rfl);(case hr=>first|(go_simp;done)|(go_simp;rfl));intro gb136 hg Fb hbox hb;have Ac:=mk_ (hbox);have Af:=mk_ ((by rw [hg];exact (zr2 (yu1 HB.out)):w.heap.size≤gb136));have Ah:=Af;replace HB:=mk_ (zr3 (yu1 HB.out) hb);have Ab:=mk_ ((by rw [hg];exact zm2 (zr6 (by exact Aa.out)):gb135≠gb136));replace Aa:=mk_ (zq6 (by exact Aa.out) hb);have Ad:=mk_ Ab.out.symm;clear hb hbox hg;have Eu:=Ab.out;have Ev:=Ad.out;obtain ⟨Bn,Bo,Bp,Bq,Br⟩:=cz5 Aa.out;obtain ⟨Bs,Bt,Bu,Bv,Bw⟩:=fz5 Aa.out)|((with_reducible refine gate_callee (f:=72) rfl ?_);refine goesL_ (some 6) rfl rfl Try.func72 (by kernel_rfl) rfl #[.agg #[.int .i64 a0_0,.int .i64 a0_1,.int .i64 a0_2,.int .i64 a0_3,.int .i64 a0_4]] rfl am ?_;(with_reducible refine (impl_CfgOk.calls a0_0 a0_1 a0_2 a0_3 a0_4 true _ A3.out).mono ?_);rintro e Fc ⟨rfl,hb⟩;refine ⟨_,rfl,?_⟩;replace Aa:=mk_ (zq6 (by exact Aa.out) hb);replace Ac:=mk_ (zq6 (by exact Ac.out) hb);replace HB:=mk_ (zr3 (yu1 HB.out) hb);(try clear hb);(try clear hb2);(try clear hk);(try clear hi);obtain ⟨Bx,By,Bz,B0,B1⟩:=cz5 Ac.out;obtain ⟨B2,B3,B4,B5,B6⟩:=fz5 Ac.out)|(go_at_call 65;(with_reducible refine (impl_in.calls a1_0 0 255 true _ A5.out).mono ?_);rintro e w' ⟨rfl,⟨nd,rfl⟩⟩)|(go_at_call 65;(with_reducible refine (impl_in.calls a1_2 0 9999 false _ A7.out).mono ?_);rintro e w' ⟨rfl,⟨nd,rfl⟩⟩))
  go_ret
  exact ⟨by first|rfl|(simp [errW_none,errW_some] <;> rfl)|(simp [*,errW_none,errW_some] <;> rfl),by exact yu1 HB.out⟩
 subst c8
 have H1:((impl_in.f a1_3 0 9999).bind fun t140=>(if t140=true then (if a1_0=(wrap64 (a1_2 - a1_3)) then (if (l1_1.length:Int)≤24 then ((impl_CfgOpts_partsOk.f k a0_0 a0_1 a0_2 a0_3 a0_4 l1_1).bind fun t141=>(some t141)) else (some false)) else (some false)) else (some false)))=some r:=by rw [if_pos rfl] at H;exact H
 clear H
 have H:=H1
 clear H1
 replace H:=Option.bind_eq_some_iff.mp H
 obtain ⟨t140,Ao,H⟩:=H
 try dsimp only at H
 have A9:=mk_ Ao
 clear Ao
 by_cases c10:t140=true
 rotate_left
 ·replace c10:=Bool.eq_false_iff.mpr c10
  subst c10
  have H1:(some false)=some r:=by rw [if_neg (show ¬ (false=true) by decide)] at H;exact H
  clear H
  have H:=H1
  clear H1
  obtain rfl:=Option.some.inj H
  go_enter Try.func56,Try.ntmps56
  go_wp2_with (first|((with_reducible refine gate_dst (N:=2) rfl ?_);(try (refine gate_guard (by rfl) ?_;dsimp only));refine box_event ?hg (N:=2) ?hd (cs:=#[.int .i64 a0_0,.int .i64 a0_1,.int .i64 a0_2,.int .i64 a0_3,.int .i64 a0_4]) (t:=66) ?hr ?_;(case hd=>rfl);(case hg=>rfl);(case hr=>first|(go_simp;done)|(go_simp;rfl));intro gb135 hg Fd hbox hb;have Aa:=mk_ (hbox);have Ae:=mk_ ((by rw [hg];exact (zr2 (yu0 HB.out)):w.heap.size≤gb135));have Ag:=Ae;replace HB:=mk_ (zr3 (yu0 HB.out) hb);clear hb hbox hg)|((with_reducible refine gate_dst (N:=3) rfl ?_);(try (refine gate_guard (by rfl) ?_;dsimp only));refine box_event ?hg (N:=3) ?hd (cs:=#[.int .i64 a1_0,.slice A1_1 l1_1.length c1_1,.int .i64 a1_2,.int .i64 a1_3,.bool a1_4]) (t:=78) ?hr ?_;(case hd=>rfl);(case hg=>rfl);(case hr=>first|(go_simp;done)|(go_simp;rfl));intro gb136 hg Fe hbox hb;have Ac:=mk_ (hbox);have Af:=mk_ ((by rw [hg];exact (zr2 (yu1 HB.out)):w.heap.size≤gb136));have Ah:=Af;replace HB:=mk_ (zr3 (yu1 HB.out) hb);have Ab:=mk_ ((by rw [hg];exact zm2 (zr6 (by exact Aa.out)):gb135≠gb136));replace Aa:=mk_ (zq6 (by exact Aa.out) hb);have Ad:=mk_ Ab.out.symm;clear hb hbox hg;have Ew:=Ab.out;have Ex:=Ad.out;obtain ⟨B7,B8,B9,Ca,Cb⟩:=cz5 Aa.out;obtain ⟨Cc,Cd,Ce,Cf,Cg⟩:=fz5 Aa.out)|((with_reducible refine gate_callee (f:=72) rfl ?_);refine goesL_ (some 6) rfl rfl Try.func72 (by kernel_rfl) rfl #[.agg #[.int .i64 a0_0,.int .i64 a0_1,.int .i64 a0_2,.int .i64 a0_3,.int .i64 a0_4]] rfl am ?_;(with_reducible refine (impl_CfgOk.calls a0_0 a0_1 a0_2 a0_3 a0_4 true _ A3.out).mono ?_);rintro e Ff ⟨rfl,hb⟩;refine ⟨_,rfl,?_⟩;replace Aa:=mk_ (zq6 (by exact Aa.out) hb);replace Ac:=mk_ (zq6 (by exact Ac.out) hb);replace HB:=mk_ (zr3 (yu1 HB.out) hb);(try clear hb);(try clear hb2);(try clear hk);(try clear hi);obtain ⟨Ch,Ci,Cj,Ck,Cl⟩:=cz5 Ac.out;obtain ⟨Cm,Cn,Co,Cp,Cq⟩:=fz5 Ac.out)|(go_at_call 65;(with_reducible refine (impl_in.calls a1_0 0 255 true _ A5.out).mono ?_);rintro e w' ⟨rfl,⟨nd,rfl⟩⟩)|(go_at_call 65;(with_reducible refine (impl_in.calls a1_2 0 9999 true _ A7.out).mono ?_);rintro e w' ⟨rfl,⟨nd,rfl⟩⟩)|(go_at_call 65;(with_reducible refine (impl_in.calls a1_3 0 9999 false _ A9.out).mono ?_);rintro e w' ⟨rfl,⟨nd,rfl⟩⟩))
  go_ret
  exact ⟨by first|rfl|(simp [errW_none,errW_some] <;> rfl)|(simp [*,errW_none,errW_some] <;> rfl),by exact yu1 HB.out⟩
 subst c10
 have H1:(if a1_0=(wrap64 (a1_2 - a1_3)) then (if (l1_1.length:Int)≤24 then ((impl_CfgOpts_partsOk.f k a0_0 a0_1 a0_2 a0_3 a0_4 l1_1).bind fun t141=>(some t141)) else (some false)) else (some false))=some r:=by rw [if_pos rfl] at H;exact H
 clear H
 have H:=H1
 clear H1
 by_cases c11:a1_0=(wrap64 (a1_2 - a1_3))
 rotate_left
 ·rw [if_neg c11] at H
  have c11b0:(a1_0 == (wrap64 (a1_2 - a1_3)))=false:=beq_eq_false_iff_ne.mpr c11
  have c11b1:(a1_0 != (wrap64 (a1_2 - a1_3)))=true:=bne_iff_ne.mpr c11
  obtain rfl:=Option.some.inj H
  go_enter Try.func56,Try.ntmps56
  go_wp2_with (first|((with_reducible refine gate_dst (N:=2) rfl ?_);(try (refine gate_guard (by rfl) ?_;dsimp only));refine box_event ?hg (N:=2) ?hd (cs:=#[.int .i64 a0_0,.int .i64 a0_1,.int .i64 a0_2,.int .i64 a0_3,.int .i64 a0_4]) (t:=66) ?hr ?_;(case hd=>rfl);(case hg=>rfl);(case hr=>first|(go_simp;done)|(go_simp;rfl));intro gb135 hg Fg hbox hb;have Aa:=mk_ (hbox);have Ae:=mk_ ((by rw [hg];exact (zr2 (yu0 HB.out)):w.heap.size≤gb135));have Ag:=Ae;replace HB:=mk_ (zr3 (yu0 HB.out) hb);clear hb hbox hg)|((with_reducible refine gate_dst (N:=3) rfl ?_);(try (refine gate_guard (by rfl) ?_;dsimp only));refine box_event ?hg (N:=3) ?hd (cs:=#[.int .i64 a1_0,.slice A1_1 l1_1.length c1_1,.int .i64 a1_2,.int .i64 a1_3,.bool a1_4]) (t:=78) ?hr ?_;(case hd=>rfl);(case hg=>rfl);(case hr=>first|(go_simp;done)|(go_simp;rfl));intro gb136 hg Fh hbox hb;have Ac:=mk_ (hbox);have Af:=mk_ ((by rw [hg];exact (zr2 (yu1 HB.out)):w.heap.size≤gb136));have Ah:=Af;replace HB:=mk_ (zr3 (yu1 HB.out) hb);have Ab:=mk_ ((by rw [hg];exact zm2 (zr6 (by exact Aa.out)):gb135≠gb136));replace Aa:=mk_ (zq6 (by exact Aa.out) hb);have Ad:=mk_ Ab.out.symm;clear hb hbox hg;have Ey:=Ab.out;have Ez:=Ad.out;obtain ⟨Cr,Cs,Ct,Cu,Cv⟩:=cz5 Aa.out;obtain ⟨Cw,Cx,Cy,Cz,C0⟩:=fz5 Aa.out)|((with_reducible refine gate_callee (f:=72) rfl ?_);refine goesL_ (some 6) rfl rfl Try.func72 (by kernel_rfl) rfl #[.agg #[.int .i64 a0_0,.int .i64 a0_1,.int .i64 a0_2,.int .i64 a0_3,.int .i64 a0_4]] rfl am ?_;(with_reducible refine (impl_CfgOk.calls a0_0 a0_1 a0_2 a0_3 a0_4 true _ A3.out).mono ?_);rintro e Fi ⟨rfl,hb⟩;refine ⟨_,rfl,?_⟩;replace Aa:=mk_ (zq6 (by exact Aa.out) hb);replace Ac:=mk_ (zq6 (by exact Ac.out) hb);replace HB:=mk_ (zr3 (yu1 HB.out) hb);(try clear hb);(try clear hb2);(try clear hk);(try clear hi);obtain ⟨C1,C2,C3,C4,C5⟩:=cz5 Ac.out;obtain ⟨C6,C7,C8,C9,Da⟩:=fz5 Ac.out)|(go_at_call 65;(with_reducible refine (impl_in.calls a1_0 0 255 true _ A5.out).mono ?_);rintro e w' ⟨rfl,⟨nd,rfl⟩⟩)|(go_at_call 65;(with_reducible refine (impl_in.calls a1_2 0 9999 true _ A7.out).mono ?_);rintro e w' ⟨rfl,⟨nd,rfl⟩⟩)|(go_at_call 65;(with_reducible refine (impl_in.calls a1_3 0 9999 true _ A9.out).mono ?_);rintro e w' ⟨rfl,⟨nd,rfl⟩⟩))
  go_ret
  exact ⟨by first|rfl|(simp [errW_none,errW_some] <;> rfl)|(simp [*,errW_none,errW_some] <;> rfl),by exact yu1 HB.out⟩
 rw [if_pos c11] at H
 have c11b0:(a1_0 == (wrap64 (a1_2 - a1_3)))=true:=beq_iff_eq.mpr c11
 have c11b1:(a1_0 != (wrap64 (a1_2 - a1_3)))=false:=bne_eq_false_iff_eq.mpr c11
 clear c11
 by_cases c12:(l1_1.length:Int)≤24
 rotate_left
 ·rw [if_neg c12] at H
  have c12b0:decide ((l1_1.length:Int)≤24)=false:=decide_eq_false c12
  have c12b1:decide (l1_1.length≤24)=false:=decide_eq_false (by omega)
  clear c12
  obtain rfl:=Option.some.inj H
  go_enter Try.func56,Try.ntmps56
  go_wp2_with (first|((with_reducible refine gate_dst (N:=2) rfl ?_);(try (refine gate_guard (by rfl) ?_;dsimp only));refine box_event ?hg (N:=2) ?hd (cs:=#[.int .i64 a0_0,.int .i64 a0_1,.int .i64 a0_2,.int .i64 a0_3,.int .i64 a0_4]) (t:=66) ?hr ?_;(case hd=>rfl);(case hg=>rfl);(case hr=>first|(go_simp;done)|(go_simp;rfl));intro gb135 hg Fj hbox hb;have Aa:=mk_ (hbox);have Ae:=mk_ ((by rw [hg];exact (zr2 (yu0 HB.out)):w.heap.size≤gb135));have Ag:=Ae;replace HB:=mk_ (zr3 (yu0 HB.out) hb);clear hb hbox hg)|((with_reducible refine gate_dst (N:=3) rfl ?_);(try (refine gate_guard (by rfl) ?_;dsimp only));refine box_event ?hg (N:=3) ?hd (cs:=#[.int .i64 a1_0,.slice A1_1 l1_1.length c1_1,.int .i64 a1_2,.int .i64 a1_3,.bool a1_4]) (t:=78) ?hr ?_;(case hd=>rfl);(case hg=>rfl);(case hr=>first|(go_simp;done)|(go_simp;rfl));intro gb136 hg Fk hbox hb;have Ac:=mk_ (hbox);have Af:=mk_ ((by rw [hg];exact (zr2 (yu1 HB.out)):w.heap.size≤gb136));have Ah:=Af;replace HB:=mk_ (zr3 (yu1 HB.out) hb);have Ab:=mk_ ((by rw [hg];exact zm2 (zr6 (by exact Aa.out)):gb135≠gb136));replace Aa:=mk_ (zq6 (by exact Aa.out) hb);have Ad:=mk_ Ab.out.symm;clear hb hbox hg;have E0:=Ab.out;have E1:=Ad.out;obtain ⟨Db,Dc,Dd,De,Df⟩:=cz5 Aa.out;obtain ⟨Dg,Dh,Di,Dj,Dk⟩:=fz5 Aa.out)|((with_reducible refine gate_callee (f:=72) rfl ?_);refine goesL_ (some 6) rfl rfl Try.func72 (by kernel_rfl) rfl #[.agg #[.int .i64 a0_0,.int .i64 a0_1,.int .i64 a0_2,.int .i64 a0_3,.int .i64 a0_4]] rfl am ?_;(with_reducible refine (impl_CfgOk.calls a0_0 a0_1 a0_2 a0_3 a0_4 true _ A3.out).mono ?_);rintro e Fl ⟨rfl,hb⟩;refine ⟨_,rfl,?_⟩;replace Aa:=mk_ (zq6 (by exact Aa.out) hb);replace Ac:=mk_ (zq6 (by exact Ac.out) hb);replace HB:=mk_ (zr3 (yu1 HB.out) hb);(try clear hb);(try clear hb2);(try clear hk);(try clear hi);obtain ⟨Dl,Dm,Dn,Do,Dp⟩:=cz5 Ac.out;obtain ⟨Dq,Dr,Ds,Dt,Du⟩:=fz5 Ac.out)|(go_at_call 65;(with_reducible refine (impl_in.calls a1_0 0 255 true _ A5.out).mono ?_);rintro e w' ⟨rfl,⟨nd,rfl⟩⟩)|(go_at_call 65;(with_reducible refine (impl_in.calls a1_2 0 9999 true _ A7.out).mono ?_);rintro e w' ⟨rfl,⟨nd,rfl⟩⟩)|(go_at_call 65;(with_reducible refine (impl_in.calls a1_3 0 9999 true _ A9.out).mono ?_);rintro e w' ⟨rfl,⟨nd,rfl⟩⟩))
  go_ret
  exact ⟨by first|rfl|(simp [errW_none,errW_some] <;> rfl)|(simp [*,errW_none,errW_some] <;> rfl),by exact yu1 HB.out⟩
 rw [if_pos c12] at H
 have c12b0:decide ((l1_1.length:Int)≤24)=true:=decide_eq_true c12
 have c12b1:decide (l1_1.length≤24)=true:=decide_eq_true (by omega)
 clear c12
 replace H:=Option.bind_eq_some_iff.mp H
 obtain ⟨t141,Ai,H⟩:=H
 try dsimp only at H
 have Ep:=mk_ Ai
 clear Ai
 obtain rfl:=Option.some.inj H
 go_enter Try.func56,Try.ntmps56
 go_wp2_with (first|((with_reducible refine gate_dst (N:=2) rfl ?_);(try (refine gate_guard (by rfl) ?_;dsimp only));refine box_event ?hg (N:=2) ?hd (cs:=#[.int .i64 a0_0,.int .i64 a0_1,.int .i64 a0_2,.int .i64 a0_3,.int .i64 a0_4]) (t:=66) ?hr ?_;(case hd=>rfl);(case hg=>rfl);(case hr=>first|(go_simp;done)|(go_simp;rfl));intro gb135 hg Fm hbox hb;have Aa:=mk_ (hbox);have Ae:=mk_ ((by rw [hg];exact (zr2 (yu0 HB.out)):w.heap.size≤gb135));have Ag:=Ae;replace HB:=mk_ (zr3 (yu0 HB.out) hb);clear hb hbox hg)|((with_reducible refine gate_dst (N:=3) rfl ?_);(try (refine gate_guard (by rfl) ?_;dsimp only));refine box_event ?hg (N:=3) ?hd (cs:=#[.int .i64 a1_0,.slice A1_1 l1_1.length c1_1,.int .i64 a1_2,.int .i64 a1_3,.bool a1_4]) (t:=78) ?hr ?_;(case hd=>rfl);(case hg=>rfl);(case hr=>first|(go_simp;done)|(go_simp;rfl));intro gb136 hg Fn hbox hb;have Ac:=mk_ (hbox);have Af:=mk_ ((by rw [hg];exact (zr2 (yu1 HB.out)):w.heap.size≤gb136));have Ah:=Af;replace HB:=mk_ (zr3 (yu1 HB.out) hb);have Ab:=mk_ ((by rw [hg];exact zm2 (zr6 (by exact Aa.out)):gb135≠gb136));replace Aa:=mk_ (zq6 (by exact Aa.out) hb);have Ad:=mk_ Ab.out.symm;clear hb hbox hg;have E2:=Ab.out;have E3:=Ad.out;obtain ⟨Dv,Dw,Dx,Dy,Dz⟩:=cz5 Aa.out;obtain ⟨D0,D1,D2,D3,D4⟩:=fz5 Aa.out)|((with_reducible refine gate_callee (f:=72) rfl ?_);refine goesL_ (some 6) rfl rfl Try.func72 (by kernel_rfl) rfl #[.agg #[.int .i64 a0_0,.int .i64 a0_1,.int .i64 a0_2,.int .i64 a0_3,.int .i64 a0_4]] rfl am ?_;(with_reducible refine (impl_CfgOk.calls a0_0 a0_1 a0_2 a0_3 a0_4 true _ A3.out).mono ?_);rintro e Fo ⟨rfl,hb⟩;refine ⟨_,rfl,?_⟩;replace Aa:=mk_ (zq6 (by exact Aa.out) hb);replace Ac:=mk_ (zq6 (by exact Ac.out) hb);replace HB:=mk_ (zr3 (yu1 HB.out) hb);(try clear hb);(try clear hb2);(try clear hk);(try clear hi);obtain ⟨D5,D6,D7,D8,D9⟩:=cz5 Ac.out;obtain ⟨Ea,Eb,Ec,Ed,Ee⟩:=fz5 Ac.out)|(go_at_call 65;(with_reducible refine (impl_in.calls a1_0 0 255 true _ A5.out).mono ?_);rintro e w' ⟨rfl,⟨nd,rfl⟩⟩)|(go_at_call 65;(with_reducible refine (impl_in.calls a1_2 0 9999 true _ A7.out).mono ?_);rintro e w' ⟨rfl,⟨nd,rfl⟩⟩)|(go_at_call 65;(with_reducible refine (impl_in.calls a1_3 0 9999 true _ A9.out).mono ?_);rintro e w' ⟨rfl,⟨nd,rfl⟩⟩;obtain ⟨Ef,Eg,Eh,Ei,Ej⟩:=cz5 Aa.out;obtain ⟨Ek,El,Em,En,Eo⟩:=fz5 Aa.out)|(go_at_call 89;(with_reducible refine (impl_CfgOpts_partsOk.calls k a0_0 a0_1 a0_2 a0_3 a0_4 _ _ l1_1 t141 _ ?side1 ?side2 Ep.out).mono ?_);(case side1=>repeat (first|exact (Kd.C_below Aj.out (yu1 HB.out))|(with_reducible refine Kd.C_alloc ?_ _)|(with_reducible refine Kd.C_drewN ?_ _)|(with_reducible refine Kd.C_drew ?_)));(case side2=>exact Ak.out);rintro e Fp ⟨rfl,hb⟩;replace Aa:=mk_ (zq6 (by exact Aa.out) hb);replace Ac:=mk_ (zq6 (by exact Ac.out) hb);replace HB:=mk_ (zr3 (yu1 HB.out) hb);(try clear hb);(try clear hb2);(try clear hk);(try clear hi)))
 go_ret
 exact ⟨by first|rfl|(simp [errW_none,errW_some] <;> rfl)|(simp [*,errW_none,errW_some] <;> rfl),by exact yu1 HB.out⟩

end Go.Proofs.Yteknaofnageihaa.QFnCrdTxOk
