-- Written by a program of this session, a turned copy of the print (not by print.sh itself). Lean checks it.
import Derived.Test.YteknaofnageihaaQFnTxOkx0
import Derived.Test.YteknaofnageihaaQFnTxOkx11
namespace Go.Proofs.Yteknaofnageihaa.QFnTxOk
open Go.RowKit Go.Proofs.YteknaofnageihaaW.PrintWords Go.Proofs.YteknaofnageihaaW.PrintLast Go.Proofs.YteknaofnageihaaW.PrintMore Go.Proofs.YteknaofnageihaaLoc
attribute [local go_sem] max2_int min2_int max_two min_two max_three min_three max_four min_four   -- for this text's walks alone
set_option linter.unusedVariables false
set_option linter.unusedSimpArgs false

/-! ### spec_NumFar: function 82 -/
def spec_NumFar.f (a0 : Int) (a1 : Int) : Option (Int) := (spec_l1In.f a0 0 7).bind fun t282 => (if t282 = true then ((spec_l1In.f a1 0 7).bind fun t283 => (if t283 = true then (some (Int.tmod (wrap64 ((wrap64 (a1 - a0)) + 8)) 8)) else (some (-1)))) else (some (-1)))
set_option maxHeartbeats 60000000 in
set_option maxRecDepth 100000 in
theorem spec_NumFar.calls (a0 : Int) (a1 : Int) (r : Int) (w : World) (h : spec_NumFar.f a0 a1 = some r) :
  Calls Try.prog 82 #[.int .i64 a0,.int .i64 a1] w fun e w'=>e=.returned (.int .i64 r)∧Drawn0 w w':=by
 have H:((spec_l1In.f a0 0 7).bind fun t282=>(if t282=true then ((spec_l1In.f a1 0 7).bind fun t283=>(if t283=true then (some (Int.tmod (wrap64 ((wrap64 (a1 - a0))+8)) 8)) else (some (-1)))) else (some (-1))))=some r:=h
 clear h
 replace H:=Option.bind_eq_some_iff.mp H
 obtain ⟨t282,Aa,H⟩:=H
 try dsimp only at H
 have A3:=mk_ Aa
 clear Aa
 by_cases c4:t282=true
 rotate_left
 ·replace c4:=Bool.eq_false_iff.mpr c4
  subst c4
  have H1:(some (-1))=some r:=by rw [if_neg (show ¬ (false=true) by decide)] at H;exact H
  clear H
  have H:=H1
  clear H1
  obtain rfl:=Option.some.inj H
  go_enter Try.func82,Try.ntmps82
  go_wp2_with (first|((with_reducible refine gate_callee (f:=64) rfl ?_);refine goesL_ (some 6) rfl rfl Try.func64 (by kernel_rfl) rfl #[.int .i64 a0,.int .i64 0,.int .i64 7] rfl am ?_;(with_reducible refine (spec_l1In.calls a0 0 7 false _ A3.out).mono ?_);rintro e w' ⟨rfl,⟨nd,rfl⟩⟩;refine ⟨_,rfl,?_⟩))
  go_ret
  exact ⟨by first|rfl|(simp;done)|(simp [*];done),by repeat (first|exact Drawn0.refl _|apply Drawn0.step)⟩
 subst c4
 have H1:((spec_l1In.f a1 0 7).bind fun t283=>(if t283=true then (some (Int.tmod (wrap64 ((wrap64 (a1 - a0))+8)) 8)) else (some (-1))))=some r:=by rw [if_pos rfl] at H;exact H
 clear H
 have H:=H1
 clear H1
 replace H:=Option.bind_eq_some_iff.mp H
 obtain ⟨t283,Ab,H⟩:=H
 try dsimp only at H
 have A5:=mk_ Ab
 clear Ab
 have HH_:=mk_ H
 clear H
 go_enter Try.func82,Try.ntmps82
 go_wp2_with (first|((with_reducible refine gate_callee (f:=64) rfl ?_);refine goesL_ (some 6) rfl rfl Try.func64 (by kernel_rfl) rfl #[.int .i64 a0,.int .i64 0,.int .i64 7] rfl am ?_;(with_reducible refine (spec_l1In.calls a0 0 7 true _ A3.out).mono ?_);rintro e w' ⟨rfl,⟨nd,rfl⟩⟩;refine ⟨_,rfl,?_⟩))
 have H:=HH_.out
 clear HH_
 by_cases c6:t283=true
 ·subst c6
  have H1:(some (Int.tmod (wrap64 ((wrap64 (a1 - a0))+8)) 8))=some r:=by rw [if_pos rfl] at H;exact H
  clear H
  have H:=H1
  clear H1
  obtain rfl:=Option.some.inj H
  go_wp2_with (first|(go_at_call 64;(with_reducible refine (spec_l1In.calls a1 0 7 true _ A5.out).mono ?_);rintro e w' ⟨rfl,⟨nd,rfl⟩⟩))
  go_ret
  exact ⟨by first|rfl|(simp;done)|(simp [*];done),by repeat (first|exact Drawn0.refl _|apply Drawn0.step)⟩
 replace c6:=Bool.eq_false_iff.mpr c6
 subst c6
 have H1:(some (-1))=some r:=by rw [if_neg (show ¬ (false=true) by decide)] at H;exact H
 clear H
 have H:=H1
 clear H1
 obtain rfl:=Option.some.inj H
 go_wp2_with (first|(go_at_call 64;(with_reducible refine (spec_l1In.calls a1 0 7 false _ A5.out).mono ?_);rintro e w' ⟨rfl,⟨nd,rfl⟩⟩))
 go_ret
 exact ⟨by first|rfl|(simp;done)|(simp [*];done),by repeat (first|exact Drawn0.refl _|apply Drawn0.step)⟩

end Go.Proofs.Yteknaofnageihaa.QFnTxOk
