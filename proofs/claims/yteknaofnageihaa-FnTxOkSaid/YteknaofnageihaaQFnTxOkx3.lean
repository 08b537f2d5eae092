-- Written by a program of this session, a turned copy of the print (not by print.sh itself). Lean checks it.
import Derived.Test.YteknaofnageihaaQFnTxOkx0
import Derived.Test.YteknaofnageihaaQFnTxOkx2
namespace Go.Proofs.Yteknaofnageihaa.QFnTxOk
open Go.RowKit Go.Proofs.YteknaofnageihaaW.PrintWords Go.Proofs.YteknaofnageihaaW.PrintLast Go.Proofs.YteknaofnageihaaW.PrintMore Go.Proofs.YteknaofnageihaaLoc
attribute [local go_sem] max2_int min2_int max_two min_two max_three min_three max_four min_four   -- for this text's walks alone
set_option linter.unusedVariables false
set_option linter.unusedSimpArgs false

/-! ### laws_liOk: function 25 -/
def laws_liOk.f  : Option (Bool) := (impl_CfgOk.f 1 1 1 1 1).bind fun t107 => (some t107)
set_option maxHeartbeats 60000000 in
set_option maxRecDepth 100000 in
theorem laws_liOk.calls  (r : Bool) (w : World) (h : laws_liOk.f  = some r) :
  Calls Try.prog 25 #[] w fun e w'=>e=.returned (.bool r)∧Below w.heap.size w w':=by
 have hu66:=Try.underlying66
 have HB:=mk_ (Below.refl w.heap.size w)
 have H:((impl_CfgOk.f 1 1 1 1 1).bind fun t107=>(some t107))=some r:=h
 clear h
 replace H:=Option.bind_eq_some_iff.mp H
 obtain ⟨t107,Aa,H⟩:=H
 try dsimp only at H
 have A1:=mk_ Aa
 clear Aa
 obtain rfl:=Option.some.inj H
 go_enter Try.func25,Try.ntmps25
 go_wp2_with (first|((with_reducible refine gate_callee (f:=72) rfl ?_);refine goesL_ (some 2) rfl rfl Try.func72 (by kernel_rfl) rfl #[.agg #[.int .i64 1,.int .i64 1,.int .i64 1,.int .i64 1,.int .i64 1]] rfl am ?_;(with_reducible refine (impl_CfgOk.calls 1 1 1 1 1 t107 _ A1.out).mono ?_);rintro e w2 ⟨rfl,hb⟩;refine ⟨_,rfl,?_⟩;replace HB:=mk_ (zr3 (yu6 HB.out) hb);(try clear hb);(try clear hb2);(try clear hk);(try clear hi)))
 go_ret
 exact ⟨by first|rfl|(simp [errW_none,errW_some] <;> rfl)|(simp [*,errW_none,errW_some] <;> rfl),by exact yu6 HB.out⟩

end Go.Proofs.Yteknaofnageihaa.QFnTxOk
