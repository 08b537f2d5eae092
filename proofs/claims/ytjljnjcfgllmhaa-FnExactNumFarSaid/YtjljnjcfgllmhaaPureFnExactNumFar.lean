/- The law FnExactNumFar: NumFar of the program is that of the reference, for every two ints. No condition. -/
import Derived.Test.YtjljnjcfgllmhaaPFnExactNumFarx1
namespace Go.Proofs.Ytjljnjcfgllmhaa.Pure
open Go.RowKit Go.Proofs.Ytjljnjcfgllmhaa.PFnExactNumFar Go.Proofs.YtjljnjcfgllmhaaW.PrintWords Go.Proofs.YtjljnjcfgllmhaaW.PrintLast

theorem FnExactNumFar : laws_FnExactNumFar.Pure := by
  intro a0 a1 h0 h1
  have e : impl_NumFar.f a0 a1 = spec_NumFar.f a0 a1 := by
    unfold impl_NumFar.f spec_NumFar.f impl_isNumber.f impl_far.f
    have e2 : impl_in.f = spec_l1In.f := rfl
    rw [e2]
    simp only [Option.bind_assoc, Option.bind_some]
  obtain ⟨r, hr⟩ : ∃ r, spec_NumFar.f a0 a1 = some r := by
    unfold spec_NumFar.f spec_l1In.f
    repeat' split
    all_goals simp
    all_goals (repeat' split)
    all_goals simp
  unfold laws_FnExactNumFar.f
  rw [e, hr]
  simp

end Go.Proofs.Ytjljnjcfgllmhaa.Pure
