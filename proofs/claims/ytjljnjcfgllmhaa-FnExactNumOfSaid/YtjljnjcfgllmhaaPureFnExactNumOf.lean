/- The law FnExactNumOf: NumOf of the program is that of the reference, for every int. No condition. -/
import Derived.Test.YtjljnjcfgllmhaaPFnExactNumOfx1
namespace Go.Proofs.Ytjljnjcfgllmhaa.Pure
open Go.RowKit Go.Proofs.Ytjljnjcfgllmhaa.PFnExactNumOf Go.Proofs.YtjljnjcfgllmhaaW.PrintWords Go.Proofs.YtjljnjcfgllmhaaW.PrintLast

theorem FnExactNumOf : laws_FnExactNumOf.Pure := by
  intro a0 h0
  have e : impl_NumOf.f a0 = spec_NumOf.f a0 := rfl
  unfold laws_FnExactNumOf.f
  rw [e]
  unfold spec_NumOf.f
  split <;> simp

end Go.Proofs.Ytjljnjcfgllmhaa.Pure
