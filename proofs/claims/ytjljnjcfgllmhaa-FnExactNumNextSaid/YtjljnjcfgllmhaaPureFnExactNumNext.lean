/- The law FnExactNumNext: NumNext of the program is that of the reference, for every int. No condition. -/
import Derived.Test.YtjljnjcfgllmhaaPFnExactNumNextx1
namespace Go.Proofs.Ytjljnjcfgllmhaa.Pure
open Go.RowKit Go.Proofs.Ytjljnjcfgllmhaa.PFnExactNumNext Go.Proofs.YtjljnjcfgllmhaaW.PrintWords Go.Proofs.YtjljnjcfgllmhaaW.PrintLast

theorem FnExactNumNext : laws_FnExactNumNext.Pure := by
  intro a0 h0
  unfold laws_FnExactNumNext.f spec_NumNext.f impl_NumNext.f
  simp

end Go.Proofs.Ytjljnjcfgllmhaa.Pure
