/- The law FnExactConstants: the constants of the program are those of the reference. No condition. -/
import Derived.Test.YtjljnjcfgllmhaaPFnExactConstantsx1
namespace Go.Proofs.Ytjljnjcfgllmhaa.Pure
open Go.RowKit Go.Proofs.Ytjljnjcfgllmhaa.PFnExactConstants Go.Proofs.YtjljnjcfgllmhaaW.PrintWords Go.Proofs.YtjljnjcfgllmhaaW.PrintLast

theorem FnExactConstants : laws_FnExactConstants.Pure := rfl

end Go.Proofs.Ytjljnjcfgllmhaa.Pure
