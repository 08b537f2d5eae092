-- Texts by hand for FnTxLeft, FnTxOk.
import Derived.Test.YteknaofnageihaaTkd
import Derived.Test.YteknaofnageihaaQFnTxOkx3
import Derived.Test.YteknaofnageihaaQFnTxOkx4
import Derived.Test.YteknaofnageihaaQFnTxOkx7
import Derived.Test.YteknaofnageihaaQFnTxOkx10
import Derived.Test.YteknaofnageihaaQFnTxOkx12
import Derived.Test.YteknaofnageihaaQFnTxOkx19
import Derived.Test.YteknaofnageihaaQFnTxOkx25
namespace Go.Proofs.Yteknaofnageihaa.QFnTxOk
open Go.RowKit Go.Proofs.YteknaofnageihaaW.PrintWords Go.Proofs.YteknaofnageihaaW.PrintLast Go.Proofs.YteknaofnageihaaW.PrintMore Go.Proofs.YteknaofnageihaaLoc
attribute [local go_sem] max2_int min2_int max_two min_two max_three min_three max_four min_four   -- for this text's walks alone
set_option linter.unusedVariables false
set_option linter.unusedSimpArgs false
end Go.Proofs.Yteknaofnageihaa.QFnTxOk
