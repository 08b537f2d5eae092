-- Texts by hand for FnTxLeft, FnTxOk.
import Derived.Test.YteknaofnageihaaTxd
import Derived.Test.YteknaofnageihaaQFnTxLeftx3
import Derived.Test.YteknaofnageihaaQFnTxLeftx4
import Derived.Test.YteknaofnageihaaQFnTxLeftx7
import Derived.Test.YteknaofnageihaaQFnTxLeftx10
import Derived.Test.YteknaofnageihaaQFnTxLeftx12
import Derived.Test.YteknaofnageihaaQFnTxLeftx19
import Derived.Test.YteknaofnageihaaQFnTxLeftx25
namespace Go.Proofs.Yteknaofnageihaa.QFnTxLeft
open Go.RowKit Go.Proofs.YteknaofnageihaaW.PrintWords Go.Proofs.YteknaofnageihaaW.PrintLast Go.Proofs.YteknaofnageihaaW.PrintMore Go.Proofs.YteknaofnageihaaLoc
attribute [local go_sem] max2_int min2_int max_two min_two max_three min_three max_four min_four   -- for this text's walks alone
set_option linter.unusedVariables false
set_option linter.unusedSimpArgs false
end Go.Proofs.Yteknaofnageihaa.QFnTxLeft
