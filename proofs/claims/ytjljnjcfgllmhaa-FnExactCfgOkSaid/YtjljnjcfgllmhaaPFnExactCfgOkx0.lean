-- PRINTED BY print.sh 35421559b90ae4d0a3588c463048766b98c2df88dd9212a6774a882060cdf62d: not written by this session
import Derived.Test.YtjljnjcfgllmhaaProg
import Derived.Below
import Derived.Deep.Draws
import Derived.Deep.AppendLies
import Derived.Maps.AppendAt
import Derived.OwnWalk
import Derived.Laws.BytesArg
import Derived.Laws.MakeOwn
import Derived.Laws.OwnMore
import Derived.Deep.OwnRows
import Derived.Tactics
import Derived.Lib.ConvBytes
import Derived.Laws.Slices
import Derived.WalkKit
import Derived.KernelRfl
import Derived.RowKit3
import Derived.Deep.LoopGhost
import Derived.Deep.QuietTactic
import Derived.BigQuiet
import Derived.WideLaws
import Derived.Deep.DeepCutAuto
import Derived.Deep.CutBlock
import Derived.Deep.RegionHeld3
import Derived.Laws.Rows
import Derived.Lib.AppendStr
import Derived.ArgAppend
import Derived.Laws.IdiomCopy
import Derived.OrdersHeld
import Derived.Laws.BitsLemmas
import Derived.RowKit
import Derived.Test.YtjljnjcfgllmhaaWWords
import Derived.Test.YtjljnjcfgllmhaaWLast
import Derived.Test.YtjljnjcfgllmhaaWTab
import Derived.Test.YtjljnjcfgllmhaaWFour
import Derived.Test.YtjljnjcfgllmhaaWQPut
import Derived.Test.YtjljnjcfgllmhaaWApart
import Derived.Test.YtjljnjcfgllmhaaWArr
import Derived.Test.YtjljnjcfgllmhaaWZeros
import Derived.Test.YtjljnjcfgllmhaaWFoot
import Derived.Test.YtjljnjcfgllmhaaWKept
import Derived.Test.YtjljnjcfgllmhaaWShare
import Derived.Test.YtjljnjcfgllmhaaWN
import Derived.Test.YtjljnjcfgllmhaaWFootNe
import Derived.Test.YtjljnjcfgllmhaaWAt
import Derived.Test.YtjljnjcfgllmhaaWEqStruct
import Derived.Test.YtjljnjcfgllmhaaWRepsOne
import Derived.Test.YtjljnjcfgllmhaaWInv
import Derived.Test.YtjljnjcfgllmhaaWInvWords
import Derived.Test.YtjljnjcfgllmhaaWGuard
import Derived.Test.YtjljnjcfgllmhaaWNEv
import Derived.Test.YtjljnjcfgllmhaaWMore
namespace Go.Proofs.Ytjljnjcfgllmhaa.PFnExactCfgOk
open Go.RowKit Go.Proofs.YtjljnjcfgllmhaaW.PrintWords Go.Proofs.YtjljnjcfgllmhaaW.PrintLast Go.Proofs.YtjljnjcfgllmhaaW.PrintMore
attribute [local go_sem] max2_int min2_int max_two min_two max_three min_three max_four min_four   -- for this text's walks alone
set_option linter.unusedVariables false
set_option linter.unusedSimpArgs false



def errW : Option Int → Value
  | none => .nilIface
  | some c => .iface 0 (.int .i64 c)
theorem errW_none : errW none = .nilIface := rfl
theorem errW_some (c : Int) : errW (some c) = .iface 0 (.int .i64 c) := rfl

-- the values' own types

end Go.Proofs.Ytjljnjcfgllmhaa.PFnExactCfgOk
