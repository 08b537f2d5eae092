-- Written by a program of this session, a turned copy of the print (not by print.sh itself). Lean checks it.
import Derived.Test.YtfeoeacilclfcaaProg
import Derived.Below
import Derived.Deep.Draws
import Derived.Deep.AppendLies
import Derived.Maps.AppendAt
import Derived.OwnWalk
import Derived.Laws.BytesArg
import Derived.Laws.MakeOwn
import Derived.Laws.OwnMore
import Derived.Deep.OwnRows
import Derived.Tactics
import Derived.Lib.ConvBytes
import Derived.Laws.Slices
import Derived.WalkKit
import Derived.KernelRfl
import Derived.RowKit3
import Derived.Deep.LoopGhost
import Derived.Deep.QuietTactic
import Derived.BigQuiet
import Derived.WideLaws
import Derived.Deep.DeepCutAuto
import Derived.Deep.CutBlock
import Derived.Deep.RegionHeld3
import Derived.Laws.Rows
import Derived.Lib.AppendStr
import Derived.ArgAppend
import Derived.Laws.IdiomCopy
import Derived.OrdersHeld
import Derived.Laws.BitsLemmas
import Derived.RowKit
import Derived.Test.YtfeoeacilclfcaaWWords
import Derived.Test.YtfeoeacilclfcaaWLast
import Derived.Test.YtfeoeacilclfcaaWTab
import Derived.Test.YtfeoeacilclfcaaWFour
import Derived.Test.YtfeoeacilclfcaaWQPut
import Derived.Test.YtfeoeacilclfcaaWApart
import Derived.Test.YtfeoeacilclfcaaWArr
import Derived.Test.YtfeoeacilclfcaaWZeros
import Derived.Test.YtfeoeacilclfcaaWFoot
import Derived.Test.YtfeoeacilclfcaaWKept
import Derived.Test.YtfeoeacilclfcaaWShare
import Derived.Test.YtfeoeacilclfcaaWN
import Derived.Test.YtfeoeacilclfcaaWFootNe
import Derived.Test.YtfeoeacilclfcaaWAt
import Derived.Test.YtfeoeacilclfcaaWEqStruct
import Derived.Test.YtfeoeacilclfcaaWRepsOne
import Derived.Test.YtfeoeacilclfcaaWInv
import Derived.Test.YtfeoeacilclfcaaWInvWords
import Derived.Test.YtfeoeacilclfcaaWGuard
import Derived.Test.YtfeoeacilclfcaaWNEv
import Derived.Test.YtfeoeacilclfcaaWMore
namespace Go.Proofs.Ytfeoeacilclfcaa.QFnExactCfgMeet
open Go.RowKit Go.Proofs.YtfeoeacilclfcaaW.PrintWords Go.Proofs.YtfeoeacilclfcaaW.PrintLast Go.Proofs.YtfeoeacilclfcaaW.PrintMore
attribute [local go_sem] max2_int min2_int max_two min_two max_three min_three max_four min_four   -- for this text's walks alone
set_option linter.unusedVariables false
set_option linter.unusedSimpArgs false



def errW : Option Int → Value
  | none => .nilIface
  | some c => .iface 0 (.int .i64 c)
theorem errW_none : errW none = .nilIface := rfl
theorem errW_some (c : Int) : errW (some c) = .iface 0 (.int .i64 c) := rfl

abbrev q1 := @blk_drewN
abbrev q2 := @blk_drew
abbrev q3 := @blk_alloc
abbrev q4 := @blk_put
abbrev q5 := @blk_far
abbrev q6 := @blk_below
abbrev q7 := @below_alloc
abbrev q8 := @pw_below_drewN
abbrev q9 := @below_drew1
abbrev r1 := @below_set
abbrev r2 := @below_size
abbrev r3 := @below_step
abbrev r4 := @blk_cell
abbrev r5 := @blk_frozen
abbrev mk_ := @Aside0.mk
abbrev r6 := @blk_lt
abbrev r7 := @keep_drewN
abbrev r8 := @keep_drew
abbrev r9 := @keep_alloc
abbrev m1 := @KeepBut.set_
abbrev m2 := @Nat.ne_of_lt
abbrev m3 := @Nat.ne_of_gt

-- the values' own types

end Go.Proofs.Ytfeoeacilclfcaa.QFnExactCfgMeet
