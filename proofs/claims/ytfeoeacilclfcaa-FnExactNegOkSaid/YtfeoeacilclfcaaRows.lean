/-
  No cell of these rows narrows 'for every input' (looked for: loops, veiled, ifaces, maps, wideKeys, modest, calm, conditions, laid).
  DERIVED. THE GIVEN ROWS OF THIS SEAT. 6 by the template 'for every input the law returns true; each argument reads behind the call as it read before'; 0 by the template 'total and deterministic' (their statements: YtfeoeacilclfcaaTotals.lean).
  GIVEN WITH THE SEED: the statements are not yours to turn. If you find one false, say at which input.
  Laid BY PROGRAM, IN A SANDBOX (cutbox-rows.mjs): the forced cells as the released guide's own fill.sh prints them over the translation 12ab66aa8311960c… (all of the seat's roots in one cut). By AI agents, Wed Nov 11 2026. No macro, syntax, notation, axiom, sorry.
-/
import Derived.Test.YtfeoeacilclfcaaChecked
import GoSem.Claim
import GoSem.ClaimJoined
import GoSem.ClaimMapViews
import Derived.JoinedTies
import Derived.KernelRfl
namespace Go.Proofs.Ytfeoeacilclfcaa
/- THE CELL 'sum', in the pinned program and in every row, IS THE sha256 OF THE DUMP (.gsa) THAT YtfeoeacilclfcaaProg.lean LOADS. Nothing in Lean hashes anything: it is a label: what it is worth is what the hold of that sum in a sandbox is worth. -/
noncomputable def Try.pinned : Pinned := { name := "ytfeoeacilclfcaa", sum := "12ab66aa8311960c0e663f0bdd041867e003c8242ad098b2609636436b3dffc5", checked := Try.checked }
namespace Rows
def none {H : Type} : Left H := { results := [], args := [] }

/-- 'laws.FnExactCrcStep': WHATEVER THE INPUT: true; the input reads as it did. -/
def fnExactCrcStepSpec : ChangeSpec := { name := "fnExactCrcStep", fn := fun _ => fun
  | [d1, d2] => { results := [.lit (.bool true)], args := [d1, d2] }
  | _ => none }
def fnExactCrcStepRow : OpenClaim := { program := "ytfeoeacilclfcaa", sum := "12ab66aa8311960c0e663f0bdd041867e003c8242ad098b2609636436b3dffc5", func := "loop.example/linkboy/laws.FnExactCrcStep", spec := "fnExactCrcStep", apart := false }
def FnExactCrcStepSaid : Prop := fnExactCrcStepRow.holds Try.pinned (OpenSpec.ofChange fnExactCrcStepSpec)

/-- ITS FALSE NEIGHBOUR: 'it returns false'. Refute it at one input. -/
def fnExactCrcStepWrong : ChangeSpec := { name := "fnExactCrcStep", fn := fun _ => fun
  | [d1, d2] => { results := [.lit (.bool false)], args := [d1, d2] }
  | _ => none }
def FnExactCrcStepWrongFalsely : Prop := fnExactCrcStepRow.holds Try.pinned (OpenSpec.ofChange fnExactCrcStepWrong)

/-- 'laws.FnExactNegOk': WHATEVER THE INPUT: true; the input reads as it did. -/
def fnExactNegOkSpec : ChangeSpec := { name := "fnExactNegOk", fn := fun _ => fun
  | [d] => { results := [.lit (.bool true)], args := [d] }
  | _ => none }
def fnExactNegOkRow : OpenClaim := { program := "ytfeoeacilclfcaa", sum := "12ab66aa8311960c0e663f0bdd041867e003c8242ad098b2609636436b3dffc5", func := "loop.example/linkboy/laws.FnExactNegOk", spec := "fnExactNegOk", apart := false }
def FnExactNegOkSaid : Prop := fnExactNegOkRow.holds Try.pinned (OpenSpec.ofChange fnExactNegOkSpec)

/-- ITS FALSE NEIGHBOUR: 'it returns false'. Refute it at one input. -/
def fnExactNegOkWrong : ChangeSpec := { name := "fnExactNegOk", fn := fun _ => fun
  | [d] => { results := [.lit (.bool false)], args := [d] }
  | _ => none }
def FnExactNegOkWrongFalsely : Prop := fnExactNegOkRow.holds Try.pinned (OpenSpec.ofChange fnExactNegOkWrong)

/-- 'laws.FnNumWay': WHATEVER THE INPUT: true; the input reads as it did. -/
def fnNumWaySpec : ChangeSpec := { name := "fnNumWay", fn := fun _ => fun
  | [d1, d2] => { results := [.lit (.bool true)], args := [d1, d2] }
  | _ => none }
def fnNumWayRow : OpenClaim := { program := "ytfeoeacilclfcaa", sum := "12ab66aa8311960c0e663f0bdd041867e003c8242ad098b2609636436b3dffc5", func := "loop.example/linkboy/laws.FnNumWay", spec := "fnNumWay", apart := false }
def FnNumWaySaid : Prop := fnNumWayRow.holds Try.pinned (OpenSpec.ofChange fnNumWaySpec)

/-- ITS FALSE NEIGHBOUR: 'it returns false'. Refute it at one input. -/
def fnNumWayWrong : ChangeSpec := { name := "fnNumWay", fn := fun _ => fun
  | [d1, d2] => { results := [.lit (.bool false)], args := [d1, d2] }
  | _ => none }
def FnNumWayWrongFalsely : Prop := fnNumWayRow.holds Try.pinned (OpenSpec.ofChange fnNumWayWrong)

/-- 'laws.FnNumFar': WHATEVER THE INPUT: true; the input reads as it did. -/
def fnNumFarSpec : ChangeSpec := { name := "fnNumFar", fn := fun _ => fun
  | [d] => { results := [.lit (.bool true)], args := [d] }
  | _ => none }
def fnNumFarRow : OpenClaim := { program := "ytfeoeacilclfcaa", sum := "12ab66aa8311960c0e663f0bdd041867e003c8242ad098b2609636436b3dffc5", func := "loop.example/linkboy/laws.FnNumFar", spec := "fnNumFar", apart := false }
def FnNumFarSaid : Prop := fnNumFarRow.holds Try.pinned (OpenSpec.ofChange fnNumFarSpec)

/-- ITS FALSE NEIGHBOUR: 'it returns false'. Refute it at one input. -/
def fnNumFarWrong : ChangeSpec := { name := "fnNumFar", fn := fun _ => fun
  | [d] => { results := [.lit (.bool false)], args := [d] }
  | _ => none }
def FnNumFarWrongFalsely : Prop := fnNumFarRow.holds Try.pinned (OpenSpec.ofChange fnNumFarWrong)

/-- 'laws.FnNumOf': WHATEVER THE INPUT: true; the input reads as it did. -/
def fnNumOfSpec : ChangeSpec := { name := "fnNumOf", fn := fun _ => fun
  | [d] => { results := [.lit (.bool true)], args := [d] }
  | _ => none }
def fnNumOfRow : OpenClaim := { program := "ytfeoeacilclfcaa", sum := "12ab66aa8311960c0e663f0bdd041867e003c8242ad098b2609636436b3dffc5", func := "loop.example/linkboy/laws.FnNumOf", spec := "fnNumOf", apart := false }
def FnNumOfSaid : Prop := fnNumOfRow.holds Try.pinned (OpenSpec.ofChange fnNumOfSpec)

/-- ITS FALSE NEIGHBOUR: 'it returns false'. Refute it at one input. -/
def fnNumOfWrong : ChangeSpec := { name := "fnNumOf", fn := fun _ => fun
  | [d] => { results := [.lit (.bool false)], args := [d] }
  | _ => none }
def FnNumOfWrongFalsely : Prop := fnNumOfRow.holds Try.pinned (OpenSpec.ofChange fnNumOfWrong)

/-- 'laws.FnExactCfgMeet': WHATEVER THE INPUT: true; the input reads as it did. -/
def fnExactCfgMeetSpec : ChangeSpec := { name := "fnExactCfgMeet", fn := fun _ => fun
  | [d1, d2] => { results := [.lit (.bool true)], args := [d1, d2] }
  | _ => none }
def fnExactCfgMeetRow : OpenClaim := { program := "ytfeoeacilclfcaa", sum := "12ab66aa8311960c0e663f0bdd041867e003c8242ad098b2609636436b3dffc5", func := "loop.example/linkboy/laws.FnExactCfgMeet", spec := "fnExactCfgMeet", apart := false }
def FnExactCfgMeetSaid : Prop := fnExactCfgMeetRow.holds Try.pinned (OpenSpec.ofChange fnExactCfgMeetSpec)

/-- ITS FALSE NEIGHBOUR: 'it returns false'. Refute it at one input. -/
def fnExactCfgMeetWrong : ChangeSpec := { name := "fnExactCfgMeet", fn := fun _ => fun
  | [d1, d2] => { results := [.lit (.bool false)], args := [d1, d2] }
  | _ => none }
def FnExactCfgMeetWrongFalsely : Prop := fnExactCfgMeetRow.holds Try.pinned (OpenSpec.ofChange fnExactCfgMeetWrong)

/- THE SECOND FORM. 'bulk': how many values and letters a reading holds, each counted each time it is reached (what is shared counts as often as it is met; a slice's spare places count too). A statement '..UptoSaid' is the law's where the arguments, and the package variables that the reading takes, are together of bulk at most 1048576: NARROWER than '..Said'. Prove '..Said' where nothing that the law and all that it calls make is longer than what came in: it says more and counts as full. Else prove '..UptoSaid'. A law counts once. -/
mutual
def uptoBulk {H : Type} : DataW H → Nat
  | .lit (.string bytes) => bytes.length + 1
  | .lit _ => 1
  | .nil => 1
  | .ptr d => uptoBulk d + 1
  | .slice elems spare => uptoBulkAll elems + uptoBulkAll spare + 1
  | .agg parts => uptoBulkAll parts + 1
  | .iface _ d => uptoBulk d + 1
  | .map entries => uptoBulkEntries entries + 1
  | .held _ => 1
def uptoBulkAll {H : Type} : List (DataW H) → Nat
  | [] => 0
  | d :: r => uptoBulk d + uptoBulkAll r
def uptoBulkEntries {H : Type} : List (Lit × DataW H) → Nat
  | [] => 0
  | x :: r => uptoBulkEntry x + uptoBulkEntries r
def uptoBulkEntry {H : Type} : Lit × DataW H → Nat
  | (.string bytes, d) => bytes.length + uptoBulk d + 1
  | (_, d) => uptoBulk d + 1
 end
def uptoSmall : (H : Type) → List (DataW H) → Bool := fun _ ds => decide (uptoBulkAll ds ≤ 1048576)
def OpenSpec.upto (s : _root_.Go.ChangeSpec) : _root_.Go.OpenSpec := { _root_.Go.OpenSpec.ofChange s with cond := some uptoSmall }

/-- 'laws.FnExactCrcStep', WHERE WHAT IT READS IS OF BULK AT MOST 1048576: true; the input reads as it did. -/
def fnExactCrcStepUptoRow : OpenClaim := { program := "ytfeoeacilclfcaa", sum := "12ab66aa8311960c0e663f0bdd041867e003c8242ad098b2609636436b3dffc5", func := "loop.example/linkboy/laws.FnExactCrcStep", spec := "fnExactCrcStep", apart := false, narrowed := true }
def FnExactCrcStepUptoSaid : Prop := fnExactCrcStepUptoRow.holds Try.pinned (OpenSpec.upto fnExactCrcStepSpec)

/-- 'laws.FnExactNegOk', WHERE WHAT IT READS IS OF BULK AT MOST 1048576: true; the input reads as it did. -/
def fnExactNegOkUptoRow : OpenClaim := { program := "ytfeoeacilclfcaa", sum := "12ab66aa8311960c0e663f0bdd041867e003c8242ad098b2609636436b3dffc5", func := "loop.example/linkboy/laws.FnExactNegOk", spec := "fnExactNegOk", apart := false, narrowed := true }
def FnExactNegOkUptoSaid : Prop := fnExactNegOkUptoRow.holds Try.pinned (OpenSpec.upto fnExactNegOkSpec)

/-- 'laws.FnNumWay', WHERE WHAT IT READS IS OF BULK AT MOST 1048576: true; the input reads as it did. -/
def fnNumWayUptoRow : OpenClaim := { program := "ytfeoeacilclfcaa", sum := "12ab66aa8311960c0e663f0bdd041867e003c8242ad098b2609636436b3dffc5", func := "loop.example/linkboy/laws.FnNumWay", spec := "fnNumWay", apart := false, narrowed := true }
def FnNumWayUptoSaid : Prop := fnNumWayUptoRow.holds Try.pinned (OpenSpec.upto fnNumWaySpec)

/-- 'laws.FnNumFar', WHERE WHAT IT READS IS OF BULK AT MOST 1048576: true; the input reads as it did. -/
def fnNumFarUptoRow : OpenClaim := { program := "ytfeoeacilclfcaa", sum := "12ab66aa8311960c0e663f0bdd041867e003c8242ad098b2609636436b3dffc5", func := "loop.example/linkboy/laws.FnNumFar", spec := "fnNumFar", apart := false, narrowed := true }
def FnNumFarUptoSaid : Prop := fnNumFarUptoRow.holds Try.pinned (OpenSpec.upto fnNumFarSpec)

/-- 'laws.FnNumOf', WHERE WHAT IT READS IS OF BULK AT MOST 1048576: true; the input reads as it did. -/
def fnNumOfUptoRow : OpenClaim := { program := "ytfeoeacilclfcaa", sum := "12ab66aa8311960c0e663f0bdd041867e003c8242ad098b2609636436b3dffc5", func := "loop.example/linkboy/laws.FnNumOf", spec := "fnNumOf", apart := false, narrowed := true }
def FnNumOfUptoSaid : Prop := fnNumOfUptoRow.holds Try.pinned (OpenSpec.upto fnNumOfSpec)

/-- 'laws.FnExactCfgMeet', WHERE WHAT IT READS IS OF BULK AT MOST 1048576: true; the input reads as it did. -/
def fnExactCfgMeetUptoRow : OpenClaim := { program := "ytfeoeacilclfcaa", sum := "12ab66aa8311960c0e663f0bdd041867e003c8242ad098b2609636436b3dffc5", func := "loop.example/linkboy/laws.FnExactCfgMeet", spec := "fnExactCfgMeet", apart := false, narrowed := true }
def FnExactCfgMeetUptoSaid : Prop := fnExactCfgMeetUptoRow.holds Try.pinned (OpenSpec.upto fnExactCfgMeetSpec)

end Rows
end Go.Proofs.Ytfeoeacilclfcaa
