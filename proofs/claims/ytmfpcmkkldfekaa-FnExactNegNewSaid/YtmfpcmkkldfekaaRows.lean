/-
  No cell of these rows narrows 'for every input' (looked for: loops, veiled, ifaces, maps, wideKeys, modest, calm, conditions, laid).
  DERIVED. THE GIVEN ROWS OF THIS SEAT. 6 by the template 'for every input the law returns true; each argument reads behind the call as it read before'; 0 by the template 'total and deterministic' (their statements: YtmfpcmkkldfekaaTotals.lean).
  GIVEN WITH THE SEED: the statements are not yours to turn. If you find one false, say at which input.
  Laid BY PROGRAM, IN A SANDBOX (cutbox-rows.mjs): the forced cells as the released guide's own fill.sh prints them over the translation a27e34c06d80f3a8… (all of the seat's roots in one cut). By AI agents, Wed Nov 11 2026. No macro, syntax, notation, axiom, sorry.
-/
import Derived.Test.YtmfpcmkkldfekaaChecked
import GoSem.Claim
import GoSem.ClaimJoined
import GoSem.ClaimMapViews
import Derived.JoinedTies
import Derived.KernelRfl
namespace Go.Proofs.Ytmfpcmkkldfekaa
/- THE CELL 'sum', in the pinned program and in every row, IS THE sha256 OF THE DUMP (.gsa) THAT YtmfpcmkkldfekaaProg.lean LOADS. Nothing in Lean hashes anything: it is a label: what it is worth is what the hold of that sum in a sandbox is worth. -/
noncomputable def Try.pinned : Pinned := { name := "ytmfpcmkkldfekaa", sum := "a27e34c06d80f3a8e6be96c881fdf3e68f82fc80bb6798ec4159a0549b9cd379", checked := Try.checked }
namespace Rows
def none {H : Type} : Left H := { results := [], args := [] }

/-- 'laws.FnTxLeft': WHATEVER THE INPUT: true; the input reads as it did. -/
def fnTxLeftSpec : ChangeSpec := { name := "fnTxLeft", fn := fun _ => fun
  | [d] => { results := [.lit (.bool true)], args := [d] }
  | _ => none }
def fnTxLeftRow : OpenClaim := { program := "ytmfpcmkkldfekaa", sum := "a27e34c06d80f3a8e6be96c881fdf3e68f82fc80bb6798ec4159a0549b9cd379", func := "loop.example/linkboy/laws.FnTxLeft", spec := "fnTxLeft", apart := false }
def FnTxLeftSaid : Prop := fnTxLeftRow.holds Try.pinned (OpenSpec.ofChange fnTxLeftSpec)

/-- ITS FALSE NEIGHBOUR: 'it returns false'. Refute it at one input. -/
def fnTxLeftWrong : ChangeSpec := { name := "fnTxLeft", fn := fun _ => fun
  | [d] => { results := [.lit (.bool false)], args := [d] }
  | _ => none }
def FnTxLeftWrongFalsely : Prop := fnTxLeftRow.holds Try.pinned (OpenSpec.ofChange fnTxLeftWrong)

/-- 'laws.FnCfgOk': WHATEVER THE INPUT: true; the input reads as it did. -/
def fnCfgOkSpec : ChangeSpec := { name := "fnCfgOk", fn := fun _ => fun
  | [d] => { results := [.lit (.bool true)], args := [d] }
  | _ => none }
def fnCfgOkRow : OpenClaim := { program := "ytmfpcmkkldfekaa", sum := "a27e34c06d80f3a8e6be96c881fdf3e68f82fc80bb6798ec4159a0549b9cd379", func := "loop.example/linkboy/laws.FnCfgOk", spec := "fnCfgOk", apart := false }
def FnCfgOkSaid : Prop := fnCfgOkRow.holds Try.pinned (OpenSpec.ofChange fnCfgOkSpec)

/-- ITS FALSE NEIGHBOUR: 'it returns false'. Refute it at one input. -/
def fnCfgOkWrong : ChangeSpec := { name := "fnCfgOk", fn := fun _ => fun
  | [d] => { results := [.lit (.bool false)], args := [d] }
  | _ => none }
def FnCfgOkWrongFalsely : Prop := fnCfgOkRow.holds Try.pinned (OpenSpec.ofChange fnCfgOkWrong)

/-- 'laws.FnExactJoinOk': WHATEVER THE INPUT: true; the input reads as it did. -/
def fnExactJoinOkSpec : ChangeSpec := { name := "fnExactJoinOk", fn := fun _ => fun
  | [d] => { results := [.lit (.bool true)], args := [d] }
  | _ => none }
def fnExactJoinOkRow : OpenClaim := { program := "ytmfpcmkkldfekaa", sum := "a27e34c06d80f3a8e6be96c881fdf3e68f82fc80bb6798ec4159a0549b9cd379", func := "loop.example/linkboy/laws.FnExactJoinOk", spec := "fnExactJoinOk", apart := false }
def FnExactJoinOkSaid : Prop := fnExactJoinOkRow.holds Try.pinned (OpenSpec.ofChange fnExactJoinOkSpec)

/-- ITS FALSE NEIGHBOUR: 'it returns false'. Refute it at one input. -/
def fnExactJoinOkWrong : ChangeSpec := { name := "fnExactJoinOk", fn := fun _ => fun
  | [d] => { results := [.lit (.bool false)], args := [d] }
  | _ => none }
def FnExactJoinOkWrongFalsely : Prop := fnExactJoinOkRow.holds Try.pinned (OpenSpec.ofChange fnExactJoinOkWrong)

/-- 'laws.FnExactCrcOf': WHATEVER THE INPUT: true; the input reads as it did. -/
def fnExactCrcOfSpec : ChangeSpec := { name := "fnExactCrcOf", fn := fun _ => fun
  | [d] => { results := [.lit (.bool true)], args := [d] }
  | _ => none }
def fnExactCrcOfRow : OpenClaim := { program := "ytmfpcmkkldfekaa", sum := "a27e34c06d80f3a8e6be96c881fdf3e68f82fc80bb6798ec4159a0549b9cd379", func := "loop.example/linkboy/laws.FnExactCrcOf", spec := "fnExactCrcOf", apart := false }
def FnExactCrcOfSaid : Prop := fnExactCrcOfRow.holds Try.pinned (OpenSpec.ofChange fnExactCrcOfSpec)

/-- ITS FALSE NEIGHBOUR: 'it returns false'. Refute it at one input. -/
def fnExactCrcOfWrong : ChangeSpec := { name := "fnExactCrcOf", fn := fun _ => fun
  | [d] => { results := [.lit (.bool false)], args := [d] }
  | _ => none }
def FnExactCrcOfWrongFalsely : Prop := fnExactCrcOfRow.holds Try.pinned (OpenSpec.ofChange fnExactCrcOfWrong)

/-- 'laws.FnExactNegNew': WHATEVER THE INPUT: true; the input reads as it did. -/
def fnExactNegNewSpec : ChangeSpec := { name := "fnExactNegNew", fn := fun _ => fun
  | [d] => { results := [.lit (.bool true)], args := [d] }
  | _ => none }
def fnExactNegNewRow : OpenClaim := { program := "ytmfpcmkkldfekaa", sum := "a27e34c06d80f3a8e6be96c881fdf3e68f82fc80bb6798ec4159a0549b9cd379", func := "loop.example/linkboy/laws.FnExactNegNew", spec := "fnExactNegNew", apart := false }
def FnExactNegNewSaid : Prop := fnExactNegNewRow.holds Try.pinned (OpenSpec.ofChange fnExactNegNewSpec)

/-- ITS FALSE NEIGHBOUR: 'it returns false'. Refute it at one input. -/
def fnExactNegNewWrong : ChangeSpec := { name := "fnExactNegNew", fn := fun _ => fun
  | [d] => { results := [.lit (.bool false)], args := [d] }
  | _ => none }
def FnExactNegNewWrongFalsely : Prop := fnExactNegNewRow.holds Try.pinned (OpenSpec.ofChange fnExactNegNewWrong)

/-- 'laws.FnJoinOk': WHATEVER THE INPUT: true; the input reads as it did. -/
def fnJoinOkSpec : ChangeSpec := { name := "fnJoinOk", fn := fun _ => fun
  | [d] => { results := [.lit (.bool true)], args := [d] }
  | _ => none }
def fnJoinOkRow : OpenClaim := { program := "ytmfpcmkkldfekaa", sum := "a27e34c06d80f3a8e6be96c881fdf3e68f82fc80bb6798ec4159a0549b9cd379", func := "loop.example/linkboy/laws.FnJoinOk", spec := "fnJoinOk", apart := false }
def FnJoinOkSaid : Prop := fnJoinOkRow.holds Try.pinned (OpenSpec.ofChange fnJoinOkSpec)

/-- ITS FALSE NEIGHBOUR: 'it returns false'. Refute it at one input. -/
def fnJoinOkWrong : ChangeSpec := { name := "fnJoinOk", fn := fun _ => fun
  | [d] => { results := [.lit (.bool false)], args := [d] }
  | _ => none }
def FnJoinOkWrongFalsely : Prop := fnJoinOkRow.holds Try.pinned (OpenSpec.ofChange fnJoinOkWrong)

/- THE SECOND FORM. 'bulk': how many values and letters a reading holds, each counted each time it is reached (what is shared counts as often as it is met; a slice's spare places count too). A statement '..UptoSaid' is the law's where the arguments, and the package variables that the reading takes, are together of bulk at most 1048576: NARROWER than '..Said'. Prove '..Said' where nothing that the law and all that it calls make is longer than what came in: it says more and counts as full. Else prove '..UptoSaid'. A law counts once. -/
mutual
def uptoBulk {H : Type} : DataW H → Nat
  | .lit (.string bytes) => bytes.length + 1
  | .lit _ => 1
  | .nil => 1
  | .ptr d => uptoBulk d + 1
  | .slice elems spare => uptoBulkAll elems + uptoBulkAll spare + 1
  | .agg parts => uptoBulkAll parts + 1
  | .iface _ d => uptoBulk d + 1
  | .map entries => uptoBulkEntries entries + 1
  | .held _ => 1
def uptoBulkAll {H : Type} : List (DataW H) → Nat
  | [] => 0
  | d :: r => uptoBulk d + uptoBulkAll r
def uptoBulkEntries {H : Type} : List (Lit × DataW H) → Nat
  | [] => 0
  | x :: r => uptoBulkEntry x + uptoBulkEntries r
def uptoBulkEntry {H : Type} : Lit × DataW H → Nat
  | (.string bytes, d) => bytes.length + uptoBulk d + 1
  | (_, d) => uptoBulk d + 1
 end
def uptoSmall : (H : Type) → List (DataW H) → Bool := fun _ ds => decide (uptoBulkAll ds ≤ 1048576)
def OpenSpec.upto (s : _root_.Go.ChangeSpec) : _root_.Go.OpenSpec := { _root_.Go.OpenSpec.ofChange s with cond := some uptoSmall }

/-- 'laws.FnTxLeft', WHERE WHAT IT READS IS OF BULK AT MOST 1048576: true; the input reads as it did. -/
def fnTxLeftUptoRow : OpenClaim := { program := "ytmfpcmkkldfekaa", sum := "a27e34c06d80f3a8e6be96c881fdf3e68f82fc80bb6798ec4159a0549b9cd379", func := "loop.example/linkboy/laws.FnTxLeft", spec := "fnTxLeft", apart := false, narrowed := true }
def FnTxLeftUptoSaid : Prop := fnTxLeftUptoRow.holds Try.pinned (OpenSpec.upto fnTxLeftSpec)

/-- 'laws.FnCfgOk', WHERE WHAT IT READS IS OF BULK AT MOST 1048576: true; the input reads as it did. -/
def fnCfgOkUptoRow : OpenClaim := { program := "ytmfpcmkkldfekaa", sum := "a27e34c06d80f3a8e6be96c881fdf3e68f82fc80bb6798ec4159a0549b9cd379", func := "loop.example/linkboy/laws.FnCfgOk", spec := "fnCfgOk", apart := false, narrowed := true }
def FnCfgOkUptoSaid : Prop := fnCfgOkUptoRow.holds Try.pinned (OpenSpec.upto fnCfgOkSpec)

/-- 'laws.FnExactJoinOk', WHERE WHAT IT READS IS OF BULK AT MOST 1048576: true; the input reads as it did. -/
def fnExactJoinOkUptoRow : OpenClaim := { program := "ytmfpcmkkldfekaa", sum := "a27e34c06d80f3a8e6be96c881fdf3e68f82fc80bb6798ec4159a0549b9cd379", func := "loop.example/linkboy/laws.FnExactJoinOk", spec := "fnExactJoinOk", apart := false, narrowed := true }
def FnExactJoinOkUptoSaid : Prop := fnExactJoinOkUptoRow.holds Try.pinned (OpenSpec.upto fnExactJoinOkSpec)

/-- 'laws.FnExactCrcOf', WHERE WHAT IT READS IS OF BULK AT MOST 1048576: true; the input reads as it did. -/
def fnExactCrcOfUptoRow : OpenClaim := { program := "ytmfpcmkkldfekaa", sum := "a27e34c06d80f3a8e6be96c881fdf3e68f82fc80bb6798ec4159a0549b9cd379", func := "loop.example/linkboy/laws.FnExactCrcOf", spec := "fnExactCrcOf", apart := false, narrowed := true }
def FnExactCrcOfUptoSaid : Prop := fnExactCrcOfUptoRow.holds Try.pinned (OpenSpec.upto fnExactCrcOfSpec)

/-- 'laws.FnExactNegNew', WHERE WHAT IT READS IS OF BULK AT MOST 1048576: true; the input reads as it did. -/
def fnExactNegNewUptoRow : OpenClaim := { program := "ytmfpcmkkldfekaa", sum := "a27e34c06d80f3a8e6be96c881fdf3e68f82fc80bb6798ec4159a0549b9cd379", func := "loop.example/linkboy/laws.FnExactNegNew", spec := "fnExactNegNew", apart := false, narrowed := true }
def FnExactNegNewUptoSaid : Prop := fnExactNegNewUptoRow.holds Try.pinned (OpenSpec.upto fnExactNegNewSpec)

/-- 'laws.FnJoinOk', WHERE WHAT IT READS IS OF BULK AT MOST 1048576: true; the input reads as it did. -/
def fnJoinOkUptoRow : OpenClaim := { program := "ytmfpcmkkldfekaa", sum := "a27e34c06d80f3a8e6be96c881fdf3e68f82fc80bb6798ec4159a0549b9cd379", func := "loop.example/linkboy/laws.FnJoinOk", spec := "fnJoinOk", apart := false, narrowed := true }
def FnJoinOkUptoSaid : Prop := fnJoinOkUptoRow.holds Try.pinned (OpenSpec.upto fnJoinOkSpec)

end Rows
end Go.Proofs.Ytmfpcmkkldfekaa
