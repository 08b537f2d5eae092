/-
  No cell of these rows narrows 'for every input' (looked for: loops, veiled, ifaces, maps, wideKeys, modest, calm, conditions, laid).
  DERIVED. THE GIVEN ROWS OF THIS SEAT. 6 by the template 'for every input the law returns true; each argument reads behind the call as it read before'; 0 by the template 'total and deterministic' (their statements: YtiilmbpknngpfaaTotals.lean).
  GIVEN WITH THE SEED: the statements are not yours to turn. If you find one false, say at which input.
  Laid BY PROGRAM, IN A SANDBOX (cutbox-rows.mjs): the forced cells as the released guide's own fill.sh prints them over the translation d18a21561274f38f… (all of the seat's roots in one cut). By AI agents, Wed Nov 11 2026. No macro, syntax, notation, axiom, sorry.
-/
import Derived.Test.YtiilmbpknngpfaaChecked
import GoSem.Claim
import GoSem.ClaimJoined
import GoSem.ClaimMapViews
import Derived.JoinedTies
import Derived.KernelRfl
namespace Go.Proofs.Ytiilmbpknngpfaa
/- THE CELL 'sum', in the pinned program and in every row, IS THE sha256 OF THE DUMP (.gsa) THAT YtiilmbpknngpfaaProg.lean LOADS. Nothing in Lean hashes anything: it is a label: what it is worth is what the hold of that sum in a sandbox is worth. -/
noncomputable def Try.pinned : Pinned := { name := "ytiilmbpknngpfaa", sum := "d18a21561274f38f7936a2974cde143e7b7b8234a86aae4eec73dccec5dd23db", checked := Try.checked }
namespace Rows
def none {H : Type} : Left H := { results := [], args := [] }

/-- 'laws.FnExactCrdRxOk': WHATEVER THE INPUT: true; the input reads as it did. -/
def fnExactCrdRxOkSpec : ChangeSpec := { name := "fnExactCrdRxOk", fn := fun _ => fun
  | [d] => { results := [.lit (.bool true)], args := [d] }
  | _ => none }
def fnExactCrdRxOkRow : OpenClaim := { program := "ytiilmbpknngpfaa", sum := "d18a21561274f38f7936a2974cde143e7b7b8234a86aae4eec73dccec5dd23db", func := "loop.example/linkboy/laws.FnExactCrdRxOk", spec := "fnExactCrdRxOk", apart := false }
def FnExactCrdRxOkSaid : Prop := fnExactCrdRxOkRow.holds Try.pinned (OpenSpec.ofChange fnExactCrdRxOkSpec)

/-- ITS FALSE NEIGHBOUR: 'it returns false'. Refute it at one input. -/
def fnExactCrdRxOkWrong : ChangeSpec := { name := "fnExactCrdRxOk", fn := fun _ => fun
  | [d] => { results := [.lit (.bool false)], args := [d] }
  | _ => none }
def FnExactCrdRxOkWrongFalsely : Prop := fnExactCrdRxOkRow.holds Try.pinned (OpenSpec.ofChange fnExactCrdRxOkWrong)

/-- 'laws.FnPartOk': WHATEVER THE INPUT: true; the input reads as it did. -/
def fnPartOkSpec : ChangeSpec := { name := "fnPartOk", fn := fun _ => fun
  | [d] => { results := [.lit (.bool true)], args := [d] }
  | _ => none }
def fnPartOkRow : OpenClaim := { program := "ytiilmbpknngpfaa", sum := "d18a21561274f38f7936a2974cde143e7b7b8234a86aae4eec73dccec5dd23db", func := "loop.example/linkboy/laws.FnPartOk", spec := "fnPartOk", apart := false }
def FnPartOkSaid : Prop := fnPartOkRow.holds Try.pinned (OpenSpec.ofChange fnPartOkSpec)

/-- ITS FALSE NEIGHBOUR: 'it returns false'. Refute it at one input. -/
def fnPartOkWrong : ChangeSpec := { name := "fnPartOk", fn := fun _ => fun
  | [d] => { results := [.lit (.bool false)], args := [d] }
  | _ => none }
def FnPartOkWrongFalsely : Prop := fnPartOkRow.holds Try.pinned (OpenSpec.ofChange fnPartOkWrong)

/-- 'laws.FnRxOk': WHATEVER THE INPUT: true; the input reads as it did. -/
def fnRxOkSpec : ChangeSpec := { name := "fnRxOk", fn := fun _ => fun
  | [d] => { results := [.lit (.bool true)], args := [d] }
  | _ => none }
def fnRxOkRow : OpenClaim := { program := "ytiilmbpknngpfaa", sum := "d18a21561274f38f7936a2974cde143e7b7b8234a86aae4eec73dccec5dd23db", func := "loop.example/linkboy/laws.FnRxOk", spec := "fnRxOk", apart := false }
def FnRxOkSaid : Prop := fnRxOkRow.holds Try.pinned (OpenSpec.ofChange fnRxOkSpec)

/-- ITS FALSE NEIGHBOUR: 'it returns false'. Refute it at one input. -/
def fnRxOkWrong : ChangeSpec := { name := "fnRxOk", fn := fun _ => fun
  | [d] => { results := [.lit (.bool false)], args := [d] }
  | _ => none }
def FnRxOkWrongFalsely : Prop := fnRxOkRow.holds Try.pinned (OpenSpec.ofChange fnRxOkWrong)

/-- 'laws.FnNegLess': WHATEVER THE INPUT: true; the input reads as it did. -/
def fnNegLessSpec : ChangeSpec := { name := "fnNegLess", fn := fun _ => fun
  | [d] => { results := [.lit (.bool true)], args := [d] }
  | _ => none }
def fnNegLessRow : OpenClaim := { program := "ytiilmbpknngpfaa", sum := "d18a21561274f38f7936a2974cde143e7b7b8234a86aae4eec73dccec5dd23db", func := "loop.example/linkboy/laws.FnNegLess", spec := "fnNegLess", apart := false }
def FnNegLessSaid : Prop := fnNegLessRow.holds Try.pinned (OpenSpec.ofChange fnNegLessSpec)

/-- ITS FALSE NEIGHBOUR: 'it returns false'. Refute it at one input. -/
def fnNegLessWrong : ChangeSpec := { name := "fnNegLess", fn := fun _ => fun
  | [d] => { results := [.lit (.bool false)], args := [d] }
  | _ => none }
def FnNegLessWrongFalsely : Prop := fnNegLessRow.holds Try.pinned (OpenSpec.ofChange fnNegLessWrong)

/-- 'laws.FnExactRxOk': WHATEVER THE INPUT: true; the input reads as it did. -/
def fnExactRxOkSpec : ChangeSpec := { name := "fnExactRxOk", fn := fun _ => fun
  | [d] => { results := [.lit (.bool true)], args := [d] }
  | _ => none }
def fnExactRxOkRow : OpenClaim := { program := "ytiilmbpknngpfaa", sum := "d18a21561274f38f7936a2974cde143e7b7b8234a86aae4eec73dccec5dd23db", func := "loop.example/linkboy/laws.FnExactRxOk", spec := "fnExactRxOk", apart := false }
def FnExactRxOkSaid : Prop := fnExactRxOkRow.holds Try.pinned (OpenSpec.ofChange fnExactRxOkSpec)

/-- ITS FALSE NEIGHBOUR: 'it returns false'. Refute it at one input. -/
def fnExactRxOkWrong : ChangeSpec := { name := "fnExactRxOk", fn := fun _ => fun
  | [d] => { results := [.lit (.bool false)], args := [d] }
  | _ => none }
def FnExactRxOkWrongFalsely : Prop := fnExactRxOkRow.holds Try.pinned (OpenSpec.ofChange fnExactRxOkWrong)

/-- 'laws.FnSegCount': WHATEVER THE INPUT: true; the input reads as it did. -/
def fnSegCountSpec : ChangeSpec := { name := "fnSegCount", fn := fun _ => fun
  | [d] => { results := [.lit (.bool true)], args := [d] }
  | _ => none }
def fnSegCountRow : OpenClaim := { program := "ytiilmbpknngpfaa", sum := "d18a21561274f38f7936a2974cde143e7b7b8234a86aae4eec73dccec5dd23db", func := "loop.example/linkboy/laws.FnSegCount", spec := "fnSegCount", apart := false }
def FnSegCountSaid : Prop := fnSegCountRow.holds Try.pinned (OpenSpec.ofChange fnSegCountSpec)

/-- ITS FALSE NEIGHBOUR: 'it returns false'. Refute it at one input. -/
def fnSegCountWrong : ChangeSpec := { name := "fnSegCount", fn := fun _ => fun
  | [d] => { results := [.lit (.bool false)], args := [d] }
  | _ => none }
def FnSegCountWrongFalsely : Prop := fnSegCountRow.holds Try.pinned (OpenSpec.ofChange fnSegCountWrong)

/- THE SECOND FORM. 'bulk': how many values and letters a reading holds, each counted each time it is reached (what is shared counts as often as it is met; a slice's spare places count too). A statement '..UptoSaid' is the law's where the arguments, and the package variables that the reading takes, are together of bulk at most 1048576: NARROWER than '..Said'. Prove '..Said' where nothing that the law and all that it calls make is longer than what came in: it says more and counts as full. Else prove '..UptoSaid'. A law counts once. -/
mutual
def uptoBulk {H : Type} : DataW H → Nat
  | .lit (.string bytes) => bytes.length + 1
  | .lit _ => 1
  | .nil => 1
  | .ptr d => uptoBulk d + 1
  | .slice elems spare => uptoBulkAll elems + uptoBulkAll spare + 1
  | .agg parts => uptoBulkAll parts + 1
  | .iface _ d => uptoBulk d + 1
  | .map entries => uptoBulkEntries entries + 1
  | .held _ => 1
def uptoBulkAll {H : Type} : List (DataW H) → Nat
  | [] => 0
  | d :: r => uptoBulk d + uptoBulkAll r
def uptoBulkEntries {H : Type} : List (Lit × DataW H) → Nat
  | [] => 0
  | x :: r => uptoBulkEntry x + uptoBulkEntries r
def uptoBulkEntry {H : Type} : Lit × DataW H → Nat
  | (.string bytes, d) => bytes.length + uptoBulk d + 1
  | (_, d) => uptoBulk d + 1
 end
def uptoSmall : (H : Type) → List (DataW H) → Bool := fun _ ds => decide (uptoBulkAll ds ≤ 1048576)
def OpenSpec.upto (s : _root_.Go.ChangeSpec) : _root_.Go.OpenSpec := { _root_.Go.OpenSpec.ofChange s with cond := some uptoSmall }

/-- 'laws.FnExactCrdRxOk', WHERE WHAT IT READS IS OF BULK AT MOST 1048576: true; the input reads as it did. -/
def fnExactCrdRxOkUptoRow : OpenClaim := { program := "ytiilmbpknngpfaa", sum := "d18a21561274f38f7936a2974cde143e7b7b8234a86aae4eec73dccec5dd23db", func := "loop.example/linkboy/laws.FnExactCrdRxOk", spec := "fnExactCrdRxOk", apart := false, narrowed := true }
def FnExactCrdRxOkUptoSaid : Prop := fnExactCrdRxOkUptoRow.holds Try.pinned (OpenSpec.upto fnExactCrdRxOkSpec)

/-- 'laws.FnPartOk', WHERE WHAT IT READS IS OF BULK AT MOST 1048576: true; the input reads as it did. -/
def fnPartOkUptoRow : OpenClaim := { program := "ytiilmbpknngpfaa", sum := "d18a21561274f38f7936a2974cde143e7b7b8234a86aae4eec73dccec5dd23db", func := "loop.example/linkboy/laws.FnPartOk", spec := "fnPartOk", apart := false, narrowed := true }
def FnPartOkUptoSaid : Prop := fnPartOkUptoRow.holds Try.pinned (OpenSpec.upto fnPartOkSpec)

/-- 'laws.FnRxOk', WHERE WHAT IT READS IS OF BULK AT MOST 1048576: true; the input reads as it did. -/
def fnRxOkUptoRow : OpenClaim := { program := "ytiilmbpknngpfaa", sum := "d18a21561274f38f7936a2974cde143e7b7b8234a86aae4eec73dccec5dd23db", func := "loop.example/linkboy/laws.FnRxOk", spec := "fnRxOk", apart := false, narrowed := true }
def FnRxOkUptoSaid : Prop := fnRxOkUptoRow.holds Try.pinned (OpenSpec.upto fnRxOkSpec)

/-- 'laws.FnNegLess', WHERE WHAT IT READS IS OF BULK AT MOST 1048576: true; the input reads as it did. -/
def fnNegLessUptoRow : OpenClaim := { program := "ytiilmbpknngpfaa", sum := "d18a21561274f38f7936a2974cde143e7b7b8234a86aae4eec73dccec5dd23db", func := "loop.example/linkboy/laws.FnNegLess", spec := "fnNegLess", apart := false, narrowed := true }
def FnNegLessUptoSaid : Prop := fnNegLessUptoRow.holds Try.pinned (OpenSpec.upto fnNegLessSpec)

/-- 'laws.FnExactRxOk', WHERE WHAT IT READS IS OF BULK AT MOST 1048576: true; the input reads as it did. -/
def fnExactRxOkUptoRow : OpenClaim := { program := "ytiilmbpknngpfaa", sum := "d18a21561274f38f7936a2974cde143e7b7b8234a86aae4eec73dccec5dd23db", func := "loop.example/linkboy/laws.FnExactRxOk", spec := "fnExactRxOk", apart := false, narrowed := true }
def FnExactRxOkUptoSaid : Prop := fnExactRxOkUptoRow.holds Try.pinned (OpenSpec.upto fnExactRxOkSpec)

/-- 'laws.FnSegCount', WHERE WHAT IT READS IS OF BULK AT MOST 1048576: true; the input reads as it did. -/
def fnSegCountUptoRow : OpenClaim := { program := "ytiilmbpknngpfaa", sum := "d18a21561274f38f7936a2974cde143e7b7b8234a86aae4eec73dccec5dd23db", func := "loop.example/linkboy/laws.FnSegCount", spec := "fnSegCount", apart := false, narrowed := true }
def FnSegCountUptoSaid : Prop := fnSegCountUptoRow.holds Try.pinned (OpenSpec.upto fnSegCountSpec)

end Rows
end Go.Proofs.Ytiilmbpknngpfaa
