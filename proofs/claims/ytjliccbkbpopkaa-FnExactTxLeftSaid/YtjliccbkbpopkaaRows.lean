/-
  No cell of these rows narrows 'for every input' (looked for: loops, veiled, ifaces, maps, wideKeys, modest, calm, conditions, laid).
  DERIVED. THE GIVEN ROWS OF THIS SEAT. 6 by the template 'for every input the law returns true; each argument reads behind the call as it read before'; 0 by the template 'total and deterministic' (their statements: YtjliccbkbpopkaaTotals.lean).
  GIVEN WITH THE SEED: the statements are not yours to turn. If you find one false, say at which input.
  Laid BY PROGRAM, IN A SANDBOX (cutbox-rows.mjs): the forced cells as the released guide's own fill.sh prints them over the translation aa6919a755628667… (all of the seat's roots in one cut). By AI agents, Wed Nov 11 2026. No macro, syntax, notation, axiom, sorry.
-/
import Derived.Test.YtjliccbkbpopkaaChecked
import GoSem.Claim
import GoSem.ClaimJoined
import GoSem.ClaimMapViews
import Derived.JoinedTies
import Derived.KernelRfl
namespace Go.Proofs.Ytjliccbkbpopkaa
/- THE CELL 'sum', in the pinned program and in every row, IS THE sha256 OF THE DUMP (.gsa) THAT YtjliccbkbpopkaaProg.lean LOADS. Nothing in Lean hashes anything: it is a label: what it is worth is what the hold of that sum in a sandbox is worth. -/
noncomputable def Try.pinned : Pinned := { name := "ytjliccbkbpopkaa", sum := "aa6919a7556286674ccb8af791353706c83bb1bfac585530d633a51e1b036a74", checked := Try.checked }
namespace Rows
def none {H : Type} : Left H := { results := [], args := [] }

/-- 'laws.FnExactSegCut': WHATEVER THE INPUT: true; the input reads as it did. -/
def fnExactSegCutSpec : ChangeSpec := { name := "fnExactSegCut", fn := fun _ => fun
  | [d1, d2] => { results := [.lit (.bool true)], args := [d1, d2] }
  | _ => none }
def fnExactSegCutRow : OpenClaim := { program := "ytjliccbkbpopkaa", sum := "aa6919a7556286674ccb8af791353706c83bb1bfac585530d633a51e1b036a74", func := "loop.example/linkboy/laws.FnExactSegCut", spec := "fnExactSegCut", apart := false }
def FnExactSegCutSaid : Prop := fnExactSegCutRow.holds Try.pinned (OpenSpec.ofChange fnExactSegCutSpec)

/-- ITS FALSE NEIGHBOUR: 'it returns false'. Refute it at one input. -/
def fnExactSegCutWrong : ChangeSpec := { name := "fnExactSegCut", fn := fun _ => fun
  | [d1, d2] => { results := [.lit (.bool false)], args := [d1, d2] }
  | _ => none }
def FnExactSegCutWrongFalsely : Prop := fnExactSegCutRow.holds Try.pinned (OpenSpec.ofChange fnExactSegCutWrong)

/-- 'laws.FnExactTxLeft': WHATEVER THE INPUT: true; the input reads as it did. -/
def fnExactTxLeftSpec : ChangeSpec := { name := "fnExactTxLeft", fn := fun _ => fun
  | [d] => { results := [.lit (.bool true)], args := [d] }
  | _ => none }
def fnExactTxLeftRow : OpenClaim := { program := "ytjliccbkbpopkaa", sum := "aa6919a7556286674ccb8af791353706c83bb1bfac585530d633a51e1b036a74", func := "loop.example/linkboy/laws.FnExactTxLeft", spec := "fnExactTxLeft", apart := false }
def FnExactTxLeftSaid : Prop := fnExactTxLeftRow.holds Try.pinned (OpenSpec.ofChange fnExactTxLeftSpec)

/-- ITS FALSE NEIGHBOUR: 'it returns false'. Refute it at one input. -/
def fnExactTxLeftWrong : ChangeSpec := { name := "fnExactTxLeft", fn := fun _ => fun
  | [d] => { results := [.lit (.bool false)], args := [d] }
  | _ => none }
def FnExactTxLeftWrongFalsely : Prop := fnExactTxLeftRow.holds Try.pinned (OpenSpec.ofChange fnExactTxLeftWrong)

/-- 'laws.FnNegComes': WHATEVER THE INPUT: true; the input reads as it did. -/
def fnNegComesSpec : ChangeSpec := { name := "fnNegComes", fn := fun _ => fun
  | [d] => { results := [.lit (.bool true)], args := [d] }
  | _ => none }
def fnNegComesRow : OpenClaim := { program := "ytjliccbkbpopkaa", sum := "aa6919a7556286674ccb8af791353706c83bb1bfac585530d633a51e1b036a74", func := "loop.example/linkboy/laws.FnNegComes", spec := "fnNegComes", apart := false }
def FnNegComesSaid : Prop := fnNegComesRow.holds Try.pinned (OpenSpec.ofChange fnNegComesSpec)

/-- ITS FALSE NEIGHBOUR: 'it returns false'. Refute it at one input. -/
def fnNegComesWrong : ChangeSpec := { name := "fnNegComes", fn := fun _ => fun
  | [d] => { results := [.lit (.bool false)], args := [d] }
  | _ => none }
def FnNegComesWrongFalsely : Prop := fnNegComesRow.holds Try.pinned (OpenSpec.ofChange fnNegComesWrong)

/-- 'laws.FnExactFrmOk': WHATEVER THE INPUT: true; the input reads as it did. -/
def fnExactFrmOkSpec : ChangeSpec := { name := "fnExactFrmOk", fn := fun _ => fun
  | [d] => { results := [.lit (.bool true)], args := [d] }
  | _ => none }
def fnExactFrmOkRow : OpenClaim := { program := "ytjliccbkbpopkaa", sum := "aa6919a7556286674ccb8af791353706c83bb1bfac585530d633a51e1b036a74", func := "loop.example/linkboy/laws.FnExactFrmOk", spec := "fnExactFrmOk", apart := false }
def FnExactFrmOkSaid : Prop := fnExactFrmOkRow.holds Try.pinned (OpenSpec.ofChange fnExactFrmOkSpec)

/-- ITS FALSE NEIGHBOUR: 'it returns false'. Refute it at one input. -/
def fnExactFrmOkWrong : ChangeSpec := { name := "fnExactFrmOk", fn := fun _ => fun
  | [d] => { results := [.lit (.bool false)], args := [d] }
  | _ => none }
def FnExactFrmOkWrongFalsely : Prop := fnExactFrmOkRow.holds Try.pinned (OpenSpec.ofChange fnExactFrmOkWrong)

/-- 'laws.FnNegSame': WHATEVER THE INPUT: true; the input reads as it did. -/
def fnNegSameSpec : ChangeSpec := { name := "fnNegSame", fn := fun _ => fun
  | [d] => { results := [.lit (.bool true)], args := [d] }
  | _ => none }
def fnNegSameRow : OpenClaim := { program := "ytjliccbkbpopkaa", sum := "aa6919a7556286674ccb8af791353706c83bb1bfac585530d633a51e1b036a74", func := "loop.example/linkboy/laws.FnNegSame", spec := "fnNegSame", apart := false }
def FnNegSameSaid : Prop := fnNegSameRow.holds Try.pinned (OpenSpec.ofChange fnNegSameSpec)

/-- ITS FALSE NEIGHBOUR: 'it returns false'. Refute it at one input. -/
def fnNegSameWrong : ChangeSpec := { name := "fnNegSame", fn := fun _ => fun
  | [d] => { results := [.lit (.bool false)], args := [d] }
  | _ => none }
def FnNegSameWrongFalsely : Prop := fnNegSameRow.holds Try.pinned (OpenSpec.ofChange fnNegSameWrong)

/-- 'laws.FnNegOk': WHATEVER THE INPUT: true; the input reads as it did. -/
def fnNegOkSpec : ChangeSpec := { name := "fnNegOk", fn := fun _ => fun
  | [d] => { results := [.lit (.bool true)], args := [d] }
  | _ => none }
def fnNegOkRow : OpenClaim := { program := "ytjliccbkbpopkaa", sum := "aa6919a7556286674ccb8af791353706c83bb1bfac585530d633a51e1b036a74", func := "loop.example/linkboy/laws.FnNegOk", spec := "fnNegOk", apart := false }
def FnNegOkSaid : Prop := fnNegOkRow.holds Try.pinned (OpenSpec.ofChange fnNegOkSpec)

/-- ITS FALSE NEIGHBOUR: 'it returns false'. Refute it at one input. -/
def fnNegOkWrong : ChangeSpec := { name := "fnNegOk", fn := fun _ => fun
  | [d] => { results := [.lit (.bool false)], args := [d] }
  | _ => none }
def FnNegOkWrongFalsely : Prop := fnNegOkRow.holds Try.pinned (OpenSpec.ofChange fnNegOkWrong)

/- THE SECOND FORM. 'bulk': how many values and letters a reading holds, each counted each time it is reached (what is shared counts as often as it is met; a slice's spare places count too). A statement '..UptoSaid' is the law's where the arguments, and the package variables that the reading takes, are together of bulk at most 1048576: NARROWER than '..Said'. Prove '..Said' where nothing that the law and all that it calls make is longer than what came in: it says more and counts as full. Else prove '..UptoSaid'. A law counts once. -/
mutual
def uptoBulk {H : Type} : DataW H → Nat
  | .lit (.string bytes) => bytes.length + 1
  | .lit _ => 1
  | .nil => 1
  | .ptr d => uptoBulk d + 1
  | .slice elems spare => uptoBulkAll elems + uptoBulkAll spare + 1
  | .agg parts => uptoBulkAll parts + 1
  | .iface _ d => uptoBulk d + 1
  | .map entries => uptoBulkEntries entries + 1
  | .held _ => 1
def uptoBulkAll {H : Type} : List (DataW H) → Nat
  | [] => 0
  | d :: r => uptoBulk d + uptoBulkAll r
def uptoBulkEntries {H : Type} : List (Lit × DataW H) → Nat
  | [] => 0
  | x :: r => uptoBulkEntry x + uptoBulkEntries r
def uptoBulkEntry {H : Type} : Lit × DataW H → Nat
  | (.string bytes, d) => bytes.length + uptoBulk d + 1
  | (_, d) => uptoBulk d + 1
 end
def uptoSmall : (H : Type) → List (DataW H) → Bool := fun _ ds => decide (uptoBulkAll ds ≤ 1048576)
def OpenSpec.upto (s : _root_.Go.ChangeSpec) : _root_.Go.OpenSpec := { _root_.Go.OpenSpec.ofChange s with cond := some uptoSmall }

/-- 'laws.FnExactSegCut', WHERE WHAT IT READS IS OF BULK AT MOST 1048576: true; the input reads as it did. -/
def fnExactSegCutUptoRow : OpenClaim := { program := "ytjliccbkbpopkaa", sum := "aa6919a7556286674ccb8af791353706c83bb1bfac585530d633a51e1b036a74", func := "loop.example/linkboy/laws.FnExactSegCut", spec := "fnExactSegCut", apart := false, narrowed := true }
def FnExactSegCutUptoSaid : Prop := fnExactSegCutUptoRow.holds Try.pinned (OpenSpec.upto fnExactSegCutSpec)

/-- 'laws.FnExactTxLeft', WHERE WHAT IT READS IS OF BULK AT MOST 1048576: true; the input reads as it did. -/
def fnExactTxLeftUptoRow : OpenClaim := { program := "ytjliccbkbpopkaa", sum := "aa6919a7556286674ccb8af791353706c83bb1bfac585530d633a51e1b036a74", func := "loop.example/linkboy/laws.FnExactTxLeft", spec := "fnExactTxLeft", apart := false, narrowed := true }
def FnExactTxLeftUptoSaid : Prop := fnExactTxLeftUptoRow.holds Try.pinned (OpenSpec.upto fnExactTxLeftSpec)

/-- 'laws.FnNegComes', WHERE WHAT IT READS IS OF BULK AT MOST 1048576: true; the input reads as it did. -/
def fnNegComesUptoRow : OpenClaim := { program := "ytjliccbkbpopkaa", sum := "aa6919a7556286674ccb8af791353706c83bb1bfac585530d633a51e1b036a74", func := "loop.example/linkboy/laws.FnNegComes", spec := "fnNegComes", apart := false, narrowed := true }
def FnNegComesUptoSaid : Prop := fnNegComesUptoRow.holds Try.pinned (OpenSpec.upto fnNegComesSpec)

/-- 'laws.FnExactFrmOk', WHERE WHAT IT READS IS OF BULK AT MOST 1048576: true; the input reads as it did. -/
def fnExactFrmOkUptoRow : OpenClaim := { program := "ytjliccbkbpopkaa", sum := "aa6919a7556286674ccb8af791353706c83bb1bfac585530d633a51e1b036a74", func := "loop.example/linkboy/laws.FnExactFrmOk", spec := "fnExactFrmOk", apart := false, narrowed := true }
def FnExactFrmOkUptoSaid : Prop := fnExactFrmOkUptoRow.holds Try.pinned (OpenSpec.upto fnExactFrmOkSpec)

/-- 'laws.FnNegSame', WHERE WHAT IT READS IS OF BULK AT MOST 1048576: true; the input reads as it did. -/
def fnNegSameUptoRow : OpenClaim := { program := "ytjliccbkbpopkaa", sum := "aa6919a7556286674ccb8af791353706c83bb1bfac585530d633a51e1b036a74", func := "loop.example/linkboy/laws.FnNegSame", spec := "fnNegSame", apart := false, narrowed := true }
def FnNegSameUptoSaid : Prop := fnNegSameUptoRow.holds Try.pinned (OpenSpec.upto fnNegSameSpec)

/-- 'laws.FnNegOk', WHERE WHAT IT READS IS OF BULK AT MOST 1048576: true; the input reads as it did. -/
def fnNegOkUptoRow : OpenClaim := { program := "ytjliccbkbpopkaa", sum := "aa6919a7556286674ccb8af791353706c83bb1bfac585530d633a51e1b036a74", func := "loop.example/linkboy/laws.FnNegOk", spec := "fnNegOk", apart := false, narrowed := true }
def FnNegOkUptoSaid : Prop := fnNegOkUptoRow.holds Try.pinned (OpenSpec.upto fnNegOkSpec)

end Rows
end Go.Proofs.Ytjliccbkbpopkaa
