/-
  No cell of these rows narrows 'for every input' (looked for: loops, veiled, ifaces, maps, wideKeys, modest, calm, conditions, laid).
  DERIVED. THE GIVEN ROWS OF THIS SEAT. 6 by the template 'for every input the law returns true; each argument reads behind the call as it read before'; 0 by the template 'total and deterministic' (their statements: YtjljnjcfgllmhaaTotals.lean).
  GIVEN WITH THE SEED: the statements are not yours to turn. If you find one false, say at which input.
  Laid BY PROGRAM, IN A SANDBOX (cutbox-rows.mjs): the forced cells as the released guide's own fill.sh prints them over the translation 959a08fbfd144c2d… (all of the seat's roots in one cut). By AI agents, Wed Nov 11 2026. No macro, syntax, notation, axiom, sorry.
-/
import Derived.Test.YtjljnjcfgllmhaaChecked
import GoSem.Claim
import GoSem.ClaimJoined
import GoSem.ClaimMapViews
import Derived.JoinedTies
import Derived.KernelRfl
namespace Go.Proofs.Ytjljnjcfgllmhaa
/- THE CELL 'sum', in the pinned program and in every row, IS THE sha256 OF THE DUMP (.gsa) THAT YtjljnjcfgllmhaaProg.lean LOADS. Nothing in Lean hashes anything: it is a label: what it is worth is what the hold of that sum in a sandbox is worth. -/
noncomputable def Try.pinned : Pinned := { name := "ytjljnjcfgllmhaa", sum := "959a08fbfd144c2d86d97526dc7b25d47194b2d9c6d2f02ea0c66a7d144004f5", checked := Try.checked }
namespace Rows
def none {H : Type} : Left H := { results := [], args := [] }

/-- 'laws.FnExactConstants': WHATEVER THE INPUT: true; the input reads as it did. -/
def fnExactConstantsSpec : ChangeSpec := { name := "fnExactConstants", fn := fun _ => fun
  | [] => { results := [.lit (.bool true)], args := [] }
  | _ => none }
def fnExactConstantsRow : OpenClaim := { program := "ytjljnjcfgllmhaa", sum := "959a08fbfd144c2d86d97526dc7b25d47194b2d9c6d2f02ea0c66a7d144004f5", func := "loop.example/linkboy/laws.FnExactConstants", spec := "fnExactConstants", apart := false }
def FnExactConstantsSaid : Prop := fnExactConstantsRow.holds Try.pinned (OpenSpec.ofChange fnExactConstantsSpec)

/-- ITS FALSE NEIGHBOUR: 'it returns false'. Refute it at one input. -/
def fnExactConstantsWrong : ChangeSpec := { name := "fnExactConstants", fn := fun _ => fun
  | [] => { results := [.lit (.bool false)], args := [] }
  | _ => none }
def FnExactConstantsWrongFalsely : Prop := fnExactConstantsRow.holds Try.pinned (OpenSpec.ofChange fnExactConstantsWrong)

/-- 'laws.FnExactNumNext': WHATEVER THE INPUT: true; the input reads as it did. -/
def fnExactNumNextSpec : ChangeSpec := { name := "fnExactNumNext", fn := fun _ => fun
  | [d] => { results := [.lit (.bool true)], args := [d] }
  | _ => none }
def fnExactNumNextRow : OpenClaim := { program := "ytjljnjcfgllmhaa", sum := "959a08fbfd144c2d86d97526dc7b25d47194b2d9c6d2f02ea0c66a7d144004f5", func := "loop.example/linkboy/laws.FnExactNumNext", spec := "fnExactNumNext", apart := false }
def FnExactNumNextSaid : Prop := fnExactNumNextRow.holds Try.pinned (OpenSpec.ofChange fnExactNumNextSpec)

/-- ITS FALSE NEIGHBOUR: 'it returns false'. Refute it at one input. -/
def fnExactNumNextWrong : ChangeSpec := { name := "fnExactNumNext", fn := fun _ => fun
  | [d] => { results := [.lit (.bool false)], args := [d] }
  | _ => none }
def FnExactNumNextWrongFalsely : Prop := fnExactNumNextRow.holds Try.pinned (OpenSpec.ofChange fnExactNumNextWrong)

/-- 'laws.FnExactNumOf': WHATEVER THE INPUT: true; the input reads as it did. -/
def fnExactNumOfSpec : ChangeSpec := { name := "fnExactNumOf", fn := fun _ => fun
  | [d] => { results := [.lit (.bool true)], args := [d] }
  | _ => none }
def fnExactNumOfRow : OpenClaim := { program := "ytjljnjcfgllmhaa", sum := "959a08fbfd144c2d86d97526dc7b25d47194b2d9c6d2f02ea0c66a7d144004f5", func := "loop.example/linkboy/laws.FnExactNumOf", spec := "fnExactNumOf", apart := false }
def FnExactNumOfSaid : Prop := fnExactNumOfRow.holds Try.pinned (OpenSpec.ofChange fnExactNumOfSpec)

/-- ITS FALSE NEIGHBOUR: 'it returns false'. Refute it at one input. -/
def fnExactNumOfWrong : ChangeSpec := { name := "fnExactNumOf", fn := fun _ => fun
  | [d] => { results := [.lit (.bool false)], args := [d] }
  | _ => none }
def FnExactNumOfWrongFalsely : Prop := fnExactNumOfRow.holds Try.pinned (OpenSpec.ofChange fnExactNumOfWrong)

/-- 'laws.FnExactNumFar': WHATEVER THE INPUT: true; the input reads as it did. -/
def fnExactNumFarSpec : ChangeSpec := { name := "fnExactNumFar", fn := fun _ => fun
  | [d1, d2] => { results := [.lit (.bool true)], args := [d1, d2] }
  | _ => none }
def fnExactNumFarRow : OpenClaim := { program := "ytjljnjcfgllmhaa", sum := "959a08fbfd144c2d86d97526dc7b25d47194b2d9c6d2f02ea0c66a7d144004f5", func := "loop.example/linkboy/laws.FnExactNumFar", spec := "fnExactNumFar", apart := false }
def FnExactNumFarSaid : Prop := fnExactNumFarRow.holds Try.pinned (OpenSpec.ofChange fnExactNumFarSpec)

/-- ITS FALSE NEIGHBOUR: 'it returns false'. Refute it at one input. -/
def fnExactNumFarWrong : ChangeSpec := { name := "fnExactNumFar", fn := fun _ => fun
  | [d1, d2] => { results := [.lit (.bool false)], args := [d1, d2] }
  | _ => none }
def FnExactNumFarWrongFalsely : Prop := fnExactNumFarRow.holds Try.pinned (OpenSpec.ofChange fnExactNumFarWrong)

/-- 'laws.FnExactCfgOk': WHATEVER THE INPUT: true; the input reads as it did. -/
def fnExactCfgOkSpec : ChangeSpec := { name := "fnExactCfgOk", fn := fun _ => fun
  | [d] => { results := [.lit (.bool true)], args := [d] }
  | _ => none }
def fnExactCfgOkRow : OpenClaim := { program := "ytjljnjcfgllmhaa", sum := "959a08fbfd144c2d86d97526dc7b25d47194b2d9c6d2f02ea0c66a7d144004f5", func := "loop.example/linkboy/laws.FnExactCfgOk", spec := "fnExactCfgOk", apart := false }
def FnExactCfgOkSaid : Prop := fnExactCfgOkRow.holds Try.pinned (OpenSpec.ofChange fnExactCfgOkSpec)

/-- ITS FALSE NEIGHBOUR: 'it returns false'. Refute it at one input. -/
def fnExactCfgOkWrong : ChangeSpec := { name := "fnExactCfgOk", fn := fun _ => fun
  | [d] => { results := [.lit (.bool false)], args := [d] }
  | _ => none }
def FnExactCfgOkWrongFalsely : Prop := fnExactCfgOkRow.holds Try.pinned (OpenSpec.ofChange fnExactCfgOkWrong)

/-- 'laws.FnCrdTxOk': WHATEVER THE INPUT: true; the input reads as it did. -/
def fnCrdTxOkSpec : ChangeSpec := { name := "fnCrdTxOk", fn := fun _ => fun
  | [d] => { results := [.lit (.bool true)], args := [d] }
  | _ => none }
def fnCrdTxOkRow : OpenClaim := { program := "ytjljnjcfgllmhaa", sum := "959a08fbfd144c2d86d97526dc7b25d47194b2d9c6d2f02ea0c66a7d144004f5", func := "loop.example/linkboy/laws.FnCrdTxOk", spec := "fnCrdTxOk", unfollowed := true, recurses := true, apart := false }
def FnCrdTxOkSaid : Prop := fnCrdTxOkRow.holds Try.pinned (OpenSpec.ofChange fnCrdTxOkSpec)

/-- ITS FALSE NEIGHBOUR: 'it returns false'. Refute it at one input. -/
def fnCrdTxOkWrong : ChangeSpec := { name := "fnCrdTxOk", fn := fun _ => fun
  | [d] => { results := [.lit (.bool false)], args := [d] }
  | _ => none }
def FnCrdTxOkWrongFalsely : Prop := fnCrdTxOkRow.holds Try.pinned (OpenSpec.ofChange fnCrdTxOkWrong)

/- THE SECOND FORM. 'bulk': how many values and letters a reading holds, each counted each time it is reached (what is shared counts as often as it is met; a slice's spare places count too). A statement '..UptoSaid' is the law's where the arguments, and the package variables that the reading takes, are together of bulk at most 1048576: NARROWER than '..Said'. Prove '..Said' where nothing that the law and all that it calls make is longer than what came in: it says more and counts as full. Else prove '..UptoSaid'. A law counts once. -/
mutual
def uptoBulk {H : Type} : DataW H → Nat
  | .lit (.string bytes) => bytes.length + 1
  | .lit _ => 1
  | .nil => 1
  | .ptr d => uptoBulk d + 1
  | .slice elems spare => uptoBulkAll elems + uptoBulkAll spare + 1
  | .agg parts => uptoBulkAll parts + 1
  | .iface _ d => uptoBulk d + 1
  | .map entries => uptoBulkEntries entries + 1
  | .held _ => 1
def uptoBulkAll {H : Type} : List (DataW H) → Nat
  | [] => 0
  | d :: r => uptoBulk d + uptoBulkAll r
def uptoBulkEntries {H : Type} : List (Lit × DataW H) → Nat
  | [] => 0
  | x :: r => uptoBulkEntry x + uptoBulkEntries r
def uptoBulkEntry {H : Type} : Lit × DataW H → Nat
  | (.string bytes, d) => bytes.length + uptoBulk d + 1
  | (_, d) => uptoBulk d + 1
 end
def uptoSmall : (H : Type) → List (DataW H) → Bool := fun _ ds => decide (uptoBulkAll ds ≤ 1048576)
def OpenSpec.upto (s : _root_.Go.ChangeSpec) : _root_.Go.OpenSpec := { _root_.Go.OpenSpec.ofChange s with cond := some uptoSmall }

/-- 'laws.FnExactConstants', WHERE WHAT IT READS IS OF BULK AT MOST 1048576: true; the input reads as it did. -/
def fnExactConstantsUptoRow : OpenClaim := { program := "ytjljnjcfgllmhaa", sum := "959a08fbfd144c2d86d97526dc7b25d47194b2d9c6d2f02ea0c66a7d144004f5", func := "loop.example/linkboy/laws.FnExactConstants", spec := "fnExactConstants", apart := false, narrowed := true }
def FnExactConstantsUptoSaid : Prop := fnExactConstantsUptoRow.holds Try.pinned (OpenSpec.upto fnExactConstantsSpec)

/-- 'laws.FnExactNumNext', WHERE WHAT IT READS IS OF BULK AT MOST 1048576: true; the input reads as it did. -/
def fnExactNumNextUptoRow : OpenClaim := { program := "ytjljnjcfgllmhaa", sum := "959a08fbfd144c2d86d97526dc7b25d47194b2d9c6d2f02ea0c66a7d144004f5", func := "loop.example/linkboy/laws.FnExactNumNext", spec := "fnExactNumNext", apart := false, narrowed := true }
def FnExactNumNextUptoSaid : Prop := fnExactNumNextUptoRow.holds Try.pinned (OpenSpec.upto fnExactNumNextSpec)

/-- 'laws.FnExactNumOf', WHERE WHAT IT READS IS OF BULK AT MOST 1048576: true; the input reads as it did. -/
def fnExactNumOfUptoRow : OpenClaim := { program := "ytjljnjcfgllmhaa", sum := "959a08fbfd144c2d86d97526dc7b25d47194b2d9c6d2f02ea0c66a7d144004f5", func := "loop.example/linkboy/laws.FnExactNumOf", spec := "fnExactNumOf", apart := false, narrowed := true }
def FnExactNumOfUptoSaid : Prop := fnExactNumOfUptoRow.holds Try.pinned (OpenSpec.upto fnExactNumOfSpec)

/-- 'laws.FnExactNumFar', WHERE WHAT IT READS IS OF BULK AT MOST 1048576: true; the input reads as it did. -/
def fnExactNumFarUptoRow : OpenClaim := { program := "ytjljnjcfgllmhaa", sum := "959a08fbfd144c2d86d97526dc7b25d47194b2d9c6d2f02ea0c66a7d144004f5", func := "loop.example/linkboy/laws.FnExactNumFar", spec := "fnExactNumFar", apart := false, narrowed := true }
def FnExactNumFarUptoSaid : Prop := fnExactNumFarUptoRow.holds Try.pinned (OpenSpec.upto fnExactNumFarSpec)

/-- 'laws.FnExactCfgOk', WHERE WHAT IT READS IS OF BULK AT MOST 1048576: true; the input reads as it did. -/
def fnExactCfgOkUptoRow : OpenClaim := { program := "ytjljnjcfgllmhaa", sum := "959a08fbfd144c2d86d97526dc7b25d47194b2d9c6d2f02ea0c66a7d144004f5", func := "loop.example/linkboy/laws.FnExactCfgOk", spec := "fnExactCfgOk", apart := false, narrowed := true }
def FnExactCfgOkUptoSaid : Prop := fnExactCfgOkUptoRow.holds Try.pinned (OpenSpec.upto fnExactCfgOkSpec)

/-- 'laws.FnCrdTxOk', WHERE WHAT IT READS IS OF BULK AT MOST 1048576: true; the input reads as it did. -/
def fnCrdTxOkUptoRow : OpenClaim := { program := "ytjljnjcfgllmhaa", sum := "959a08fbfd144c2d86d97526dc7b25d47194b2d9c6d2f02ea0c66a7d144004f5", func := "loop.example/linkboy/laws.FnCrdTxOk", spec := "fnCrdTxOk", unfollowed := true, recurses := true, apart := false, narrowed := true }
def FnCrdTxOkUptoSaid : Prop := fnCrdTxOkUptoRow.holds Try.pinned (OpenSpec.upto fnCrdTxOkSpec)

end Rows
end Go.Proofs.Ytjljnjcfgllmhaa
