/-
  No cell of these rows narrows 'for every input' (looked for: loops, veiled, ifaces, maps, wideKeys, modest, calm, conditions, laid).
  DERIVED. THE GIVEN ROWS OF THIS SEAT. 12 by the template 'for every input the law returns true; each argument reads behind the call as it read before'; 0 by the template 'total and deterministic' (their statements: YteknaofnageihaaTotals.lean).
  GIVEN WITH THE SEED: the statements are not yours to turn. If you find one false, say at which input.
  Laid BY PROGRAM, IN A SANDBOX (cutbox-rows.mjs): the forced cells as the released guide's own fill.sh prints them over the translation 675b267b8e8c63c2… (all of the seat's roots in one cut). By AI agents, Wed Nov 11 2026. No macro, syntax, notation, axiom, sorry.
-/
import Derived.Test.YteknaofnageihaaChecked
import GoSem.Claim
import GoSem.ClaimJoined
import GoSem.ClaimMapViews
import Derived.JoinedTies
import Derived.KernelRfl
namespace Go.Proofs.Yteknaofnageihaa
/- THE CELL 'sum', in the pinned program and in every row, IS THE sha256 OF THE DUMP (.gsa) THAT YteknaofnageihaaProg.lean LOADS. Nothing in Lean hashes anything: it is a label: what it is worth is what the hold of that sum in a sandbox is worth. -/
noncomputable def Try.pinned : Pinned := { name := "yteknaofnageihaa", sum := "675b267b8e8c63c28830c60c59611107a56e604d08e81a1cbaacef5d0e2b5c51", checked := Try.checked }
namespace Rows
def none {H : Type} : Left H := { results := [], args := [] }

/-- 'laws.FnExactSegCut': WHATEVER THE INPUT: true; the input reads as it did. -/
def fnExactSegCutSpec : ChangeSpec := { name := "fnExactSegCut", fn := fun _ => fun
  | [d1, d2] => { results := [.lit (.bool true)], args := [d1, d2] }
  | _ => none }
def fnExactSegCutRow : OpenClaim := { program := "yteknaofnageihaa", sum := "675b267b8e8c63c28830c60c59611107a56e604d08e81a1cbaacef5d0e2b5c51", func := "loop.example/linkboy/laws.FnExactSegCut", spec := "fnExactSegCut", apart := false }
def FnExactSegCutSaid : Prop := fnExactSegCutRow.holds Try.pinned (OpenSpec.ofChange fnExactSegCutSpec)

/-- ITS FALSE NEIGHBOUR: 'it returns false'. Refute it at one input. -/
def fnExactSegCutWrong : ChangeSpec := { name := "fnExactSegCut", fn := fun _ => fun
  | [d1, d2] => { results := [.lit (.bool false)], args := [d1, d2] }
  | _ => none }
def FnExactSegCutWrongFalsely : Prop := fnExactSegCutRow.holds Try.pinned (OpenSpec.ofChange fnExactSegCutWrong)

/-- 'laws.FnSegCut': WHATEVER THE INPUT: true; the input reads as it did. -/
def fnSegCutSpec : ChangeSpec := { name := "fnSegCut", fn := fun _ => fun
  | [d] => { results := [.lit (.bool true)], args := [d] }
  | _ => none }
def fnSegCutRow : OpenClaim := { program := "yteknaofnageihaa", sum := "675b267b8e8c63c28830c60c59611107a56e604d08e81a1cbaacef5d0e2b5c51", func := "loop.example/linkboy/laws.FnSegCut", spec := "fnSegCut", apart := false }
def FnSegCutSaid : Prop := fnSegCutRow.holds Try.pinned (OpenSpec.ofChange fnSegCutSpec)

/-- ITS FALSE NEIGHBOUR: 'it returns false'. Refute it at one input. -/
def fnSegCutWrong : ChangeSpec := { name := "fnSegCut", fn := fun _ => fun
  | [d] => { results := [.lit (.bool false)], args := [d] }
  | _ => none }
def FnSegCutWrongFalsely : Prop := fnSegCutRow.holds Try.pinned (OpenSpec.ofChange fnSegCutWrong)

/-- 'laws.FnSegCount': WHATEVER THE INPUT: true; the input reads as it did. -/
def fnSegCountSpec : ChangeSpec := { name := "fnSegCount", fn := fun _ => fun
  | [d] => { results := [.lit (.bool true)], args := [d] }
  | _ => none }
def fnSegCountRow : OpenClaim := { program := "yteknaofnageihaa", sum := "675b267b8e8c63c28830c60c59611107a56e604d08e81a1cbaacef5d0e2b5c51", func := "loop.example/linkboy/laws.FnSegCount", spec := "fnSegCount", apart := false }
def FnSegCountSaid : Prop := fnSegCountRow.holds Try.pinned (OpenSpec.ofChange fnSegCountSpec)

/-- ITS FALSE NEIGHBOUR: 'it returns false'. Refute it at one input. -/
def fnSegCountWrong : ChangeSpec := { name := "fnSegCount", fn := fun _ => fun
  | [d] => { results := [.lit (.bool false)], args := [d] }
  | _ => none }
def FnSegCountWrongFalsely : Prop := fnSegCountRow.holds Try.pinned (OpenSpec.ofChange fnSegCountWrong)

/-- 'laws.FnSegLost': WHATEVER THE INPUT: true; the input reads as it did. -/
def fnSegLostSpec : ChangeSpec := { name := "fnSegLost", fn := fun _ => fun
  | [d] => { results := [.lit (.bool true)], args := [d] }
  | _ => none }
def fnSegLostRow : OpenClaim := { program := "yteknaofnageihaa", sum := "675b267b8e8c63c28830c60c59611107a56e604d08e81a1cbaacef5d0e2b5c51", func := "loop.example/linkboy/laws.FnSegLost", spec := "fnSegLost", apart := false }
def FnSegLostSaid : Prop := fnSegLostRow.holds Try.pinned (OpenSpec.ofChange fnSegLostSpec)

/-- ITS FALSE NEIGHBOUR: 'it returns false'. Refute it at one input. -/
def fnSegLostWrong : ChangeSpec := { name := "fnSegLost", fn := fun _ => fun
  | [d] => { results := [.lit (.bool false)], args := [d] }
  | _ => none }
def FnSegLostWrongFalsely : Prop := fnSegLostRow.holds Try.pinned (OpenSpec.ofChange fnSegLostWrong)

/-- 'laws.FnSegTwo': WHATEVER THE INPUT: true; the input reads as it did. -/
def fnSegTwoSpec : ChangeSpec := { name := "fnSegTwo", fn := fun _ => fun
  | [d1, d2] => { results := [.lit (.bool true)], args := [d1, d2] }
  | _ => none }
def fnSegTwoRow : OpenClaim := { program := "yteknaofnageihaa", sum := "675b267b8e8c63c28830c60c59611107a56e604d08e81a1cbaacef5d0e2b5c51", func := "loop.example/linkboy/laws.FnSegTwo", spec := "fnSegTwo", apart := false }
def FnSegTwoSaid : Prop := fnSegTwoRow.holds Try.pinned (OpenSpec.ofChange fnSegTwoSpec)

/-- ITS FALSE NEIGHBOUR: 'it returns false'. Refute it at one input. -/
def fnSegTwoWrong : ChangeSpec := { name := "fnSegTwo", fn := fun _ => fun
  | [d1, d2] => { results := [.lit (.bool false)], args := [d1, d2] }
  | _ => none }
def FnSegTwoWrongFalsely : Prop := fnSegTwoRow.holds Try.pinned (OpenSpec.ofChange fnSegTwoWrong)

/-- 'laws.FnExactSegPut': WHATEVER THE INPUT: true; the input reads as it did. -/
def fnExactSegPutSpec : ChangeSpec := { name := "fnExactSegPut", fn := fun _ => fun
  | [d1, d2] => { results := [.lit (.bool true)], args := [d1, d2] }
  | _ => none }
def fnExactSegPutRow : OpenClaim := { program := "yteknaofnageihaa", sum := "675b267b8e8c63c28830c60c59611107a56e604d08e81a1cbaacef5d0e2b5c51", func := "loop.example/linkboy/laws.FnExactSegPut", spec := "fnExactSegPut", apart := false }
def FnExactSegPutSaid : Prop := fnExactSegPutRow.holds Try.pinned (OpenSpec.ofChange fnExactSegPutSpec)

/-- ITS FALSE NEIGHBOUR: 'it returns false'. Refute it at one input. -/
def fnExactSegPutWrong : ChangeSpec := { name := "fnExactSegPut", fn := fun _ => fun
  | [d1, d2] => { results := [.lit (.bool false)], args := [d1, d2] }
  | _ => none }
def FnExactSegPutWrongFalsely : Prop := fnExactSegPutRow.holds Try.pinned (OpenSpec.ofChange fnExactSegPutWrong)

/-- 'laws.FnSegPut': WHATEVER THE INPUT: true; the input reads as it did. -/
def fnSegPutSpec : ChangeSpec := { name := "fnSegPut", fn := fun _ => fun
  | [d] => { results := [.lit (.bool true)], args := [d] }
  | _ => none }
def fnSegPutRow : OpenClaim := { program := "yteknaofnageihaa", sum := "675b267b8e8c63c28830c60c59611107a56e604d08e81a1cbaacef5d0e2b5c51", func := "loop.example/linkboy/laws.FnSegPut", spec := "fnSegPut", apart := false }
def FnSegPutSaid : Prop := fnSegPutRow.holds Try.pinned (OpenSpec.ofChange fnSegPutSpec)

/-- ITS FALSE NEIGHBOUR: 'it returns false'. Refute it at one input. -/
def fnSegPutWrong : ChangeSpec := { name := "fnSegPut", fn := fun _ => fun
  | [d] => { results := [.lit (.bool false)], args := [d] }
  | _ => none }
def FnSegPutWrongFalsely : Prop := fnSegPutRow.holds Try.pinned (OpenSpec.ofChange fnSegPutWrong)

/-- 'laws.FnExactTxOk': WHATEVER THE INPUT: true; the input reads as it did. -/
def fnExactTxOkSpec : ChangeSpec := { name := "fnExactTxOk", fn := fun _ => fun
  | [d1, d2] => { results := [.lit (.bool true)], args := [d1, d2] }
  | _ => none }
def fnExactTxOkRow : OpenClaim := { program := "yteknaofnageihaa", sum := "675b267b8e8c63c28830c60c59611107a56e604d08e81a1cbaacef5d0e2b5c51", func := "loop.example/linkboy/laws.FnExactTxOk", spec := "fnExactTxOk", unfollowed := true, recurses := true, apart := false }
def FnExactTxOkSaid : Prop := fnExactTxOkRow.holds Try.pinned (OpenSpec.ofChange fnExactTxOkSpec)

/-- ITS FALSE NEIGHBOUR: 'it returns false'. Refute it at one input. -/
def fnExactTxOkWrong : ChangeSpec := { name := "fnExactTxOk", fn := fun _ => fun
  | [d1, d2] => { results := [.lit (.bool false)], args := [d1, d2] }
  | _ => none }
def FnExactTxOkWrongFalsely : Prop := fnExactTxOkRow.holds Try.pinned (OpenSpec.ofChange fnExactTxOkWrong)

/-- 'laws.FnExactCrdTxOk': WHATEVER THE INPUT: true; the input reads as it did. -/
def fnExactCrdTxOkSpec : ChangeSpec := { name := "fnExactCrdTxOk", fn := fun _ => fun
  | [d1, d2] => { results := [.lit (.bool true)], args := [d1, d2] }
  | _ => none }
def fnExactCrdTxOkRow : OpenClaim := { program := "yteknaofnageihaa", sum := "675b267b8e8c63c28830c60c59611107a56e604d08e81a1cbaacef5d0e2b5c51", func := "loop.example/linkboy/laws.FnExactCrdTxOk", spec := "fnExactCrdTxOk", unfollowed := true, recurses := true, apart := false }
def FnExactCrdTxOkSaid : Prop := fnExactCrdTxOkRow.holds Try.pinned (OpenSpec.ofChange fnExactCrdTxOkSpec)

/-- ITS FALSE NEIGHBOUR: 'it returns false'. Refute it at one input. -/
def fnExactCrdTxOkWrong : ChangeSpec := { name := "fnExactCrdTxOk", fn := fun _ => fun
  | [d1, d2] => { results := [.lit (.bool false)], args := [d1, d2] }
  | _ => none }
def FnExactCrdTxOkWrongFalsely : Prop := fnExactCrdTxOkRow.holds Try.pinned (OpenSpec.ofChange fnExactCrdTxOkWrong)

/-- 'laws.FnTxOk': WHATEVER THE INPUT: true; the input reads as it did. -/
def fnTxOkSpec : ChangeSpec := { name := "fnTxOk", fn := fun _ => fun
  | [d] => { results := [.lit (.bool true)], args := [d] }
  | _ => none }
def fnTxOkRow : OpenClaim := { program := "yteknaofnageihaa", sum := "675b267b8e8c63c28830c60c59611107a56e604d08e81a1cbaacef5d0e2b5c51", func := "loop.example/linkboy/laws.FnTxOk", spec := "fnTxOk", unfollowed := true, recurses := true, apart := false }
def FnTxOkSaid : Prop := fnTxOkRow.holds Try.pinned (OpenSpec.ofChange fnTxOkSpec)

/-- ITS FALSE NEIGHBOUR: 'it returns false'. Refute it at one input. -/
def fnTxOkWrong : ChangeSpec := { name := "fnTxOk", fn := fun _ => fun
  | [d] => { results := [.lit (.bool false)], args := [d] }
  | _ => none }
def FnTxOkWrongFalsely : Prop := fnTxOkRow.holds Try.pinned (OpenSpec.ofChange fnTxOkWrong)

/-- 'laws.FnCrdTxOk': WHATEVER THE INPUT: true; the input reads as it did. -/
def fnCrdTxOkSpec : ChangeSpec := { name := "fnCrdTxOk", fn := fun _ => fun
  | [d] => { results := [.lit (.bool true)], args := [d] }
  | _ => none }
def fnCrdTxOkRow : OpenClaim := { program := "yteknaofnageihaa", sum := "675b267b8e8c63c28830c60c59611107a56e604d08e81a1cbaacef5d0e2b5c51", func := "loop.example/linkboy/laws.FnCrdTxOk", spec := "fnCrdTxOk", unfollowed := true, recurses := true, apart := false }
def FnCrdTxOkSaid : Prop := fnCrdTxOkRow.holds Try.pinned (OpenSpec.ofChange fnCrdTxOkSpec)

/-- ITS FALSE NEIGHBOUR: 'it returns false'. Refute it at one input. -/
def fnCrdTxOkWrong : ChangeSpec := { name := "fnCrdTxOk", fn := fun _ => fun
  | [d] => { results := [.lit (.bool false)], args := [d] }
  | _ => none }
def FnCrdTxOkWrongFalsely : Prop := fnCrdTxOkRow.holds Try.pinned (OpenSpec.ofChange fnCrdTxOkWrong)

/-- 'laws.FnTxLeft': WHATEVER THE INPUT: true; the input reads as it did. -/
def fnTxLeftSpec : ChangeSpec := { name := "fnTxLeft", fn := fun _ => fun
  | [d] => { results := [.lit (.bool true)], args := [d] }
  | _ => none }
def fnTxLeftRow : OpenClaim := { program := "yteknaofnageihaa", sum := "675b267b8e8c63c28830c60c59611107a56e604d08e81a1cbaacef5d0e2b5c51", func := "loop.example/linkboy/laws.FnTxLeft", spec := "fnTxLeft", apart := false }
def FnTxLeftSaid : Prop := fnTxLeftRow.holds Try.pinned (OpenSpec.ofChange fnTxLeftSpec)

/-- ITS FALSE NEIGHBOUR: 'it returns false'. Refute it at one input. -/
def fnTxLeftWrong : ChangeSpec := { name := "fnTxLeft", fn := fun _ => fun
  | [d] => { results := [.lit (.bool false)], args := [d] }
  | _ => none }
def FnTxLeftWrongFalsely : Prop := fnTxLeftRow.holds Try.pinned (OpenSpec.ofChange fnTxLeftWrong)

/- THE SECOND FORM. 'bulk': how many values and letters a reading holds, each counted each time it is reached (what is shared counts as often as it is met; a slice's spare places count too). A statement '..UptoSaid' is the law's where the arguments, and the package variables that the reading takes, are together of bulk at most 1048576: NARROWER than '..Said'. Prove '..Said' where nothing that the law and all that it calls make is longer than what came in: it says more and counts as full. Else prove '..UptoSaid'. A law counts once. -/
mutual
def uptoBulk {H : Type} : DataW H → Nat
  | .lit (.string bytes) => bytes.length + 1
  | .lit _ => 1
  | .nil => 1
  | .ptr d => uptoBulk d + 1
  | .slice elems spare => uptoBulkAll elems + uptoBulkAll spare + 1
  | .agg parts => uptoBulkAll parts + 1
  | .iface _ d => uptoBulk d + 1
  | .map entries => uptoBulkEntries entries + 1
  | .held _ => 1
def uptoBulkAll {H : Type} : List (DataW H) → Nat
  | [] => 0
  | d :: r => uptoBulk d + uptoBulkAll r
def uptoBulkEntries {H : Type} : List (Lit × DataW H) → Nat
  | [] => 0
  | x :: r => uptoBulkEntry x + uptoBulkEntries r
def uptoBulkEntry {H : Type} : Lit × DataW H → Nat
  | (.string bytes, d) => bytes.length + uptoBulk d + 1
  | (_, d) => uptoBulk d + 1
 end
def uptoSmall : (H : Type) → List (DataW H) → Bool := fun _ ds => decide (uptoBulkAll ds ≤ 1048576)
def OpenSpec.upto (s : _root_.Go.ChangeSpec) : _root_.Go.OpenSpec := { _root_.Go.OpenSpec.ofChange s with cond := some uptoSmall }

/-- 'laws.FnExactSegCut', WHERE WHAT IT READS IS OF BULK AT MOST 1048576: true; the input reads as it did. -/
def fnExactSegCutUptoRow : OpenClaim := { program := "yteknaofnageihaa", sum := "675b267b8e8c63c28830c60c59611107a56e604d08e81a1cbaacef5d0e2b5c51", func := "loop.example/linkboy/laws.FnExactSegCut", spec := "fnExactSegCut", apart := false, narrowed := true }
def FnExactSegCutUptoSaid : Prop := fnExactSegCutUptoRow.holds Try.pinned (OpenSpec.upto fnExactSegCutSpec)

/-- 'laws.FnSegCut', WHERE WHAT IT READS IS OF BULK AT MOST 1048576: true; the input reads as it did. -/
def fnSegCutUptoRow : OpenClaim := { program := "yteknaofnageihaa", sum := "675b267b8e8c63c28830c60c59611107a56e604d08e81a1cbaacef5d0e2b5c51", func := "loop.example/linkboy/laws.FnSegCut", spec := "fnSegCut", apart := false, narrowed := true }
def FnSegCutUptoSaid : Prop := fnSegCutUptoRow.holds Try.pinned (OpenSpec.upto fnSegCutSpec)

/-- 'laws.FnSegCount', WHERE WHAT IT READS IS OF BULK AT MOST 1048576: true; the input reads as it did. -/
def fnSegCountUptoRow : OpenClaim := { program := "yteknaofnageihaa", sum := "675b267b8e8c63c28830c60c59611107a56e604d08e81a1cbaacef5d0e2b5c51", func := "loop.example/linkboy/laws.FnSegCount", spec := "fnSegCount", apart := false, narrowed := true }
def FnSegCountUptoSaid : Prop := fnSegCountUptoRow.holds Try.pinned (OpenSpec.upto fnSegCountSpec)

/-- 'laws.FnSegLost', WHERE WHAT IT READS IS OF BULK AT MOST 1048576: true; the input reads as it did. -/
def fnSegLostUptoRow : OpenClaim := { program := "yteknaofnageihaa", sum := "675b267b8e8c63c28830c60c59611107a56e604d08e81a1cbaacef5d0e2b5c51", func := "loop.example/linkboy/laws.FnSegLost", spec := "fnSegLost", apart := false, narrowed := true }
def FnSegLostUptoSaid : Prop := fnSegLostUptoRow.holds Try.pinned (OpenSpec.upto fnSegLostSpec)

/-- 'laws.FnSegTwo', WHERE WHAT IT READS IS OF BULK AT MOST 1048576: true; the input reads as it did. -/
def fnSegTwoUptoRow : OpenClaim := { program := "yteknaofnageihaa", sum := "675b267b8e8c63c28830c60c59611107a56e604d08e81a1cbaacef5d0e2b5c51", func := "loop.example/linkboy/laws.FnSegTwo", spec := "fnSegTwo", apart := false, narrowed := true }
def FnSegTwoUptoSaid : Prop := fnSegTwoUptoRow.holds Try.pinned (OpenSpec.upto fnSegTwoSpec)

/-- 'laws.FnExactSegPut', WHERE WHAT IT READS IS OF BULK AT MOST 1048576: true; the input reads as it did. -/
def fnExactSegPutUptoRow : OpenClaim := { program := "yteknaofnageihaa", sum := "675b267b8e8c63c28830c60c59611107a56e604d08e81a1cbaacef5d0e2b5c51", func := "loop.example/linkboy/laws.FnExactSegPut", spec := "fnExactSegPut", apart := false, narrowed := true }
def FnExactSegPutUptoSaid : Prop := fnExactSegPutUptoRow.holds Try.pinned (OpenSpec.upto fnExactSegPutSpec)

/-- 'laws.FnSegPut', WHERE WHAT IT READS IS OF BULK AT MOST 1048576: true; the input reads as it did. -/
def fnSegPutUptoRow : OpenClaim := { program := "yteknaofnageihaa", sum := "675b267b8e8c63c28830c60c59611107a56e604d08e81a1cbaacef5d0e2b5c51", func := "loop.example/linkboy/laws.FnSegPut", spec := "fnSegPut", apart := false, narrowed := true }
def FnSegPutUptoSaid : Prop := fnSegPutUptoRow.holds Try.pinned (OpenSpec.upto fnSegPutSpec)

/-- 'laws.FnExactTxOk', WHERE WHAT IT READS IS OF BULK AT MOST 1048576: true; the input reads as it did. -/
def fnExactTxOkUptoRow : OpenClaim := { program := "yteknaofnageihaa", sum := "675b267b8e8c63c28830c60c59611107a56e604d08e81a1cbaacef5d0e2b5c51", func := "loop.example/linkboy/laws.FnExactTxOk", spec := "fnExactTxOk", unfollowed := true, recurses := true, apart := false, narrowed := true }
def FnExactTxOkUptoSaid : Prop := fnExactTxOkUptoRow.holds Try.pinned (OpenSpec.upto fnExactTxOkSpec)

/-- 'laws.FnExactCrdTxOk', WHERE WHAT IT READS IS OF BULK AT MOST 1048576: true; the input reads as it did. -/
def fnExactCrdTxOkUptoRow : OpenClaim := { program := "yteknaofnageihaa", sum := "675b267b8e8c63c28830c60c59611107a56e604d08e81a1cbaacef5d0e2b5c51", func := "loop.example/linkboy/laws.FnExactCrdTxOk", spec := "fnExactCrdTxOk", unfollowed := true, recurses := true, apart := false, narrowed := true }
def FnExactCrdTxOkUptoSaid : Prop := fnExactCrdTxOkUptoRow.holds Try.pinned (OpenSpec.upto fnExactCrdTxOkSpec)

/-- 'laws.FnTxOk', WHERE WHAT IT READS IS OF BULK AT MOST 1048576: true; the input reads as it did. -/
def fnTxOkUptoRow : OpenClaim := { program := "yteknaofnageihaa", sum := "675b267b8e8c63c28830c60c59611107a56e604d08e81a1cbaacef5d0e2b5c51", func := "loop.example/linkboy/laws.FnTxOk", spec := "fnTxOk", unfollowed := true, recurses := true, apart := false, narrowed := true }
def FnTxOkUptoSaid : Prop := fnTxOkUptoRow.holds Try.pinned (OpenSpec.upto fnTxOkSpec)

/-- 'laws.FnCrdTxOk', WHERE WHAT IT READS IS OF BULK AT MOST 1048576: true; the input reads as it did. -/
def fnCrdTxOkUptoRow : OpenClaim := { program := "yteknaofnageihaa", sum := "675b267b8e8c63c28830c60c59611107a56e604d08e81a1cbaacef5d0e2b5c51", func := "loop.example/linkboy/laws.FnCrdTxOk", spec := "fnCrdTxOk", unfollowed := true, recurses := true, apart := false, narrowed := true }
def FnCrdTxOkUptoSaid : Prop := fnCrdTxOkUptoRow.holds Try.pinned (OpenSpec.upto fnCrdTxOkSpec)

/-- 'laws.FnTxLeft', WHERE WHAT IT READS IS OF BULK AT MOST 1048576: true; the input reads as it did. -/
def fnTxLeftUptoRow : OpenClaim := { program := "yteknaofnageihaa", sum := "675b267b8e8c63c28830c60c59611107a56e604d08e81a1cbaacef5d0e2b5c51", func := "loop.example/linkboy/laws.FnTxLeft", spec := "fnTxLeft", apart := false, narrowed := true }
def FnTxLeftUptoSaid : Prop := fnTxLeftUptoRow.holds Try.pinned (OpenSpec.upto fnTxLeftSpec)

end Rows
end Go.Proofs.Yteknaofnageihaa
