/-
  No cell of these rows narrows 'for every input' (looked for: loops, veiled, ifaces, maps, wideKeys, modest, calm, conditions, laid).
  DERIVED. THE GIVEN ROWS OF THIS SEAT. 10 by the template 'for every input the law returns true; each argument reads behind the call as it read before'; 0 by the template 'total and deterministic' (their statements: YtoigmeiollfklaaTotals.lean).
  GIVEN WITH THE SEED: the statements are not yours to turn. If you find one false, say at which input.
  Laid BY PROGRAM, IN A SANDBOX (cutbox-rows.mjs): the forced cells as the released guide's own fill.sh prints them over the translation 37e0fd5c54c21bd3… (all of the seat's roots in one cut). By AI agents, Wed Nov 11 2026. No macro, syntax, notation, axiom, sorry.
-/
import Derived.Test.YtoigmeiollfklaaChecked
import GoSem.Claim
import GoSem.ClaimJoined
import GoSem.ClaimMapViews
import Derived.JoinedTies
import Derived.KernelRfl
namespace Go.Proofs.Ytoigmeiollfklaa
/- THE CELL 'sum', in the pinned program and in every row, IS THE sha256 OF THE DUMP (.gsa) THAT YtoigmeiollfklaaProg.lean LOADS. Nothing in Lean hashes anything: it is a label: what it is worth is what the hold of that sum in a sandbox is worth. -/
noncomputable def Try.pinned : Pinned := { name := "ytoigmeiollfklaa", sum := "37e0fd5c54c21bd317fb7a85ef527b5e5c6b5a1a927fded62d58245a24b48369", checked := Try.checked }
namespace Rows
def none {H : Type} : Left H := { results := [], args := [] }

/-- 'laws.FnExactNegHear': WHATEVER THE INPUT: true; the input reads as it did. -/
def fnExactNegHearSpec : ChangeSpec := { name := "fnExactNegHear", fn := fun _ => fun
  | [d1, d2] => { results := [.lit (.bool true)], args := [d1, d2] }
  | _ => none }
def fnExactNegHearRow : OpenClaim := { program := "ytoigmeiollfklaa", sum := "37e0fd5c54c21bd317fb7a85ef527b5e5c6b5a1a927fded62d58245a24b48369", func := "loop.example/linkboy/laws.FnExactNegHear", spec := "fnExactNegHear", apart := false }
def FnExactNegHearSaid : Prop := fnExactNegHearRow.holds Try.pinned (OpenSpec.ofChange fnExactNegHearSpec)

/-- ITS FALSE NEIGHBOUR: 'it returns false'. Refute it at one input. -/
def fnExactNegHearWrong : ChangeSpec := { name := "fnExactNegHear", fn := fun _ => fun
  | [d1, d2] => { results := [.lit (.bool false)], args := [d1, d2] }
  | _ => none }
def FnExactNegHearWrongFalsely : Prop := fnExactNegHearRow.holds Try.pinned (OpenSpec.ofChange fnExactNegHearWrong)

/-- 'laws.FnNegOk': WHATEVER THE INPUT: true; the input reads as it did. -/
def fnNegOkSpec : ChangeSpec := { name := "fnNegOk", fn := fun _ => fun
  | [d] => { results := [.lit (.bool true)], args := [d] }
  | _ => none }
def fnNegOkRow : OpenClaim := { program := "ytoigmeiollfklaa", sum := "37e0fd5c54c21bd317fb7a85ef527b5e5c6b5a1a927fded62d58245a24b48369", func := "loop.example/linkboy/laws.FnNegOk", spec := "fnNegOk", apart := false }
def FnNegOkSaid : Prop := fnNegOkRow.holds Try.pinned (OpenSpec.ofChange fnNegOkSpec)

/-- ITS FALSE NEIGHBOUR: 'it returns false'. Refute it at one input. -/
def fnNegOkWrong : ChangeSpec := { name := "fnNegOk", fn := fun _ => fun
  | [d] => { results := [.lit (.bool false)], args := [d] }
  | _ => none }
def FnNegOkWrongFalsely : Prop := fnNegOkRow.holds Try.pinned (OpenSpec.ofChange fnNegOkWrong)

/-- 'laws.FnNegSay': WHATEVER THE INPUT: true; the input reads as it did. -/
def fnNegSaySpec : ChangeSpec := { name := "fnNegSay", fn := fun _ => fun
  | [d1, d2] => { results := [.lit (.bool true)], args := [d1, d2] }
  | _ => none }
def fnNegSayRow : OpenClaim := { program := "ytoigmeiollfklaa", sum := "37e0fd5c54c21bd317fb7a85ef527b5e5c6b5a1a927fded62d58245a24b48369", func := "loop.example/linkboy/laws.FnNegSay", spec := "fnNegSay", apart := false }
def FnNegSaySaid : Prop := fnNegSayRow.holds Try.pinned (OpenSpec.ofChange fnNegSaySpec)

/-- ITS FALSE NEIGHBOUR: 'it returns false'. Refute it at one input. -/
def fnNegSayWrong : ChangeSpec := { name := "fnNegSay", fn := fun _ => fun
  | [d1, d2] => { results := [.lit (.bool false)], args := [d1, d2] }
  | _ => none }
def FnNegSayWrongFalsely : Prop := fnNegSayRow.holds Try.pinned (OpenSpec.ofChange fnNegSayWrong)

/-- 'laws.FnNegHear': WHATEVER THE INPUT: true; the input reads as it did. -/
def fnNegHearSpec : ChangeSpec := { name := "fnNegHear", fn := fun _ => fun
  | [d] => { results := [.lit (.bool true)], args := [d] }
  | _ => none }
def fnNegHearRow : OpenClaim := { program := "ytoigmeiollfklaa", sum := "37e0fd5c54c21bd317fb7a85ef527b5e5c6b5a1a927fded62d58245a24b48369", func := "loop.example/linkboy/laws.FnNegHear", spec := "fnNegHear", apart := false }
def FnNegHearSaid : Prop := fnNegHearRow.holds Try.pinned (OpenSpec.ofChange fnNegHearSpec)

/-- ITS FALSE NEIGHBOUR: 'it returns false'. Refute it at one input. -/
def fnNegHearWrong : ChangeSpec := { name := "fnNegHear", fn := fun _ => fun
  | [d] => { results := [.lit (.bool false)], args := [d] }
  | _ => none }
def FnNegHearWrongFalsely : Prop := fnNegHearRow.holds Try.pinned (OpenSpec.ofChange fnNegHearWrong)

/-- 'laws.FnNegTwice': WHATEVER THE INPUT: true; the input reads as it did. -/
def fnNegTwiceSpec : ChangeSpec := { name := "fnNegTwice", fn := fun _ => fun
  | [d] => { results := [.lit (.bool true)], args := [d] }
  | _ => none }
def fnNegTwiceRow : OpenClaim := { program := "ytoigmeiollfklaa", sum := "37e0fd5c54c21bd317fb7a85ef527b5e5c6b5a1a927fded62d58245a24b48369", func := "loop.example/linkboy/laws.FnNegTwice", spec := "fnNegTwice", apart := false }
def FnNegTwiceSaid : Prop := fnNegTwiceRow.holds Try.pinned (OpenSpec.ofChange fnNegTwiceSpec)

/-- ITS FALSE NEIGHBOUR: 'it returns false'. Refute it at one input. -/
def fnNegTwiceWrong : ChangeSpec := { name := "fnNegTwice", fn := fun _ => fun
  | [d] => { results := [.lit (.bool false)], args := [d] }
  | _ => none }
def FnNegTwiceWrongFalsely : Prop := fnNegTwiceRow.holds Try.pinned (OpenSpec.ofChange fnNegTwiceWrong)

/-- 'laws.FnNegLess': WHATEVER THE INPUT: true; the input reads as it did. -/
def fnNegLessSpec : ChangeSpec := { name := "fnNegLess", fn := fun _ => fun
  | [d] => { results := [.lit (.bool true)], args := [d] }
  | _ => none }
def fnNegLessRow : OpenClaim := { program := "ytoigmeiollfklaa", sum := "37e0fd5c54c21bd317fb7a85ef527b5e5c6b5a1a927fded62d58245a24b48369", func := "loop.example/linkboy/laws.FnNegLess", spec := "fnNegLess", apart := false }
def FnNegLessSaid : Prop := fnNegLessRow.holds Try.pinned (OpenSpec.ofChange fnNegLessSpec)

/-- ITS FALSE NEIGHBOUR: 'it returns false'. Refute it at one input. -/
def fnNegLessWrong : ChangeSpec := { name := "fnNegLess", fn := fun _ => fun
  | [d] => { results := [.lit (.bool false)], args := [d] }
  | _ => none }
def FnNegLessWrongFalsely : Prop := fnNegLessRow.holds Try.pinned (OpenSpec.ofChange fnNegLessWrong)

/-- 'laws.FnNegSame': WHATEVER THE INPUT: true; the input reads as it did. -/
def fnNegSameSpec : ChangeSpec := { name := "fnNegSame", fn := fun _ => fun
  | [d] => { results := [.lit (.bool true)], args := [d] }
  | _ => none }
def fnNegSameRow : OpenClaim := { program := "ytoigmeiollfklaa", sum := "37e0fd5c54c21bd317fb7a85ef527b5e5c6b5a1a927fded62d58245a24b48369", func := "loop.example/linkboy/laws.FnNegSame", spec := "fnNegSame", apart := false }
def FnNegSameSaid : Prop := fnNegSameRow.holds Try.pinned (OpenSpec.ofChange fnNegSameSpec)

/-- ITS FALSE NEIGHBOUR: 'it returns false'. Refute it at one input. -/
def fnNegSameWrong : ChangeSpec := { name := "fnNegSame", fn := fun _ => fun
  | [d] => { results := [.lit (.bool false)], args := [d] }
  | _ => none }
def FnNegSameWrongFalsely : Prop := fnNegSameRow.holds Try.pinned (OpenSpec.ofChange fnNegSameWrong)

/-- 'laws.FnNegComes': WHATEVER THE INPUT: true; the input reads as it did. -/
def fnNegComesSpec : ChangeSpec := { name := "fnNegComes", fn := fun _ => fun
  | [d] => { results := [.lit (.bool true)], args := [d] }
  | _ => none }
def fnNegComesRow : OpenClaim := { program := "ytoigmeiollfklaa", sum := "37e0fd5c54c21bd317fb7a85ef527b5e5c6b5a1a927fded62d58245a24b48369", func := "loop.example/linkboy/laws.FnNegComes", spec := "fnNegComes", apart := false }
def FnNegComesSaid : Prop := fnNegComesRow.holds Try.pinned (OpenSpec.ofChange fnNegComesSpec)

/-- ITS FALSE NEIGHBOUR: 'it returns false'. Refute it at one input. -/
def fnNegComesWrong : ChangeSpec := { name := "fnNegComes", fn := fun _ => fun
  | [d] => { results := [.lit (.bool false)], args := [d] }
  | _ => none }
def FnNegComesWrongFalsely : Prop := fnNegComesRow.holds Try.pinned (OpenSpec.ofChange fnNegComesWrong)

/-- 'laws.FnExactFrmOk': WHATEVER THE INPUT: true; the input reads as it did. -/
def fnExactFrmOkSpec : ChangeSpec := { name := "fnExactFrmOk", fn := fun _ => fun
  | [d] => { results := [.lit (.bool true)], args := [d] }
  | _ => none }
def fnExactFrmOkRow : OpenClaim := { program := "ytoigmeiollfklaa", sum := "37e0fd5c54c21bd317fb7a85ef527b5e5c6b5a1a927fded62d58245a24b48369", func := "loop.example/linkboy/laws.FnExactFrmOk", spec := "fnExactFrmOk", apart := false }
def FnExactFrmOkSaid : Prop := fnExactFrmOkRow.holds Try.pinned (OpenSpec.ofChange fnExactFrmOkSpec)

/-- ITS FALSE NEIGHBOUR: 'it returns false'. Refute it at one input. -/
def fnExactFrmOkWrong : ChangeSpec := { name := "fnExactFrmOk", fn := fun _ => fun
  | [d] => { results := [.lit (.bool false)], args := [d] }
  | _ => none }
def FnExactFrmOkWrongFalsely : Prop := fnExactFrmOkRow.holds Try.pinned (OpenSpec.ofChange fnExactFrmOkWrong)

/-- 'laws.FnFrmOk': WHATEVER THE INPUT: true; the input reads as it did. -/
def fnFrmOkSpec : ChangeSpec := { name := "fnFrmOk", fn := fun _ => fun
  | [d] => { results := [.lit (.bool true)], args := [d] }
  | _ => none }
def fnFrmOkRow : OpenClaim := { program := "ytoigmeiollfklaa", sum := "37e0fd5c54c21bd317fb7a85ef527b5e5c6b5a1a927fded62d58245a24b48369", func := "loop.example/linkboy/laws.FnFrmOk", spec := "fnFrmOk", apart := false }
def FnFrmOkSaid : Prop := fnFrmOkRow.holds Try.pinned (OpenSpec.ofChange fnFrmOkSpec)

/-- ITS FALSE NEIGHBOUR: 'it returns false'. Refute it at one input. -/
def fnFrmOkWrong : ChangeSpec := { name := "fnFrmOk", fn := fun _ => fun
  | [d] => { results := [.lit (.bool false)], args := [d] }
  | _ => none }
def FnFrmOkWrongFalsely : Prop := fnFrmOkRow.holds Try.pinned (OpenSpec.ofChange fnFrmOkWrong)

/- THE SECOND FORM. 'bulk': how many values and letters a reading holds, each counted each time it is reached (what is shared counts as often as it is met; a slice's spare places count too). A statement '..UptoSaid' is the law's where the arguments, and the package variables that the reading takes, are together of bulk at most 1048576: NARROWER than '..Said'. Prove '..Said' where nothing that the law and all that it calls make is longer than what came in: it says more and counts as full. Else prove '..UptoSaid'. A law counts once. -/
mutual
def uptoBulk {H : Type} : DataW H → Nat
  | .lit (.string bytes) => bytes.length + 1
  | .lit _ => 1
  | .nil => 1
  | .ptr d => uptoBulk d + 1
  | .slice elems spare => uptoBulkAll elems + uptoBulkAll spare + 1
  | .agg parts => uptoBulkAll parts + 1
  | .iface _ d => uptoBulk d + 1
  | .map entries => uptoBulkEntries entries + 1
  | .held _ => 1
def uptoBulkAll {H : Type} : List (DataW H) → Nat
  | [] => 0
  | d :: r => uptoBulk d + uptoBulkAll r
def uptoBulkEntries {H : Type} : List (Lit × DataW H) → Nat
  | [] => 0
  | x :: r => uptoBulkEntry x + uptoBulkEntries r
def uptoBulkEntry {H : Type} : Lit × DataW H → Nat
  | (.string bytes, d) => bytes.length + uptoBulk d + 1
  | (_, d) => uptoBulk d + 1
 end
def uptoSmall : (H : Type) → List (DataW H) → Bool := fun _ ds => decide (uptoBulkAll ds ≤ 1048576)
def OpenSpec.upto (s : _root_.Go.ChangeSpec) : _root_.Go.OpenSpec := { _root_.Go.OpenSpec.ofChange s with cond := some uptoSmall }

/-- 'laws.FnExactNegHear', WHERE WHAT IT READS IS OF BULK AT MOST 1048576: true; the input reads as it did. -/
def fnExactNegHearUptoRow : OpenClaim := { program := "ytoigmeiollfklaa", sum := "37e0fd5c54c21bd317fb7a85ef527b5e5c6b5a1a927fded62d58245a24b48369", func := "loop.example/linkboy/laws.FnExactNegHear", spec := "fnExactNegHear", apart := false, narrowed := true }
def FnExactNegHearUptoSaid : Prop := fnExactNegHearUptoRow.holds Try.pinned (OpenSpec.upto fnExactNegHearSpec)

/-- 'laws.FnNegOk', WHERE WHAT IT READS IS OF BULK AT MOST 1048576: true; the input reads as it did. -/
def fnNegOkUptoRow : OpenClaim := { program := "ytoigmeiollfklaa", sum := "37e0fd5c54c21bd317fb7a85ef527b5e5c6b5a1a927fded62d58245a24b48369", func := "loop.example/linkboy/laws.FnNegOk", spec := "fnNegOk", apart := false, narrowed := true }
def FnNegOkUptoSaid : Prop := fnNegOkUptoRow.holds Try.pinned (OpenSpec.upto fnNegOkSpec)

/-- 'laws.FnNegSay', WHERE WHAT IT READS IS OF BULK AT MOST 1048576: true; the input reads as it did. -/
def fnNegSayUptoRow : OpenClaim := { program := "ytoigmeiollfklaa", sum := "37e0fd5c54c21bd317fb7a85ef527b5e5c6b5a1a927fded62d58245a24b48369", func := "loop.example/linkboy/laws.FnNegSay", spec := "fnNegSay", apart := false, narrowed := true }
def FnNegSayUptoSaid : Prop := fnNegSayUptoRow.holds Try.pinned (OpenSpec.upto fnNegSaySpec)

/-- 'laws.FnNegHear', WHERE WHAT IT READS IS OF BULK AT MOST 1048576: true; the input reads as it did. -/
def fnNegHearUptoRow : OpenClaim := { program := "ytoigmeiollfklaa", sum := "37e0fd5c54c21bd317fb7a85ef527b5e5c6b5a1a927fded62d58245a24b48369", func := "loop.example/linkboy/laws.FnNegHear", spec := "fnNegHear", apart := false, narrowed := true }
def FnNegHearUptoSaid : Prop := fnNegHearUptoRow.holds Try.pinned (OpenSpec.upto fnNegHearSpec)

/-- 'laws.FnNegTwice', WHERE WHAT IT READS IS OF BULK AT MOST 1048576: true; the input reads as it did. -/
def fnNegTwiceUptoRow : OpenClaim := { program := "ytoigmeiollfklaa", sum := "37e0fd5c54c21bd317fb7a85ef527b5e5c6b5a1a927fded62d58245a24b48369", func := "loop.example/linkboy/laws.FnNegTwice", spec := "fnNegTwice", apart := false, narrowed := true }
def FnNegTwiceUptoSaid : Prop := fnNegTwiceUptoRow.holds Try.pinned (OpenSpec.upto fnNegTwiceSpec)

/-- 'laws.FnNegLess', WHERE WHAT IT READS IS OF BULK AT MOST 1048576: true; the input reads as it did. -/
def fnNegLessUptoRow : OpenClaim := { program := "ytoigmeiollfklaa", sum := "37e0fd5c54c21bd317fb7a85ef527b5e5c6b5a1a927fded62d58245a24b48369", func := "loop.example/linkboy/laws.FnNegLess", spec := "fnNegLess", apart := false, narrowed := true }
def FnNegLessUptoSaid : Prop := fnNegLessUptoRow.holds Try.pinned (OpenSpec.upto fnNegLessSpec)

/-- 'laws.FnNegSame', WHERE WHAT IT READS IS OF BULK AT MOST 1048576: true; the input reads as it did. -/
def fnNegSameUptoRow : OpenClaim := { program := "ytoigmeiollfklaa", sum := "37e0fd5c54c21bd317fb7a85ef527b5e5c6b5a1a927fded62d58245a24b48369", func := "loop.example/linkboy/laws.FnNegSame", spec := "fnNegSame", apart := false, narrowed := true }
def FnNegSameUptoSaid : Prop := fnNegSameUptoRow.holds Try.pinned (OpenSpec.upto fnNegSameSpec)

/-- 'laws.FnNegComes', WHERE WHAT IT READS IS OF BULK AT MOST 1048576: true; the input reads as it did. -/
def fnNegComesUptoRow : OpenClaim := { program := "ytoigmeiollfklaa", sum := "37e0fd5c54c21bd317fb7a85ef527b5e5c6b5a1a927fded62d58245a24b48369", func := "loop.example/linkboy/laws.FnNegComes", spec := "fnNegComes", apart := false, narrowed := true }
def FnNegComesUptoSaid : Prop := fnNegComesUptoRow.holds Try.pinned (OpenSpec.upto fnNegComesSpec)

/-- 'laws.FnExactFrmOk', WHERE WHAT IT READS IS OF BULK AT MOST 1048576: true; the input reads as it did. -/
def fnExactFrmOkUptoRow : OpenClaim := { program := "ytoigmeiollfklaa", sum := "37e0fd5c54c21bd317fb7a85ef527b5e5c6b5a1a927fded62d58245a24b48369", func := "loop.example/linkboy/laws.FnExactFrmOk", spec := "fnExactFrmOk", apart := false, narrowed := true }
def FnExactFrmOkUptoSaid : Prop := fnExactFrmOkUptoRow.holds Try.pinned (OpenSpec.upto fnExactFrmOkSpec)

/-- 'laws.FnFrmOk', WHERE WHAT IT READS IS OF BULK AT MOST 1048576: true; the input reads as it did. -/
def fnFrmOkUptoRow : OpenClaim := { program := "ytoigmeiollfklaa", sum := "37e0fd5c54c21bd317fb7a85ef527b5e5c6b5a1a927fded62d58245a24b48369", func := "loop.example/linkboy/laws.FnFrmOk", spec := "fnFrmOk", apart := false, narrowed := true }
def FnFrmOkUptoSaid : Prop := fnFrmOkUptoRow.holds Try.pinned (OpenSpec.upto fnFrmOkSpec)

end Rows
end Go.Proofs.Ytoigmeiollfklaa
