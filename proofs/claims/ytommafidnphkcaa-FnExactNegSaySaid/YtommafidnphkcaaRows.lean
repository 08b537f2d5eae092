/-
  No cell of these rows narrows 'for every input' (looked for: loops, veiled, ifaces, maps, wideKeys, modest, calm, conditions, laid).
  DERIVED. THE GIVEN ROWS OF THIS SEAT. 6 by the template 'for every input the law returns true; each argument reads behind the call as it read before'; 0 by the template 'total and deterministic' (their statements: YtommafidnphkcaaTotals.lean).
  GIVEN WITH THE SEED: the statements are not yours to turn. If you find one false, say at which input.
  Laid BY PROGRAM, IN A SANDBOX (cutbox-rows.mjs): the forced cells as the released guide's own fill.sh prints them over the translation e8535d0095a7facf… (all of the seat's roots in one cut). By AI agents, Wed Nov 11 2026. No macro, syntax, notation, axiom, sorry.
-/
import Derived.Test.YtommafidnphkcaaChecked
import GoSem.Claim
import GoSem.ClaimJoined
import GoSem.ClaimMapViews
import Derived.JoinedTies
import Derived.KernelRfl
namespace Go.Proofs.Ytommafidnphkcaa
/- THE CELL 'sum', in the pinned program and in every row, IS THE sha256 OF THE DUMP (.gsa) THAT YtommafidnphkcaaProg.lean LOADS. Nothing in Lean hashes anything: it is a label: what it is worth is what the hold of that sum in a sandbox is worth. -/
noncomputable def Try.pinned : Pinned := { name := "ytommafidnphkcaa", sum := "e8535d0095a7facf3a9587a6008382eed51b0461a2269d6e97998992d274c2d5", checked := Try.checked }
namespace Rows
def none {H : Type} : Left H := { results := [], args := [] }

/-- 'laws.FnTxOk': WHATEVER THE INPUT: true; the input reads as it did. -/
def fnTxOkSpec : ChangeSpec := { name := "fnTxOk", fn := fun _ => fun
  | [d] => { results := [.lit (.bool true)], args := [d] }
  | _ => none }
def fnTxOkRow : OpenClaim := { program := "ytommafidnphkcaa", sum := "e8535d0095a7facf3a9587a6008382eed51b0461a2269d6e97998992d274c2d5", func := "loop.example/linkboy/laws.FnTxOk", spec := "fnTxOk", unfollowed := true, recurses := true, apart := false }
def FnTxOkSaid : Prop := fnTxOkRow.holds Try.pinned (OpenSpec.ofChange fnTxOkSpec)

/-- ITS FALSE NEIGHBOUR: 'it returns false'. Refute it at one input. -/
def fnTxOkWrong : ChangeSpec := { name := "fnTxOk", fn := fun _ => fun
  | [d] => { results := [.lit (.bool false)], args := [d] }
  | _ => none }
def FnTxOkWrongFalsely : Prop := fnTxOkRow.holds Try.pinned (OpenSpec.ofChange fnTxOkWrong)

/-- 'laws.FnCfgMeet': WHATEVER THE INPUT: true; the input reads as it did. -/
def fnCfgMeetSpec : ChangeSpec := { name := "fnCfgMeet", fn := fun _ => fun
  | [d] => { results := [.lit (.bool true)], args := [d] }
  | _ => none }
def fnCfgMeetRow : OpenClaim := { program := "ytommafidnphkcaa", sum := "e8535d0095a7facf3a9587a6008382eed51b0461a2269d6e97998992d274c2d5", func := "loop.example/linkboy/laws.FnCfgMeet", spec := "fnCfgMeet", apart := false }
def FnCfgMeetSaid : Prop := fnCfgMeetRow.holds Try.pinned (OpenSpec.ofChange fnCfgMeetSpec)

/-- ITS FALSE NEIGHBOUR: 'it returns false'. Refute it at one input. -/
def fnCfgMeetWrong : ChangeSpec := { name := "fnCfgMeet", fn := fun _ => fun
  | [d] => { results := [.lit (.bool false)], args := [d] }
  | _ => none }
def FnCfgMeetWrongFalsely : Prop := fnCfgMeetRow.holds Try.pinned (OpenSpec.ofChange fnCfgMeetWrong)

/-- 'laws.FnCfgThree': WHATEVER THE INPUT: true; the input reads as it did. -/
def fnCfgThreeSpec : ChangeSpec := { name := "fnCfgThree", fn := fun _ => fun
  | [d1, d2] => { results := [.lit (.bool true)], args := [d1, d2] }
  | _ => none }
def fnCfgThreeRow : OpenClaim := { program := "ytommafidnphkcaa", sum := "e8535d0095a7facf3a9587a6008382eed51b0461a2269d6e97998992d274c2d5", func := "loop.example/linkboy/laws.FnCfgThree", spec := "fnCfgThree", apart := false }
def FnCfgThreeSaid : Prop := fnCfgThreeRow.holds Try.pinned (OpenSpec.ofChange fnCfgThreeSpec)

/-- ITS FALSE NEIGHBOUR: 'it returns false'. Refute it at one input. -/
def fnCfgThreeWrong : ChangeSpec := { name := "fnCfgThree", fn := fun _ => fun
  | [d1, d2] => { results := [.lit (.bool false)], args := [d1, d2] }
  | _ => none }
def FnCfgThreeWrongFalsely : Prop := fnCfgThreeRow.holds Try.pinned (OpenSpec.ofChange fnCfgThreeWrong)

/-- 'laws.FnExactNegSay': WHATEVER THE INPUT: true; the input reads as it did. -/
def fnExactNegSaySpec : ChangeSpec := { name := "fnExactNegSay", fn := fun _ => fun
  | [d] => { results := [.lit (.bool true)], args := [d] }
  | _ => none }
def fnExactNegSayRow : OpenClaim := { program := "ytommafidnphkcaa", sum := "e8535d0095a7facf3a9587a6008382eed51b0461a2269d6e97998992d274c2d5", func := "loop.example/linkboy/laws.FnExactNegSay", spec := "fnExactNegSay", apart := false }
def FnExactNegSaySaid : Prop := fnExactNegSayRow.holds Try.pinned (OpenSpec.ofChange fnExactNegSaySpec)

/-- ITS FALSE NEIGHBOUR: 'it returns false'. Refute it at one input. -/
def fnExactNegSayWrong : ChangeSpec := { name := "fnExactNegSay", fn := fun _ => fun
  | [d] => { results := [.lit (.bool false)], args := [d] }
  | _ => none }
def FnExactNegSayWrongFalsely : Prop := fnExactNegSayRow.holds Try.pinned (OpenSpec.ofChange fnExactNegSayWrong)

/-- 'laws.FnExactPartOk': WHATEVER THE INPUT: true; the input reads as it did. -/
def fnExactPartOkSpec : ChangeSpec := { name := "fnExactPartOk", fn := fun _ => fun
  | [d] => { results := [.lit (.bool true)], args := [d] }
  | _ => none }
def fnExactPartOkRow : OpenClaim := { program := "ytommafidnphkcaa", sum := "e8535d0095a7facf3a9587a6008382eed51b0461a2269d6e97998992d274c2d5", func := "loop.example/linkboy/laws.FnExactPartOk", spec := "fnExactPartOk", apart := false }
def FnExactPartOkSaid : Prop := fnExactPartOkRow.holds Try.pinned (OpenSpec.ofChange fnExactPartOkSpec)

/-- ITS FALSE NEIGHBOUR: 'it returns false'. Refute it at one input. -/
def fnExactPartOkWrong : ChangeSpec := { name := "fnExactPartOk", fn := fun _ => fun
  | [d] => { results := [.lit (.bool false)], args := [d] }
  | _ => none }
def FnExactPartOkWrongFalsely : Prop := fnExactPartOkRow.holds Try.pinned (OpenSpec.ofChange fnExactPartOkWrong)

/-- 'laws.FnCrdRxOk': WHATEVER THE INPUT: true; the input reads as it did. -/
def fnCrdRxOkSpec : ChangeSpec := { name := "fnCrdRxOk", fn := fun _ => fun
  | [d] => { results := [.lit (.bool true)], args := [d] }
  | _ => none }
def fnCrdRxOkRow : OpenClaim := { program := "ytommafidnphkcaa", sum := "e8535d0095a7facf3a9587a6008382eed51b0461a2269d6e97998992d274c2d5", func := "loop.example/linkboy/laws.FnCrdRxOk", spec := "fnCrdRxOk", apart := false }
def FnCrdRxOkSaid : Prop := fnCrdRxOkRow.holds Try.pinned (OpenSpec.ofChange fnCrdRxOkSpec)

/-- ITS FALSE NEIGHBOUR: 'it returns false'. Refute it at one input. -/
def fnCrdRxOkWrong : ChangeSpec := { name := "fnCrdRxOk", fn := fun _ => fun
  | [d] => { results := [.lit (.bool false)], args := [d] }
  | _ => none }
def FnCrdRxOkWrongFalsely : Prop := fnCrdRxOkRow.holds Try.pinned (OpenSpec.ofChange fnCrdRxOkWrong)

/- THE SECOND FORM. 'bulk': how many values and letters a reading holds, each counted each time it is reached (what is shared counts as often as it is met; a slice's spare places count too). A statement '..UptoSaid' is the law's where the arguments, and the package variables that the reading takes, are together of bulk at most 1048576: NARROWER than '..Said'. Prove '..Said' where nothing that the law and all that it calls make is longer than what came in: it says more and counts as full. Else prove '..UptoSaid'. A law counts once. -/
mutual
def uptoBulk {H : Type} : DataW H → Nat
  | .lit (.string bytes) => bytes.length + 1
  | .lit _ => 1
  | .nil => 1
  | .ptr d => uptoBulk d + 1
  | .slice elems spare => uptoBulkAll elems + uptoBulkAll spare + 1
  | .agg parts => uptoBulkAll parts + 1
  | .iface _ d => uptoBulk d + 1
  | .map entries => uptoBulkEntries entries + 1
  | .held _ => 1
def uptoBulkAll {H : Type} : List (DataW H) → Nat
  | [] => 0
  | d :: r => uptoBulk d + uptoBulkAll r
def uptoBulkEntries {H : Type} : List (Lit × DataW H) → Nat
  | [] => 0
  | x :: r => uptoBulkEntry x + uptoBulkEntries r
def uptoBulkEntry {H : Type} : Lit × DataW H → Nat
  | (.string bytes, d) => bytes.length + uptoBulk d + 1
  | (_, d) => uptoBulk d + 1
 end
def uptoSmall : (H : Type) → List (DataW H) → Bool := fun _ ds => decide (uptoBulkAll ds ≤ 1048576)
def OpenSpec.upto (s : _root_.Go.ChangeSpec) : _root_.Go.OpenSpec := { _root_.Go.OpenSpec.ofChange s with cond := some uptoSmall }

/-- 'laws.FnTxOk', WHERE WHAT IT READS IS OF BULK AT MOST 1048576: true; the input reads as it did. -/
def fnTxOkUptoRow : OpenClaim := { program := "ytommafidnphkcaa", sum := "e8535d0095a7facf3a9587a6008382eed51b0461a2269d6e97998992d274c2d5", func := "loop.example/linkboy/laws.FnTxOk", spec := "fnTxOk", unfollowed := true, recurses := true, apart := false, narrowed := true }
def FnTxOkUptoSaid : Prop := fnTxOkUptoRow.holds Try.pinned (OpenSpec.upto fnTxOkSpec)

/-- 'laws.FnCfgMeet', WHERE WHAT IT READS IS OF BULK AT MOST 1048576: true; the input reads as it did. -/
def fnCfgMeetUptoRow : OpenClaim := { program := "ytommafidnphkcaa", sum := "e8535d0095a7facf3a9587a6008382eed51b0461a2269d6e97998992d274c2d5", func := "loop.example/linkboy/laws.FnCfgMeet", spec := "fnCfgMeet", apart := false, narrowed := true }
def FnCfgMeetUptoSaid : Prop := fnCfgMeetUptoRow.holds Try.pinned (OpenSpec.upto fnCfgMeetSpec)

/-- 'laws.FnCfgThree', WHERE WHAT IT READS IS OF BULK AT MOST 1048576: true; the input reads as it did. -/
def fnCfgThreeUptoRow : OpenClaim := { program := "ytommafidnphkcaa", sum := "e8535d0095a7facf3a9587a6008382eed51b0461a2269d6e97998992d274c2d5", func := "loop.example/linkboy/laws.FnCfgThree", spec := "fnCfgThree", apart := false, narrowed := true }
def FnCfgThreeUptoSaid : Prop := fnCfgThreeUptoRow.holds Try.pinned (OpenSpec.upto fnCfgThreeSpec)

/-- 'laws.FnExactNegSay', WHERE WHAT IT READS IS OF BULK AT MOST 1048576: true; the input reads as it did. -/
def fnExactNegSayUptoRow : OpenClaim := { program := "ytommafidnphkcaa", sum := "e8535d0095a7facf3a9587a6008382eed51b0461a2269d6e97998992d274c2d5", func := "loop.example/linkboy/laws.FnExactNegSay", spec := "fnExactNegSay", apart := false, narrowed := true }
def FnExactNegSayUptoSaid : Prop := fnExactNegSayUptoRow.holds Try.pinned (OpenSpec.upto fnExactNegSaySpec)

/-- 'laws.FnExactPartOk', WHERE WHAT IT READS IS OF BULK AT MOST 1048576: true; the input reads as it did. -/
def fnExactPartOkUptoRow : OpenClaim := { program := "ytommafidnphkcaa", sum := "e8535d0095a7facf3a9587a6008382eed51b0461a2269d6e97998992d274c2d5", func := "loop.example/linkboy/laws.FnExactPartOk", spec := "fnExactPartOk", apart := false, narrowed := true }
def FnExactPartOkUptoSaid : Prop := fnExactPartOkUptoRow.holds Try.pinned (OpenSpec.upto fnExactPartOkSpec)

/-- 'laws.FnCrdRxOk', WHERE WHAT IT READS IS OF BULK AT MOST 1048576: true; the input reads as it did. -/
def fnCrdRxOkUptoRow : OpenClaim := { program := "ytommafidnphkcaa", sum := "e8535d0095a7facf3a9587a6008382eed51b0461a2269d6e97998992d274c2d5", func := "loop.example/linkboy/laws.FnCrdRxOk", spec := "fnCrdRxOk", apart := false, narrowed := true }
def FnCrdRxOkUptoSaid : Prop := fnCrdRxOkUptoRow.holds Try.pinned (OpenSpec.upto fnCrdRxOkSpec)

end Rows
end Go.Proofs.Ytommafidnphkcaa
