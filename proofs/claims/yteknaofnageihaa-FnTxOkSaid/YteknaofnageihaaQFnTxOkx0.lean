-- Written by a program of this session, a turned copy of the print (not by print.sh itself). Lean checks it.
import Derived.Test.YteknaofnageihaaProg
import Derived.Below
import Derived.Deep.Draws
import Derived.Deep.AppendLies
import Derived.Maps.AppendAt
import Derived.OwnWalk
import Derived.Laws.BytesArg
import Derived.Laws.MakeOwn
import Derived.Laws.OwnMore
import Derived.Deep.OwnRows
import Derived.Tactics
import Derived.Lib.ConvBytes
import Derived.Laws.Slices
import Derived.WalkKit
import Derived.KernelRfl
import Derived.RowKit3
import Derived.Deep.LoopGhost
import Derived.Deep.QuietTactic
import Derived.BigQuiet
import Derived.WideLaws
import Derived.Deep.DeepCutAuto
import Derived.Deep.CutBlock
import Derived.Deep.RegionHeld3
import Derived.Laws.Rows
import Derived.Lib.AppendStr
import Derived.ArgAppend
import Derived.Laws.IdiomCopy
import Derived.OrdersHeld
import Derived.Laws.BitsLemmas
import Derived.RowKit
import Derived.Lib.SliceRun
import Derived.Test.YteknaofnageihaaVFnTxOk
namespace Go.Proofs.Yteknaofnageihaa.QFnTxOk
open Go.RowKit Go.Proofs.YteknaofnageihaaW.PrintWords Go.Proofs.YteknaofnageihaaW.PrintLast Go.Proofs.YteknaofnageihaaW.PrintMore Go.Proofs.YteknaofnageihaaLoc
attribute [local go_sem] max2_int min2_int max_two min_two max_three min_three max_four min_four   -- for this text's walks alone
set_option linter.unusedVariables false
set_option linter.unusedSimpArgs false



def errW : Option Int → Value
  | none => .nilIface
  | some c => .iface 0 (.int .i64 c)
theorem errW_none : errW none = .nilIface := rfl
theorem errW_some (c : Int) : errW (some c) = .iface 0 (.int .i64 c) := rfl

def bl : Nat → Nat → List Bool
  | 0, _ => []
  | n + 1, m => (m % 2 == 1) :: bl n (m / 2)
def bm (n m : Nat) : Array Bool := (bl n m).toArray
section
variable {P : Program} {ops : Array Oper} {Q : Exit → Act → World → Prop} {md : Region.Mode} {S : World → Prop} {ds : List Nat} {T : Bool × List (List Nat × List Nat)} {B : List Nat} {fuel : Nat} {oi : Oper} {v : Value} {l : Array Bool} {a a' : Act} {w : World}
theorem pA (i : Nat) (N : Option Tmp) (l' : Array Bool) (hi : ops[i]? = some oi) (hN : oi.dst = N) (hT : rtab md ops = T) (hc : anyT T l.toList l'.toList i = true) (hQ : ∀ c a w, Q (.panic c) (a.put oi.dst v) w → Q (.panic c) a w) (hw : Region.wanted oi (yielded ops a.tmps) = true) (hy : ∀ w, (execOp a.eval oi).run P w = .ok (.value v) w) (ha : a.put N v = a') (h : wpAnyLast P md ops Q S ds fuel l' a' w) : wpAnyLast P md ops Q S ds (fuel + 1) l a w := pure_ l' hi hN (any_of hT hc) hQ (.inl ⟨hw, hy⟩) ha h
theorem pB (i : Nat) (N : Option Tmp) (l' : Array Bool) (hi : ops[i]? = some oi) (hN : oi.dst = N) (hT : rtab md ops = T) (hc : anyT T l.toList l'.toList i = true) (hQ : ∀ c a w, Q (.panic c) (a.put oi.dst undef) w → Q (.panic c) a w) (hw : Region.wanted oi (yielded ops a.tmps) = false) (ha : a.put N undef = a') (h : wpAnyLast P md ops Q S ds fuel l' a' w) : wpAnyLast P md ops Q S ds (fuel + 1) l a w := pure_ l' hi hN (any_of hT hc) hQ (.inr ⟨hw, rfl⟩) ha h
theorem tA (i : Nat) (N : Option Tmp) (l' : Array Bool) (hi : ops[i]? = some oi) (hN : oi.dst = N) (hT : rtab md ops = T) (hB : waitsOk T.2 B = true) (hc : takeW T B ds l.toList l'.toList i = true) (hQ : ∀ c a w, Q (.panic c) (a.put oi.dst v) w → Q (.panic c) a w) (hw : Region.wanted oi (yielded ops a.tmps) = true) (hS : S w) (hy : ∀ w, S w → (execOp a.eval oi).run P w = .ok (.value v) w) (ha : a.put N v = a') (h : wpAnyLast P md ops Q S ds fuel l' a' w) : wpAnyLast P md ops Q S ds (fuel + 1) l a w := take_ l' hi hN (take_ofW hT hB hc) hQ (.inl ⟨hw, hy⟩) hS ha h
end
theorem zs1 {α : Type _} (l : List α) (i : Nat) (a : α) : l.toArray.setIfInBounds i a = (l.set i a).toArray := List.setIfInBounds_toArray ..
theorem zs2 {α : Type _} {x : α} {xs : List α} {a : α} : (x :: xs).set 0 a = a :: xs := List.set_cons_zero
theorem zs3 {α : Type _} {x : α} {xs : List α} {n : Nat} {a : α} : (x :: xs).set (n + 1) a = x :: xs.set n a := List.set_cons_succ
abbrev zq1 := @blk_drewN
abbrev zq2 := @blk_drew
abbrev zq3 := @blk_alloc
abbrev zq4 := @blk_put
abbrev zq5 := @blk_far
abbrev zq6 := @blk_below
abbrev zq7 := @below_alloc
abbrev zq8 := @pw_below_drewN
abbrev zq9 := @below_drew1
abbrev zr1 := @below_set
abbrev zr2 := @below_size
abbrev zr3 := @below_step
abbrev zr4 := @blk_cell
abbrev zr5 := @blk_frozen
abbrev mk_ := @Aside0.mk
abbrev zr6 := @blk_lt
abbrev zr7 := @keep_drewN
abbrev zr8 := @keep_drew
abbrev zr9 := @keep_alloc
abbrev zm1 := @KeepBut.set_
abbrev zm2 := @Nat.ne_of_lt
theorem cz3 {w : World} {g : Nat} {t : TypeId} {v0 v1 v2 : Value} (h : w.heap[g]? = some (.cells #[v0, v1, v2] t (0, 0))) : w.cell? ⟨g, 0, none⟩ = some v0 ∧ w.cell? ⟨g, 1, none⟩ = some v1 ∧ w.cell? ⟨g, 2, none⟩ = some v2 := ⟨(blk_cell h 0).trans rfl, (blk_cell h 1).trans rfl, (blk_cell h 2).trans rfl⟩
theorem fz3 {w : World} {g : Nat} {t : TypeId} {v0 v1 v2 : Value} (h : w.heap[g]? = some (.cells #[v0, v1, v2] t (0, 0))) : w.frozen? ⟨g, 0, none⟩ = false ∧ w.frozen? ⟨g, 1, none⟩ = false ∧ w.frozen? ⟨g, 2, none⟩ = false := ⟨blk_frozen h 0, blk_frozen h 1, blk_frozen h 2⟩
theorem cz5 {w : World} {g : Nat} {t : TypeId} {v0 v1 v2 v3 v4 : Value} (h : w.heap[g]? = some (.cells #[v0, v1, v2, v3, v4] t (0, 0))) : w.cell? ⟨g, 0, none⟩ = some v0 ∧ w.cell? ⟨g, 1, none⟩ = some v1 ∧ w.cell? ⟨g, 2, none⟩ = some v2 ∧ w.cell? ⟨g, 3, none⟩ = some v3 ∧ w.cell? ⟨g, 4, none⟩ = some v4 := ⟨(blk_cell h 0).trans rfl, (blk_cell h 1).trans rfl, (blk_cell h 2).trans rfl, (blk_cell h 3).trans rfl, (blk_cell h 4).trans rfl⟩
theorem fz5 {w : World} {g : Nat} {t : TypeId} {v0 v1 v2 v3 v4 : Value} (h : w.heap[g]? = some (.cells #[v0, v1, v2, v3, v4] t (0, 0))) : w.frozen? ⟨g, 0, none⟩ = false ∧ w.frozen? ⟨g, 1, none⟩ = false ∧ w.frozen? ⟨g, 2, none⟩ = false ∧ w.frozen? ⟨g, 3, none⟩ = false ∧ w.frozen? ⟨g, 4, none⟩ = false := ⟨blk_frozen h 0, blk_frozen h 1, blk_frozen h 2, blk_frozen h 3, blk_frozen h 4⟩
theorem cz9 {w : World} {g : Nat} {t : TypeId} {v0 v1 v2 v3 v4 v5 v6 v7 v8 : Value} (h : w.heap[g]? = some (.cells #[v0, v1, v2, v3, v4, v5, v6, v7, v8] t (0, 0))) : w.cell? ⟨g, 0, none⟩ = some v0 ∧ w.cell? ⟨g, 1, none⟩ = some v1 ∧ w.cell? ⟨g, 2, none⟩ = some v2 ∧ w.cell? ⟨g, 3, none⟩ = some v3 ∧ w.cell? ⟨g, 4, none⟩ = some v4 ∧ w.cell? ⟨g, 5, none⟩ = some v5 ∧ w.cell? ⟨g, 6, none⟩ = some v6 ∧ w.cell? ⟨g, 7, none⟩ = some v7 ∧ w.cell? ⟨g, 8, none⟩ = some v8 := ⟨(blk_cell h 0).trans rfl, (blk_cell h 1).trans rfl, (blk_cell h 2).trans rfl, (blk_cell h 3).trans rfl, (blk_cell h 4).trans rfl, (blk_cell h 5).trans rfl, (blk_cell h 6).trans rfl, (blk_cell h 7).trans rfl, (blk_cell h 8).trans rfl⟩
theorem fz9 {w : World} {g : Nat} {t : TypeId} {v0 v1 v2 v3 v4 v5 v6 v7 v8 : Value} (h : w.heap[g]? = some (.cells #[v0, v1, v2, v3, v4, v5, v6, v7, v8] t (0, 0))) : w.frozen? ⟨g, 0, none⟩ = false ∧ w.frozen? ⟨g, 1, none⟩ = false ∧ w.frozen? ⟨g, 2, none⟩ = false ∧ w.frozen? ⟨g, 3, none⟩ = false ∧ w.frozen? ⟨g, 4, none⟩ = false ∧ w.frozen? ⟨g, 5, none⟩ = false ∧ w.frozen? ⟨g, 6, none⟩ = false ∧ w.frozen? ⟨g, 7, none⟩ = false ∧ w.frozen? ⟨g, 8, none⟩ = false := ⟨blk_frozen h 0, blk_frozen h 1, blk_frozen h 2, blk_frozen h 3, blk_frozen h 4, blk_frozen h 5, blk_frozen h 6, blk_frozen h 7, blk_frozen h 8⟩
theorem cz10 {w : World} {g : Nat} {t : TypeId} {v0 v1 v2 v3 v4 v5 v6 v7 v8 v9 : Value} (h : w.heap[g]? = some (.cells #[v0, v1, v2, v3, v4, v5, v6, v7, v8, v9] t (0, 0))) : w.cell? ⟨g, 0, none⟩ = some v0 ∧ w.cell? ⟨g, 1, none⟩ = some v1 ∧ w.cell? ⟨g, 2, none⟩ = some v2 ∧ w.cell? ⟨g, 3, none⟩ = some v3 ∧ w.cell? ⟨g, 4, none⟩ = some v4 ∧ w.cell? ⟨g, 5, none⟩ = some v5 ∧ w.cell? ⟨g, 6, none⟩ = some v6 ∧ w.cell? ⟨g, 7, none⟩ = some v7 ∧ w.cell? ⟨g, 8, none⟩ = some v8 ∧ w.cell? ⟨g, 9, none⟩ = some v9 := ⟨(blk_cell h 0).trans rfl, (blk_cell h 1).trans rfl, (blk_cell h 2).trans rfl, (blk_cell h 3).trans rfl, (blk_cell h 4).trans rfl, (blk_cell h 5).trans rfl, (blk_cell h 6).trans rfl, (blk_cell h 7).trans rfl, (blk_cell h 8).trans rfl, (blk_cell h 9).trans rfl⟩
theorem fz10 {w : World} {g : Nat} {t : TypeId} {v0 v1 v2 v3 v4 v5 v6 v7 v8 v9 : Value} (h : w.heap[g]? = some (.cells #[v0, v1, v2, v3, v4, v5, v6, v7, v8, v9] t (0, 0))) : w.frozen? ⟨g, 0, none⟩ = false ∧ w.frozen? ⟨g, 1, none⟩ = false ∧ w.frozen? ⟨g, 2, none⟩ = false ∧ w.frozen? ⟨g, 3, none⟩ = false ∧ w.frozen? ⟨g, 4, none⟩ = false ∧ w.frozen? ⟨g, 5, none⟩ = false ∧ w.frozen? ⟨g, 6, none⟩ = false ∧ w.frozen? ⟨g, 7, none⟩ = false ∧ w.frozen? ⟨g, 8, none⟩ = false ∧ w.frozen? ⟨g, 9, none⟩ = false := ⟨blk_frozen h 0, blk_frozen h 1, blk_frozen h 2, blk_frozen h 3, blk_frozen h 4, blk_frozen h 5, blk_frozen h 6, blk_frozen h 7, blk_frozen h 8, blk_frozen h 9⟩
theorem pu3 {w : World} {g : Nat} {t : TypeId} {u0 u1 u2 v0 v1 v2 : Value} (h : w.heap[g]? = some (.cells #[v0, v1, v2] t (0, 0))) : (((w.setCell ⟨g, 0, none⟩ u0).setCell ⟨g, 1, none⟩ u1).setCell ⟨g, 2, none⟩ u2).heap[g]? = some (.cells #[u0, u1, u2] t (0, 0)) := (zq4 (cs := #[u0, u1, v2]) (cs' := #[u0, u1, u2]) (zq4 (cs := #[u0, v1, v2]) (cs' := #[u0, u1, v2]) (zq4 (cs := #[v0, v1, v2]) (cs' := #[u0, v1, v2]) h 0 u0 rfl) 1 u1 rfl) 2 u2 rfl)
theorem fa3 {w : World} {g b : Nat} {t : TypeId} {cs : Array Value} {i0 i1 i2 : Nat} {u0 u1 u2 : Value} (h : w.heap[g]? = some (.cells cs t (0, 0))) (hn : g ≠ b) : (((w.setCell ⟨b, i0, none⟩ u0).setCell ⟨b, i1, none⟩ u1).setCell ⟨b, i2, none⟩ u2).heap[g]? = some (.cells cs t (0, 0)) := (zq5 (zq5 (zq5 h (p := ⟨b, i0, none⟩) hn u0) (p := ⟨b, i1, none⟩) hn u1) (p := ⟨b, i2, none⟩) hn u2)
theorem pu9 {w : World} {g : Nat} {t : TypeId} {u0 u1 u2 u3 u4 u5 u6 u7 u8 v0 v1 v2 v3 v4 v5 v6 v7 v8 : Value} (h : w.heap[g]? = some (.cells #[v0, v1, v2, v3, v4, v5, v6, v7, v8] t (0, 0))) : (((((((((w.setCell ⟨g, 0, none⟩ u0).setCell ⟨g, 1, none⟩ u1).setCell ⟨g, 2, none⟩ u2).setCell ⟨g, 3, none⟩ u3).setCell ⟨g, 4, none⟩ u4).setCell ⟨g, 5, none⟩ u5).setCell ⟨g, 6, none⟩ u6).setCell ⟨g, 7, none⟩ u7).setCell ⟨g, 8, none⟩ u8).heap[g]? = some (.cells #[u0, u1, u2, u3, u4, u5, u6, u7, u8] t (0, 0)) := (zq4 (cs := #[u0, u1, u2, u3, u4, u5, u6, u7, v8]) (cs' := #[u0, u1, u2, u3, u4, u5, u6, u7, u8]) (zq4 (cs := #[u0, u1, u2, u3, u4, u5, u6, v7, v8]) (cs' := #[u0, u1, u2, u3, u4, u5, u6, u7, v8]) (zq4 (cs := #[u0, u1, u2, u3, u4, u5, v6, v7, v8]) (cs' := #[u0, u1, u2, u3, u4, u5, u6, v7, v8]) (zq4 (cs := #[u0, u1, u2, u3, u4, v5, v6, v7, v8]) (cs' := #[u0, u1, u2, u3, u4, u5, v6, v7, v8]) (zq4 (cs := #[u0, u1, u2, u3, v4, v5, v6, v7, v8]) (cs' := #[u0, u1, u2, u3, u4, v5, v6, v7, v8]) (zq4 (cs := #[u0, u1, u2, v3, v4, v5, v6, v7, v8]) (cs' := #[u0, u1, u2, u3, v4, v5, v6, v7, v8]) (zq4 (cs := #[u0, u1, v2, v3, v4, v5, v6, v7, v8]) (cs' := #[u0, u1, u2, v3, v4, v5, v6, v7, v8]) (zq4 (cs := #[u0, v1, v2, v3, v4, v5, v6, v7, v8]) (cs' := #[u0, u1, v2, v3, v4, v5, v6, v7, v8]) (zq4 (cs := #[v0, v1, v2, v3, v4, v5, v6, v7, v8]) (cs' := #[u0, v1, v2, v3, v4, v5, v6, v7, v8]) h 0 u0 rfl) 1 u1 rfl) 2 u2 rfl) 3 u3 rfl) 4 u4 rfl) 5 u5 rfl) 6 u6 rfl) 7 u7 rfl) 8 u8 rfl)
theorem fr9 {w : World} {g b k : Nat} {v : Option Value} {i0 i1 i2 i3 i4 i5 i6 i7 i8 : Nat} {u0 u1 u2 u3 u4 u5 u6 u7 u8 : Value} (hn : g ≠ b) (h : w.cell? ⟨g, k, none⟩ = v) : (((((((((w.setCell ⟨b, i0, none⟩ u0).setCell ⟨b, i1, none⟩ u1).setCell ⟨b, i2, none⟩ u2).setCell ⟨b, i3, none⟩ u3).setCell ⟨b, i4, none⟩ u4).setCell ⟨b, i5, none⟩ u5).setCell ⟨b, i6, none⟩ u6).setCell ⟨b, i7, none⟩ u7).setCell ⟨b, i8, none⟩ u8).cell? ⟨g, k, none⟩ = v := ((cell_far (p := ⟨b, i8, none⟩) hn u8).trans ((cell_far (p := ⟨b, i7, none⟩) hn u7).trans ((cell_far (p := ⟨b, i6, none⟩) hn u6).trans ((cell_far (p := ⟨b, i5, none⟩) hn u5).trans ((cell_far (p := ⟨b, i4, none⟩) hn u4).trans ((cell_far (p := ⟨b, i3, none⟩) hn u3).trans ((cell_far (p := ⟨b, i2, none⟩) hn u2).trans ((cell_far (p := ⟨b, i1, none⟩) hn u1).trans ((cell_far (p := ⟨b, i0, none⟩) hn u0).trans h)))))))))
theorem pu10 {w : World} {g : Nat} {t : TypeId} {u0 u1 u2 u3 u4 u5 u6 u7 u8 u9 v0 v1 v2 v3 v4 v5 v6 v7 v8 v9 : Value} (h : w.heap[g]? = some (.cells #[v0, v1, v2, v3, v4, v5, v6, v7, v8, v9] t (0, 0))) : ((((((((((w.setCell ⟨g, 0, none⟩ u0).setCell ⟨g, 1, none⟩ u1).setCell ⟨g, 2, none⟩ u2).setCell ⟨g, 3, none⟩ u3).setCell ⟨g, 4, none⟩ u4).setCell ⟨g, 5, none⟩ u5).setCell ⟨g, 6, none⟩ u6).setCell ⟨g, 7, none⟩ u7).setCell ⟨g, 8, none⟩ u8).setCell ⟨g, 9, none⟩ u9).heap[g]? = some (.cells #[u0, u1, u2, u3, u4, u5, u6, u7, u8, u9] t (0, 0)) := (zq4 (cs := #[u0, u1, u2, u3, u4, u5, u6, u7, u8, v9]) (cs' := #[u0, u1, u2, u3, u4, u5, u6, u7, u8, u9]) (zq4 (cs := #[u0, u1, u2, u3, u4, u5, u6, u7, v8, v9]) (cs' := #[u0, u1, u2, u3, u4, u5, u6, u7, u8, v9]) (zq4 (cs := #[u0, u1, u2, u3, u4, u5, u6, v7, v8, v9]) (cs' := #[u0, u1, u2, u3, u4, u5, u6, u7, v8, v9]) (zq4 (cs := #[u0, u1, u2, u3, u4, u5, v6, v7, v8, v9]) (cs' := #[u0, u1, u2, u3, u4, u5, u6, v7, v8, v9]) (zq4 (cs := #[u0, u1, u2, u3, u4, v5, v6, v7, v8, v9]) (cs' := #[u0, u1, u2, u3, u4, u5, v6, v7, v8, v9]) (zq4 (cs := #[u0, u1, u2, u3, v4, v5, v6, v7, v8, v9]) (cs' := #[u0, u1, u2, u3, u4, v5, v6, v7, v8, v9]) (zq4 (cs := #[u0, u1, u2, v3, v4, v5, v6, v7, v8, v9]) (cs' := #[u0, u1, u2, u3, v4, v5, v6, v7, v8, v9]) (zq4 (cs := #[u0, u1, v2, v3, v4, v5, v6, v7, v8, v9]) (cs' := #[u0, u1, u2, v3, v4, v5, v6, v7, v8, v9]) (zq4 (cs := #[u0, v1, v2, v3, v4, v5, v6, v7, v8, v9]) (cs' := #[u0, u1, v2, v3, v4, v5, v6, v7, v8, v9]) (zq4 (cs := #[v0, v1, v2, v3, v4, v5, v6, v7, v8, v9]) (cs' := #[u0, v1, v2, v3, v4, v5, v6, v7, v8, v9]) h 0 u0 rfl) 1 u1 rfl) 2 u2 rfl) 3 u3 rfl) 4 u4 rfl) 5 u5 rfl) 6 u6 rfl) 7 u7 rfl) 8 u8 rfl) 9 u9 rfl)
theorem fa10 {w : World} {g b : Nat} {t : TypeId} {cs : Array Value} {i0 i1 i2 i3 i4 i5 i6 i7 i8 i9 : Nat} {u0 u1 u2 u3 u4 u5 u6 u7 u8 u9 : Value} (h : w.heap[g]? = some (.cells cs t (0, 0))) (hn : g ≠ b) : ((((((((((w.setCell ⟨b, i0, none⟩ u0).setCell ⟨b, i1, none⟩ u1).setCell ⟨b, i2, none⟩ u2).setCell ⟨b, i3, none⟩ u3).setCell ⟨b, i4, none⟩ u4).setCell ⟨b, i5, none⟩ u5).setCell ⟨b, i6, none⟩ u6).setCell ⟨b, i7, none⟩ u7).setCell ⟨b, i8, none⟩ u8).setCell ⟨b, i9, none⟩ u9).heap[g]? = some (.cells cs t (0, 0)) := (zq5 (zq5 (zq5 (zq5 (zq5 (zq5 (zq5 (zq5 (zq5 (zq5 h (p := ⟨b, i0, none⟩) hn u0) (p := ⟨b, i1, none⟩) hn u1) (p := ⟨b, i2, none⟩) hn u2) (p := ⟨b, i3, none⟩) hn u3) (p := ⟨b, i4, none⟩) hn u4) (p := ⟨b, i5, none⟩) hn u5) (p := ⟨b, i6, none⟩) hn u6) (p := ⟨b, i7, none⟩) hn u7) (p := ⟨b, i8, none⟩) hn u8) (p := ⟨b, i9, none⟩) hn u9)
theorem ad_ (g k j : Nat) : (⟨g, k, none⟩ : Addr).add j = ⟨g, k + j, none⟩ := by unfold Addr.add; split <;> simp_all
theorem info5 : (Try.prog.info? 5).map (fun i => (i.zero, i.size, i.bytes)) = some (some (.int .u8 0), 1, 1) := by kernel_rfl
theorem info39 : (Try.prog.info? 39).map (fun i => (i.zero, i.size, i.bytes)) = some (some (.agg #[(.int .i64 0), (.int .i64 0), (.slice none 0 0)]), 3, 40) := by kernel_rfl
-- the values' own types
/-! #### struct type 39 -/
structure S39 where
  f0 : Int
  f1 : Int
  f2 : (List Int)
def z39 : S39 := ⟨(0 : Int), (0 : Int), ([] : List Int)⟩
def k39 : Kd S39 := Kd.iso (Kd.pair (Kd.int .i64) (Kd.pair (Kd.int .i64) (Kd.slice 5 (Kd.int .u8)))) (fun x : S39 => (x.f0, x.f1, x.f2))
theorem k39_open {w : World} {x : S39} {cs : List Value} (h : k39.K w x cs) : ∃ A2 c2, cs = [.int .i64 x.f0, .int .i64 x.f1, .slice A2 x.f2.length c2] ∧ x.f2.length ≤ c2 ∧ (Kd.int .u8).C w A2 x.f2.length x.f2 := by
  obtain ⟨_, _, rfl, rfl, ⟨_, _, rfl, rfl, ⟨A2, c2, rfl, l2, g2⟩⟩⟩ := h
  exact ⟨A2, c2, rfl, l2, g2⟩
theorem k39_mk (w : World) (x : S39) {A2 : Option Addr} {c2 : Nat} (l2 : x.f2.length ≤ c2) (g2 : (Kd.int .u8).C w A2 x.f2.length x.f2) : k39.K w x [.int .i64 x.f0, .int .i64 x.f1, .slice A2 x.f2.length c2] := ⟨[.int .i64 x.f0], [.int .i64 x.f1, .slice A2 x.f2.length c2], rfl, rfl, ⟨[.int .i64 x.f1], [.slice A2 x.f2.length c2], rfl, rfl, ⟨A2, c2, rfl, l2, g2⟩⟩⟩
theorem k39_mkM (w : World) (base : Nat) (ok : Nat → Prop) (x : S39) {v2 : Value} (g2 : (Kd.int .u8).R 5 w base ok v2 x.f2) : k39.M w base ok x [.int .i64 x.f0, .int .i64 x.f1, v2] := ⟨[.int .i64 x.f0], [.int .i64 x.f1, v2], rfl, rfl, ⟨[.int .i64 x.f1], [v2], rfl, rfl, ⟨v2, rfl, g2⟩⟩⟩
theorem k39_openF {W : World} {ok : Nat → Prop} {x : S39} {cs : List Value} (h : Kd.FK k39 W ok x cs) : ∃ A2 c2, cs = [.int .i64 x.f0, .int .i64 x.f1, .slice A2 x.f2.length c2] ∧ x.f2.length ≤ c2 ∧ Kd.F (Kd.int .u8) W ok A2 x.f2.length x.f2 := by
  obtain ⟨A2, c2, rfl, l2, _⟩ := k39_open (Kd.FK_now h)
  exact ⟨A2, c2, rfl, l2, (fun W' hW => by obtain ⟨A2_, c2_, he, l2_, g2_⟩ := k39_open (h W' hW); injection (Option.some.inj (show some (Value.slice A2 x.f2.length c2) = some (Value.slice A2_ x.f2.length c2_) from congrArg (fun l => l[2]?) he)) with ha_ _ _; rw [ha_]; exact g2_)⟩
theorem k39_mkF (W : World) (ok : Nat → Prop) (x : S39) {A2 : Option Addr} {c2 : Nat} (l2 : x.f2.length ≤ c2) (g2 : Kd.F (Kd.int .u8) W ok A2 x.f2.length x.f2) : Kd.FK k39 W ok x [.int .i64 x.f0, .int .i64 x.f1, .slice A2 x.f2.length c2] := fun W2 hW => k39_mk W2 x l2 (g2 W2 hW)
def rd_T39 (xs : List S39) (i : Int) : S39 := xs.getD i.toNat z39
theorem at_T39 {w : World} {A : Option Addr} {n : Nat} {xs : List S39} (h : Kd.C k39 w A n xs) (i : Int) (h0 : 0 ≤ i) (h1 : i < n) : ∃ ad A2 c2, A = some ad ∧ w.cell? (ad.add (i.toNat * 3)) = some (.int .i64 (rd_T39 xs i).f0) ∧ w.cell? ⟨(ad.add (i.toNat * 3)).block, (ad.add (i.toNat * 3)).off + 1, none⟩ = some (.int .i64 (rd_T39 xs i).f1) ∧ w.cell? ⟨(ad.add (i.toNat * 3)).block, (ad.add (i.toNat * 3)).off + 2, none⟩ = some (.slice A2 (rd_T39 xs i).f2.length c2) ∧ (rd_T39 xs i).f2.length ≤ c2 ∧ (Kd.int .u8).C w A2 (rd_T39 xs i).f2.length (rd_T39 xs i).f2 := by
  obtain ⟨ad, c, e, _, hK, hc0⟩ := Kd.C_get h z39 i h0 h1
  have hc : ∀ j u, c[j]? = some u → w.cell? (ad.add (i.toNat * 3 + j)) = some u := hc0
  obtain ⟨A2, c2, rfl, l2, g2⟩ := k39_open hK
  exact ⟨ad, A2, c2, e, hc 0 _ rfl, by rw [← add_field _ _ 1 (by omega)]; exact hc 1 _ rfl, by rw [← add_field _ _ 2 (by omega)]; exact hc 2 _ rfl, l2, g2⟩
theorem rf3 {α : Type} {d : Kd α} {e : Nat} {w : World} {base : Nat} {ok : Nat → Prop} {v : Value} {xs : List α} {g t : Nat} {cells : Array Value} {u0 u1 u2 : Value} (h : Kd.R d e w base ok v xs) (hb : w.heap[g]? = some (.cells cells t (0, 0))) (ht : ∀ q, q ∈ e :: d.E → q ≠ t) : Kd.R d e (((w.setCell ⟨g, 0, none⟩ u0).setCell ⟨g, 1, none⟩ u1).setCell ⟨g, 2, none⟩ u2) base ok v xs := Kd.R_mono (Kd.R_far (p := ⟨g, 2, none⟩) (Kd.R_far (p := ⟨g, 1, none⟩) (Kd.R_far (p := ⟨g, 0, none⟩) (Kd.R_types h hb ht) (fun _ hk => hk.2) u0) (fun _ hk => hk.2) u1) (fun _ hk => hk.2) u2) (fun _ hk => hk.1)
theorem nh {c d : Bool} {p : Prop} (h : c = d) (h2 : c = true) (hd : d ≠ true := by decide) : p := absurd (h.symm.trans h2) hd
abbrev ku := Kd.int .u8
theorem mR {p t : Prop} (x : p) (h : p → t := by intro x_; (with_reducible repeat (first | apply Kd.R_alloc | apply Kd.R_drewN | apply Kd.R_drew)); exact x_) : t := h x
theorem mS {p t : Prop} (x : p) (h : p → t := by intro x_; (with_reducible repeat (first | apply Kd.S_alloc | apply Kd.S_drewN | apply Kd.S_drew)); exact x_) : t := h x
theorem mC {p t : Prop} (x : p) (h : p → t := by intro x_; repeat (first | exact x_ | (with_reducible refine Kd.C_alloc ?_ _) | (with_reducible refine Kd.C_drewN ?_ _) | (with_reducible refine Kd.C_drew ?_))) : t := h x
theorem am {t : Prop} (h : t := by (try simp only [List.map_toArray, List.map_cons, List.map_nil]); first | done | rfl | (simp only [List.length_drop, List.length_take]; rfl)) : t := h
theorem mF3 {p q t : Prop} (x : p) (y : q) (h : p → q → t := by intro x_ y_; (with_reducible repeat (first | apply Kd.R_alloc | apply Kd.R_drewN | apply Kd.R_drew)); exact rf3 x_ y_ (by decide)) : t := h x y
theorem yu0 {b : Nat} {w W W2 : World} {q : Prop} (x : Below b w W) (y : q) (h : Below b w W → q → Below b w W2 := by intro x_ y_; repeat (first | (with_reducible first | exact x_ | apply zq7 | apply zq8 | apply zq9 | refine zr1 ?_ (IsS113.ge y_)) | exact x_)) : Below b w W2 := h x y
theorem yu1 {w W W2 : World} {g : Nat} (x : KeepBut w W g none) (h : KeepBut w W g none → KeepBut w W2 g none := by intro x_; repeat (first | (with_reducible first | exact x_ | apply zm1 | apply zr7 | apply zr8 | apply zr9) | exact x_)) : KeepBut w W2 g none := h x
theorem yu2 {p t : Prop} (x : p) (h : p → t := by intro x_; repeat (first | (with_reducible first | exact x_ | apply IsS113.alloc | apply IsS113.drewN | apply IsS113.drew | apply IsS113.set_1) | exact x_)) : t := h x
theorem yu3 {p t : Prop} (x : p) (h : p → t := by intro x_; repeat (first | (with_reducible first | exact x_ | apply IsS113.alloc | apply IsS113.drewN | apply IsS113.drew | apply IsS113.set_1 | refine IsS113.far ?_ (Aside0.out (by assumption)) _) | exact x_)) : t := h x
theorem yu4 {b : Nat} {w W W2 : World} {q : Prop} (x : Below b w W) (y : q) (h : Below b w W → q → Below b w W2 := by intro x_ y_; repeat (first | (with_reducible first | exact x_ | apply zq7 | apply zq8 | apply zq9 | refine zr1 ?_ (IsS113.ge y_) | refine zr1 ?_ (Aside0.out (by assumption))) | exact x_)) : Below b w W2 := h x y
theorem yu5 {w W W2 : World} {g : Nat} (x : KeepBut w W g none) (h : KeepBut w W g none → KeepBut w W2 g none := by intro x_; repeat (first | (with_reducible first | exact x_ | apply zm1 | apply zr7 | apply zr8 | apply zr9 | refine keep_far ?_ (Aside0.out (by assumption)) _) | exact x_)) : KeepBut w W2 g none := h x
theorem yu6 {b : Nat} {w W W2 : World} (x : Below b w W) (h : Below b w W → Below b w W2 := by intro x_; repeat (first | (with_reducible first | exact x_ | apply zq7 | apply zq8 | apply zq9) | exact x_)) : Below b w W2 := h x
theorem yu7 {b : Nat} {w W W2 : World} (x : Below b w W) (h : Below b w W → Below b w W2 := by intro x_; repeat (first | (with_reducible first | exact x_ | apply zq7 | apply zq8 | apply zq9 | refine zr1 ?_ (Aside0.out (by assumption))) | exact x_)) : Below b w W2 := h x
theorem yu8 {w W W2 : World} {g : Nat} (x : KeepBut w W g none) (h : KeepBut w W g none → KeepBut w W2 g none := by intro x_; repeat (first | (with_reducible first | exact x_ | apply KeepBut.set_ | apply keep_drewN | apply keep_drew | apply keep_alloc) | exact x_)) : KeepBut w W2 g none := h x
theorem yu9 {b : Nat} {w W W2 : World} {q : Prop} (x : Below b w W) (y : q) (h : Below b w W → q → Below b w W2 := by intro x_ y_; repeat (first | (with_reducible first | exact x_ | apply below_alloc | apply pw_below_drewN | apply below_drew1 | refine below_set ?_ (IsS113.ge y_)) | exact x_)) : Below b w W2 := h x y
theorem yu10 {b : Nat} {w W W2 : World} {q : Prop} (x : Below b w W) (y : q) (h : Below b w W → q → Below b w W2 := by intro x_ y_; repeat (first | (with_reducible first | exact x_ | apply below_alloc | apply pw_below_drewN | apply below_drew1 | refine below_set ?_ (IsS113.ge y_) | refine below_set ?_ (Aside0.out (by assumption))) | exact x_)) : Below b w W2 := h x y
theorem yu11 {w W W2 : World} {g : Nat} (x : KeepBut w W g none) (h : KeepBut w W g none → KeepBut w W2 g none := by intro x_; repeat (first | (with_reducible first | exact x_ | apply KeepBut.set_ | apply keep_drewN | apply keep_drew | apply keep_alloc | refine keep_far ?_ (Aside0.out (by assumption)) _) | exact x_)) : KeepBut w W2 g none := h x
theorem yu12 {b : Nat} {w W W2 : World} (x : Below b w W) (h : Below b w W → Below b w W2 := by intro x_; repeat (first | (with_reducible first | exact x_ | apply below_alloc | apply pw_below_drewN | apply below_drew1 | refine below_set ?_ (Aside0.out (by assumption))) | exact x_)) : Below b w W2 := h x
theorem yv0 {p0 p1 t : Prop} (x0 : p0) (x1 : p1) (h : p0 → p1 → t := by intro n0_ n1_; (with_reducible repeat (first | refine zq1 ?_ _ | refine zq2 ?_ | refine zq3 ?_ _)); refine fa3 ?_ n0_; (with_reducible repeat (first | refine zq1 ?_ _ | refine zq2 ?_ | refine zq3 ?_ _)); exact n1_) : t := h x0 x1
theorem yv1 {p0 t : Prop} (x0 : p0) (h : p0 → t := by intro n0_; (with_reducible repeat (first | refine zq1 ?_ _ | refine zq2 ?_ | refine zq3 ?_ _)); apply pu3; (with_reducible repeat (first | refine zq1 ?_ _ | refine zq2 ?_ | refine zq3 ?_ _)); exact n0_) : t := h x0
theorem yv2 {p0 p1 t : Prop} (x0 : p0) (x1 : p1) (h : p0 → p1 → t := by intro n0_ n1_; (with_reducible repeat (first | refine zq1 ?_ _ | refine zq2 ?_ | refine zq3 ?_ _)); apply pu3; (with_reducible repeat (first | refine zq1 ?_ _ | refine zq2 ?_ | refine zq3 ?_ _)); refine zq5 ?_ n0_ _; (with_reducible repeat (first | refine zq1 ?_ _ | refine zq2 ?_ | refine zq3 ?_ _)); exact n1_) : t := h x0 x1
theorem yv3 {p0 p1 t : Prop} (x0 : p0) (x1 : p1) (h : p0 → p1 → t := by intro n0_ n1_; (with_reducible repeat (first | refine zq1 ?_ _ | refine zq2 ?_ | refine zq3 ?_ _)); refine fa10 ?_ n0_; (with_reducible repeat (first | refine zq1 ?_ _ | refine zq2 ?_ | refine zq3 ?_ _)); exact n1_) : t := h x0 x1
theorem yv4 {p0 t : Prop} (x0 : p0) (h : p0 → t := by intro n0_; (with_reducible repeat (first | refine zq1 ?_ _ | refine zq2 ?_ | refine zq3 ?_ _)); apply pu10; (with_reducible repeat (first | refine zq1 ?_ _ | refine zq2 ?_ | refine zq3 ?_ _)); exact n0_) : t := h x0
theorem yv5 {p0 p1 t : Prop} (x0 : p0) (x1 : p1) (h : p0 → p1 → t := by intro n0_ n1_; (with_reducible repeat (first | refine zq1 ?_ _ | refine zq2 ?_ | refine zq3 ?_ _)); refine zq5 ?_ n0_ _; (with_reducible repeat (first | refine zq1 ?_ _ | refine zq2 ?_ | refine zq3 ?_ _)); exact n1_) : t := h x0 x1
theorem yv6 {p0 p1 t : Prop} (x0 : p0) (x1 : p1) (h : p0 → p1 → t := by intro n0_ n1_; (with_reducible repeat (first | refine zq1 ?_ _ | refine zq2 ?_ | refine zq3 ?_ _)); apply pu10; (with_reducible repeat (first | refine zq1 ?_ _ | refine zq2 ?_ | refine zq3 ?_ _)); refine zq5 ?_ n0_ _; (with_reducible repeat (first | refine zq1 ?_ _ | refine zq2 ?_ | refine zq3 ?_ _)); exact n1_) : t := h x0 x1
theorem yv7 {p0 t : Prop} (x0 : p0) (h : p0 → t := by intro n0_; (with_reducible repeat (first | refine zq1 ?_ _ | refine zq2 ?_ | refine zq3 ?_ _)); apply pu9; (with_reducible repeat (first | refine zq1 ?_ _ | refine zq2 ?_ | refine zq3 ?_ _)); exact n0_) : t := h x0
theorem yv14 {p0 t : Prop} (x0 : p0) (h : p0 → t := by intro n0_; (with_reducible repeat (first | refine blk_drewN ?_ _ | refine blk_drew ?_ | refine blk_alloc ?_ _)); exact n0_) : t := h x0
theorem yv15 {p0 p1 p2 p3 p4 p5 t : Prop} (x0 : p0) (x1 : p1) (x2 : p2) (x3 : p3) (x4 : p4) (x5 : p5) (h : p0 → p1 → p2 → p3 → p4 → p5 → t := by intro n0_ n1_ n2_ n3_ n4_ n5_; (with_reducible repeat (first | refine blk_drewN ?_ _ | refine blk_drew ?_ | refine blk_alloc ?_ _)); refine blk_far ?_ n0_ _; (with_reducible repeat (first | refine blk_drewN ?_ _ | refine blk_drew ?_ | refine blk_alloc ?_ _)); refine blk_far ?_ n1_ _; (with_reducible repeat (first | refine blk_drewN ?_ _ | refine blk_drew ?_ | refine blk_alloc ?_ _)); refine blk_far ?_ n2_ _; (with_reducible repeat (first | refine blk_drewN ?_ _ | refine blk_drew ?_ | refine blk_alloc ?_ _)); refine blk_far ?_ n3_ _; (with_reducible repeat (first | refine blk_drewN ?_ _ | refine blk_drew ?_ | refine blk_alloc ?_ _)); refine blk_far ?_ n4_ _; (with_reducible repeat (first | refine blk_drewN ?_ _ | refine blk_drew ?_ | refine blk_alloc ?_ _)); exact n5_) : t := h x0 x1 x2 x3 x4 x5

end Go.Proofs.Yteknaofnageihaa.QFnTxOk
