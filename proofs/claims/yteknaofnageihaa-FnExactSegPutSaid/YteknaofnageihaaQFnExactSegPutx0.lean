-- Written by a program of this session, a turned copy of the print (not by print.sh itself). Lean checks it.
import Derived.Test.YteknaofnageihaaProg
import Derived.Below
import Derived.Deep.Draws
import Derived.Deep.AppendLies
import Derived.Maps.AppendAt
import Derived.OwnWalk
import Derived.Laws.BytesArg
import Derived.Laws.MakeOwn
import Derived.Laws.OwnMore
import Derived.Deep.OwnRows
import Derived.Tactics
import Derived.Lib.ConvBytes
import Derived.Laws.Slices
import Derived.WalkKit
import Derived.KernelRfl
import Derived.RowKit3
import Derived.Deep.LoopGhost
import Derived.Deep.QuietTactic
import Derived.BigQuiet
import Derived.WideLaws
import Derived.Deep.DeepCutAuto
import Derived.Deep.CutBlock
import Derived.Deep.RegionHeld3
import Derived.Laws.Rows
import Derived.Lib.AppendStr
import Derived.ArgAppend
import Derived.Laws.IdiomCopy
import Derived.OrdersHeld
import Derived.Laws.BitsLemmas
import Derived.RowKit
import Derived.Lib.SliceRun
import Derived.Test.YteknaofnageihaaVFnExactSegPut
namespace Go.Proofs.Yteknaofnageihaa.QFnExactSegPut
open Go.RowKit Go.Proofs.YteknaofnageihaaW.PrintWords Go.Proofs.YteknaofnageihaaW.PrintLast Go.Proofs.YteknaofnageihaaW.PrintMore Go.Proofs.YteknaofnageihaaLoc
attribute [local go_sem] max2_int min2_int max_two min_two max_three min_three max_four min_four   -- for this text's walks alone
set_option linter.unusedVariables false
set_option linter.unusedSimpArgs false



def errW : Option Int → Value
  | none => .nilIface
  | some c => .iface 0 (.int .i64 c)
theorem errW_none : errW none = .nilIface := rfl
theorem errW_some (c : Int) : errW (some c) = .iface 0 (.int .i64 c) := rfl

def bl : Nat → Nat → List Bool
  | 0, _ => []
  | n + 1, m => (m % 2 == 1) :: bl n (m / 2)
def bm (n m : Nat) : Array Bool := (bl n m).toArray
section
variable {P : Program} {ops : Array Oper} {Q : Exit → Act → World → Prop} {md : Region.Mode} {S : World → Prop} {ds : List Nat} {T : Bool × List (List Nat × List Nat)} {B : List Nat} {fuel : Nat} {oi : Oper} {v : Value} {l : Array Bool} {a a' : Act} {w : World}
theorem pA (i : Nat) (N : Option Tmp) (l' : Array Bool) (hi : ops[i]? = some oi) (hN : oi.dst = N) (hT : rtab md ops = T) (hc : anyT T l.toList l'.toList i = true) (hQ : ∀ c a w, Q (.panic c) (a.put oi.dst v) w → Q (.panic c) a w) (hw : Region.wanted oi (yielded ops a.tmps) = true) (hy : ∀ w, (execOp a.eval oi).run P w = .ok (.value v) w) (ha : a.put N v = a') (h : wpAnyLast P md ops Q S ds fuel l' a' w) : wpAnyLast P md ops Q S ds (fuel + 1) l a w := pure_ l' hi hN (any_of hT hc) hQ (.inl ⟨hw, hy⟩) ha h
theorem tA (i : Nat) (N : Option Tmp) (l' : Array Bool) (hi : ops[i]? = some oi) (hN : oi.dst = N) (hT : rtab md ops = T) (hB : waitsOk T.2 B = true) (hc : takeW T B ds l.toList l'.toList i = true) (hQ : ∀ c a w, Q (.panic c) (a.put oi.dst v) w → Q (.panic c) a w) (hw : Region.wanted oi (yielded ops a.tmps) = true) (hS : S w) (hy : ∀ w, S w → (execOp a.eval oi).run P w = .ok (.value v) w) (ha : a.put N v = a') (h : wpAnyLast P md ops Q S ds fuel l' a' w) : wpAnyLast P md ops Q S ds (fuel + 1) l a w := take_ l' hi hN (take_ofW hT hB hc) hQ (.inl ⟨hw, hy⟩) hS ha h
end
theorem zs1 {α : Type _} (l : List α) (i : Nat) (a : α) : l.toArray.setIfInBounds i a = (l.set i a).toArray := List.setIfInBounds_toArray ..
theorem zs2 {α : Type _} {x : α} {xs : List α} {a : α} : (x :: xs).set 0 a = a :: xs := List.set_cons_zero
theorem zs3 {α : Type _} {x : α} {xs : List α} {n : Nat} {a : α} : (x :: xs).set (n + 1) a = x :: xs.set n a := List.set_cons_succ
abbrev zq1 := @blk_drewN
abbrev zq2 := @blk_drew
abbrev zq3 := @blk_alloc
abbrev zq4 := @blk_put
abbrev zq5 := @blk_far
abbrev zq6 := @blk_below
abbrev zq7 := @below_alloc
abbrev zq8 := @pw_below_drewN
abbrev zq9 := @below_drew1
abbrev zr1 := @below_set
abbrev zr2 := @below_size
abbrev zr3 := @below_step
abbrev zr4 := @blk_cell
abbrev zr5 := @blk_frozen
abbrev mk_ := @Aside0.mk
abbrev zr6 := @blk_lt
abbrev zm2 := @Nat.ne_of_lt
abbrev zm3 := @Nat.ne_of_gt
theorem cz2 {w : World} {g : Nat} {t : TypeId} {v0 v1 : Value} (h : w.heap[g]? = some (.cells #[v0, v1] t (0, 0))) : w.cell? ⟨g, 0, none⟩ = some v0 ∧ w.cell? ⟨g, 1, none⟩ = some v1 := ⟨(blk_cell h 0).trans rfl, (blk_cell h 1).trans rfl⟩
theorem fz2 {w : World} {g : Nat} {t : TypeId} {v0 v1 : Value} (h : w.heap[g]? = some (.cells #[v0, v1] t (0, 0))) : w.frozen? ⟨g, 0, none⟩ = false ∧ w.frozen? ⟨g, 1, none⟩ = false := ⟨blk_frozen h 0, blk_frozen h 1⟩
theorem cz3 {w : World} {g : Nat} {t : TypeId} {v0 v1 v2 : Value} (h : w.heap[g]? = some (.cells #[v0, v1, v2] t (0, 0))) : w.cell? ⟨g, 0, none⟩ = some v0 ∧ w.cell? ⟨g, 1, none⟩ = some v1 ∧ w.cell? ⟨g, 2, none⟩ = some v2 := ⟨(blk_cell h 0).trans rfl, (blk_cell h 1).trans rfl, (blk_cell h 2).trans rfl⟩
theorem fz3 {w : World} {g : Nat} {t : TypeId} {v0 v1 v2 : Value} (h : w.heap[g]? = some (.cells #[v0, v1, v2] t (0, 0))) : w.frozen? ⟨g, 0, none⟩ = false ∧ w.frozen? ⟨g, 1, none⟩ = false ∧ w.frozen? ⟨g, 2, none⟩ = false := ⟨blk_frozen h 0, blk_frozen h 1, blk_frozen h 2⟩
theorem cz9 {w : World} {g : Nat} {t : TypeId} {v0 v1 v2 v3 v4 v5 v6 v7 v8 : Value} (h : w.heap[g]? = some (.cells #[v0, v1, v2, v3, v4, v5, v6, v7, v8] t (0, 0))) : w.cell? ⟨g, 0, none⟩ = some v0 ∧ w.cell? ⟨g, 1, none⟩ = some v1 ∧ w.cell? ⟨g, 2, none⟩ = some v2 ∧ w.cell? ⟨g, 3, none⟩ = some v3 ∧ w.cell? ⟨g, 4, none⟩ = some v4 ∧ w.cell? ⟨g, 5, none⟩ = some v5 ∧ w.cell? ⟨g, 6, none⟩ = some v6 ∧ w.cell? ⟨g, 7, none⟩ = some v7 ∧ w.cell? ⟨g, 8, none⟩ = some v8 := ⟨(blk_cell h 0).trans rfl, (blk_cell h 1).trans rfl, (blk_cell h 2).trans rfl, (blk_cell h 3).trans rfl, (blk_cell h 4).trans rfl, (blk_cell h 5).trans rfl, (blk_cell h 6).trans rfl, (blk_cell h 7).trans rfl, (blk_cell h 8).trans rfl⟩
theorem fz9 {w : World} {g : Nat} {t : TypeId} {v0 v1 v2 v3 v4 v5 v6 v7 v8 : Value} (h : w.heap[g]? = some (.cells #[v0, v1, v2, v3, v4, v5, v6, v7, v8] t (0, 0))) : w.frozen? ⟨g, 0, none⟩ = false ∧ w.frozen? ⟨g, 1, none⟩ = false ∧ w.frozen? ⟨g, 2, none⟩ = false ∧ w.frozen? ⟨g, 3, none⟩ = false ∧ w.frozen? ⟨g, 4, none⟩ = false ∧ w.frozen? ⟨g, 5, none⟩ = false ∧ w.frozen? ⟨g, 6, none⟩ = false ∧ w.frozen? ⟨g, 7, none⟩ = false ∧ w.frozen? ⟨g, 8, none⟩ = false := ⟨blk_frozen h 0, blk_frozen h 1, blk_frozen h 2, blk_frozen h 3, blk_frozen h 4, blk_frozen h 5, blk_frozen h 6, blk_frozen h 7, blk_frozen h 8⟩
theorem pu2 {w : World} {g : Nat} {t : TypeId} {u0 u1 v0 v1 : Value} (h : w.heap[g]? = some (.cells #[v0, v1] t (0, 0))) : ((w.setCell ⟨g, 0, none⟩ u0).setCell ⟨g, 1, none⟩ u1).heap[g]? = some (.cells #[u0, u1] t (0, 0)) := (zq4 (cs := #[u0, v1]) (cs' := #[u0, u1]) (zq4 (cs := #[v0, v1]) (cs' := #[u0, v1]) h 0 u0 rfl) 1 u1 rfl)
theorem fa2 {w : World} {g b : Nat} {t : TypeId} {cs : Array Value} {i0 i1 : Nat} {u0 u1 : Value} (h : w.heap[g]? = some (.cells cs t (0, 0))) (hn : g ≠ b) : ((w.setCell ⟨b, i0, none⟩ u0).setCell ⟨b, i1, none⟩ u1).heap[g]? = some (.cells cs t (0, 0)) := (zq5 (zq5 h (p := ⟨b, i0, none⟩) hn u0) (p := ⟨b, i1, none⟩) hn u1)
theorem pu3 {w : World} {g : Nat} {t : TypeId} {u0 u1 u2 v0 v1 v2 : Value} (h : w.heap[g]? = some (.cells #[v0, v1, v2] t (0, 0))) : (((w.setCell ⟨g, 0, none⟩ u0).setCell ⟨g, 1, none⟩ u1).setCell ⟨g, 2, none⟩ u2).heap[g]? = some (.cells #[u0, u1, u2] t (0, 0)) := (zq4 (cs := #[u0, u1, v2]) (cs' := #[u0, u1, u2]) (zq4 (cs := #[u0, v1, v2]) (cs' := #[u0, u1, v2]) (zq4 (cs := #[v0, v1, v2]) (cs' := #[u0, v1, v2]) h 0 u0 rfl) 1 u1 rfl) 2 u2 rfl)
theorem fa3 {w : World} {g b : Nat} {t : TypeId} {cs : Array Value} {i0 i1 i2 : Nat} {u0 u1 u2 : Value} (h : w.heap[g]? = some (.cells cs t (0, 0))) (hn : g ≠ b) : (((w.setCell ⟨b, i0, none⟩ u0).setCell ⟨b, i1, none⟩ u1).setCell ⟨b, i2, none⟩ u2).heap[g]? = some (.cells cs t (0, 0)) := (zq5 (zq5 (zq5 h (p := ⟨b, i0, none⟩) hn u0) (p := ⟨b, i1, none⟩) hn u1) (p := ⟨b, i2, none⟩) hn u2)
theorem info5 : (Try.prog.info? 5).map (fun i => (i.zero, i.size, i.bytes)) = some (some (.int .u8 0), 1, 1) := by kernel_rfl
-- the values' own types
theorem nh {c d : Bool} {p : Prop} (h : c = d) (h2 : c = true) (hd : d ≠ true := by decide) : p := absurd (h.symm.trans h2) hd
theorem ai {a b : Prop} (x : a) (y : b) : a ∧ b := ⟨x, y⟩
abbrev ku := Kd.int .u8
theorem bk {W W2 : World} {g : Nat} {o : Obj} {S : Nat → Prop} (h : W.heap[g]? = some o) (hk : Kept W W2 S) (hn : ¬ S g) : W2.heap[g]? = some o := blk_kept h hk hn
theorem mR {p t : Prop} (x : p) (h : p → t := by intro x_; (with_reducible repeat (first | apply Kd.R_alloc | apply Kd.R_drewN | apply Kd.R_drew)); exact x_) : t := h x
theorem mC {p t : Prop} (x : p) (h : p → t := by intro x_; repeat (first | exact x_ | (with_reducible refine Kd.C_alloc ?_ _) | (with_reducible refine Kd.C_drewN ?_ _) | (with_reducible refine Kd.C_drew ?_))) : t := h x
theorem am {t : Prop} (h : t := by (try simp only [List.map_toArray, List.map_cons, List.map_nil]); first | done | rfl | (simp only [List.length_drop, List.length_take]; rfl)) : t := h
theorem kRR {α : Type} {d : Kd α} {e : Nat} {W W2 : World} {base : Nat} {ok S : Nat → Prop} {v : Value} {xs : List α} (h : RR d e W base ok v xs) (hk : Kept W W2 S) (hne : ∀ k, ok k → ¬ S k) : RR d e W2 base ok v xs := RR_mono (RR_keptB h hk hne) (fun _ hk => hk.1)
theorem rg2 {α : Type} {d : Kd α} {e : Nat} {w : World} {base : Nat} {ok : Nat → Prop} {v : Value} {xs : List α} {g t : Nat} {cells : Array Value} {u0 u1 : Value} (h : RR d e w base ok v xs) (hb : w.heap[g]? = some (.cells cells t (0, 0))) (ht : ∀ q, q ∈ e :: d.E → q ≠ t) : RR d e ((w.setCell ⟨g, 0, none⟩ u0).setCell ⟨g, 1, none⟩ u1) base ok v xs := RR_mono (RR_far (p := ⟨g, 1, none⟩) (RR_far (p := ⟨g, 0, none⟩) (RR_types h hb ht) (fun _ hk => hk.2) u0) (fun _ hk => hk.2) u1) (fun _ hk => hk.1)
theorem rg3 {α : Type} {d : Kd α} {e : Nat} {w : World} {base : Nat} {ok : Nat → Prop} {v : Value} {xs : List α} {g t : Nat} {cells : Array Value} {u0 u1 u2 : Value} (h : RR d e w base ok v xs) (hb : w.heap[g]? = some (.cells cells t (0, 0))) (ht : ∀ q, q ∈ e :: d.E → q ≠ t) : RR d e (((w.setCell ⟨g, 0, none⟩ u0).setCell ⟨g, 1, none⟩ u1).setCell ⟨g, 2, none⟩ u2) base ok v xs := RR_mono (RR_far (p := ⟨g, 2, none⟩) (RR_far (p := ⟨g, 1, none⟩) (RR_far (p := ⟨g, 0, none⟩) (RR_types h hb ht) (fun _ hk => hk.2) u0) (fun _ hk => hk.2) u1) (fun _ hk => hk.2) u2) (fun _ hk => hk.1)
theorem mRR {p t : Prop} (x : p) (h : p → t := by intro x_; (with_reducible repeat (first | apply RR_alloc | apply RR_drewN | apply RR_drew)); exact x_) : t := h x
theorem mG2 {p q t : Prop} (x : p) (y : q) (h : p → q → t := by intro x_ y_; (with_reducible repeat (first | apply RR_alloc | apply RR_drewN | apply RR_drew)); exact rg2 x_ y_ (by decide)) : t := h x y
theorem mG3 {p q t : Prop} (x : p) (y : q) (h : p → q → t := by intro x_ y_; (with_reducible repeat (first | apply RR_alloc | apply RR_drewN | apply RR_drew)); exact rg3 x_ y_ (by decide)) : t := h x y
theorem yu0 {b : Nat} {w W W2 : World} (x : Below b w W) (h : Below b w W → Below b w W2 := by intro x_; repeat (first | (with_reducible first | exact x_ | apply zq7 | apply zq8 | apply zq9) | exact x_)) : Below b w W2 := h x
theorem yu1 {b : Nat} {w W W2 : World} (x : Below b w W) (h : Below b w W → Below b w W2 := by intro x_; repeat (first | (with_reducible first | exact x_ | apply zq7 | apply zq8 | apply zq9 | refine zr1 ?_ (Aside0.out (by assumption))) | exact x_)) : Below b w W2 := h x
theorem yu2 {p t : Prop} (x : p) (h : p → t := by intro x_; repeat (first | (with_reducible first | exact x_ | apply Kept.alloc | apply Kept.drewN | apply Kept.drew) | exact x_)) : t := h x
theorem yv0 {p0 t : Prop} (x0 : p0) (h : p0 → t := by intro n0_; (with_reducible repeat (first | refine zq1 ?_ _ | refine zq2 ?_ | refine zq3 ?_ _)); apply pu2; (with_reducible repeat (first | refine zq1 ?_ _ | refine zq2 ?_ | refine zq3 ?_ _)); exact n0_) : t := h x0
theorem yv1 {p0 p1 t : Prop} (x0 : p0) (x1 : p1) (h : p0 → p1 → t := by intro n0_ n1_; (with_reducible repeat (first | refine zq1 ?_ _ | refine zq2 ?_ | refine zq3 ?_ _)); refine zq5 ?_ n0_ _; (with_reducible repeat (first | refine zq1 ?_ _ | refine zq2 ?_ | refine zq3 ?_ _)); exact n1_) : t := h x0 x1
theorem yv2 {p0 p1 t : Prop} (x0 : p0) (x1 : p1) (h : p0 → p1 → t := by intro n0_ n1_; (with_reducible repeat (first | refine zq1 ?_ _ | refine zq2 ?_ | refine zq3 ?_ _)); apply pu2; (with_reducible repeat (first | refine zq1 ?_ _ | refine zq2 ?_ | refine zq3 ?_ _)); refine zq5 ?_ n0_ _; (with_reducible repeat (first | refine zq1 ?_ _ | refine zq2 ?_ | refine zq3 ?_ _)); exact n1_) : t := h x0 x1
theorem yv3 {p0 p1 t : Prop} (x0 : p0) (x1 : p1) (h : p0 → p1 → t := by intro n0_ n1_; (with_reducible repeat (first | refine zq1 ?_ _ | refine zq2 ?_ | refine zq3 ?_ _)); refine fa2 ?_ n0_; (with_reducible repeat (first | refine zq1 ?_ _ | refine zq2 ?_ | refine zq3 ?_ _)); exact n1_) : t := h x0 x1
theorem yv4 {p0 p1 t : Prop} (x0 : p0) (x1 : p1) (h : p0 → p1 → t := by intro n0_ n1_; (with_reducible repeat (first | refine zq1 ?_ _ | refine zq2 ?_ | refine zq3 ?_ _)); apply pu3; (with_reducible repeat (first | refine zq1 ?_ _ | refine zq2 ?_ | refine zq3 ?_ _)); refine zq5 ?_ n0_ _; (with_reducible repeat (first | refine zq1 ?_ _ | refine zq2 ?_ | refine zq3 ?_ _)); exact n1_) : t := h x0 x1
theorem yv5 {p0 p1 t : Prop} (x0 : p0) (x1 : p1) (h : p0 → p1 → t := by intro n0_ n1_; (with_reducible repeat (first | refine zq1 ?_ _ | refine zq2 ?_ | refine zq3 ?_ _)); refine fa3 ?_ n0_; (with_reducible repeat (first | refine zq1 ?_ _ | refine zq2 ?_ | refine zq3 ?_ _)); exact n1_) : t := h x0 x1
theorem yv6 {p0 t : Prop} (x0 : p0) (h : p0 → t := by intro n0_; (with_reducible repeat (first | refine zq1 ?_ _ | refine zq2 ?_ | refine zq3 ?_ _)); apply pu3; (with_reducible repeat (first | refine zq1 ?_ _ | refine zq2 ?_ | refine zq3 ?_ _)); exact n0_) : t := h x0

end Go.Proofs.Yteknaofnageihaa.QFnExactSegPut
