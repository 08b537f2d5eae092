-- Written by a program of this session, a turned copy of the print (not by print.sh itself). Lean checks it.
import Derived.Test.YteknaofnageihaaProg
import Derived.Below
import Derived.Deep.Draws
import Derived.Deep.AppendLies
import Derived.Maps.AppendAt
import Derived.OwnWalk
import Derived.Laws.BytesArg
import Derived.Laws.MakeOwn
import Derived.Laws.OwnMore
import Derived.Deep.OwnRows
import Derived.Tactics
import Derived.Lib.ConvBytes
import Derived.Laws.Slices
import Derived.WalkKit
import Derived.KernelRfl
import Derived.RowKit3
import Derived.Deep.LoopGhost
import Derived.Deep.QuietTactic
import Derived.BigQuiet
import Derived.WideLaws
import Derived.Deep.DeepCutAuto
import Derived.Deep.CutBlock
import Derived.Deep.RegionHeld3
import Derived.Laws.Rows
import Derived.Lib.AppendStr
import Derived.ArgAppend
import Derived.Laws.IdiomCopy
import Derived.OrdersHeld
import Derived.Laws.BitsLemmas
import Derived.RowKit
import Derived.Lib.SliceRun
import Derived.Test.YteknaofnageihaaVFnExactSegCut
namespace Go.Proofs.Yteknaofnageihaa.QFnExactSegCut
open Go.RowKit Go.Proofs.YteknaofnageihaaW.PrintWords Go.Proofs.YteknaofnageihaaW.PrintLast Go.Proofs.YteknaofnageihaaW.PrintMore Go.Proofs.YteknaofnageihaaLoc
attribute [local go_sem] max2_int min2_int max_two min_two max_three min_three max_four min_four   -- for this text's walks alone
set_option linter.unusedVariables false
set_option linter.unusedSimpArgs false



def errW : Option Int → Value
  | none => .nilIface
  | some c => .iface 0 (.int .i64 c)
theorem errW_none : errW none = .nilIface := rfl
theorem errW_some (c : Int) : errW (some c) = .iface 0 (.int .i64 c) := rfl

def bl : Nat → Nat → List Bool
  | 0, _ => []
  | n + 1, m => (m % 2 == 1) :: bl n (m / 2)
def bm (n m : Nat) : Array Bool := (bl n m).toArray
section
variable {P : Program} {ops : Array Oper} {Q : Exit → Act → World → Prop} {md : Region.Mode} {S : World → Prop} {ds : List Nat} {T : Bool × List (List Nat × List Nat)} {B : List Nat} {fuel : Nat} {oi : Oper} {v : Value} {l : Array Bool} {a a' : Act} {w : World}
theorem pA (i : Nat) (N : Option Tmp) (l' : Array Bool) (hi : ops[i]? = some oi) (hN : oi.dst = N) (hT : rtab md ops = T) (hc : anyT T l.toList l'.toList i = true) (hQ : ∀ c a w, Q (.panic c) (a.put oi.dst v) w → Q (.panic c) a w) (hw : Region.wanted oi (yielded ops a.tmps) = true) (hy : ∀ w, (execOp a.eval oi).run P w = .ok (.value v) w) (ha : a.put N v = a') (h : wpAnyLast P md ops Q S ds fuel l' a' w) : wpAnyLast P md ops Q S ds (fuel + 1) l a w := pure_ l' hi hN (any_of hT hc) hQ (.inl ⟨hw, hy⟩) ha h
theorem tA (i : Nat) (N : Option Tmp) (l' : Array Bool) (hi : ops[i]? = some oi) (hN : oi.dst = N) (hT : rtab md ops = T) (hB : waitsOk T.2 B = true) (hc : takeW T B ds l.toList l'.toList i = true) (hQ : ∀ c a w, Q (.panic c) (a.put oi.dst v) w → Q (.panic c) a w) (hw : Region.wanted oi (yielded ops a.tmps) = true) (hS : S w) (hy : ∀ w, S w → (execOp a.eval oi).run P w = .ok (.value v) w) (ha : a.put N v = a') (h : wpAnyLast P md ops Q S ds fuel l' a' w) : wpAnyLast P md ops Q S ds (fuel + 1) l a w := take_ l' hi hN (take_ofW hT hB hc) hQ (.inl ⟨hw, hy⟩) hS ha h
end
theorem zs1 {α : Type _} (l : List α) (i : Nat) (a : α) : l.toArray.setIfInBounds i a = (l.set i a).toArray := List.setIfInBounds_toArray ..
theorem zs2 {α : Type _} {x : α} {xs : List α} {a : α} : (x :: xs).set 0 a = a :: xs := List.set_cons_zero
theorem zs3 {α : Type _} {x : α} {xs : List α} {n : Nat} {a : α} : (x :: xs).set (n + 1) a = x :: xs.set n a := List.set_cons_succ
abbrev zq1 := @blk_drewN
abbrev zq2 := @blk_drew
abbrev zq3 := @blk_alloc
abbrev zq4 := @blk_put
abbrev zq6 := @blk_below
abbrev zq7 := @below_alloc
abbrev zq8 := @pw_below_drewN
abbrev zq9 := @below_drew1
abbrev zr1 := @below_set
abbrev zr2 := @below_size
abbrev zr3 := @below_step
abbrev mk_ := @Aside0.mk
abbrev zr6 := @blk_lt
abbrev zm2 := @Nat.ne_of_lt
theorem cz3 {w : World} {g : Nat} {t : TypeId} {v0 v1 v2 : Value} (h : w.heap[g]? = some (.cells #[v0, v1, v2] t (0, 0))) : w.cell? ⟨g, 0, none⟩ = some v0 ∧ w.cell? ⟨g, 1, none⟩ = some v1 ∧ w.cell? ⟨g, 2, none⟩ = some v2 := ⟨(blk_cell h 0).trans rfl, (blk_cell h 1).trans rfl, (blk_cell h 2).trans rfl⟩
theorem fz3 {w : World} {g : Nat} {t : TypeId} {v0 v1 v2 : Value} (h : w.heap[g]? = some (.cells #[v0, v1, v2] t (0, 0))) : w.frozen? ⟨g, 0, none⟩ = false ∧ w.frozen? ⟨g, 1, none⟩ = false ∧ w.frozen? ⟨g, 2, none⟩ = false := ⟨blk_frozen h 0, blk_frozen h 1, blk_frozen h 2⟩
theorem pu3 {w : World} {g : Nat} {t : TypeId} {u0 u1 u2 v0 v1 v2 : Value} (h : w.heap[g]? = some (.cells #[v0, v1, v2] t (0, 0))) : (((w.setCell ⟨g, 0, none⟩ u0).setCell ⟨g, 1, none⟩ u1).setCell ⟨g, 2, none⟩ u2).heap[g]? = some (.cells #[u0, u1, u2] t (0, 0)) := (zq4 (cs := #[u0, u1, v2]) (cs' := #[u0, u1, u2]) (zq4 (cs := #[u0, v1, v2]) (cs' := #[u0, u1, v2]) (zq4 (cs := #[v0, v1, v2]) (cs' := #[u0, v1, v2]) h 0 u0 rfl) 1 u1 rfl) 2 u2 rfl)
theorem info5 : (Try.prog.info? 5).map (fun i => (i.zero, i.size, i.bytes)) = some (some (.int .u8 0), 1, 1) := by kernel_rfl
theorem info39 : (Try.prog.info? 39).map (fun i => (i.zero, i.size, i.bytes)) = some (some (.agg #[(.int .i64 0), (.int .i64 0), (.slice none 0 0)]), 3, 40) := by kernel_rfl
-- the values' own types
/-! #### struct type 39 -/
structure S39 where
  f0 : Int
  f1 : Int
  f2 : (List Int)
def z39 : S39 := ⟨(0 : Int), (0 : Int), ([] : List Int)⟩
def k39 : Kd S39 := Kd.iso (Kd.pair (Kd.int .i64) (Kd.pair (Kd.int .i64) (Kd.slice 5 (Kd.int .u8)))) (fun x : S39 => (x.f0, x.f1, x.f2))
theorem k39_open {w : World} {x : S39} {cs : List Value} (h : k39.K w x cs) : ∃ A2 c2, cs = [.int .i64 x.f0, .int .i64 x.f1, .slice A2 x.f2.length c2] ∧ x.f2.length ≤ c2 ∧ (Kd.int .u8).C w A2 x.f2.length x.f2 := by
  obtain ⟨_, _, rfl, rfl, ⟨_, _, rfl, rfl, ⟨A2, c2, rfl, l2, g2⟩⟩⟩ := h
  exact ⟨A2, c2, rfl, l2, g2⟩
theorem k39_mk (w : World) (x : S39) {A2 : Option Addr} {c2 : Nat} (l2 : x.f2.length ≤ c2) (g2 : (Kd.int .u8).C w A2 x.f2.length x.f2) : k39.K w x [.int .i64 x.f0, .int .i64 x.f1, .slice A2 x.f2.length c2] := ⟨[.int .i64 x.f0], [.int .i64 x.f1, .slice A2 x.f2.length c2], rfl, rfl, ⟨[.int .i64 x.f1], [.slice A2 x.f2.length c2], rfl, rfl, ⟨A2, c2, rfl, l2, g2⟩⟩⟩
theorem k39_mkM (w : World) (base : Nat) (ok : Nat → Prop) (x : S39) {v2 : Value} (g2 : (Kd.int .u8).R 5 w base ok v2 x.f2) : k39.M w base ok x [.int .i64 x.f0, .int .i64 x.f1, v2] := ⟨[.int .i64 x.f0], [.int .i64 x.f1, v2], rfl, rfl, ⟨[.int .i64 x.f1], [v2], rfl, rfl, ⟨v2, rfl, g2⟩⟩⟩
def rd_T39 (xs : List S39) (i : Int) : S39 := xs.getD i.toNat z39
theorem at_T39 {w : World} {A : Option Addr} {n : Nat} {xs : List S39} (h : Kd.C k39 w A n xs) (i : Int) (h0 : 0 ≤ i) (h1 : i < n) : ∃ ad A2 c2, A = some ad ∧ w.cell? (ad.add (i.toNat * 3)) = some (.int .i64 (rd_T39 xs i).f0) ∧ w.cell? ⟨(ad.add (i.toNat * 3)).block, (ad.add (i.toNat * 3)).off + 1, none⟩ = some (.int .i64 (rd_T39 xs i).f1) ∧ w.cell? ⟨(ad.add (i.toNat * 3)).block, (ad.add (i.toNat * 3)).off + 2, none⟩ = some (.slice A2 (rd_T39 xs i).f2.length c2) ∧ (rd_T39 xs i).f2.length ≤ c2 ∧ (Kd.int .u8).C w A2 (rd_T39 xs i).f2.length (rd_T39 xs i).f2 := by
  obtain ⟨ad, c, e, _, hK, hc0⟩ := Kd.C_get h z39 i h0 h1
  have hc : ∀ j u, c[j]? = some u → w.cell? (ad.add (i.toNat * 3 + j)) = some u := hc0
  obtain ⟨A2, c2, rfl, l2, g2⟩ := k39_open hK
  exact ⟨ad, A2, c2, e, hc 0 _ rfl, by rw [← add_field _ _ 1 (by omega)]; exact hc 1 _ rfl, by rw [← add_field _ _ 2 (by omega)]; exact hc 2 _ rfl, l2, g2⟩

abbrev enc39 (x : S39) (u : Value) : List Value := [.int .i64 x.f0, .int .i64 x.f1, u]
abbrev P39 (w : World) (base : Nat) (ok : Nat → Prop) (v : Value) (xs : List S39) : Prop := PN enc39 (fun x : S39 => x.f2) 3 39 w base ok v xs
abbrev C39 (w : World) (base : Nat) (ok : Nat → Prop) (v : Value) (xs : List S39) : Prop := PC enc39 (fun x : S39 => x.f2) 3 39 w base ok v xs
theorem P39_C {w : World} {base : Nat} {ok : Nat → Prop} {A : Option Addr} {n c : Nat} {xs : List S39} (h : P39 w base ok (.slice A n c) xs) : k39.C w A xs.length xs := by
  obtain ⟨_, us, hl, hR, hf, _⟩ := h
  obtain ⟨hn, hc, hC⟩ := Kd.R_reads' hR
  rw [List.length_zipWith, hl, Nat.min_self] at hC
  refine ⟨rfl, hC.2.1, fun hp => ?_⟩
  obtain ⟨ad, he, hcell⟩ := hC.2.2 hp
  refine ⟨ad, he, fun j p hj => ?_⟩
  obtain ⟨hjl, hjp⟩ := List.getElem?_eq_some_iff.1 hj
  obtain ⟨u, hu⟩ : ∃ u, us[j]? = some u := ⟨_, List.getElem?_eq_getElem (by omega)⟩
  have hz : (List.zipWith enc39 xs us)[j]? = some (enc39 p u) := by rw [List.getElem?_zipWith, hj, hu]
  obtain ⟨c', hcl, hK, hcc⟩ := hcell j _ hz
  obtain rfl : c' = enc39 p u := hK.1
  obtain ⟨A', c2, rfl⟩ := RR_slice (hf j p u hj hu)
  exact ⟨_, hcl, k39_mk w p (RR_reads' (hf j p _ hj hu)).2.1 (RR_reads' (hf j p _ hj hu)).2.2, hcc⟩
theorem C39_C {w : World} {base : Nat} {ok : Nat → Prop} {A : Option Addr} {n c : Nat} {xs : List S39} (h : C39 w base ok (.slice A n c) xs) : n = xs.length ∧ n ≤ c ∧ k39.C w A xs.length xs := by
  obtain ⟨c', h1, h2, h3⟩ := PC_cap h
  exact ⟨(PN_fits h3).1, h1, P39_C h3⟩
theorem cells39 {w : World} {base g n c : Nat} {ok : Nat → Prop} {xs : List S39} {x : S39} (h : C39 w base ok (.slice (some ⟨g, 0, none⟩) n c) xs) (i : Int) (h0 : 0 ≤ i) (hi : i < n) (hx : xs[i.toNat]? = some x) :
    ∃ A2 c2, RR (Kd.int .u8) 5 w base (fun k => ok k ∧ k ≠ g) (.slice A2 x.f2.length c2) x.f2 ∧ w.cell? ⟨g, i.toNat * 3, none⟩ = some (.int .i64 x.f0) ∧ w.cell? ⟨g, i.toNat * 3 + 1, none⟩ = some (.int .i64 x.f1) ∧ w.cell? ⟨g, i.toNat * 3 + 2, none⟩ = some (.slice A2 x.f2.length c2) ∧
      w.frozen? ⟨g, i.toNat * 3, none⟩ = false ∧ w.frozen? ⟨g, i.toNat * 3 + 1, none⟩ = false ∧ w.frozen? ⟨g, i.toNat * 3 + 2, none⟩ = false := by
  obtain ⟨c', _, _, hp⟩ := PC_cap h
  obtain ⟨u, h1, _, h3, h4⟩ := PN_elem hp i.toNat (by omega) hx
  obtain ⟨A2, c2, rfl⟩ := RR_slice h1
  exact ⟨A2, c2, h1, h3 0 _ rfl, h3 1 _ rfl, h3 2 _ rfl, h4 0, h4 1, h4 2⟩
theorem one39 {x : S39} : ∀ u : Value, u.oneCell' = true → ∀ q ∈ enc39 x u, q.oneCell' = true := by
  intro u hu q hq
  simp only [List.mem_cons, List.not_mem_nil, or_false] at hq
  rcases hq with rfl | rfl | rfl
  · rfl
  · rfl
  · exact hu
theorem seg39_0 {w : World} {base g n c : Nat} {ok : Nat → Prop} {xs : List S39} {x : S39} (h : C39 w base ok (.slice (some ⟨g, 0, none⟩) n c) xs) (i : Int) (h0 : 0 ≤ i) (hi : i < n) (hx : xs[i.toNat]? = some x) (z : Int) :
    C39 (w.setCell ⟨g, i.toNat * 3, none⟩ (.int .i64 z)) base ok (.slice (some ⟨g, 0, none⟩) n c) (xs.set i.toNat ⟨z, x.f1, x.f2⟩) ∧ w.grownBy (w.setCell ⟨g, i.toNat * 3, none⟩ (.int .i64 z)) (some g) := by
  obtain ⟨c', h1, h2, hp⟩ := PC_cap h
  obtain ⟨a, b⟩ := PN_seg hp i.toNat (by omega) hx 0 (.int .i64 z) (x' := ⟨z, x.f1, x.f2⟩) (by omega) rfl (fun u => rfl) rfl one39
  exact ⟨⟨_, _, _, c', rfl, h1, h2, a⟩, b⟩
theorem seg39_1 {w : World} {base g n c : Nat} {ok : Nat → Prop} {xs : List S39} {x : S39} (h : C39 w base ok (.slice (some ⟨g, 0, none⟩) n c) xs) (i : Int) (h0 : 0 ≤ i) (hi : i < n) (hx : xs[i.toNat]? = some x) (z : Int) :
    C39 (w.setCell ⟨g, i.toNat * 3 + 1, none⟩ (.int .i64 z)) base ok (.slice (some ⟨g, 0, none⟩) n c) (xs.set i.toNat ⟨x.f0, z, x.f2⟩) ∧ w.grownBy (w.setCell ⟨g, i.toNat * 3 + 1, none⟩ (.int .i64 z)) (some g) := by
  obtain ⟨c', h1, h2, hp⟩ := PC_cap h
  obtain ⟨a, b⟩ := PN_seg hp i.toNat (by omega) hx 1 (.int .i64 z) (x' := ⟨x.f0, z, x.f2⟩) (by omega) rfl (fun u => rfl) rfl one39
  exact ⟨⟨_, _, _, c', rfl, h1, h2, a⟩, b⟩
theorem mark39 {w w1 : World} {base g n c c2 : Nat} {ok : Nat → Prop} {xs : List S39} {x : S39} {A2 : Option Addr} {l : List Int} (h : C39 w base ok (.slice (some ⟨g, 0, none⟩) n c) xs) (i : Int) (h0 : 0 ≤ i) (hi : i < n) (hx : xs[i.toNat]? = some x)
    (hc : w.cell? ⟨g, i.toNat * 3 + 2, none⟩ = some (.slice A2 x.f2.length c2)) (hk : Kept w w1 (fun k => some k = (Value.slice A2 x.f2.length c2).ownBlock)) {okl : Nat → Prop} (hu : RR (Kd.int .u8) 5 w1 base okl (.slice A2 x.f2.length c2) l) :
    C39 w1 base ok (.slice (some ⟨g, 0, none⟩) n c) (xs.set i.toNat ⟨x.f0, x.f1, l⟩) := by
  obtain ⟨c', h1, h2, hp⟩ := PC_cap h
  refine ⟨_, _, _, c', rfl, h1, h2, PN_marked hp i.toNat hx (x' := ⟨x.f0, x.f1, l⟩) (u := .slice A2 x.f2.length c2) (fun u' hu' => ?_) (fun _ => rfl) (by omega) hk (RR_mono hu (fun _ _ => trivial))⟩
  have := hu' 2 u' rfl
  exact Option.some.inj (this.symm.trans hc)
theorem ok39 {w : World} {base g n c : Nat} {ok : Nat → Prop} {xs : List S39} (h : C39 w base ok (.slice (some ⟨g, 0, none⟩) n c) xs) : ok g ∧ base ≤ g := by
  obtain ⟨c', _, _, hp⟩ := PC_cap h
  exact ⟨hp.1 g rfl, PN_base hp g rfl⟩
theorem form39 {w : World} {base n c : Nat} {ok : Nat → Prop} {xs : List S39} {A : Option Addr} (h : C39 w base ok (.slice A n c) xs) (hp : 0 < n) : ∃ g, A = some ⟨g, 0, none⟩ := by
  obtain ⟨c', _, _, h3⟩ := PC_cap h
  have hn := (PN_fits h3).1
  obtain ⟨g, cap, he, _⟩ := PN_form h3 (by omega)
  injection he with he
  exact ⟨g, he⟩
theorem Kept.join {w a b : World} {S T : Nat → Prop} (h : Kept w a S) (k : Kept a b T) (hs : ∀ x, T x → S x) : Kept w b S :=
  ⟨Nat.le_trans h.1 k.1, fun i hi hn => (k.2 i (Nat.lt_of_lt_of_le hi h.1) (fun ht => hn (hs i ht))).trans (h.2 i hi hn)⟩
theorem set_at {l : List S39} {i : Nat} {x : S39} (hx : l[i]? = some x) (y : S39) : (l.set i y)[i]? = some y := by
  have := (List.getElem?_eq_some_iff.1 hx).1
  rw [List.getElem?_set, if_pos rfl, if_pos this]
theorem C39_alloc {w : World} {base : Nat} {ok : Nat → Prop} {v : Value} {xs : List S39} (h : C39 w base ok v xs) (o : Obj) : C39 (w.alloc o) base ok v xs := PC_map h (fun _ _ h => PN_alloc h o)
theorem C39_drew {w : World} {base : Nat} {ok : Nat → Prop} {v : Value} {xs : List S39} (h : C39 w base ok v xs) : C39 w.drew base ok v xs := PC_map h (fun _ _ h => PN_drew h)
theorem C39_drewN {w : World} {base : Nat} {ok : Nat → Prop} {v : Value} {xs : List S39} (h : C39 w base ok v xs) (m : Nat) : C39 (w.drewN m) base ok v xs := PC_map h (fun _ _ h => PN_drewN h m)
end Go.Proofs.Yteknaofnageihaa.QFnExactSegCut
