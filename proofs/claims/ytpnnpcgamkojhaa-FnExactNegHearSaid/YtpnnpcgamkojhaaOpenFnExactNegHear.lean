/- How the arguments of the law FnExactNegHear read. -/
import Derived.Test.YtpnnpcgamkojhaaQFnExactNegHearx4
import Derived.ChangeArms
import Derived.WideShapes
import Derived.ChangeSlices
import Derived.Deep.Slices
import Derived.KernelRfl
namespace Go.Proofs.Ytpnnpcgamkojhaa.OpenFnExactNegHear
open Go.ChangeShapes Go.WideShapes Go.RowKit Go.Deep Go.Proofs.Ytpnnpcgamkojhaa.QFnExactNegHear Go.Proofs.YtpnnpcgamkojhaaW.PrintWords Go.Proofs.YtpnnpcgamkojhaaW.PrintLast Go.Proofs.YtpnnpcgamkojhaaW.PrintMore
set_option linter.unusedVariables false
set_option linter.unusedSimpArgs false
set_option maxRecDepth 100000
/-! How Go's data read as the printed kinds have them. -/
section
variable {H : Type} {enc : TypeId × Value → H} {P : Program} {W : World} {base : Nat} {spare : Nat → Bool} {held : Bool} {t e : TypeId}
/-- Whatever reads at type t is of kind d, and G holds of it. -/
def Rd (enc : TypeId × Value → H) (P : Program) (W : World) (base : Nat) (spare : Nat → Bool) (held : Bool) {α : Type} (d : Kd α) (t : TypeId) (G : α → Prop) : Prop :=
  ∀ (fuel : Nat) (cs : List Value) (y : DataW H × List MemPlace), DataW.trod enc P W base spare held fuel t cs = some y → ∃ x, d.K W x cs ∧ G x
theorem rd_int {k : IntKind} (hu : P.underlying t = some (.int k)) : Rd enc P W base spare held (Kd.int k) t (fun x => (Lit.int k x).wf = true) := fun fuel cs y h => by
  obtain ⟨n, rfl, _, hw⟩ := DataW.trod_int hu h
  exact ⟨n, rfl, hw⟩
theorem rd_bool (hu : P.underlying t = some .bool) : Rd enc P W base spare held Kd.bool t (fun _ => True) := fun fuel cs y h => by
  obtain ⟨b, rfl, _⟩ := DataW.trod_bool hu h
  exact ⟨b, rfl, trivial⟩
theorem list_of {α : Type} {n : Nat} {p : Nat → α → Prop} (h : ∀ i, i < n → ∃ x, p i x) : ∃ l : List α, l.length = n ∧ ∀ i x, l[i]? = some x → p i x := by
  induction n with
  | zero => exact ⟨[], rfl, fun i x hx => by simp at hx⟩
  | succ n ih =>
    obtain ⟨l, hl, hp⟩ := ih (fun i hi => h i (by omega))
    obtain ⟨x, hx⟩ := h n (by omega)
    refine ⟨l ++ [x], by simp [hl], fun i y hy => ?_⟩
    by_cases hi : i < n
    · exact hp i y (by rwa [List.getElem?_append_left (by omega)] at hy)
    · have hin : i = n := by
        have := (List.getElem?_eq_some_iff.1 hy).1
        simp [hl] at this
        omega
      subst hin
      rw [List.getElem?_append_right (by omega), hl] at hy
      simp at hy
      subst hy
      exact hx
theorem rd_slice {α : Type} {d : Kd α} {G : α → Prop} (hu : P.underlying t = some (.slice e)) (hz : P.cellsOf e = d.sz) (he : Rd enc P W base spare held d e G) : Rd enc P W base spare held (Kd.slice e d) t (fun l => l.length ≤ maxLen ∧ ∀ y ∈ l, G y) := fun fuel cs y h => by
  rcases Go.Deep.open_slice hu h with ⟨rfl, _⟩ | ⟨a, len, cap, m, n, D, Pl, rfl, _, hl, hm, hmm, _, hx⟩
  · exact ⟨[], ⟨none, 0, rfl, Nat.le_refl _, rfl, by simp, fun h => absurd h (by simp)⟩, by simp, fun y hy => by simp at hy⟩
  · have hle : len ≤ m := by rw [hmm]; split <;> omega
    obtain ⟨l, hlen, hp⟩ := list_of (n := len) (p := fun i x => G x ∧ ∃ c, c.length = d.sz ∧ d.K W x c ∧ ∀ j u, c[j]? = some u → W.cell? (a.add (i * d.sz + j)) = some u) (fun i hi => by
      obtain ⟨c, hc, ht⟩ := hx i (by omega)
      obtain ⟨x, hk, hg⟩ := he _ _ _ ht
      refine ⟨x, hg, c, d.K_len hk, hk, fun j u hj => ?_⟩
      obtain ⟨_, hcl, hcc⟩ := World.cells?_some hc
      have hjl : j < c.length := (List.getElem?_eq_some_iff.1 hj).1
      have := hcc j (by rw [← hcl]; exact hjl)
      rw [hz] at this
      have ha : (a.add (i * d.sz)).add j = a.add (i * d.sz + j) := Go.Deep.add_add _ _ _
      rw [ha] at this
      rw [this, hj])
    refine ⟨l, ⟨some a, cap, by rw [hlen], by omega, rfl, ?_, fun _ => ⟨a, rfl, fun j p hj => ?_⟩⟩, by omega, fun y hy => ?_⟩
    · rw [hlen]; unfold maxLen at hm; omega
    · obtain ⟨_, c, h1, h2, h3⟩ := hp j p hj
      exact ⟨c, h1, h2, h3⟩
    · obtain ⟨i, hi⟩ := List.getElem?_of_mem hy
      exact (hp i y hi).1
theorem cut_at (o z : Nat) (cs : List Value) : cs.drop o = (cs.drop o).take z ++ cs.drop (o + z) := by
  rw [← List.drop_drop, List.take_append_drop]
end
theorem rd3 {H : Type} {enc : TypeId × Value → H} {W : World} {base : Nat} {spare : Nat → Bool} {held : Bool} : Rd enc Try.prog W base spare held (Kd.int .i64) 3 (fun x : Int => (Lit.int .i64 x).wf = true) := rd_int (k := .i64) Try.underlying3
theorem rd59 {H : Type} {enc : TypeId × Value → H} {W : World} {base : Nat} {spare : Nat → Bool} {held : Bool} : Rd enc Try.prog W base spare held (Kd.pair (Kd.int .i64) (Kd.pair (Kd.int .i64) (Kd.pair (Kd.int .i64) (Kd.pair (Kd.int .i64) (Kd.int .i64))))) 59 (fun x : (Int × Int × Int × Int × Int) => (Lit.int .i64 x.1).wf = true ∧ (Lit.int .i64 x.2.1).wf = true ∧ (Lit.int .i64 x.2.2.1).wf = true ∧ (Lit.int .i64 x.2.2.2.1).wf = true ∧ (Lit.int .i64 x.2.2.2.2).wf = true) := by
  intro fuel cs y h
  obtain ⟨xs, n, _, _, hl, hlen, hf⟩ := DataW.trod_struct Try.underlying59 h
  have hz : cs.length = 5 := hl.trans (by kernel_rfl)
  have e0 : DataW.trod enc Try.prog W base spare held n 3 ((cs.drop 0).take (Try.prog.cellsOf 3)) = xs[0]? := hf 0 _ rfl
  rw [show Try.prog.cellsOf 3 = 1 by kernel_rfl, List.getElem?_eq_getElem (by rw [hlen]; decide)] at e0
  obtain ⟨x0, q0, g0⟩ := rd3 _ _ _ e0
  have e1 : DataW.trod enc Try.prog W base spare held n 3 ((cs.drop 1).take (Try.prog.cellsOf 3)) = xs[1]? := hf 1 _ rfl
  rw [show Try.prog.cellsOf 3 = 1 by kernel_rfl, List.getElem?_eq_getElem (by rw [hlen]; decide)] at e1
  obtain ⟨x1, q1, g1⟩ := rd3 _ _ _ e1
  have e2 : DataW.trod enc Try.prog W base spare held n 3 ((cs.drop 2).take (Try.prog.cellsOf 3)) = xs[2]? := hf 2 _ rfl
  rw [show Try.prog.cellsOf 3 = 1 by kernel_rfl, List.getElem?_eq_getElem (by rw [hlen]; decide)] at e2
  obtain ⟨x2, q2, g2⟩ := rd3 _ _ _ e2
  have e3 : DataW.trod enc Try.prog W base spare held n 3 ((cs.drop 3).take (Try.prog.cellsOf 3)) = xs[3]? := hf 3 _ rfl
  rw [show Try.prog.cellsOf 3 = 1 by kernel_rfl, List.getElem?_eq_getElem (by rw [hlen]; decide)] at e3
  obtain ⟨x3, q3, g3⟩ := rd3 _ _ _ e3
  have e4 : DataW.trod enc Try.prog W base spare held n 3 ((cs.drop 4).take (Try.prog.cellsOf 3)) = xs[4]? := hf 4 _ rfl
  rw [show Try.prog.cellsOf 3 = 1 by kernel_rfl, List.getElem?_eq_getElem (by rw [hlen]; decide)] at e4
  obtain ⟨x4, q4, g4⟩ := rd3 _ _ _ e4
  have q4' := q4
  rw [List.take_of_length_le (by rw [List.length_drop, hz]; decide)] at q4'
  refine ⟨⟨x0, x1, x2, x3, x4⟩, ?_, g0, g1, g2, g3, g4⟩
  have hq : ((Kd.pair (Kd.int .i64) (Kd.pair (Kd.int .i64) (Kd.pair (Kd.int .i64) (Kd.pair (Kd.int .i64) (Kd.int .i64)))))).K W (x0, x1, x2, x3, x4) (cs.drop 0) := ⟨_, _, cut_at 0 1 cs, q0, ⟨_, _, cut_at 1 1 cs, q1, ⟨_, _, cut_at 2 1 cs, q2, ⟨_, _, cut_at 3 1 cs, q3, q4'⟩⟩⟩⟩
  exact hq
theorem rd4 {H : Type} {enc : TypeId × Value → H} {W : World} {base : Nat} {spare : Nat → Bool} {held : Bool} : Rd enc Try.prog W base spare held Kd.bool 4 (fun x : Bool => True) := rd_bool Try.underlying4
theorem rd61 {H : Type} {enc : TypeId × Value → H} {W : World} {base : Nat} {spare : Nat → Bool} {held : Bool} : Rd enc Try.prog W base spare held (Kd.pair (Kd.pair (Kd.int .i64) (Kd.pair (Kd.int .i64) (Kd.pair (Kd.int .i64) (Kd.pair (Kd.int .i64) (Kd.int .i64))))) (Kd.pair (Kd.pair (Kd.int .i64) (Kd.pair (Kd.int .i64) (Kd.pair (Kd.int .i64) (Kd.pair (Kd.int .i64) (Kd.int .i64))))) (Kd.pair (Kd.pair (Kd.int .i64) (Kd.pair (Kd.int .i64) (Kd.pair (Kd.int .i64) (Kd.pair (Kd.int .i64) (Kd.int .i64))))) (Kd.pair (Kd.pair (Kd.int .i64) (Kd.pair (Kd.int .i64) (Kd.pair (Kd.int .i64) (Kd.pair (Kd.int .i64) (Kd.int .i64))))) Kd.bool)))) 61 (fun x : ((Int × Int × Int × Int × Int) × (Int × Int × Int × Int × Int) × (Int × Int × Int × Int × Int) × (Int × Int × Int × Int × Int) × Bool) => (Lit.int .i64 x.1.1).wf = true ∧ (Lit.int .i64 x.1.2.1).wf = true ∧ (Lit.int .i64 x.1.2.2.1).wf = true ∧ (Lit.int .i64 x.1.2.2.2.1).wf = true ∧ (Lit.int .i64 x.1.2.2.2.2).wf = true ∧ (Lit.int .i64 x.2.1.1).wf = true ∧ (Lit.int .i64 x.2.1.2.1).wf = true ∧ (Lit.int .i64 x.2.1.2.2.1).wf = true ∧ (Lit.int .i64 x.2.1.2.2.2.1).wf = true ∧ (Lit.int .i64 x.2.1.2.2.2.2).wf = true ∧ (Lit.int .i64 x.2.2.1.1).wf = true ∧ (Lit.int .i64 x.2.2.1.2.1).wf = true ∧ (Lit.int .i64 x.2.2.1.2.2.1).wf = true ∧ (Lit.int .i64 x.2.2.1.2.2.2.1).wf = true ∧ (Lit.int .i64 x.2.2.1.2.2.2.2).wf = true ∧ (Lit.int .i64 x.2.2.2.1.1).wf = true ∧ (Lit.int .i64 x.2.2.2.1.2.1).wf = true ∧ (Lit.int .i64 x.2.2.2.1.2.2.1).wf = true ∧ (Lit.int .i64 x.2.2.2.1.2.2.2.1).wf = true ∧ (Lit.int .i64 x.2.2.2.1.2.2.2.2).wf = true) := by
  intro fuel cs y h
  obtain ⟨xs, n, _, _, hl, hlen, hf⟩ := DataW.trod_struct Try.underlying61 h
  have hz : cs.length = 21 := hl.trans (by kernel_rfl)
  have e0 : DataW.trod enc Try.prog W base spare held n 59 ((cs.drop 0).take (Try.prog.cellsOf 59)) = xs[0]? := hf 0 _ rfl
  rw [show Try.prog.cellsOf 59 = 5 by kernel_rfl, List.getElem?_eq_getElem (by rw [hlen]; decide)] at e0
  obtain ⟨x0, q0, g0⟩ := rd59 _ _ _ e0
  have e1 : DataW.trod enc Try.prog W base spare held n 59 ((cs.drop 5).take (Try.prog.cellsOf 59)) = xs[1]? := hf 1 _ rfl
  rw [show Try.prog.cellsOf 59 = 5 by kernel_rfl, List.getElem?_eq_getElem (by rw [hlen]; decide)] at e1
  obtain ⟨x1, q1, g1⟩ := rd59 _ _ _ e1
  have e2 : DataW.trod enc Try.prog W base spare held n 59 ((cs.drop 10).take (Try.prog.cellsOf 59)) = xs[2]? := hf 2 _ rfl
  rw [show Try.prog.cellsOf 59 = 5 by kernel_rfl, List.getElem?_eq_getElem (by rw [hlen]; decide)] at e2
  obtain ⟨x2, q2, g2⟩ := rd59 _ _ _ e2
  have e3 : DataW.trod enc Try.prog W base spare held n 59 ((cs.drop 15).take (Try.prog.cellsOf 59)) = xs[3]? := hf 3 _ rfl
  rw [show Try.prog.cellsOf 59 = 5 by kernel_rfl, List.getElem?_eq_getElem (by rw [hlen]; decide)] at e3
  obtain ⟨x3, q3, g3⟩ := rd59 _ _ _ e3
  have e4 : DataW.trod enc Try.prog W base spare held n 4 ((cs.drop 20).take (Try.prog.cellsOf 4)) = xs[4]? := hf 4 _ rfl
  rw [show Try.prog.cellsOf 4 = 1 by kernel_rfl, List.getElem?_eq_getElem (by rw [hlen]; decide)] at e4
  obtain ⟨x4, q4, g4⟩ := rd4 _ _ _ e4
  have q4' := q4
  rw [List.take_of_length_le (by rw [List.length_drop, hz]; decide)] at q4'
  refine ⟨⟨x0, x1, x2, x3, x4⟩, ?_, g0.1, g0.2.1, g0.2.2.1, g0.2.2.2.1, g0.2.2.2.2, g1.1, g1.2.1, g1.2.2.1, g1.2.2.2.1, g1.2.2.2.2, g2.1, g2.2.1, g2.2.2.1, g2.2.2.2.1, g2.2.2.2.2, g3.1, g3.2.1, g3.2.2.1, g3.2.2.2.1, g3.2.2.2.2⟩
  have hq : ((Kd.pair (Kd.pair (Kd.int .i64) (Kd.pair (Kd.int .i64) (Kd.pair (Kd.int .i64) (Kd.pair (Kd.int .i64) (Kd.int .i64))))) (Kd.pair (Kd.pair (Kd.int .i64) (Kd.pair (Kd.int .i64) (Kd.pair (Kd.int .i64) (Kd.pair (Kd.int .i64) (Kd.int .i64))))) (Kd.pair (Kd.pair (Kd.int .i64) (Kd.pair (Kd.int .i64) (Kd.pair (Kd.int .i64) (Kd.pair (Kd.int .i64) (Kd.int .i64))))) (Kd.pair (Kd.pair (Kd.int .i64) (Kd.pair (Kd.int .i64) (Kd.pair (Kd.int .i64) (Kd.pair (Kd.int .i64) (Kd.int .i64))))) Kd.bool))))).K W (x0, x1, x2, x3, x4) (cs.drop 0) := ⟨_, _, cut_at 0 5 cs, q0, ⟨_, _, cut_at 5 5 cs, q1, ⟨_, _, cut_at 10 5 cs, q2, ⟨_, _, cut_at 15 5 cs, q3, q4'⟩⟩⟩⟩
  exact hq
theorem rd63 {H : Type} {enc : TypeId × Value → H} {W : World} {base : Nat} {spare : Nat → Bool} {held : Bool} : Rd enc Try.prog W base spare held (Kd.pair (Kd.int .i64) (Kd.pair (Kd.int .i64) (Kd.pair (Kd.int .i64) (Kd.pair (Kd.int .i64) (Kd.pair (Kd.int .i64) (Kd.int .i64)))))) 63 (fun x : (Int × (Int × Int × Int × Int × Int)) => (Lit.int .i64 x.1).wf = true ∧ (Lit.int .i64 x.2.1).wf = true ∧ (Lit.int .i64 x.2.2.1).wf = true ∧ (Lit.int .i64 x.2.2.2.1).wf = true ∧ (Lit.int .i64 x.2.2.2.2.1).wf = true ∧ (Lit.int .i64 x.2.2.2.2.2).wf = true) := by
  intro fuel cs y h
  obtain ⟨xs, n, _, _, hl, hlen, hf⟩ := DataW.trod_struct Try.underlying63 h
  have hz : cs.length = 6 := hl.trans (by kernel_rfl)
  have e0 : DataW.trod enc Try.prog W base spare held n 3 ((cs.drop 0).take (Try.prog.cellsOf 3)) = xs[0]? := hf 0 _ rfl
  rw [show Try.prog.cellsOf 3 = 1 by kernel_rfl, List.getElem?_eq_getElem (by rw [hlen]; decide)] at e0
  obtain ⟨x0, q0, g0⟩ := rd3 _ _ _ e0
  have e1 : DataW.trod enc Try.prog W base spare held n 59 ((cs.drop 1).take (Try.prog.cellsOf 59)) = xs[1]? := hf 1 _ rfl
  rw [show Try.prog.cellsOf 59 = 5 by kernel_rfl, List.getElem?_eq_getElem (by rw [hlen]; decide)] at e1
  obtain ⟨x1, q1, g1⟩ := rd59 _ _ _ e1
  have q1' := q1
  rw [List.take_of_length_le (by rw [List.length_drop, hz]; decide)] at q1'
  refine ⟨⟨x0, x1⟩, ?_, g0, g1.1, g1.2.1, g1.2.2.1, g1.2.2.2.1, g1.2.2.2.2⟩
  have hq : ((Kd.pair (Kd.int .i64) (Kd.pair (Kd.int .i64) (Kd.pair (Kd.int .i64) (Kd.pair (Kd.int .i64) (Kd.pair (Kd.int .i64) (Kd.int .i64))))))).K W (x0, x1) (cs.drop 0) := ⟨_, _, cut_at 0 1 cs, q0, q1'⟩
  exact hq
theorem arg0 {H : Type} {enc : TypeId × Value → H} {W : World} {base b0 : Nat} {spare : Nat → Bool} {held : Bool} {r : Reach} {v : Value} {d : DataW H} {p : List MemPlace} (hv : Value.okWide Try.prog W r b0 61 v) (h : DataW.Trod enc Try.prog W base spare held 61 v d p) :
    ∃ (a0_0 : Int) (a0_1 : Int) (a0_2 : Int) (a0_3 : Int) (a0_4 : Int) (a0_5 : Int) (a0_6 : Int) (a0_7 : Int) (a0_8 : Int) (a0_9 : Int) (a0_10 : Int) (a0_11 : Int) (a0_12 : Int) (a0_13 : Int) (a0_14 : Int) (a0_15 : Int) (a0_16 : Int) (a0_17 : Int) (a0_18 : Int) (a0_19 : Int) (a0_20 : Bool), v = .agg #[.int .i64 a0_0, .int .i64 a0_1, .int .i64 a0_2, .int .i64 a0_3, .int .i64 a0_4, .int .i64 a0_5, .int .i64 a0_6, .int .i64 a0_7, .int .i64 a0_8, .int .i64 a0_9, .int .i64 a0_10, .int .i64 a0_11, .int .i64 a0_12, .int .i64 a0_13, .int .i64 a0_14, .int .i64 a0_15, .int .i64 a0_16, .int .i64 a0_17, .int .i64 a0_18, .int .i64 a0_19, .bool a0_20] ∧ ((Lit.int .i64 a0_0).wf = true) ∧ ((Lit.int .i64 a0_1).wf = true) ∧ ((Lit.int .i64 a0_2).wf = true) ∧ ((Lit.int .i64 a0_3).wf = true) ∧ ((Lit.int .i64 a0_4).wf = true) ∧ ((Lit.int .i64 a0_5).wf = true) ∧ ((Lit.int .i64 a0_6).wf = true) ∧ ((Lit.int .i64 a0_7).wf = true) ∧ ((Lit.int .i64 a0_8).wf = true) ∧ ((Lit.int .i64 a0_9).wf = true) ∧ ((Lit.int .i64 a0_10).wf = true) ∧ ((Lit.int .i64 a0_11).wf = true) ∧ ((Lit.int .i64 a0_12).wf = true) ∧ ((Lit.int .i64 a0_13).wf = true) ∧ ((Lit.int .i64 a0_14).wf = true) ∧ ((Lit.int .i64 a0_15).wf = true) ∧ ((Lit.int .i64 a0_16).wf = true) ∧ ((Lit.int .i64 a0_17).wf = true) ∧ ((Lit.int .i64 a0_18).wf = true) ∧ ((Lit.int .i64 a0_19).wf = true) := by
  obtain ⟨cs, rfl, _⟩ := okWide_struct Try.underlying61 hv
  obtain ⟨fuel, hf⟩ := h
  obtain ⟨x0, hk, hg⟩ := rd61 fuel cs.toList _ hf
  obtain ⟨sz_0, tz_0, uz_0, ⟨sz_0_0, tz_0_0, uz_0_0, ez_0_0, ⟨sz_0_1, tz_0_1, uz_0_1, ez_0_1, ⟨sz_0_2, tz_0_2, uz_0_2, ez_0_2, ⟨sz_0_3, tz_0_3, uz_0_3, ez_0_3, ez_0_4⟩⟩⟩⟩, ⟨sz_1, tz_1, uz_1, ⟨sz_1_0, tz_1_0, uz_1_0, ez_1_0, ⟨sz_1_1, tz_1_1, uz_1_1, ez_1_1, ⟨sz_1_2, tz_1_2, uz_1_2, ez_1_2, ⟨sz_1_3, tz_1_3, uz_1_3, ez_1_3, ez_1_4⟩⟩⟩⟩, ⟨sz_2, tz_2, uz_2, ⟨sz_2_0, tz_2_0, uz_2_0, ez_2_0, ⟨sz_2_1, tz_2_1, uz_2_1, ez_2_1, ⟨sz_2_2, tz_2_2, uz_2_2, ez_2_2, ⟨sz_2_3, tz_2_3, uz_2_3, ez_2_3, ez_2_4⟩⟩⟩⟩, ⟨sz_3, tz_3, uz_3, ⟨sz_3_0, tz_3_0, uz_3_0, ez_3_0, ⟨sz_3_1, tz_3_1, uz_3_1, ez_3_1, ⟨sz_3_2, tz_3_2, uz_3_2, ez_3_2, ⟨sz_3_3, tz_3_3, uz_3_3, ez_3_3, ez_3_4⟩⟩⟩⟩, ez_4⟩⟩⟩⟩ := hk
  have hcs : cs = #[.int .i64 x0.1.1, .int .i64 x0.1.2.1, .int .i64 x0.1.2.2.1, .int .i64 x0.1.2.2.2.1, .int .i64 x0.1.2.2.2.2, .int .i64 x0.2.1.1, .int .i64 x0.2.1.2.1, .int .i64 x0.2.1.2.2.1, .int .i64 x0.2.1.2.2.2.1, .int .i64 x0.2.1.2.2.2.2, .int .i64 x0.2.2.1.1, .int .i64 x0.2.2.1.2.1, .int .i64 x0.2.2.1.2.2.1, .int .i64 x0.2.2.1.2.2.2.1, .int .i64 x0.2.2.1.2.2.2.2, .int .i64 x0.2.2.2.1.1, .int .i64 x0.2.2.2.1.2.1, .int .i64 x0.2.2.2.1.2.2.1, .int .i64 x0.2.2.2.1.2.2.2.1, .int .i64 x0.2.2.2.1.2.2.2.2, .bool x0.2.2.2.2] := by
    apply Array.ext'
    rw [uz_0, uz_0_0, ez_0_0, uz_0_1, ez_0_1, uz_0_2, ez_0_2, uz_0_3, ez_0_3, ez_0_4, uz_1, uz_1_0, ez_1_0, uz_1_1, ez_1_1, uz_1_2, ez_1_2, uz_1_3, ez_1_3, ez_1_4, uz_2, uz_2_0, ez_2_0, uz_2_1, ez_2_1, uz_2_2, ez_2_2, uz_2_3, ez_2_3, ez_2_4, uz_3, uz_3_0, ez_3_0, uz_3_1, ez_3_1, uz_3_2, ez_3_2, uz_3_3, ez_3_3, ez_3_4, ez_4]
    rfl
  subst hcs
  exact ⟨x0.1.1, x0.1.2.1, x0.1.2.2.1, x0.1.2.2.2.1, x0.1.2.2.2.2, x0.2.1.1, x0.2.1.2.1, x0.2.1.2.2.1, x0.2.1.2.2.2.1, x0.2.1.2.2.2.2, x0.2.2.1.1, x0.2.2.1.2.1, x0.2.2.1.2.2.1, x0.2.2.1.2.2.2.1, x0.2.2.1.2.2.2.2, x0.2.2.2.1.1, x0.2.2.2.1.2.1, x0.2.2.2.1.2.2.1, x0.2.2.2.1.2.2.2.1, x0.2.2.2.1.2.2.2.2, x0.2.2.2.2, rfl, hg.1, hg.2.1, hg.2.2.1, hg.2.2.2.1, hg.2.2.2.2.1, hg.2.2.2.2.2.1, hg.2.2.2.2.2.2.1, hg.2.2.2.2.2.2.2.1, hg.2.2.2.2.2.2.2.2.1, hg.2.2.2.2.2.2.2.2.2.1, hg.2.2.2.2.2.2.2.2.2.2.1, hg.2.2.2.2.2.2.2.2.2.2.2.1, hg.2.2.2.2.2.2.2.2.2.2.2.2.1, hg.2.2.2.2.2.2.2.2.2.2.2.2.2.1, hg.2.2.2.2.2.2.2.2.2.2.2.2.2.2.1, hg.2.2.2.2.2.2.2.2.2.2.2.2.2.2.2.1, hg.2.2.2.2.2.2.2.2.2.2.2.2.2.2.2.2.1, hg.2.2.2.2.2.2.2.2.2.2.2.2.2.2.2.2.2.1, hg.2.2.2.2.2.2.2.2.2.2.2.2.2.2.2.2.2.2.1, hg.2.2.2.2.2.2.2.2.2.2.2.2.2.2.2.2.2.2.2⟩
theorem arg1 {H : Type} {enc : TypeId × Value → H} {W : World} {base b0 : Nat} {spare : Nat → Bool} {held : Bool} {r : Reach} {v : Value} {d : DataW H} {p : List MemPlace} (hv : Value.okWide Try.prog W r b0 63 v) (h : DataW.Trod enc Try.prog W base spare held 63 v d p) :
    ∃ (a1_0 : Int) (a1_1 : Int) (a1_2 : Int) (a1_3 : Int) (a1_4 : Int) (a1_5 : Int), v = .agg #[.int .i64 a1_0, .int .i64 a1_1, .int .i64 a1_2, .int .i64 a1_3, .int .i64 a1_4, .int .i64 a1_5] ∧ ((Lit.int .i64 a1_0).wf = true) ∧ ((Lit.int .i64 a1_1).wf = true) ∧ ((Lit.int .i64 a1_2).wf = true) ∧ ((Lit.int .i64 a1_3).wf = true) ∧ ((Lit.int .i64 a1_4).wf = true) ∧ ((Lit.int .i64 a1_5).wf = true) := by
  obtain ⟨cs, rfl, _⟩ := okWide_struct Try.underlying63 hv
  obtain ⟨fuel, hf⟩ := h
  obtain ⟨x1, hk, hg⟩ := rd63 fuel cs.toList _ hf
  obtain ⟨sz_0, tz_0, uz_0, ez_0, ⟨sz_1_0, tz_1_0, uz_1_0, ez_1_0, ⟨sz_1_1, tz_1_1, uz_1_1, ez_1_1, ⟨sz_1_2, tz_1_2, uz_1_2, ez_1_2, ⟨sz_1_3, tz_1_3, uz_1_3, ez_1_3, ez_1_4⟩⟩⟩⟩⟩ := hk
  have hcs : cs = #[.int .i64 x1.1, .int .i64 x1.2.1, .int .i64 x1.2.2.1, .int .i64 x1.2.2.2.1, .int .i64 x1.2.2.2.2.1, .int .i64 x1.2.2.2.2.2] := by
    apply Array.ext'
    rw [uz_0, ez_0, uz_1_0, ez_1_0, uz_1_1, ez_1_1, uz_1_2, ez_1_2, uz_1_3, ez_1_3, ez_1_4]
    rfl
  subst hcs
  exact ⟨x1.1, x1.2.1, x1.2.2.1, x1.2.2.2.1, x1.2.2.2.2.1, x1.2.2.2.2.2, rfl, hg.1, hg.2.1, hg.2.2.1, hg.2.2.2.1, hg.2.2.2.2.1, hg.2.2.2.2.2⟩
end Go.Proofs.Ytpnnpcgamkojhaa.OpenFnExactNegHear
