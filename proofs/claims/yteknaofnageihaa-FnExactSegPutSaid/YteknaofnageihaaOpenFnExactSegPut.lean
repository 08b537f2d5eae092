/- How the arguments of the law FnExactSegPut read. -/
import Derived.Test.YteknaofnageihaaQFnExactSegPutx29
import Derived.ChangeArms
import Derived.WideShapes
import Derived.ChangeSlices
import Derived.Deep.Slices
import Derived.KernelRfl
namespace Go.Proofs.Yteknaofnageihaa.OpenFnExactSegPut
open Go.ChangeShapes Go.WideShapes Go.RowKit Go.Deep Go.Proofs.Yteknaofnageihaa.QFnExactSegPut Go.Proofs.YteknaofnageihaaW.PrintWords Go.Proofs.YteknaofnageihaaW.PrintLast Go.Proofs.YteknaofnageihaaW.PrintMore
set_option linter.unusedVariables false
set_option linter.unusedSimpArgs false
set_option maxRecDepth 100000
/-! How Go's data read as the printed kinds have them. -/
section
variable {H : Type} {enc : TypeId × Value → H} {P : Program} {W : World} {base : Nat} {spare : Nat → Bool} {held : Bool} {t e : TypeId}
/-- Whatever reads at type t is of kind d, and G holds of it. -/
def Rd (enc : TypeId × Value → H) (P : Program) (W : World) (base : Nat) (spare : Nat → Bool) (held : Bool) {α : Type} (d : Kd α) (t : TypeId) (G : α → Prop) : Prop :=
  ∀ (fuel : Nat) (cs : List Value) (y : DataW H × List MemPlace), DataW.trod enc P W base spare held fuel t cs = some y → ∃ x, d.K W x cs ∧ G x
theorem rd_int {k : IntKind} (hu : P.underlying t = some (.int k)) : Rd enc P W base spare held (Kd.int k) t (fun x => (Lit.int k x).wf = true) := fun fuel cs y h => by
  obtain ⟨n, rfl, _, hw⟩ := DataW.trod_int hu h
  exact ⟨n, rfl, hw⟩
theorem rd_bool (hu : P.underlying t = some .bool) : Rd enc P W base spare held Kd.bool t (fun _ => True) := fun fuel cs y h => by
  obtain ⟨b, rfl, _⟩ := DataW.trod_bool hu h
  exact ⟨b, rfl, trivial⟩
theorem list_of {α : Type} {n : Nat} {p : Nat → α → Prop} (h : ∀ i, i < n → ∃ x, p i x) : ∃ l : List α, l.length = n ∧ ∀ i x, l[i]? = some x → p i x := by
  induction n with
  | zero => exact ⟨[], rfl, fun i x hx => by simp at hx⟩
  | succ n ih =>
    obtain ⟨l, hl, hp⟩ := ih (fun i hi => h i (by omega))
    obtain ⟨x, hx⟩ := h n (by omega)
    refine ⟨l ++ [x], by simp [hl], fun i y hy => ?_⟩
    by_cases hi : i < n
    · exact hp i y (by rwa [List.getElem?_append_left (by omega)] at hy)
    · have hin : i = n := by
        have := (List.getElem?_eq_some_iff.1 hy).1
        simp [hl] at this
        omega
      subst hin
      rw [List.getElem?_append_right (by omega), hl] at hy
      simp at hy
      subst hy
      exact hx
theorem rd_slice {α : Type} {d : Kd α} {G : α → Prop} (hu : P.underlying t = some (.slice e)) (hz : P.cellsOf e = d.sz) (he : Rd enc P W base spare held d e G) : Rd enc P W base spare held (Kd.slice e d) t (fun l => l.length ≤ maxLen ∧ ∀ y ∈ l, G y) := fun fuel cs y h => by
  rcases Go.Deep.open_slice hu h with ⟨rfl, _⟩ | ⟨a, len, cap, m, n, D, Pl, rfl, _, hl, hm, hmm, _, hx⟩
  · exact ⟨[], ⟨none, 0, rfl, Nat.le_refl _, rfl, by simp, fun h => absurd h (by simp)⟩, by simp, fun y hy => by simp at hy⟩
  · have hle : len ≤ m := by rw [hmm]; split <;> omega
    obtain ⟨l, hlen, hp⟩ := list_of (n := len) (p := fun i x => G x ∧ ∃ c, c.length = d.sz ∧ d.K W x c ∧ ∀ j u, c[j]? = some u → W.cell? (a.add (i * d.sz + j)) = some u) (fun i hi => by
      obtain ⟨c, hc, ht⟩ := hx i (by omega)
      obtain ⟨x, hk, hg⟩ := he _ _ _ ht
      refine ⟨x, hg, c, d.K_len hk, hk, fun j u hj => ?_⟩
      obtain ⟨_, hcl, hcc⟩ := World.cells?_some hc
      have hjl : j < c.length := (List.getElem?_eq_some_iff.1 hj).1
      have := hcc j (by rw [← hcl]; exact hjl)
      rw [hz] at this
      have ha : (a.add (i * d.sz)).add j = a.add (i * d.sz + j) := Go.Deep.add_add _ _ _
      rw [ha] at this
      rw [this, hj])
    refine ⟨l, ⟨some a, cap, by rw [hlen], by omega, rfl, ?_, fun _ => ⟨a, rfl, fun j p hj => ?_⟩⟩, by omega, fun y hy => ?_⟩
    · rw [hlen]; unfold maxLen at hm; omega
    · obtain ⟨_, c, h1, h2, h3⟩ := hp j p hj
      exact ⟨c, h1, h2, h3⟩
    · obtain ⟨i, hi⟩ := List.getElem?_of_mem hy
      exact (hp i y hi).1
theorem cut_at (o z : Nat) (cs : List Value) : cs.drop o = (cs.drop o).take z ++ cs.drop (o + z) := by
  rw [← List.drop_drop, List.take_append_drop]
end
theorem rd3 {H : Type} {enc : TypeId × Value → H} {W : World} {base : Nat} {spare : Nat → Bool} {held : Bool} : Rd enc Try.prog W base spare held (Kd.int .i64) 3 (fun x : Int => (Lit.int .i64 x).wf = true) := rd_int (k := .i64) Try.underlying3
theorem rd5 {H : Type} {enc : TypeId × Value → H} {W : World} {base : Nat} {spare : Nat → Bool} {held : Bool} : Rd enc Try.prog W base spare held (Kd.int .u8) 5 (fun x : Int => (Lit.int .u8 x).wf = true) := rd_int (k := .u8) Try.underlying5
theorem rd22 {H : Type} {enc : TypeId × Value → H} {W : World} {base : Nat} {spare : Nat → Bool} {held : Bool} : Rd enc Try.prog W base spare held (Kd.slice 5 (Kd.int .u8)) 22 (fun x : (List Int) => x.length ≤ maxLen ∧ (∀ y ∈ x, (Lit.int .u8 y).wf = true)) := rd_slice Try.underlying22 (by kernel_rfl) rd5
theorem rd46 {H : Type} {enc : TypeId × Value → H} {W : World} {base : Nat} {spare : Nat → Bool} {held : Bool} : Rd enc Try.prog W base spare held (Kd.pair (Kd.int .i64) (Kd.slice 5 (Kd.int .u8))) 46 (fun x : (Int × (List Int)) => (Lit.int .i64 x.1).wf = true ∧ x.2.length ≤ maxLen ∧ (∀ y ∈ x.2, (Lit.int .u8 y).wf = true)) := by
  intro fuel cs y h
  obtain ⟨xs, n, _, _, hl, hlen, hf⟩ := DataW.trod_struct Try.underlying46 h
  have hz : cs.length = 2 := hl.trans (by kernel_rfl)
  have e0 : DataW.trod enc Try.prog W base spare held n 3 ((cs.drop 0).take (Try.prog.cellsOf 3)) = xs[0]? := hf 0 _ rfl
  rw [show Try.prog.cellsOf 3 = 1 by kernel_rfl, List.getElem?_eq_getElem (by rw [hlen]; decide)] at e0
  obtain ⟨x0, q0, g0⟩ := rd3 _ _ _ e0
  have e1 : DataW.trod enc Try.prog W base spare held n 22 ((cs.drop 1).take (Try.prog.cellsOf 22)) = xs[1]? := hf 1 _ rfl
  rw [show Try.prog.cellsOf 22 = 1 by kernel_rfl, List.getElem?_eq_getElem (by rw [hlen]; decide)] at e1
  obtain ⟨x1, q1, g1⟩ := rd22 _ _ _ e1
  have q1' := q1
  rw [List.take_of_length_le (by rw [List.length_drop, hz]; decide)] at q1'
  refine ⟨⟨x0, x1⟩, ?_, g0, g1.1, g1.2⟩
  have hq : ((Kd.pair (Kd.int .i64) (Kd.slice 5 (Kd.int .u8)))).K W (x0, x1) (cs.drop 0) := ⟨_, _, cut_at 0 1 cs, q0, q1'⟩
  exact hq
theorem rd47 {H : Type} {enc : TypeId × Value → H} {W : World} {base : Nat} {spare : Nat → Bool} {held : Bool} : Rd enc Try.prog W base spare held (Kd.pair (Kd.int .i64) (Kd.pair (Kd.int .i64) (Kd.slice 5 (Kd.int .u8)))) 47 (fun x : (Int × Int × (List Int)) => (Lit.int .i64 x.1).wf = true ∧ (Lit.int .i64 x.2.1).wf = true ∧ x.2.2.length ≤ maxLen ∧ (∀ y ∈ x.2.2, (Lit.int .u8 y).wf = true)) := by
  intro fuel cs y h
  obtain ⟨xs, n, _, _, hl, hlen, hf⟩ := DataW.trod_struct Try.underlying47 h
  have hz : cs.length = 3 := hl.trans (by kernel_rfl)
  have e0 : DataW.trod enc Try.prog W base spare held n 3 ((cs.drop 0).take (Try.prog.cellsOf 3)) = xs[0]? := hf 0 _ rfl
  rw [show Try.prog.cellsOf 3 = 1 by kernel_rfl, List.getElem?_eq_getElem (by rw [hlen]; decide)] at e0
  obtain ⟨x0, q0, g0⟩ := rd3 _ _ _ e0
  have e1 : DataW.trod enc Try.prog W base spare held n 3 ((cs.drop 1).take (Try.prog.cellsOf 3)) = xs[1]? := hf 1 _ rfl
  rw [show Try.prog.cellsOf 3 = 1 by kernel_rfl, List.getElem?_eq_getElem (by rw [hlen]; decide)] at e1
  obtain ⟨x1, q1, g1⟩ := rd3 _ _ _ e1
  have e2 : DataW.trod enc Try.prog W base spare held n 22 ((cs.drop 2).take (Try.prog.cellsOf 22)) = xs[2]? := hf 2 _ rfl
  rw [show Try.prog.cellsOf 22 = 1 by kernel_rfl, List.getElem?_eq_getElem (by rw [hlen]; decide)] at e2
  obtain ⟨x2, q2, g2⟩ := rd22 _ _ _ e2
  have q2' := q2
  rw [List.take_of_length_le (by rw [List.length_drop, hz]; decide)] at q2'
  refine ⟨⟨x0, x1, x2⟩, ?_, g0, g1, g2.1, g2.2⟩
  have hq : ((Kd.pair (Kd.int .i64) (Kd.pair (Kd.int .i64) (Kd.slice 5 (Kd.int .u8))))).K W (x0, x1, x2) (cs.drop 0) := ⟨_, _, cut_at 0 1 cs, q0, ⟨_, _, cut_at 1 1 cs, q1, q2'⟩⟩
  exact hq
theorem arg0 {H : Type} {enc : TypeId × Value → H} {W : World} {base b0 : Nat} {spare : Nat → Bool} {held : Bool} {r : Reach} {v : Value} {d : DataW H} {p : List MemPlace} (hv : Value.okWide Try.prog W r b0 46 v) (h : DataW.Trod enc Try.prog W base spare held 46 v d p) :
    ∃ (a0_0 : Int) (A0_1 : Option Addr) (c0_1 : Nat) (l0_1 : List Int), v = .agg #[.int .i64 a0_0, .slice A0_1 l0_1.length c0_1] ∧ (Kd.C (Kd.int .u8) W A0_1 l0_1.length l0_1) ∧ (l0_1.length ≤ c0_1) ∧ ((Lit.int .i64 a0_0).wf = true) ∧ (l0_1.length ≤ maxLen) ∧ (∀ y ∈ l0_1, (Lit.int .u8 y).wf = true) := by
  obtain ⟨cs, rfl, _⟩ := okWide_struct Try.underlying46 hv
  obtain ⟨fuel, hf⟩ := h
  obtain ⟨x0, hk, hg⟩ := rd46 fuel cs.toList _ hf
  obtain ⟨sz_0, tz_0, uz_0, ez_0, ⟨Az_1, cz_1, ez_1, mz_1, rz_1⟩⟩ := hk
  have hcs : cs = #[.int .i64 x0.1, .slice Az_1 x0.2.length cz_1] := by
    apply Array.ext'
    rw [uz_0, ez_0, ez_1]
    rfl
  subst hcs
  exact ⟨x0.1, Az_1, cz_1, x0.2, rfl, rz_1, mz_1, hg.1, hg.2.1, hg.2.2⟩
theorem arg1 {H : Type} {enc : TypeId × Value → H} {W : World} {base b0 : Nat} {spare : Nat → Bool} {held : Bool} {r : Reach} {v : Value} {d : DataW H} {p : List MemPlace} (hv : Value.okWide Try.prog W r b0 47 v) (h : DataW.Trod enc Try.prog W base spare held 47 v d p) :
    ∃ (a1_0 : Int) (a1_1 : Int) (A1_2 : Option Addr) (c1_2 : Nat) (l1_2 : List Int), v = .agg #[.int .i64 a1_0, .int .i64 a1_1, .slice A1_2 l1_2.length c1_2] ∧ (Kd.C (Kd.int .u8) W A1_2 l1_2.length l1_2) ∧ (l1_2.length ≤ c1_2) ∧ ((Lit.int .i64 a1_0).wf = true) ∧ ((Lit.int .i64 a1_1).wf = true) ∧ (l1_2.length ≤ maxLen) ∧ (∀ y ∈ l1_2, (Lit.int .u8 y).wf = true) := by
  obtain ⟨cs, rfl, _⟩ := okWide_struct Try.underlying47 hv
  obtain ⟨fuel, hf⟩ := h
  obtain ⟨x1, hk, hg⟩ := rd47 fuel cs.toList _ hf
  obtain ⟨sz_0, tz_0, uz_0, ez_0, ⟨sz_1, tz_1, uz_1, ez_1, ⟨Az_2, cz_2, ez_2, mz_2, rz_2⟩⟩⟩ := hk
  have hcs : cs = #[.int .i64 x1.1, .int .i64 x1.2.1, .slice Az_2 x1.2.2.length cz_2] := by
    apply Array.ext'
    rw [uz_0, ez_0, uz_1, ez_1, ez_2]
    rfl
  subst hcs
  exact ⟨x1.1, x1.2.1, Az_2, cz_2, x1.2.2, rfl, rz_2, mz_2, hg.1, hg.2.1, hg.2.2.1, hg.2.2.2⟩
end Go.Proofs.Yteknaofnageihaa.OpenFnExactSegPut
