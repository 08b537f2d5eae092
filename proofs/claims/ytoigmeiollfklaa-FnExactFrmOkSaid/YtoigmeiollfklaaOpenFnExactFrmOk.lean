/- How the arguments of the law FnExactFrmOk read. -/
import Derived.Test.YtoigmeiollfklaaQFnExactFrmOkx4
import Derived.ChangeArms
import Derived.WideShapes
import Derived.ChangeSlices
import Derived.Deep.Slices
import Derived.KernelRfl
namespace Go.Proofs.Ytoigmeiollfklaa.OpenFnExactFrmOk
open Go.ChangeShapes Go.WideShapes Go.RowKit Go.Deep Go.Proofs.Ytoigmeiollfklaa.QFnExactFrmOk Go.Proofs.YtoigmeiollfklaaW.PrintWords Go.Proofs.YtoigmeiollfklaaW.PrintLast Go.Proofs.YtoigmeiollfklaaW.PrintMore
set_option linter.unusedVariables false
set_option linter.unusedSimpArgs false
set_option maxRecDepth 100000
/-! How Go's data read as the printed kinds have them. -/
section
variable {H : Type} {enc : TypeId × Value → H} {P : Program} {W : World} {base : Nat} {spare : Nat → Bool} {held : Bool} {t e : TypeId}
/-- Whatever reads at type t is of kind d, and G holds of it. -/
def Rd (enc : TypeId × Value → H) (P : Program) (W : World) (base : Nat) (spare : Nat → Bool) (held : Bool) {α : Type} (d : Kd α) (t : TypeId) (G : α → Prop) : Prop :=
  ∀ (fuel : Nat) (cs : List Value) (y : DataW H × List MemPlace), DataW.trod enc P W base spare held fuel t cs = some y → ∃ x, d.K W x cs ∧ G x
theorem rd_int {k : IntKind} (hu : P.underlying t = some (.int k)) : Rd enc P W base spare held (Kd.int k) t (fun x => (Lit.int k x).wf = true) := fun fuel cs y h => by
  obtain ⟨n, rfl, _, hw⟩ := DataW.trod_int hu h
  exact ⟨n, rfl, hw⟩
theorem rd_bool (hu : P.underlying t = some .bool) : Rd enc P W base spare held Kd.bool t (fun _ => True) := fun fuel cs y h => by
  obtain ⟨b, rfl, _⟩ := DataW.trod_bool hu h
  exact ⟨b, rfl, trivial⟩
theorem list_of {α : Type} {n : Nat} {p : Nat → α → Prop} (h : ∀ i, i < n → ∃ x, p i x) : ∃ l : List α, l.length = n ∧ ∀ i x, l[i]? = some x → p i x := by
  induction n with
  | zero => exact ⟨[], rfl, fun i x hx => by simp at hx⟩
  | succ n ih =>
    obtain ⟨l, hl, hp⟩ := ih (fun i hi => h i (by omega))
    obtain ⟨x, hx⟩ := h n (by omega)
    refine ⟨l ++ [x], by simp [hl], fun i y hy => ?_⟩
    by_cases hi : i < n
    · exact hp i y (by rwa [List.getElem?_append_left (by omega)] at hy)
    · have hin : i = n := by
        have := (List.getElem?_eq_some_iff.1 hy).1
        simp [hl] at this
        omega
      subst hin
      rw [List.getElem?_append_right (by omega), hl] at hy
      simp at hy
      subst hy
      exact hx
theorem rd_slice {α : Type} {d : Kd α} {G : α → Prop} (hu : P.underlying t = some (.slice e)) (hz : P.cellsOf e = d.sz) (he : Rd enc P W base spare held d e G) : Rd enc P W base spare held (Kd.slice e d) t (fun l => l.length ≤ maxLen ∧ ∀ y ∈ l, G y) := fun fuel cs y h => by
  rcases Go.Deep.open_slice hu h with ⟨rfl, _⟩ | ⟨a, len, cap, m, n, D, Pl, rfl, _, hl, hm, hmm, _, hx⟩
  · exact ⟨[], ⟨none, 0, rfl, Nat.le_refl _, rfl, by simp, fun h => absurd h (by simp)⟩, by simp, fun y hy => by simp at hy⟩
  · have hle : len ≤ m := by rw [hmm]; split <;> omega
    obtain ⟨l, hlen, hp⟩ := list_of (n := len) (p := fun i x => G x ∧ ∃ c, c.length = d.sz ∧ d.K W x c ∧ ∀ j u, c[j]? = some u → W.cell? (a.add (i * d.sz + j)) = some u) (fun i hi => by
      obtain ⟨c, hc, ht⟩ := hx i (by omega)
      obtain ⟨x, hk, hg⟩ := he _ _ _ ht
      refine ⟨x, hg, c, d.K_len hk, hk, fun j u hj => ?_⟩
      obtain ⟨_, hcl, hcc⟩ := World.cells?_some hc
      have hjl : j < c.length := (List.getElem?_eq_some_iff.1 hj).1
      have := hcc j (by rw [← hcl]; exact hjl)
      rw [hz] at this
      have ha : (a.add (i * d.sz)).add j = a.add (i * d.sz + j) := Go.Deep.add_add _ _ _
      rw [ha] at this
      rw [this, hj])
    refine ⟨l, ⟨some a, cap, by rw [hlen], by omega, rfl, ?_, fun _ => ⟨a, rfl, fun j p hj => ?_⟩⟩, by omega, fun y hy => ?_⟩
    · rw [hlen]; unfold maxLen at hm; omega
    · obtain ⟨_, c, h1, h2, h3⟩ := hp j p hj
      exact ⟨c, h1, h2, h3⟩
    · obtain ⟨i, hi⟩ := List.getElem?_of_mem hy
      exact (hp i y hi).1
theorem cut_at (o z : Nat) (cs : List Value) : cs.drop o = (cs.drop o).take z ++ cs.drop (o + z) := by
  rw [← List.drop_drop, List.take_append_drop]
end
theorem rd3 {H : Type} {enc : TypeId × Value → H} {W : World} {base : Nat} {spare : Nat → Bool} {held : Bool} : Rd enc Try.prog W base spare held (Kd.int .i64) 3 (fun x : Int => (Lit.int .i64 x).wf = true) := rd_int (k := .i64) Try.underlying3
theorem rd4 {H : Type} {enc : TypeId × Value → H} {W : World} {base : Nat} {spare : Nat → Bool} {held : Bool} : Rd enc Try.prog W base spare held Kd.bool 4 (fun x : Bool => True) := rd_bool Try.underlying4
theorem rd5 {H : Type} {enc : TypeId × Value → H} {W : World} {base : Nat} {spare : Nat → Bool} {held : Bool} : Rd enc Try.prog W base spare held (Kd.int .u8) 5 (fun x : Int => (Lit.int .u8 x).wf = true) := rd_int (k := .u8) Try.underlying5
theorem rd40 {H : Type} {enc : TypeId × Value → H} {W : World} {base : Nat} {spare : Nat → Bool} {held : Bool} : Rd enc Try.prog W base spare held (Kd.slice 5 (Kd.int .u8)) 40 (fun x : (List Int) => x.length ≤ maxLen ∧ (∀ y ∈ x, (Lit.int .u8 y).wf = true)) := rd_slice Try.underlying40 (by kernel_rfl) rd5
theorem rd69 {H : Type} {enc : TypeId × Value → H} {W : World} {base : Nat} {spare : Nat → Bool} {held : Bool} : Rd enc Try.prog W base spare held (Kd.pair (Kd.int .i64) (Kd.pair (Kd.int .i64) (Kd.pair (Kd.int .i64) (Kd.pair Kd.bool (Kd.pair Kd.bool (Kd.pair (Kd.int .i64) (Kd.pair (Kd.int .i64) (Kd.pair (Kd.int .i64) (Kd.slice 5 (Kd.int .u8)))))))))) 69 (fun x : (Int × Int × Int × Bool × Bool × Int × Int × Int × (List Int)) => (Lit.int .i64 x.1).wf = true ∧ (Lit.int .i64 x.2.1).wf = true ∧ (Lit.int .i64 x.2.2.1).wf = true ∧ (Lit.int .i64 x.2.2.2.2.2.1).wf = true ∧ (Lit.int .i64 x.2.2.2.2.2.2.1).wf = true ∧ (Lit.int .i64 x.2.2.2.2.2.2.2.1).wf = true ∧ x.2.2.2.2.2.2.2.2.length ≤ maxLen ∧ (∀ y ∈ x.2.2.2.2.2.2.2.2, (Lit.int .u8 y).wf = true)) := by
  intro fuel cs y h
  obtain ⟨xs, n, _, _, hl, hlen, hf⟩ := DataW.trod_struct Try.underlying69 h
  have hz : cs.length = 9 := hl.trans (by kernel_rfl)
  have e0 : DataW.trod enc Try.prog W base spare held n 3 ((cs.drop 0).take (Try.prog.cellsOf 3)) = xs[0]? := hf 0 _ rfl
  rw [show Try.prog.cellsOf 3 = 1 by kernel_rfl, List.getElem?_eq_getElem (by rw [hlen]; decide)] at e0
  obtain ⟨x0, q0, g0⟩ := rd3 _ _ _ e0
  have e1 : DataW.trod enc Try.prog W base spare held n 3 ((cs.drop 1).take (Try.prog.cellsOf 3)) = xs[1]? := hf 1 _ rfl
  rw [show Try.prog.cellsOf 3 = 1 by kernel_rfl, List.getElem?_eq_getElem (by rw [hlen]; decide)] at e1
  obtain ⟨x1, q1, g1⟩ := rd3 _ _ _ e1
  have e2 : DataW.trod enc Try.prog W base spare held n 3 ((cs.drop 2).take (Try.prog.cellsOf 3)) = xs[2]? := hf 2 _ rfl
  rw [show Try.prog.cellsOf 3 = 1 by kernel_rfl, List.getElem?_eq_getElem (by rw [hlen]; decide)] at e2
  obtain ⟨x2, q2, g2⟩ := rd3 _ _ _ e2
  have e3 : DataW.trod enc Try.prog W base spare held n 4 ((cs.drop 3).take (Try.prog.cellsOf 4)) = xs[3]? := hf 3 _ rfl
  rw [show Try.prog.cellsOf 4 = 1 by kernel_rfl, List.getElem?_eq_getElem (by rw [hlen]; decide)] at e3
  obtain ⟨x3, q3, g3⟩ := rd4 _ _ _ e3
  have e4 : DataW.trod enc Try.prog W base spare held n 4 ((cs.drop 4).take (Try.prog.cellsOf 4)) = xs[4]? := hf 4 _ rfl
  rw [show Try.prog.cellsOf 4 = 1 by kernel_rfl, List.getElem?_eq_getElem (by rw [hlen]; decide)] at e4
  obtain ⟨x4, q4, g4⟩ := rd4 _ _ _ e4
  have e5 : DataW.trod enc Try.prog W base spare held n 3 ((cs.drop 5).take (Try.prog.cellsOf 3)) = xs[5]? := hf 5 _ rfl
  rw [show Try.prog.cellsOf 3 = 1 by kernel_rfl, List.getElem?_eq_getElem (by rw [hlen]; decide)] at e5
  obtain ⟨x5, q5, g5⟩ := rd3 _ _ _ e5
  have e6 : DataW.trod enc Try.prog W base spare held n 3 ((cs.drop 6).take (Try.prog.cellsOf 3)) = xs[6]? := hf 6 _ rfl
  rw [show Try.prog.cellsOf 3 = 1 by kernel_rfl, List.getElem?_eq_getElem (by rw [hlen]; decide)] at e6
  obtain ⟨x6, q6, g6⟩ := rd3 _ _ _ e6
  have e7 : DataW.trod enc Try.prog W base spare held n 3 ((cs.drop 7).take (Try.prog.cellsOf 3)) = xs[7]? := hf 7 _ rfl
  rw [show Try.prog.cellsOf 3 = 1 by kernel_rfl, List.getElem?_eq_getElem (by rw [hlen]; decide)] at e7
  obtain ⟨x7, q7, g7⟩ := rd3 _ _ _ e7
  have e8 : DataW.trod enc Try.prog W base spare held n 40 ((cs.drop 8).take (Try.prog.cellsOf 40)) = xs[8]? := hf 8 _ rfl
  rw [show Try.prog.cellsOf 40 = 1 by kernel_rfl, List.getElem?_eq_getElem (by rw [hlen]; decide)] at e8
  obtain ⟨x8, q8, g8⟩ := rd40 _ _ _ e8
  have q8' := q8
  rw [List.take_of_length_le (by rw [List.length_drop, hz]; decide)] at q8'
  refine ⟨⟨x0, x1, x2, x3, x4, x5, x6, x7, x8⟩, ?_, g0, g1, g2, g5, g6, g7, g8.1, g8.2⟩
  have hq : ((Kd.pair (Kd.int .i64) (Kd.pair (Kd.int .i64) (Kd.pair (Kd.int .i64) (Kd.pair Kd.bool (Kd.pair Kd.bool (Kd.pair (Kd.int .i64) (Kd.pair (Kd.int .i64) (Kd.pair (Kd.int .i64) (Kd.slice 5 (Kd.int .u8))))))))))).K W (x0, x1, x2, x3, x4, x5, x6, x7, x8) (cs.drop 0) := ⟨_, _, cut_at 0 1 cs, q0, ⟨_, _, cut_at 1 1 cs, q1, ⟨_, _, cut_at 2 1 cs, q2, ⟨_, _, cut_at 3 1 cs, q3, ⟨_, _, cut_at 4 1 cs, q4, ⟨_, _, cut_at 5 1 cs, q5, ⟨_, _, cut_at 6 1 cs, q6, ⟨_, _, cut_at 7 1 cs, q7, q8'⟩⟩⟩⟩⟩⟩⟩⟩
  exact hq
theorem arg0 {H : Type} {enc : TypeId × Value → H} {W : World} {base b0 : Nat} {spare : Nat → Bool} {held : Bool} {r : Reach} {v : Value} {d : DataW H} {p : List MemPlace} (hv : Value.okWide Try.prog W r b0 69 v) (h : DataW.Trod enc Try.prog W base spare held 69 v d p) :
    ∃ (a0_0 : Int) (a0_1 : Int) (a0_2 : Int) (a0_3 : Bool) (a0_4 : Bool) (a0_5 : Int) (a0_6 : Int) (a0_7 : Int) (A0_8 : Option Addr) (c0_8 : Nat) (l0_8 : List Int), v = .agg #[.int .i64 a0_0, .int .i64 a0_1, .int .i64 a0_2, .bool a0_3, .bool a0_4, .int .i64 a0_5, .int .i64 a0_6, .int .i64 a0_7, .slice A0_8 l0_8.length c0_8] ∧ (Kd.C (Kd.int .u8) W A0_8 l0_8.length l0_8) ∧ (l0_8.length ≤ c0_8) ∧ ((Lit.int .i64 a0_0).wf = true) ∧ ((Lit.int .i64 a0_1).wf = true) ∧ ((Lit.int .i64 a0_2).wf = true) ∧ ((Lit.int .i64 a0_5).wf = true) ∧ ((Lit.int .i64 a0_6).wf = true) ∧ ((Lit.int .i64 a0_7).wf = true) ∧ (l0_8.length ≤ maxLen) ∧ (∀ y ∈ l0_8, (Lit.int .u8 y).wf = true) := by
  obtain ⟨cs, rfl, _⟩ := okWide_struct Try.underlying69 hv
  obtain ⟨fuel, hf⟩ := h
  obtain ⟨x0, hk, hg⟩ := rd69 fuel cs.toList _ hf
  obtain ⟨sz_0, tz_0, uz_0, ez_0, ⟨sz_1, tz_1, uz_1, ez_1, ⟨sz_2, tz_2, uz_2, ez_2, ⟨sz_3, tz_3, uz_3, ez_3, ⟨sz_4, tz_4, uz_4, ez_4, ⟨sz_5, tz_5, uz_5, ez_5, ⟨sz_6, tz_6, uz_6, ez_6, ⟨sz_7, tz_7, uz_7, ez_7, ⟨Az_8, cz_8, ez_8, mz_8, rz_8⟩⟩⟩⟩⟩⟩⟩⟩⟩ := hk
  have hcs : cs = #[.int .i64 x0.1, .int .i64 x0.2.1, .int .i64 x0.2.2.1, .bool x0.2.2.2.1, .bool x0.2.2.2.2.1, .int .i64 x0.2.2.2.2.2.1, .int .i64 x0.2.2.2.2.2.2.1, .int .i64 x0.2.2.2.2.2.2.2.1, .slice Az_8 x0.2.2.2.2.2.2.2.2.length cz_8] := by
    apply Array.ext'
    rw [uz_0, ez_0, uz_1, ez_1, uz_2, ez_2, uz_3, ez_3, uz_4, ez_4, uz_5, ez_5, uz_6, ez_6, uz_7, ez_7, ez_8]
    rfl
  subst hcs
  exact ⟨x0.1, x0.2.1, x0.2.2.1, x0.2.2.2.1, x0.2.2.2.2.1, x0.2.2.2.2.2.1, x0.2.2.2.2.2.2.1, x0.2.2.2.2.2.2.2.1, Az_8, cz_8, x0.2.2.2.2.2.2.2.2, rfl, rz_8, mz_8, hg.1, hg.2.1, hg.2.2.1, hg.2.2.2.1, hg.2.2.2.2.1, hg.2.2.2.2.2.1, hg.2.2.2.2.2.2.1, hg.2.2.2.2.2.2.2⟩
end Go.Proofs.Ytoigmeiollfklaa.OpenFnExactFrmOk
