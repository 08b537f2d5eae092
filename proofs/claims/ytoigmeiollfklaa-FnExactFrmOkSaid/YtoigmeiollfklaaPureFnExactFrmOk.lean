/- The law FnExactFrmOk: FrmOk of the program is that of the reference, for every FrmFrame. No condition. -/
import Derived.Test.YtoigmeiollfklaaOpenFnExactFrmOk
namespace Go.Proofs.Ytoigmeiollfklaa.Pure
open Go.RowKit Go.Proofs.Ytoigmeiollfklaa.QFnExactFrmOk Go.Proofs.YtoigmeiollfklaaW.PrintWords Go.Proofs.YtoigmeiollfklaaW.PrintLast Go.Proofs.YtoigmeiollfklaaW.PrintMore
set_option linter.unusedVariables false
set_option linter.unusedSimpArgs false

/-! A small calculus: with enough rounds g comes to something of which Q holds. -/
def EvP {α : Type} (g : Nat → Option α) (Q : α → Prop) : Prop := ∃ r, Ev g r ∧ Q r
theorem EvP.now {α : Type} {Q : α → Prop} (r : α) (h : Q r) : EvP (fun _ => some r) Q := ⟨r, Ev.now r, h⟩
theorem EvP.here {α : Type} {o : Option α} {Q : α → Prop} (r : α) (e : o = some r) (h : Q r) : EvP (fun _ => o) Q := by subst e; exact EvP.now r h
theorem EvP.of {α : Type} {g : Nat → Option α} {Q : α → Prop} (K : Nat) (h : ∃ r, (∀ k, K ≤ k → g k = some r) ∧ Q r) : EvP g Q := by
  obtain ⟨r, h1, h2⟩ := h
  exact ⟨r, ⟨K, h1⟩, h2⟩
theorem EvP.bind {α β : Type} {g : Nat → Option α} {f : Nat → α → Option β} {P : α → Prop} {Q : β → Prop} (h : EvP g P) (k : ∀ a, P a → EvP (fun n => f n a) Q) : EvP (fun n => (g n).bind (f n)) Q := by
  obtain ⟨a, ha, hp⟩ := h
  obtain ⟨r, hr, hq⟩ := k a hp
  exact ⟨r, Ev.bind ha hr, hq⟩
theorem EvP.some_bind {α β : Type} {a : α} {f : Nat → α → Option β} {Q : β → Prop} (k : EvP (fun n => f n a) Q) : EvP (fun n => (some a).bind (f n)) Q := k
theorem EvP.step {α : Type} {g f : Nat → Option α} {Q : α → Prop} (h : ∀ k, g (k + 1) = f k) (k : EvP f Q) : EvP g Q := by
  obtain ⟨r, hr, hq⟩ := k
  exact ⟨r, Ev.step h hr, hq⟩
theorem EvP.congr {α : Type} {g f : Nat → Option α} {Q : α → Prop} (h : ∀ k, g k = f k) (k : EvP f Q) : EvP g Q := by
  obtain ⟨r, hr, hq⟩ := k
  exact ⟨r, Ev.congr h hr, hq⟩
theorem EvP.mono {α : Type} {g : Nat → Option α} {P Q : α → Prop} (h : EvP g P) (k : ∀ a, P a → Q a) : EvP g Q := by
  obtain ⟨r, hr, hp⟩ := h
  exact ⟨r, hr, k r hp⟩
theorem EvP.ite {α : Type} {c : Prop} [Decidable c] {f g : Nat → Option α} {Q : α → Prop} (h1 : c → EvP f Q) (h2 : ¬ c → EvP g Q) : EvP (fun k => if c then f k else g k) Q := by
  by_cases hc : c
  · simp only [if_pos hc]; exact h1 hc
  · simp only [if_neg hc]; exact h2 hc
theorem EvP.pos {α : Type} {c : Prop} [Decidable c] {f g : Nat → Option α} {Q : α → Prop} (hc : c) (h : EvP f Q) : EvP (fun k => if c then f k else g k) Q := by
  simp only [if_pos hc]; exact h
theorem EvP.neg {α : Type} {c : Prop} [Decidable c] {f g : Nat → Option α} {Q : α → Prop} (hc : ¬ c) (h : EvP g Q) : EvP (fun k => if c then f k else g k) Q := by
  simp only [if_neg hc]; exact h
theorem EvP.rounds {α : Type} {g : Nat → Option α} {r : α} (h : EvP g (· = r)) : ∃ k, g k = some r := by
  obtain ⟨q, hq, rfl⟩ := h
  exact hq.rounds
theorem EvP.up {α : Type} {g : Nat → Option α} {Q : α → Prop} (h : EvP (fun k => g (k + 1)) Q) : EvP g Q := EvP.step (fun _ => rfl) h
theorem EvP.val_bind {α β : Type} {o : Option α} {a : α} {f : Nat → α → Option β} {Q : β → Prop} (e : o = some a) (k : EvP (fun n => f n a) Q) : EvP (fun n => o.bind (f n)) Q := by subst e; exact k
theorem EvP.eq_bind {α β : Type} {g : Nat → Option α} {f : Nat → α → Option β} {a : α} {Q : β → Prop} (h : EvP g (· = a)) (k : EvP (fun n => f n a) Q) : EvP (fun n => (g n).bind (f n)) Q := EvP.bind h (fun _ e => by subst e; exact k)
theorem wrap64_id {x : Int} (h : -9223372036854775808 ≤ x) (h2 : x ≤ 9223372036854775807) : wrap64 x = x := by unfold wrap64; omega
theorem toByteS_loop (l : List Int) (hl : l.length ≤ 281474976710656) (d : Nat) : ∀ i : Nat, i ≤ l.length → l.length - i = d → EvP (fun k => laws_toByteS.l0 k l (l.take i ++ List.replicate (l.length - i) 0) (i : Int)) (· = l) := by
  induction d with
  | zero =>
    intro i h0 hd
    have hi : i = l.length := by omega
    subst hi
    refine EvP.up ?_
    simp only [laws_toByteS.l0]
    exact EvP.neg (by omega) (EvP.now _ (by simp))
  | succ d ih =>
    intro i h0 hd
    refine EvP.up ?_
    simp only [laws_toByteS.l0]
    refine EvP.pos (by omega) (EvP.pos (by omega) (EvP.pos (by simp; omega) ?_))
    have hw : wrap64 ((i : Int) + 1) = ((i + 1 : Nat) : Int) := by rw [wrap64_id (by omega) (by omega)]; omega
    have hs : (l.take i ++ List.replicate (l.length - i) (0 : Int)).set ((i : Int)).toNat (rd l i) = l.take (i + 1) ++ List.replicate (l.length - (i + 1)) 0 := by
      have hlt : i < l.length := by omega
      have hr : rd l (i : Int) = l[i] := by
        unfold rd
        rw [Int.toNat_natCast, List.getD_eq_getElem?_getD, List.getElem?_eq_getElem hlt]; rfl
      rw [hr, Int.toNat_natCast, List.set_append_right _ _ (by rw [List.length_take]; omega), List.length_take, Nat.min_eq_left (by omega), Nat.sub_self, show l.length - i = (l.length - (i + 1)) + 1 by omega, List.replicate_succ, List.set_cons_zero]
      have e := List.take_succ_eq_append_getElem hlt
      rw [e, List.append_assoc]
      rfl
    rw [hw, hs]
    exact ih (i + 1) (by omega) (by omega)
theorem toByteS_ok (l : List Int) (hl : l.length ≤ 281474976710656) : EvP (fun k => laws_toByteS.f k l) (· = l) := by
  unfold laws_toByteS.f
  refine EvP.pos (by omega) (EvP.pos (by omega) ?_)
  have h := toByteS_loop l hl l.length 0 (by omega) (by omega)
  simpa using h
theorem eqByteS_loop (a b : List Int) (hab : a.length = b.length) (hl : a.length ≤ 281474976710656) (d : Nat) : ∀ i : Nat, i ≤ a.length → a.length - i = d → a.take i = b.take i → EvP (fun k => laws_eqByteS.l0 k a b (i : Int)) (· = decide (a = b)) := by
  induction d with
  | zero =>
    intro i h0 hd ht
    refine EvP.up ?_
    simp only [laws_eqByteS.l0]
    refine EvP.neg (by omega) (EvP.now _ ?_)
    rw [List.take_of_length_le (by omega), List.take_of_length_le (by omega)] at ht
    exact (decide_eq_true ht).symm
  | succ d ih =>
    intro i h0 hd ht
    have hi : i < a.length := by omega
    have hi2 : i < b.length := by omega
    refine EvP.up ?_
    simp only [laws_eqByteS.l0]
    refine EvP.pos (by omega) (EvP.pos (by omega) (EvP.pos (by omega) ?_))
    have ha : rd a (i : Int) = a[i] := by unfold rd; rw [Int.toNat_natCast, List.getD_eq_getElem?_getD, List.getElem?_eq_getElem hi]; rfl
    have hb : rd b (i : Int) = b[i] := by unfold rd; rw [Int.toNat_natCast, List.getD_eq_getElem?_getD, List.getElem?_eq_getElem hi2]; rfl
    rw [ha, hb]
    have hw : wrap64 ((i : Int) + 1) = ((i + 1 : Nat) : Int) := by rw [wrap64_id (by omega) (by omega)]; omega
    rw [hw]
    refine EvP.ite (fun h => ih (i + 1) (by omega) (by omega) ?_) (fun h => EvP.now _ ?_)
    · rw [List.take_succ_eq_append_getElem hi, List.take_succ_eq_append_getElem hi2, ht, h]
    · refine (decide_eq_false (fun e => h ?_)).symm
      subst e; rfl
theorem eqByteS_ok (a b : List Int) (hl : a.length ≤ 281474976710656) : EvP (fun k => laws_eqByteS.f k a b) (· = decide (a = b)) := by
  unfold laws_eqByteS.f
  refine EvP.ite (fun h => eqByteS_loop a b (by omega) hl a.length 0 (by omega) (by omega) (by simp)) (fun h => EvP.now _ ?_)
  exact (decide_eq_false (fun e => h (by rw [e]))).symm
theorem szByteS_ok (l : List Int) (hl : l.length ≤ maxLen) (n : Int) (hn : 0 ≤ n ∧ n ≤ 1048576) : ∃ m, laws_szByteS.f l n = some m ∧ m ≤ n ∧ (0 ≤ m → (l.length : Int) ≤ n) := by
  unfold maxLen at hl
  unfold laws_szByteS.f
  rw [wrap64_id (by omega) (by omega)]
  by_cases h : n - (l.length : Int) < 0
  · exact ⟨-1, by rw [if_pos h], by omega, by omega⟩
  · exact ⟨_, by rw [if_neg h], by omega, by omega⟩
/-! A piece is ok. -/
def pok (seg len : Int) (l : List Int) : Bool := decide ((seg = 0 ∧ (l.length : Int) ≤ 8 ∧ len = (l.length : Int)) ∨ (seg = 1 ∧ 1 ≤ (l.length : Int) ∧ (l.length : Int) ≤ 8 ∧ (l.length : Int) + 1 ≤ len ∧ len ≤ 24) ∨ ((seg = 2 ∨ seg = 3) ∧ 1 ≤ (l.length : Int) ∧ (l.length : Int) ≤ 8 ∧ len = 0))
theorem l2Seg_ok (a b c : Int) (d e : Bool) (f seg len : Int) (l : List Int) (hl : l.length ≤ 281474976710656) : EvP (fun k => spec_l2Seg.f k a b c d e f seg len l) (· = pok seg len l) := by
  have in_val3 : ∀ a lo hi : Int, spec_l1In.f a lo hi = some (decide (lo ≤ a ∧ a ≤ hi)) := by
    intro a lo hi
    unfold spec_l1In.f
    by_cases h : a ≥ lo
    · rw [if_pos h]; simp only [Option.some.injEq, decide_eq_decide]; omega
    · rw [if_neg h]; simp only [Option.some.injEq]; exact (decide_eq_false (by omega)).symm
  have tail : ∀ x : Bool, (x = true → pok seg len l = false) → (x = false → (0 ≤ seg ∧ seg ≤ 3) ∧ (l.length : Int) ≤ 8 ∧ ((l.length : Int) = 0 → len = 0)) → EvP (fun k => spec_l2Seg.j0 k x a b c d e f seg len l) (· = pok seg len l) := by
    intro x hx hx2
    refine EvP.up ?_
    simp only [spec_l2Seg.j0, in_val3, Option.bind_some, decide_eq_true_eq]
    refine EvP.ite (fun h => EvP.now _ (hx h).symm) (fun h => ?_)
    obtain ⟨h1, h2, h3⟩ := hx2 (Bool.eq_false_iff.mpr h)
    rw [wrap64_id (x := (l.length : Int) + 1) (by omega) (by omega)]
    unfold pok
    refine EvP.ite (fun h0 => EvP.now _ ?_) (fun h0 => EvP.ite (fun h4 => EvP.ite (fun h5 => EvP.now _ ?_) (fun h5 => EvP.now _ ?_)) (fun h4 => EvP.ite (fun h5 => EvP.now _ ?_) (fun h5 => EvP.now _ ?_)))
    · rw [Bool.eq_iff_iff, beq_iff_eq, decide_eq_true_eq]; omega
    · rw [decide_eq_decide]; omega
    · exact (decide_eq_false (by omega)).symm
    · rw [decide_eq_decide]; omega
    · exact (decide_eq_false (by omega)).symm
  unfold spec_l2Seg.f
  simp only [in_val3, Option.bind_some, decide_eq_true_eq]
  refine EvP.ite (fun h1 => EvP.ite (fun h2 => EvP.ite (fun h3 => tail _ ?_ ?_) (fun h3 => tail _ ?_ ?_)) (fun h2 => tail _ ?_ ?_)) (fun h1 => tail _ ?_ ?_)
  · intro h; rw [decide_eq_true_eq] at h; omega
  · intro h; rw [decide_eq_false_iff_not] at h; omega
  · intro _; unfold pok; exact decide_eq_false (by omega)
  · intro h; cases h
  · intro h; rw [decide_eq_true_eq] at h; unfold pok; exact decide_eq_false (by omega)
  · intro h; rw [decide_eq_false_iff_not] at h; omega
  · intro _; unfold pok; exact decide_eq_false (by omega)
  · intro h; cases h
theorem in_val2 (a lo hi : Int) : impl_in.f a lo hi = some (decide (lo ≤ a ∧ a ≤ hi)) := by
  unfold impl_in.f
  by_cases h : a ≥ lo
  · rw [if_pos h]; simp only [Option.some.injEq, decide_eq_decide]; omega
  · rw [if_neg h]; simp only [Option.some.injEq]; exact (decide_eq_false (by omega)).symm
theorem pieceOk_val (seg len : Int) (l : List Int) (hl : l.length ≤ 281474976710656) : impl_pieceOk.f seg len l = some (pok seg len l) := by
  unfold impl_pieceOk.f pok
  simp only [in_val2, Option.bind_some, decide_eq_true_eq]
  rw [wrap64_id (x := (l.length : Int) + 1) (by omega) (by omega)]
  by_cases h0 : seg = 0
  · rw [if_pos h0]
    by_cases h1 : (l.length : Int) ≤ 8
    · rw [if_pos h1]
      rw [Option.some.injEq, Bool.eq_iff_iff, beq_iff_eq, decide_eq_true_eq]; omega
    · rw [if_neg h1, Option.some.injEq]; exact (decide_eq_false (by omega)).symm
  · rw [if_neg h0]
    by_cases h1 : seg = 1
    · rw [if_pos h1]
      by_cases h2 : 1 ≤ (l.length : Int) ∧ (l.length : Int) ≤ 8
      · rw [if_pos h2, Option.some.injEq, decide_eq_decide]; omega
      · rw [if_neg h2, Option.some.injEq]; exact (decide_eq_false (by omega)).symm
    · rw [if_neg h1]
      by_cases h3 : seg = 2
      · rw [if_pos h3]
        by_cases h2 : 1 ≤ (l.length : Int) ∧ (l.length : Int) ≤ 8
        · rw [if_pos h2, Option.some.injEq, Bool.eq_iff_iff, beq_iff_eq, decide_eq_true_eq]; omega
        · rw [if_neg h2, Option.some.injEq]; exact (decide_eq_false (by omega)).symm
      · rw [if_neg h3]
        by_cases h4 : seg = 3
        · rw [if_pos h4]
          by_cases h2 : 1 ≤ (l.length : Int) ∧ (l.length : Int) ≤ 8
          · rw [if_pos h2, Option.some.injEq, Bool.eq_iff_iff, beq_iff_eq, decide_eq_true_eq]; omega
          · rw [if_neg h2, Option.some.injEq]; exact (decide_eq_false (by omega)).symm
        · rw [if_neg h4, Option.some.injEq]; exact (decide_eq_false (by omega)).symm
def frok (kd sq ak : Int) (po fi : Bool) (sy sg ln : Int) (d : List Int) : Bool := decide ((kd = 1 ∧ (0 ≤ sq ∧ sq ≤ 7) ∧ (0 ≤ ak ∧ ak ≤ 7) ∧ po = false ∧ sy = 0 ∧ pok sg ln d = true) ∨ (kd = 2 ∧ sq = 0 ∧ (0 ≤ ak ∧ ak ≤ 7) ∧ ¬ (po = true ∧ fi = true) ∧ (0 ≤ sy ∧ sy ≤ 2) ∧ sg = 0 ∧ ln = 0 ∧ d.length = 0) ∨ (kd = 3 ∧ sq = 0 ∧ ak = 0 ∧ po = false ∧ fi = false ∧ sy = 0 ∧ pok sg ln d = true) ∨ (kd = 4 ∧ sq = 0 ∧ ak = 0 ∧ po = false ∧ fi = false ∧ sy = 0 ∧ sg = 0 ∧ (1 ≤ ln ∧ ln ≤ 255) ∧ d.length = 0))
theorem l1In_val2 (a lo hi : Int) : spec_l1In.f a lo hi = some (decide (lo ≤ a ∧ a ≤ hi)) := in_val2 a lo hi
theorem specFrm_ok (kd sq ak : Int) (po fi : Bool) (sy sg ln : Int) (d : List Int) (hd : d.length ≤ 1048576) :
    EvP (fun k => spec_FrmOk.f k kd sq ak po fi sy sg ln d) (· = frok kd sq ak po fi sy sg ln d) := by
  have E : ∀ b : Bool, (b = true ↔ frok kd sq ak po fi sy sg ln d = true) → b = frok kd sq ak po fi sy sg ln d := fun b h => Bool.eq_iff_iff.2 h
  have hs := l2Seg_ok kd sq ak po fi sy sg ln d (by omega)
  unfold spec_FrmOk.f
  simp only [l1In_val2, Option.bind_some, decide_eq_true_eq]
  refine EvP.ite (fun h1 => ?_) (fun h1 => EvP.ite (fun h1b => ?_) (fun h1b => EvP.ite (fun h1c => ?_) (fun h1c => EvP.ite (fun h1d => ?_) (fun h1d => EvP.now _ (E _ (by simp [frok]; omega))))))
  · refine EvP.ite (fun h2 => EvP.ite (fun h3 => EvP.ite (fun h4 => EvP.now _ (E _ (by simp [frok, h4]; omega))) (fun h4 => EvP.ite (fun h5 => ?_) (fun h5 => EvP.now _ (E _ (by simp [frok]; omega))))) (fun h3 => EvP.now _ (E _ (by simp [frok]; omega)))) (fun h2 => EvP.now _ (E _ (by simp [frok]; omega)))
    refine EvP.eq_bind hs (EvP.now _ (E _ ?_))
    rw [Bool.not_eq_true] at h4
    simp [frok, h1, h2, h3, h4, h5]
  · refine EvP.ite (fun h2 => EvP.ite (fun h3 => ?_) (fun h3 => EvP.now _ (E _ (by simp [frok]; omega)))) (fun h2 => EvP.now _ (E _ (by simp [frok]; omega)))
    have fin : ¬ (po = true ∧ fi = true) → EvP (fun k => if 0 ≤ sy ∧ sy ≤ 2 then if sg = 0 then if ln = 0 then some ((d.length : Int) == 0) else some false else some false else some false) (· = frok kd sq ak po fi sy sg ln d) := by
      intro hpf
      refine EvP.ite (fun h5 => EvP.ite (fun h6 => EvP.ite (fun h7 => EvP.now _ (E _ ?_)) (fun h7 => EvP.now _ (E _ (by simp [frok]; omega)))) (fun h6 => EvP.now _ (E _ (by simp [frok]; omega)))) (fun h5 => EvP.now _ (E _ (by simp [frok]; omega)))
      rw [beq_iff_eq, frok, decide_eq_true_eq]
      constructor
      · intro h8
        exact .inr (.inl ⟨h1b, h2, h3, hpf, h5, h6, h7, by omega⟩)
      · rintro (h | h | h | h) <;> omega
    refine EvP.ite (fun h4 => EvP.ite (fun h5 => EvP.now _ (E _ ?_)) (fun h5 => fin (fun z => h5 z.2))) (fun h4 => fin (fun z => h4 z.1))
    simp [frok, h4, h5]
  · refine EvP.ite (fun h2 => EvP.ite (fun h3 => EvP.ite (fun h4 => EvP.now _ (E _ (by simp [frok, h4]; omega))) (fun h4 => EvP.ite (fun h5 => EvP.now _ (E _ (by simp [frok, h5]; omega))) (fun h5 => EvP.ite (fun h6 => ?_) (fun h6 => EvP.now _ (E _ (by simp [frok]; omega)))))) (fun h3 => EvP.now _ (E _ (by simp [frok]; omega)))) (fun h2 => EvP.now _ (E _ (by simp [frok]; omega)))
    refine EvP.eq_bind hs (EvP.now _ (E _ ?_))
    rw [Bool.not_eq_true] at h4 h5
    simp [frok, h1c, h2, h3, h4, h5, h6]
  · refine EvP.ite (fun h2 => EvP.ite (fun h3 => EvP.ite (fun h4 => EvP.now _ (E _ (by simp [frok, h4]; omega))) (fun h4 => EvP.ite (fun h5 => EvP.now _ (E _ (by simp [frok, h5]; omega))) (fun h5 => EvP.ite (fun h6 => EvP.ite (fun h7 => EvP.ite (fun h8 => EvP.now _ (E _ ?_)) (fun h8 => EvP.now _ (E _ (by simp [frok]; omega)))) (fun h7 => EvP.now _ (E _ (by simp [frok]; omega)))) (fun h6 => EvP.now _ (E _ (by simp [frok]; omega)))))) (fun h3 => EvP.now _ (E _ (by simp [frok]; omega)))) (fun h2 => EvP.now _ (E _ (by simp [frok]; omega)))
    rw [Bool.not_eq_true] at h4 h5
    rw [beq_iff_eq, frok, decide_eq_true_eq]
    constructor
    · intro h9
      exact .inr (.inr (.inr ⟨h1d, h2, h3, h4, h5, h6, h7, h8, by omega⟩))
    · rintro (h | h | h | h) <;> omega
theorem equal_loop (l : List Int) (hl : l.length ≤ 1048576) (d : Nat) : ∀ i : Nat, i ≤ l.length → l.length - i = d → EvP (fun k => slices_Equal_byte_byte.l0 k l l (l.length : Int) (i : Int)) (· = true) := by
  induction d with
  | zero =>
    intro i h0 hd
    refine EvP.up ?_
    simp only [slices_Equal_byte_byte.l0]
    exact EvP.neg (by omega) (EvP.now _ rfl)
  | succ d ih =>
    intro i h0 hd
    refine EvP.up ?_
    simp only [slices_Equal_byte_byte.l0]
    refine EvP.pos (by omega) (EvP.pos (by omega) (EvP.pos (by omega) (EvP.pos (by omega) (EvP.pos trivial ?_))))
    have hw : wrap64 ((i : Int) + 1) = ((i + 1 : Nat) : Int) := by rw [wrap64_id (by omega) (by omega)]; omega
    rw [hw]
    exact ih (i + 1) (by omega) (by omega)
theorem equal_ok (l : List Int) (hl : l.length ≤ 1048576) : EvP (fun k => slices_Equal_byte_byte.f k l l) (· = true) := by
  unfold slices_Equal_byte_byte.f
  exact EvP.pos rfl (equal_loop l hl l.length 0 (by omega) (by omega))
theorem equal_nil (l : List Int) (hl : l.length ≤ 1048576) : EvP (fun k => slices_Equal_byte_byte.f k [] l) (· = decide (l.length = 0)) := by
  by_cases h : l.length = 0
  · obtain rfl := List.eq_nil_of_length_eq_zero h
    rw [decide_eq_true (by rfl)]
    exact equal_ok [] (by simp)
  · rw [decide_eq_false h]
    unfold slices_Equal_byte_byte.f
    exact EvP.neg (by simp; omega) (EvP.now _ rfl)
theorem same_ok (a b c : Int) (p q : Bool) (e f g : Int) (d : List Int) (a' b' c' : Int) (p' q' : Bool) (e' f' g' : Int) (d' : List Int) (v : Bool) (hv : EvP (fun k => slices_Equal_byte_byte.f k d d') (· = v)) :
    EvP (fun k => impl_FrmFrame_same.f k a b c p q e f g d a' b' c' p' q' e' f' g' d') (· = (decide (a = a' ∧ b = b' ∧ c = c' ∧ p = p' ∧ q = q' ∧ e = e' ∧ f = f' ∧ g = g') && v)) := by
  unfold impl_FrmFrame_same.f
  have N : ∀ h : ¬ (a = a' ∧ b = b' ∧ c = c' ∧ p = p' ∧ q = q' ∧ e = e' ∧ f = f' ∧ g = g'), false = (decide (a = a' ∧ b = b' ∧ c = c' ∧ p = p' ∧ q = q' ∧ e = e' ∧ f = f' ∧ g = g') && v) := fun h => by rw [decide_eq_false h]; rfl
  refine EvP.ite (fun h1 => ?_) (fun h => EvP.now _ (N (fun z => h z.1)))
  refine EvP.ite (fun h2 => ?_) (fun h => EvP.now _ (N (fun z => h z.2.1)))
  refine EvP.ite (fun h3 => ?_) (fun h => EvP.now _ (N (fun z => h z.2.2.1)))
  refine EvP.ite (fun h4 => ?_) (fun h => EvP.now _ (N (fun z => h (beq_iff_eq.2 z.2.2.2.1))))
  refine EvP.ite (fun h5 => ?_) (fun h => EvP.now _ (N (fun z => h (beq_iff_eq.2 z.2.2.2.2.1))))
  refine EvP.ite (fun h6 => ?_) (fun h => EvP.now _ (N (fun z => h z.2.2.2.2.2.1)))
  refine EvP.ite (fun h7 => ?_) (fun h => EvP.now _ (N (fun z => h z.2.2.2.2.2.2.1)))
  refine EvP.ite (fun h8 => ?_) (fun h => EvP.now _ (N (fun z => h z.2.2.2.2.2.2.2)))
  refine EvP.eq_bind hv (EvP.now _ ?_)
  rw [decide_eq_true ⟨h1, h2, h3, beq_iff_eq.1 h4, beq_iff_eq.1 h5, h6, h7, h8⟩, Bool.true_and]
theorem isNum_val (a : Int) : impl_isNumber.f a = some (decide (0 ≤ a ∧ a ≤ 7)) := by
  unfold impl_isNumber.f; rw [in_val2]; rfl
theorem implFrm_ok (kd sq ak : Int) (po fi : Bool) (sy sg ln : Int) (d : List Int) (hd : d.length ≤ 1048576) :
    EvP (fun k => impl_FrmOk.f k kd sq ak po fi sy sg ln d) (· = frok kd sq ak po fi sy sg ln d) := by
  have E : ∀ b : Bool, (b = true ↔ frok kd sq ak po fi sy sg ln d = true) → b = frok kd sq ak po fi sy sg ln d := fun b h => Bool.eq_iff_iff.2 h
  unfold impl_FrmOk.f
  rw [pieceOk_val _ _ _ (by omega)]
  simp only [isNum_val, in_val2, Option.bind_some, decide_eq_true_eq]
  refine EvP.ite (fun h1 => ?_) (fun h1 => EvP.ite (fun h1b => ?_) (fun h1b => EvP.ite (fun h1c => ?_) (fun h1c => EvP.ite (fun h1d => ?_) (fun h1d => EvP.now _ (E _ (by simp [frok]; omega))))))
  · refine EvP.ite (fun h2 => EvP.ite (fun h3 => EvP.ite (fun h4 => ?_) (fun h4 => EvP.now _ (E _ (by rw [Bool.not_eq_true] at h4; simp [frok, h4]; omega)))) (fun h3 => EvP.now _ (E _ (by simp [frok]; omega)))) (fun h2 => EvP.now _ (E _ (by simp [frok]; omega)))
    refine EvP.eq_bind (same_ok _ _ _ _ _ _ _ _ _ _ _ _ _ _ _ _ _ _ true (equal_ok d hd)) (EvP.now _ (E _ ?_))
    simp only [Bool.and_true, decide_eq_true_eq, frok]
    constructor
    · rintro ⟨_, _, _, hp, _, hs, _, _⟩
      exact .inl ⟨h1, h2, h3, hp.symm, hs.symm, h4⟩
    · rintro (h | h | h | h)
      · exact ⟨trivial, trivial, trivial, h.2.2.2.1.symm, trivial, h.2.2.2.2.1.symm, trivial, trivial⟩
      all_goals omega
  · have fin : ¬ (po = true ∧ fi = true) → (0 ≤ ak ∧ ak ≤ 7) → EvP (fun k => if 0 ≤ sy ∧ sy ≤ 2 then (impl_FrmFrame_same.f k kd 0 ak po fi sy 0 0 [] kd sq ak po fi sy sg ln d).bind fun t => some t else some false) (· = frok kd sq ak po fi sy sg ln d) := by
      intro hpf hak
      refine EvP.ite (fun h5 => ?_) (fun h5 => EvP.now _ (E _ (by simp [frok]; omega)))
      refine EvP.eq_bind (same_ok _ _ _ _ _ _ _ _ _ _ _ _ _ _ _ _ _ _ _ (equal_nil d hd)) (EvP.now _ (E _ ?_))
      simp only [Bool.and_eq_true, decide_eq_true_eq, frok]
      constructor
      · rintro ⟨⟨_, hq, _, _, _, _, hf, hg⟩, hz⟩
        exact .inr (.inl ⟨h1b, hq.symm, hak, hpf, h5, hf.symm, hg.symm, hz⟩)
      · rintro (h | h | h | h)
        · omega
        · exact ⟨⟨trivial, h.2.1.symm, trivial, trivial, trivial, trivial, h.2.2.2.2.2.1.symm, h.2.2.2.2.2.2.1.symm⟩, h.2.2.2.2.2.2.2⟩
        all_goals omega
    refine EvP.ite (fun h2 => ?_) (fun h2 => EvP.now _ (E _ (by simp [frok]; omega)))
    refine EvP.ite (fun h4 => EvP.ite (fun h5 => EvP.now _ (E _ ?_)) (fun h5 => fin (fun z => h5 z.2) h2)) (fun h4 => fin (fun z => h4 z.1) h2)
    simp [frok, h4, h5]
    try omega
  · refine EvP.ite (fun h4 => ?_) (fun h4 => EvP.now _ (E _ (by rw [Bool.not_eq_true] at h4; simp [frok, h4]; omega)))
    refine EvP.eq_bind (same_ok _ _ _ _ _ _ _ _ _ _ _ _ _ _ _ _ _ _ true (equal_ok d hd)) (EvP.now _ (E _ ?_))
    simp only [Bool.and_true, decide_eq_true_eq, frok]
    constructor
    · rintro ⟨_, hb, hc, hp, hq, hs, _, _⟩
      exact .inr (.inr (.inl ⟨h1c, hb.symm, hc.symm, hp.symm, hq.symm, hs.symm, h4⟩))
    · rintro (h | h | h | h)
      · omega
      · omega
      · exact ⟨trivial, h.2.1.symm, h.2.2.1.symm, h.2.2.2.1.symm, h.2.2.2.2.1.symm, h.2.2.2.2.2.1.symm, trivial, trivial⟩
      · omega
  · refine EvP.ite (fun h4 => ?_) (fun h4 => EvP.now _ (E _ (by simp [frok]; omega)))
    refine EvP.eq_bind (same_ok _ _ _ _ _ _ _ _ _ _ _ _ _ _ _ _ _ _ _ (equal_nil d hd)) (EvP.now _ (E _ ?_))
    simp only [Bool.and_eq_true, decide_eq_true_eq, frok]
    constructor
    · rintro ⟨⟨_, hb, hc, hp, hq, hs, hf, _⟩, hz⟩
      exact .inr (.inr (.inr ⟨h1d, hb.symm, hc.symm, hp.symm, hq.symm, hs.symm, hf.symm, h4, hz⟩))
    · rintro (h | h | h | h)
      · omega
      · omega
      · omega
      · exact ⟨⟨trivial, h.2.1.symm, h.2.2.1.symm, h.2.2.2.1.symm, h.2.2.2.2.1.symm, h.2.2.2.2.2.1.symm, h.2.2.2.2.2.2.1.symm, trivial⟩, h.2.2.2.2.2.2.2.2⟩
theorem FnExactFrmOk : ∀ (a0_0 : Int) (a0_1 : Int) (a0_2 : Int) (a0_3 : Bool) (a0_4 : Bool) (a0_5 : Int) (a0_6 : Int) (a0_7 : Int) (l0_8 : List Int), (Lit.int .i64 a0_0).wf = true → (Lit.int .i64 a0_1).wf = true → (Lit.int .i64 a0_2).wf = true → (Lit.int .i64 a0_5).wf = true → (Lit.int .i64 a0_6).wf = true → (Lit.int .i64 a0_7).wf = true → l0_8.length ≤ maxLen → (∀ y ∈ l0_8, (Lit.int .u8 y).wf = true) → ∃ k, laws_FnExactFrmOk.f k a0_0 a0_1 a0_2 a0_3 a0_4 a0_5 a0_6 a0_7 l0_8 = some true := by
  intro a b c d e f g h l _ _ _ _ _ _ hl _
  refine EvP.rounds ?_
  unfold laws_FnExactFrmOk.f
  obtain ⟨m, hm, _, hb⟩ := szByteS_ok l hl 1048576 (by omega)
  have hz : ∃ m, laws_szFrmFrame.f a b c d e f g h l 1048576 = some m ∧ (0 ≤ m → (l.length : Int) ≤ 1048576) := by
    unfold laws_szFrmFrame.f
    rw [hm]
    by_cases hneg : m < 0
    · exact ⟨-1, by simp only [Option.bind_some]; rw [if_pos hneg], by omega⟩
    · exact ⟨m, by simp only [Option.bind_some]; rw [if_neg hneg], hb⟩
  obtain ⟨m, hm, hb⟩ := hz
  refine EvP.val_bind hm ?_
  refine EvP.ite (fun _ => EvP.now _ rfl) (fun hn => ?_)
  have hl : l.length ≤ 1048576 := by omega
  have tp : EvP (fun k => laws_toFrmFrame.f k a b c d e f g h l) (· = (a, b, c, d, e, f, g, h, l)) := by
    unfold laws_toFrmFrame.f
    exact EvP.eq_bind (toByteS_ok l (by omega)) (EvP.now _ rfl)
  have ep : EvP (fun k => laws_eqFrmFrame.f k a b c d e f g h l a b c d e f g h l) (· = true) := by
    unfold laws_eqFrmFrame.f
    refine EvP.pos rfl (EvP.pos rfl (EvP.pos rfl (EvP.neg (by simp) (EvP.neg (by simp) (EvP.pos rfl (EvP.pos rfl (EvP.pos rfl (EvP.eq_bind (eqByteS_ok l l (by omega)) ?_))))))))
    rw [decide_eq_true rfl]
    exact EvP.pos rfl (EvP.now _ rfl)
  refine EvP.eq_bind tp (EvP.eq_bind (specFrm_ok a b c d e f g h l hl) (EvP.eq_bind tp (EvP.eq_bind (implFrm_ok a b c d e f g h l hl) (EvP.neg (by simp) (EvP.eq_bind tp (EvP.eq_bind ep (EvP.pos rfl (EvP.now _ rfl))))))))

end Go.Proofs.Ytoigmeiollfklaa.Pure
