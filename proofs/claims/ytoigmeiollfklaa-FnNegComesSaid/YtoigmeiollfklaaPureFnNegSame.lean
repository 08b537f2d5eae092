/- The law FnNegSame: who is done is agreed. No condition. -/
import Derived.Test.YtoigmeiollfklaaQFnNegSamex4
namespace Go.Proofs.Ytoigmeiollfklaa.Pure
open Go.RowKit Go.Proofs.Ytoigmeiollfklaa.QFnNegSame Go.Proofs.YtoigmeiollfklaaW.PrintWords Go.Proofs.YtoigmeiollfklaaW.PrintLast Go.Proofs.YtoigmeiollfklaaW.PrintMore
set_option linter.unusedVariables false
set_option linter.unusedSimpArgs false

/-! A small calculus: with enough rounds g comes to something of which Q holds. -/
def EvP {α : Type} (g : Nat → Option α) (Q : α → Prop) : Prop := ∃ r, Ev g r ∧ Q r
theorem EvP.now {α : Type} {Q : α → Prop} (r : α) (h : Q r) : EvP (fun _ => some r) Q := ⟨r, Ev.now r, h⟩
theorem EvP.here {α : Type} {o : Option α} {Q : α → Prop} (r : α) (e : o = some r) (h : Q r) : EvP (fun _ => o) Q := by subst e; exact EvP.now r h
theorem EvP.of {α : Type} {g : Nat → Option α} {Q : α → Prop} (K : Nat) (h : ∃ r, (∀ k, K ≤ k → g k = some r) ∧ Q r) : EvP g Q := by
  obtain ⟨r, h1, h2⟩ := h
  exact ⟨r, ⟨K, h1⟩, h2⟩
theorem EvP.bind {α β : Type} {g : Nat → Option α} {f : Nat → α → Option β} {P : α → Prop} {Q : β → Prop} (h : EvP g P) (k : ∀ a, P a → EvP (fun n => f n a) Q) : EvP (fun n => (g n).bind (f n)) Q := by
  obtain ⟨a, ha, hp⟩ := h
  obtain ⟨r, hr, hq⟩ := k a hp
  exact ⟨r, Ev.bind ha hr, hq⟩
theorem EvP.some_bind {α β : Type} {a : α} {f : Nat → α → Option β} {Q : β → Prop} (k : EvP (fun n => f n a) Q) : EvP (fun n => (some a).bind (f n)) Q := k
theorem EvP.step {α : Type} {g f : Nat → Option α} {Q : α → Prop} (h : ∀ k, g (k + 1) = f k) (k : EvP f Q) : EvP g Q := by
  obtain ⟨r, hr, hq⟩ := k
  exact ⟨r, Ev.step h hr, hq⟩
theorem EvP.congr {α : Type} {g f : Nat → Option α} {Q : α → Prop} (h : ∀ k, g k = f k) (k : EvP f Q) : EvP g Q := by
  obtain ⟨r, hr, hq⟩ := k
  exact ⟨r, Ev.congr h hr, hq⟩
theorem EvP.mono {α : Type} {g : Nat → Option α} {P Q : α → Prop} (h : EvP g P) (k : ∀ a, P a → Q a) : EvP g Q := by
  obtain ⟨r, hr, hp⟩ := h
  exact ⟨r, hr, k r hp⟩
theorem EvP.ite {α : Type} {c : Prop} [Decidable c] {f g : Nat → Option α} {Q : α → Prop} (h1 : c → EvP f Q) (h2 : ¬ c → EvP g Q) : EvP (fun k => if c then f k else g k) Q := by
  by_cases hc : c
  · simp only [if_pos hc]; exact h1 hc
  · simp only [if_neg hc]; exact h2 hc
theorem EvP.pos {α : Type} {c : Prop} [Decidable c] {f g : Nat → Option α} {Q : α → Prop} (hc : c) (h : EvP f Q) : EvP (fun k => if c then f k else g k) Q := by
  simp only [if_pos hc]; exact h
theorem EvP.neg {α : Type} {c : Prop} [Decidable c] {f g : Nat → Option α} {Q : α → Prop} (hc : ¬ c) (h : EvP g Q) : EvP (fun k => if c then f k else g k) Q := by
  simp only [if_neg hc]; exact h
theorem EvP.rounds {α : Type} {g : Nat → Option α} {r : α} (h : EvP g (· = r)) : ∃ k, g k = some r := by
  obtain ⟨q, hq, rfl⟩ := h
  exact hq.rounds
theorem EvP.up {α : Type} {g : Nat → Option α} {Q : α → Prop} (h : EvP (fun k => g (k + 1)) Q) : EvP g Q := EvP.step (fun _ => rfl) h
theorem EvP.val_bind {α β : Type} {o : Option α} {a : α} {f : Nat → α → Option β} {Q : β → Prop} (e : o = some a) (k : EvP (fun n => f n a) Q) : EvP (fun n => o.bind (f n)) Q := by subst e; exact k
theorem EvP.eq_bind {α β : Type} {g : Nat → Option α} {f : Nat → α → Option β} {a : α} {Q : β → Prop} (h : EvP g (· = a)) (k : EvP (fun n => f n a) Q) : EvP (fun n => (g n).bind (f n)) Q := EvP.bind h (fun _ e => by subst e; exact k)
theorem in_val (a lo hi : Int) : impl_in.f a lo hi = some (decide (lo ≤ a ∧ a ≤ hi)) := by
  unfold impl_in.f
  by_cases h : a ≥ lo
  · rw [if_pos h]; simp only [Option.some.injEq, decide_eq_decide]; omega
  · rw [if_neg h]; simp only [Option.some.injEq]; exact (decide_eq_false (by omega)).symm
def cok (a b c d e : Int) : Bool := decide ((1 ≤ a ∧ a ≤ 2) ∧ (1 ≤ b ∧ b ≤ 4) ∧ (1 ≤ c ∧ c ≤ 8) ∧ (1 ≤ d ∧ d ≤ 24) ∧ (1 ≤ e ∧ e ≤ 5))
theorem cfgOk_val (a b c d e : Int) : impl_CfgOk.f a b c d e = some (cok a b c d e) := by
  unfold impl_CfgOk.f cok
  rw [in_val, in_val, in_val, in_val, in_val]
  simp only [Option.bind_some, decide_eq_true_eq]
  by_cases h1 : 1 ≤ a ∧ a ≤ 2
  · rw [if_pos h1]
    by_cases h2 : 1 ≤ b ∧ b ≤ 4
    · rw [if_pos h2]
      by_cases h3 : 1 ≤ c ∧ c ≤ 8
      · rw [if_pos h3]
        by_cases h4 : 1 ≤ d ∧ d ≤ 24
        · rw [if_pos h4]; simp only [Option.some.injEq, decide_eq_decide]; exact ⟨fun h => ⟨h1, h2, h3, h4, h⟩, fun h => h.2.2.2.2⟩
        · rw [if_neg h4]; exact congrArg some (decide_eq_false (fun h => h4 h.2.2.2.1)).symm
      · rw [if_neg h3]; exact congrArg some (decide_eq_false (fun h => h3 h.2.2.1)).symm
    · rw [if_neg h2]; exact congrArg some (decide_eq_false (fun h => h2 h.2.1)).symm
  · rw [if_neg h1]; exact congrArg some (decide_eq_false (fun h => h1 h.1)).symm
/-! What two meet at. -/
def meetV (a b c d e a' b' c' d' e' : Int) : Int × Int × Int × Int × Int × Bool := if cok a b c d e = true ∧ cok a' b' c' d' e' = true ∧ a = a' then (a, mn b b', mn c c', mn d d', mn e e', true) else (0, 0, 0, 0, 0, false)
theorem mn_val (a b : Int) : mn a b = min a b := by unfold mn; omega
theorem cok_iff' {a b c d e : Int} : cok a b c d e = true ↔ (1 ≤ a ∧ a ≤ 2) ∧ (1 ≤ b ∧ b ≤ 4) ∧ (1 ≤ c ∧ c ≤ 8) ∧ (1 ≤ d ∧ d ≤ 24) ∧ (1 ≤ e ∧ e ≤ 5) := by
  unfold cok; rw [decide_eq_true_eq]
theorem meet_val (a b c d e a' b' c' d' e' : Int) : impl_CfgMeet.f a b c d e a' b' c' d' e' = some (meetV a b c d e a' b' c' d' e') := by
  unfold impl_CfgMeet.f meetV
  rw [cfgOk_val, cfgOk_val]
  simp only [Option.bind_some]
  by_cases h1 : cok a b c d e = true
  · rw [if_pos h1]
    by_cases h2 : cok a' b' c' d' e' = true
    · rw [if_pos h2]
      by_cases h3 : a = a'
      · rw [if_pos h3, if_pos ⟨h1, h2, h3⟩]
      · rw [if_neg h3, if_neg (fun h => h3 h.2.2)]
    · rw [if_neg h2, if_neg (fun h => h2 h.2.1)]
  · rw [if_neg h1, if_neg (fun h => h1 h.1)]
/-! Whether a state of agreeing is ok. -/
def none5 (a b c d e : Int) : Bool := a == 0 && (b == 0 && (c == 0 && (d == 0 && (e == 0))))
def mayV (a b c d e m : Int) : Bool := none5 a b c d e || (cok a b c d e && (m == a))
theorem beq_turn (a b : Int) : (a == b) = (b == a) := by by_cases h : a = b
                                                         · subst h; rfl
                                                         · rw [beq_eq_false_iff_ne.mpr h, beq_eq_false_iff_ne.mpr (fun e => h e.symm)]
theorem may_val (a b c d e m : Int) : impl_CfgOpts_may.f a b c d e m = some (mayV a b c d e m) := by
  have h : impl_CfgOpts_may.f a b c d e m = if none5 a b c d e = true then some true else ((impl_CfgOk.f a b c d e).bind fun t => if t = true then some (a == m) else some false) := rfl
  rw [h, cfgOk_val, beq_turn a m]
  unfold mayV
  simp only [Option.bind_some]
  cases none5 a b c d e <;> cases cok a b c d e <;> rfl
def negok (a0 a1 a2 a3 a4 a5 a6 a7 a8 a9 a10 a11 a12 a13 a14 a15 a16 a17 a18 a19 : Int) : Bool := cok a0 a1 a2 a3 a4 && ((cok a5 a6 a7 a8 a9 && (a0 == a5)) && (mayV a10 a11 a12 a13 a14 a0 && mayV a15 a16 a17 a18 a19 a0))
theorem negOk_val (a0 a1 a2 a3 a4 a5 a6 a7 a8 a9 a10 a11 a12 a13 a14 a15 a16 a17 a18 a19 : Int) (a20 : Bool) : impl_NegOk.f a0 a1 a2 a3 a4 a5 a6 a7 a8 a9 a10 a11 a12 a13 a14 a15 a16 a17 a18 a19 a20 = some (negok a0 a1 a2 a3 a4 a5 a6 a7 a8 a9 a10 a11 a12 a13 a14 a15 a16 a17 a18 a19) := by
  unfold impl_NegOk.f negok
  simp only [cfgOk_val, may_val, Option.bind_some]
  generalize cok a0 a1 a2 a3 a4 = p
  generalize cok a5 a6 a7 a8 a9 = q
  generalize mayV a10 a11 a12 a13 a14 a0 = x
  generalize mayV a15 a16 a17 a18 a19 a0 = y
  rw [beq_turn a0 a5]
  by_cases h : a5 = a0
  · rw [if_pos h, beq_iff_eq.mpr h]
    cases p <;> cases q <;> cases x <;> cases y <;> rfl
  · rw [if_neg h, beq_eq_false_iff_ne.mpr h]
    cases p <;> cases q <;> cases x <;> cases y <;> rfl
/-! What is heard. -/
def hcore (a0 a1 a2 a3 a4 a5 a6 a7 a8 a9 a10 a11 a12 a13 a14 a15 a16 a17 a18 a19 : Int) (a20 : Bool) (m0 m1 m2 m3 m4 m5 : Int) : Int × Int × Int × Int × Int × Int × Int × Int × Int × Int × Int × Int × Int × Int × Int × Int × Int × Int × Int × Int × Bool × Int × Int × Int × Int × Int × Int × Bool := if m1 = a0 then (if m0 = 1 then (if (!(a0 == m1) || (!((mn a1 m2) == m2) || (!((mn a2 m3) == m3) || (!((mn a3 m4) == m4) || (!((mn a4 m5) == m5)))))) = true then (a0, a1, a2, a3, a4, a5, a6, a7, a8, a9, a10, a11, a12, a13, a14, a15, a16, a17, a18, a19, a20, 3, a0, mn a1 m2, mn a2 m3, mn a3 m4, mn a4 m5, true) else (a0, a1, a2, a3, a4, a5, a6, a7, a8, a9, a10, a11, a12, a13, a14, m1, m2, m3, m4, m5, a20, 2, m1, m2, m3, m4, m5, true)) else (if m0 = 2 then (if (m1 == a5 && (m2 == a6 && (m3 == a7 && (m4 == a8 && (m5 == a9))))) = true then (a0, a1, a2, a3, a4, a5, a6, a7, a8, a9, m1, m2, m3, m4, m5, a15, a16, a17, a18, a19, a20, 0, 0, 0, 0, 0, 0, false) else (a0, a1, a2, a3, a4, a5, a6, a7, a8, a9, a10, a11, a12, a13, a14, a15, a16, a17, a18, a19, a20, 0, 0, 0, 0, 0, 0, false)) else (if none5 a10 a11 a12 a13 a14 = true then (a0, a1, a2, a3, a4, a5, mn a6 m2, mn a7 m3, mn a8 m4, mn a9 m5, a10, a11, a12, a13, a14, a15, a16, a17, a18, a19, a20, 0, 0, 0, 0, 0, 0, false) else (a0, a1, a2, a3, a4, a5, a6, a7, a8, a9, a10, a11, a12, a13, a14, a15, a16, a17, a18, a19, a20, 0, 0, 0, 0, 0, 0, false)))) else (a0, a1, a2, a3, a4, a5, a6, a7, a8, a9, a10, a11, a12, a13, a14, a15, a16, a17, a18, a19, true, 0, 0, 0, 0, 0, 0, false)
def hzero : Int × Int × Int × Int × Int × Int × Int × Int × Int × Int × Int × Int × Int × Int × Int × Int × Int × Int × Int × Int × Bool × Int × Int × Int × Int × Int × Int × Bool := (0, 0, 0, 0, 0, 0, 0, 0, 0, 0, 0, 0, 0, 0, 0, 0, 0, 0, 0, 0, false, 0, 0, 0, 0, 0, 0, false)
def hgood (a0 a1 a2 a3 a4 a5 a6 a7 a8 a9 a10 a11 a12 a13 a14 a15 a16 a17 a18 a19 : Int) (a20 : Bool) (m0 m1 m2 m3 m4 m5 : Int) : Bool := negok a0 a1 a2 a3 a4 a5 a6 a7 a8 a9 a10 a11 a12 a13 a14 a15 a16 a17 a18 a19 && (decide (1 ≤ m0 ∧ m0 ≤ 3) && cok m1 m2 m3 m4 m5)
def hearV (a0 a1 a2 a3 a4 a5 a6 a7 a8 a9 a10 a11 a12 a13 a14 a15 a16 a17 a18 a19 : Int) (a20 : Bool) (m0 m1 m2 m3 m4 m5 : Int) : Int × Int × Int × Int × Int × Int × Int × Int × Int × Int × Int × Int × Int × Int × Int × Int × Int × Int × Int × Int × Bool × Int × Int × Int × Int × Int × Int × Bool := if hgood a0 a1 a2 a3 a4 a5 a6 a7 a8 a9 a10 a11 a12 a13 a14 a15 a16 a17 a18 a19 a20 m0 m1 m2 m3 m4 m5 = true then hcore a0 a1 a2 a3 a4 a5 a6 a7 a8 a9 a10 a11 a12 a13 a14 a15 a16 a17 a18 a19 a20 m0 m1 m2 m3 m4 m5 else hzero
theorem negok_parts {a0 a1 a2 a3 a4 a5 a6 a7 a8 a9 a10 a11 a12 a13 a14 a15 a16 a17 a18 a19 : Int} (h : negok a0 a1 a2 a3 a4 a5 a6 a7 a8 a9 a10 a11 a12 a13 a14 a15 a16 a17 a18 a19 = true) : cok a0 a1 a2 a3 a4 = true ∧ cok a5 a6 a7 a8 a9 = true ∧ a0 = a5 ∧ mayV a10 a11 a12 a13 a14 a0 = true ∧ mayV a15 a16 a17 a18 a19 a0 = true := by
  unfold negok at h
  simp only [Bool.and_eq_true, beq_iff_eq] at h
  exact ⟨h.1, h.2.1.1, h.2.1.2, h.2.2.1, h.2.2.2⟩
theorem hear_val (a0 a1 a2 a3 a4 a5 a6 a7 a8 a9 a10 a11 a12 a13 a14 a15 a16 a17 a18 a19 : Int) (a20 : Bool) (m0 m1 m2 m3 m4 m5 : Int) : impl_NegHear.f a0 a1 a2 a3 a4 a5 a6 a7 a8 a9 a10 a11 a12 a13 a14 a15 a16 a17 a18 a19 a20 m0 m1 m2 m3 m4 m5 = some (hearV a0 a1 a2 a3 a4 a5 a6 a7 a8 a9 a10 a11 a12 a13 a14 a15 a16 a17 a18 a19 a20 m0 m1 m2 m3 m4 m5) := by
  unfold impl_NegHear.f hearV hgood
  rw [negOk_val, in_val, cfgOk_val, meet_val, meet_val]
  simp only [Option.bind_some]
  by_cases h1 : negok a0 a1 a2 a3 a4 a5 a6 a7 a8 a9 a10 a11 a12 a13 a14 a15 a16 a17 a18 a19 = true
  · by_cases h2 : 1 ≤ m0 ∧ m0 ≤ 3
    · by_cases h3 : cok m1 m2 m3 m4 m5 = true
      · obtain ⟨g1, g2, g3, _, _⟩ := negok_parts h1
        have hgd : (negok a0 a1 a2 a3 a4 a5 a6 a7 a8 a9 a10 a11 a12 a13 a14 a15 a16 a17 a18 a19 && (decide (1 ≤ m0 ∧ m0 ≤ 3) && cok m1 m2 m3 m4 m5)) = true := by rw [h1, h3, decide_eq_true h2]; rfl
        rw [if_pos hgd, if_pos h1, if_pos (decide_eq_true h2), if_pos h3]
        unfold hcore
        by_cases h4 : m1 = a0
        · have e1 : meetV a0 a1 a2 a3 a4 m1 m2 m3 m4 m5 = (a0, mn a1 m2, mn a2 m3, mn a3 m4, mn a4 m5, true) := by unfold meetV; rw [if_pos ⟨g1, h3, h4.symm⟩]
          have e2 : meetV a5 a6 a7 a8 a9 m1 m2 m3 m4 m5 = (a5, mn a6 m2, mn a7 m3, mn a8 m4, mn a9 m5, true) := by unfold meetV; rw [if_pos ⟨g2, h3, g3.symm.trans h4.symm⟩]
          rw [if_pos h4, if_pos h4, e1, e2]
          by_cases h5 : m0 = 1
          · rw [if_pos h5, if_pos h5]; simp only; split <;> rfl
          · rw [if_neg h5, if_neg h5]
            by_cases h6 : m0 = 2
            · rw [if_pos h6, if_pos h6]; split <;> rfl
            · rw [if_neg h6, if_neg h6, if_pos (by omega : m0 = 3)]
              unfold none5
              split <;> rfl
        · rw [if_neg h4, if_neg h4]
      · have hgd : ¬ (negok a0 a1 a2 a3 a4 a5 a6 a7 a8 a9 a10 a11 a12 a13 a14 a15 a16 a17 a18 a19 && (decide (1 ≤ m0 ∧ m0 ≤ 3) && cok m1 m2 m3 m4 m5)) = true := by rw [Bool.eq_false_iff.mpr h3]; simp
        rw [if_neg hgd, if_pos h1, if_pos (decide_eq_true h2), if_neg h3]; rfl
    · have hgd : ¬ (negok a0 a1 a2 a3 a4 a5 a6 a7 a8 a9 a10 a11 a12 a13 a14 a15 a16 a17 a18 a19 && (decide (1 ≤ m0 ∧ m0 ≤ 3) && cok m1 m2 m3 m4 m5)) = true := by rw [decide_eq_false h2]; simp
      rw [if_neg hgd, if_pos h1, decide_eq_false h2, if_neg Bool.false_ne_true]; rfl
  · have hgd : ¬ (negok a0 a1 a2 a3 a4 a5 a6 a7 a8 a9 a10 a11 a12 a13 a14 a15 a16 a17 a18 a19 && (decide (1 ≤ m0 ∧ m0 ≤ 3) && cok m1 m2 m3 m4 m5)) = true := by rw [Bool.eq_false_iff.mpr h1]; simp
    rw [if_neg hgd, if_neg h1]; rfl
theorem hv_fail {a0 a1 a2 a3 a4 a5 a6 a7 a8 a9 a10 a11 a12 a13 a14 a15 a16 a17 a18 a19 : Int} {a20 : Bool} {m0 m1 m2 m3 m4 m5 : Int} (hg : hgood a0 a1 a2 a3 a4 a5 a6 a7 a8 a9 a10 a11 a12 a13 a14 a15 a16 a17 a18 a19 a20 m0 m1 m2 m3 m4 m5 = true) (h4 : ¬ m1 = a0) : hearV a0 a1 a2 a3 a4 a5 a6 a7 a8 a9 a10 a11 a12 a13 a14 a15 a16 a17 a18 a19 a20 m0 m1 m2 m3 m4 m5 = (a0, a1, a2, a3, a4, a5, a6, a7, a8, a9, a10, a11, a12, a13, a14, a15, a16, a17, a18, a19, true, 0, 0, 0, 0, 0, 0, false) := by unfold hearV; rw [if_pos hg]; unfold hcore; rw [if_neg h4]
theorem hv_but {a0 a1 a2 a3 a4 a5 a6 a7 a8 a9 a10 a11 a12 a13 a14 a15 a16 a17 a18 a19 : Int} {a20 : Bool} {m0 m1 m2 m3 m4 m5 : Int} (hg : hgood a0 a1 a2 a3 a4 a5 a6 a7 a8 a9 a10 a11 a12 a13 a14 a15 a16 a17 a18 a19 a20 m0 m1 m2 m3 m4 m5 = true) (h4 : m1 = a0) (h5 : m0 = 1) (h6 : (!(a0 == m1) || (!((mn a1 m2) == m2) || (!((mn a2 m3) == m3) || (!((mn a3 m4) == m4) || (!((mn a4 m5) == m5)))))) = true) : hearV a0 a1 a2 a3 a4 a5 a6 a7 a8 a9 a10 a11 a12 a13 a14 a15 a16 a17 a18 a19 a20 m0 m1 m2 m3 m4 m5 = (a0, a1, a2, a3, a4, a5, a6, a7, a8, a9, a10, a11, a12, a13, a14, a15, a16, a17, a18, a19, a20, 3, a0, mn a1 m2, mn a2 m3, mn a3 m4, mn a4 m5, true) := by unfold hearV; rw [if_pos hg]; unfold hcore; rw [if_pos h4, if_pos h5, if_pos h6]
theorem hv_yes {a0 a1 a2 a3 a4 a5 a6 a7 a8 a9 a10 a11 a12 a13 a14 a15 a16 a17 a18 a19 : Int} {a20 : Bool} {m0 m1 m2 m3 m4 m5 : Int} (hg : hgood a0 a1 a2 a3 a4 a5 a6 a7 a8 a9 a10 a11 a12 a13 a14 a15 a16 a17 a18 a19 a20 m0 m1 m2 m3 m4 m5 = true) (h4 : m1 = a0) (h5 : m0 = 1) (h6 : ¬ (!(a0 == m1) || (!((mn a1 m2) == m2) || (!((mn a2 m3) == m3) || (!((mn a3 m4) == m4) || (!((mn a4 m5) == m5)))))) = true) : hearV a0 a1 a2 a3 a4 a5 a6 a7 a8 a9 a10 a11 a12 a13 a14 a15 a16 a17 a18 a19 a20 m0 m1 m2 m3 m4 m5 = (a0, a1, a2, a3, a4, a5, a6, a7, a8, a9, a10, a11, a12, a13, a14, m1, m2, m3, m4, m5, a20, 2, m1, m2, m3, m4, m5, true) := by unfold hearV; rw [if_pos hg]; unfold hcore; rw [if_pos h4, if_pos h5, if_neg h6]
theorem hv_mine {a0 a1 a2 a3 a4 a5 a6 a7 a8 a9 a10 a11 a12 a13 a14 a15 a16 a17 a18 a19 : Int} {a20 : Bool} {m0 m1 m2 m3 m4 m5 : Int} (hg : hgood a0 a1 a2 a3 a4 a5 a6 a7 a8 a9 a10 a11 a12 a13 a14 a15 a16 a17 a18 a19 a20 m0 m1 m2 m3 m4 m5 = true) (h4 : m1 = a0) (h5 : ¬ m0 = 1) (h6 : m0 = 2) (h7 : (m1 == a5 && (m2 == a6 && (m3 == a7 && (m4 == a8 && (m5 == a9))))) = true) : hearV a0 a1 a2 a3 a4 a5 a6 a7 a8 a9 a10 a11 a12 a13 a14 a15 a16 a17 a18 a19 a20 m0 m1 m2 m3 m4 m5 = (a0, a1, a2, a3, a4, a5, a6, a7, a8, a9, m1, m2, m3, m4, m5, a15, a16, a17, a18, a19, a20, 0, 0, 0, 0, 0, 0, false) := by unfold hearV; rw [if_pos hg]; unfold hcore; rw [if_pos h4, if_neg h5, if_pos h6, if_pos h7]
theorem hv_stay2 {a0 a1 a2 a3 a4 a5 a6 a7 a8 a9 a10 a11 a12 a13 a14 a15 a16 a17 a18 a19 : Int} {a20 : Bool} {m0 m1 m2 m3 m4 m5 : Int} (hg : hgood a0 a1 a2 a3 a4 a5 a6 a7 a8 a9 a10 a11 a12 a13 a14 a15 a16 a17 a18 a19 a20 m0 m1 m2 m3 m4 m5 = true) (h4 : m1 = a0) (h5 : ¬ m0 = 1) (h6 : m0 = 2) (h7 : ¬ (m1 == a5 && (m2 == a6 && (m3 == a7 && (m4 == a8 && (m5 == a9))))) = true) : hearV a0 a1 a2 a3 a4 a5 a6 a7 a8 a9 a10 a11 a12 a13 a14 a15 a16 a17 a18 a19 a20 m0 m1 m2 m3 m4 m5 = (a0, a1, a2, a3, a4, a5, a6, a7, a8, a9, a10, a11, a12, a13, a14, a15, a16, a17, a18, a19, a20, 0, 0, 0, 0, 0, 0, false) := by unfold hearV; rw [if_pos hg]; unfold hcore; rw [if_pos h4, if_neg h5, if_pos h6, if_neg h7]
theorem hv_less {a0 a1 a2 a3 a4 a5 a6 a7 a8 a9 a10 a11 a12 a13 a14 a15 a16 a17 a18 a19 : Int} {a20 : Bool} {m0 m1 m2 m3 m4 m5 : Int} (hg : hgood a0 a1 a2 a3 a4 a5 a6 a7 a8 a9 a10 a11 a12 a13 a14 a15 a16 a17 a18 a19 a20 m0 m1 m2 m3 m4 m5 = true) (h4 : m1 = a0) (h5 : ¬ m0 = 1) (h6 : ¬ m0 = 2) (h7 : none5 a10 a11 a12 a13 a14 = true) : hearV a0 a1 a2 a3 a4 a5 a6 a7 a8 a9 a10 a11 a12 a13 a14 a15 a16 a17 a18 a19 a20 m0 m1 m2 m3 m4 m5 = (a0, a1, a2, a3, a4, a5, mn a6 m2, mn a7 m3, mn a8 m4, mn a9 m5, a10, a11, a12, a13, a14, a15, a16, a17, a18, a19, a20, 0, 0, 0, 0, 0, 0, false) := by unfold hearV; rw [if_pos hg]; unfold hcore; rw [if_pos h4, if_neg h5, if_neg h6, if_pos h7]
theorem hv_stay3 {a0 a1 a2 a3 a4 a5 a6 a7 a8 a9 a10 a11 a12 a13 a14 a15 a16 a17 a18 a19 : Int} {a20 : Bool} {m0 m1 m2 m3 m4 m5 : Int} (hg : hgood a0 a1 a2 a3 a4 a5 a6 a7 a8 a9 a10 a11 a12 a13 a14 a15 a16 a17 a18 a19 a20 m0 m1 m2 m3 m4 m5 = true) (h4 : m1 = a0) (h5 : ¬ m0 = 1) (h6 : ¬ m0 = 2) (h7 : ¬ none5 a10 a11 a12 a13 a14 = true) : hearV a0 a1 a2 a3 a4 a5 a6 a7 a8 a9 a10 a11 a12 a13 a14 a15 a16 a17 a18 a19 a20 m0 m1 m2 m3 m4 m5 = (a0, a1, a2, a3, a4, a5, a6, a7, a8, a9, a10, a11, a12, a13, a14, a15, a16, a17, a18, a19, a20, 0, 0, 0, 0, 0, 0, false) := by unfold hearV; rw [if_pos hg]; unfold hcore; rw [if_pos h4, if_neg h5, if_neg h6, if_neg h7]
theorem hv_zero {a0 a1 a2 a3 a4 a5 a6 a7 a8 a9 a10 a11 a12 a13 a14 a15 a16 a17 a18 a19 : Int} {a20 : Bool} {m0 m1 m2 m3 m4 m5 : Int} (hg : ¬ hgood a0 a1 a2 a3 a4 a5 a6 a7 a8 a9 a10 a11 a12 a13 a14 a15 a16 a17 a18 a19 a20 m0 m1 m2 m3 m4 m5 = true) : hearV a0 a1 a2 a3 a4 a5 a6 a7 a8 a9 a10 a11 a12 a13 a14 a15 a16 a17 a18 a19 a20 m0 m1 m2 m3 m4 m5 = (0, 0, 0, 0, 0, 0, 0, 0, 0, 0, 0, 0, 0, 0, 0, 0, 0, 0, 0, 0, false, 0, 0, 0, 0, 0, 0, false) := by unfold hearV; rw [if_neg hg]; rfl
theorem hgood_parts {a0 a1 a2 a3 a4 a5 a6 a7 a8 a9 a10 a11 a12 a13 a14 a15 a16 a17 a18 a19 : Int} {a20 : Bool} {m0 m1 m2 m3 m4 m5 : Int} (h : hgood a0 a1 a2 a3 a4 a5 a6 a7 a8 a9 a10 a11 a12 a13 a14 a15 a16 a17 a18 a19 a20 m0 m1 m2 m3 m4 m5 = true) : negok a0 a1 a2 a3 a4 a5 a6 a7 a8 a9 a10 a11 a12 a13 a14 a15 a16 a17 a18 a19 = true ∧ (1 ≤ m0 ∧ m0 ≤ 3) ∧ cok m1 m2 m3 m4 m5 = true := by
  unfold hgood at h
  simp only [Bool.and_eq_true, decide_eq_true_eq] at h
  exact h
theorem hgood_intro {a0 a1 a2 a3 a4 a5 a6 a7 a8 a9 a10 a11 a12 a13 a14 a15 a16 a17 a18 a19 : Int} {a20 : Bool} {m0 m1 m2 m3 m4 m5 : Int} (h1 : negok a0 a1 a2 a3 a4 a5 a6 a7 a8 a9 a10 a11 a12 a13 a14 a15 a16 a17 a18 a19 = true) (h2 : 1 ≤ m0 ∧ m0 ≤ 3) (h3 : cok m1 m2 m3 m4 m5 = true) : hgood a0 a1 a2 a3 a4 a5 a6 a7 a8 a9 a10 a11 a12 a13 a14 a15 a16 a17 a18 a19 a20 m0 m1 m2 m3 m4 m5 = true := by
  unfold hgood
  rw [h1, h3, decide_eq_true h2]; rfl
theorem mayV_of {a b c d e m : Int} (h : cok a b c d e = true) (h2 : a = m) : mayV a b c d e m = true := by
  unfold mayV; rw [h, beq_iff_eq.mpr h2.symm]; simp
theorem negok_yours {a0 a1 a2 a3 a4 a5 a6 a7 a8 a9 a10 a11 a12 a13 a14 a15 a16 a17 a18 a19 m1 m2 m3 m4 m5 : Int} (h : negok a0 a1 a2 a3 a4 a5 a6 a7 a8 a9 a10 a11 a12 a13 a14 a15 a16 a17 a18 a19 = true) (h2 : cok m1 m2 m3 m4 m5 = true) (h3 : m1 = a0) : negok a0 a1 a2 a3 a4 a5 a6 a7 a8 a9 a10 a11 a12 a13 a14 m1 m2 m3 m4 m5 = true := by
  obtain ⟨g1, g2, g3, g4, g5⟩ := negok_parts h
  unfold negok; rw [g1, g2, g4, mayV_of h2 h3, beq_iff_eq.mpr g3]; rfl
theorem negok_mine {a0 a1 a2 a3 a4 a5 a6 a7 a8 a9 a10 a11 a12 a13 a14 a15 a16 a17 a18 a19 m1 m2 m3 m4 m5 : Int} (h : negok a0 a1 a2 a3 a4 a5 a6 a7 a8 a9 a10 a11 a12 a13 a14 a15 a16 a17 a18 a19 = true) (h2 : cok m1 m2 m3 m4 m5 = true) (h3 : m1 = a0) : negok a0 a1 a2 a3 a4 a5 a6 a7 a8 a9 m1 m2 m3 m4 m5 a15 a16 a17 a18 a19 = true := by
  obtain ⟨g1, g2, g3, g4, g5⟩ := negok_parts h
  unfold negok; rw [g1, g2, g5, mayV_of h2 h3, beq_iff_eq.mpr g3]; rfl
theorem cok_least {a b c d e a' b' c' d' e' : Int} (h : cok a b c d e = true) (h2 : cok a' b' c' d' e' = true) : cok a (mn b b') (mn c c') (mn d d') (mn e e') = true := by
  have g1 := cok_iff'.1 h
  have g2 := cok_iff'.1 h2
  simp only [mn_val]
  rw [cok_iff']
  omega
theorem negok_less {a0 a1 a2 a3 a4 a5 a6 a7 a8 a9 a10 a11 a12 a13 a14 a15 a16 a17 a18 a19 m1 m2 m3 m4 m5 : Int} (h : negok a0 a1 a2 a3 a4 a5 a6 a7 a8 a9 a10 a11 a12 a13 a14 a15 a16 a17 a18 a19 = true) (h2 : cok m1 m2 m3 m4 m5 = true) : negok a0 a1 a2 a3 a4 a5 (mn a6 m2) (mn a7 m3) (mn a8 m4) (mn a9 m5) a10 a11 a12 a13 a14 a15 a16 a17 a18 a19 = true := by
  obtain ⟨g1, g2, g3, g4, g5⟩ := negok_parts h
  unfold negok; rw [g1, cok_least g2 h2, g4, g5, beq_iff_eq.mpr g3]; rfl
theorem ne_of_nelo {a b c d e a' b' c' d' e' : Int} (h : (!(a == a') || (!(b == b') || (!(c == c') || (!(d == d') || (!(e == e')))))) = true) : ¬ (a == a' && (b == b' && (c == c' && (d == d' && (e == e'))))) = true := by
  cases h1 : a == a' <;> cases h2 : b == b' <;> cases h3 : c == c' <;> cases h4 : d == d' <;> cases h5 : e == e' <;> simp_all
theorem mn_mn (a b : Int) : mn (mn a b) b = mn a b := by simp only [mn_val]; omega
/-! What is said. -/
def sayV (a0 a1 a2 a3 a4 a5 a6 a7 a8 a9 a10 a11 a12 a13 a14 a15 a16 a17 a18 a19 : Int) (a20 : Bool) : Int × Int × Int × Int × Int × Int × Bool := if (negok a0 a1 a2 a3 a4 a5 a6 a7 a8 a9 a10 a11 a12 a13 a14 a15 a16 a17 a18 a19 && (!a20 && none5 a10 a11 a12 a13 a14)) = true then (1, a5, a6, a7, a8, a9, true) else (0, 0, 0, 0, 0, 0, false)
theorem say_val (a0 a1 a2 a3 a4 a5 a6 a7 a8 a9 a10 a11 a12 a13 a14 a15 a16 a17 a18 a19 : Int) (a20 : Bool) : impl_NegSay.f a0 a1 a2 a3 a4 a5 a6 a7 a8 a9 a10 a11 a12 a13 a14 a15 a16 a17 a18 a19 a20 = some (sayV a0 a1 a2 a3 a4 a5 a6 a7 a8 a9 a10 a11 a12 a13 a14 a15 a16 a17 a18 a19 a20) := by
  have e : (!(a10 == 0) || (!(a11 == 0) || (!(a12 == 0) || (!(a13 == 0) || (!(a14 == 0)))))) = !(none5 a10 a11 a12 a13 a14) := by unfold none5; simp only [Bool.not_and]
  unfold impl_NegSay.f sayV
  simp only [negOk_val, Option.bind_some]
  rw [e]
  generalize negok a0 a1 a2 a3 a4 a5 a6 a7 a8 a9 a10 a11 a12 a13 a14 a15 a16 a17 a18 a19 = p
  generalize none5 a10 a11 a12 a13 a14 = q
  cases p <;> cases q <;> cases a20 <;> rfl
/-! Two who agree, as what they are: wants, messages, states, and what goes on between them. -/
structure Cf where
  m : Int
  w : Int
  p : Int
  t : Int
  y : Int
structure Ms where
  k : Int
  o : Cf
structure Ng where
  own : Cf
  asks : Cf
  mine : Cf
  yours : Cf
  fails : Bool
structure Sy where
  x : Ng
  y : Ng
  p : List Ms
  q : List Ms
def Cf.ok (c : Cf) : Bool := cok c.m c.w c.p c.t c.y
def Cf.no (c : Cf) : Bool := none5 c.m c.w c.p c.t c.y
def cz : Cf := ⟨0, 0, 0, 0, 0⟩
def lst (a b : Cf) : Cf := ⟨a.m, mn a.w b.w, mn a.p b.p, mn a.t b.t, mn a.y b.y⟩
def Ng.ok (x : Ng) : Bool := negok x.own.m x.own.w x.own.p x.own.t x.own.y x.asks.m x.asks.w x.asks.p x.asks.t x.asks.y x.mine.m x.mine.w x.mine.p x.mine.t x.mine.y x.yours.m x.yours.w x.yours.p x.yours.t x.yours.y
def unT : Int × Int × Int × Int × Int × Int × Int × Int × Int × Int × Int × Int × Int × Int × Int × Int × Int × Int × Int × Int × Bool × Int × Int × Int × Int × Int × Int × Bool → Ng × Ms × Bool
  | (a0, a1, a2, a3, a4, a5, a6, a7, a8, a9, a10, a11, a12, a13, a14, a15, a16, a17, a18, a19, a20, m0, m1, m2, m3, m4, m5, b) => (⟨⟨a0, a1, a2, a3, a4⟩, ⟨a5, a6, a7, a8, a9⟩, ⟨a10, a11, a12, a13, a14⟩, ⟨a15, a16, a17, a18, a19⟩, a20⟩, ⟨m0, ⟨m1, m2, m3, m4, m5⟩⟩, b)
def mkT (r : Ng × Ms × Bool) : Int × Int × Int × Int × Int × Int × Int × Int × Int × Int × Int × Int × Int × Int × Int × Int × Int × Int × Int × Int × Bool × Int × Int × Int × Int × Int × Int × Bool :=
  (r.1.own.m, r.1.own.w, r.1.own.p, r.1.own.t, r.1.own.y, r.1.asks.m, r.1.asks.w, r.1.asks.p, r.1.asks.t, r.1.asks.y, r.1.mine.m, r.1.mine.w, r.1.mine.p, r.1.mine.t, r.1.mine.y, r.1.yours.m, r.1.yours.w, r.1.yours.p, r.1.yours.t, r.1.yours.y, r.1.fails, r.2.1.k, r.2.1.o.m, r.2.1.o.w, r.2.1.o.p, r.2.1.o.t, r.2.1.o.y, r.2.2)
def hearP (x : Ng) (m : Ms) : Ng × Ms × Bool := unT (hearV x.own.m x.own.w x.own.p x.own.t x.own.y x.asks.m x.asks.w x.asks.p x.asks.t x.asks.y x.mine.m x.mine.w x.mine.p x.mine.t x.mine.y x.yours.m x.yours.w x.yours.p x.yours.t x.yours.y x.fails m.k m.o.m m.o.w m.o.p m.o.t m.o.y)
theorem mk_un (r : Int × Int × Int × Int × Int × Int × Int × Int × Int × Int × Int × Int × Int × Int × Int × Int × Int × Int × Int × Int × Bool × Int × Int × Int × Int × Int × Int × Bool) : mkT (unT r) = r := rfl
theorem hear_f (x : Ng) (m : Ms) : impl_NegHear.f x.own.m x.own.w x.own.p x.own.t x.own.y x.asks.m x.asks.w x.asks.p x.asks.t x.asks.y x.mine.m x.mine.w x.mine.p x.mine.t x.mine.y x.yours.m x.yours.w x.yours.p x.yours.t x.yours.y x.fails m.k m.o.m m.o.w m.o.p m.o.t m.o.y = some (mkT (hearP x m)) := by
  rw [hear_val]; unfold hearP; rw [mk_un]
def unS : Int × Int × Int × Int × Int × Int × Bool → Ms × Bool
  | (m0, m1, m2, m3, m4, m5, b) => (⟨m0, ⟨m1, m2, m3, m4, m5⟩⟩, b)
def mkS (r : Ms × Bool) : Int × Int × Int × Int × Int × Int × Bool := (r.1.k, r.1.o.m, r.1.o.w, r.1.o.p, r.1.o.t, r.1.o.y, r.2)
def sayP (x : Ng) : Ms × Bool := unS (sayV x.own.m x.own.w x.own.p x.own.t x.own.y x.asks.m x.asks.w x.asks.p x.asks.t x.asks.y x.mine.m x.mine.w x.mine.p x.mine.t x.mine.y x.yours.m x.yours.w x.yours.p x.yours.t x.yours.y x.fails)
theorem say_f (x : Ng) : impl_NegSay.f x.own.m x.own.w x.own.p x.own.t x.own.y x.asks.m x.asks.w x.asks.p x.asks.t x.asks.y x.mine.m x.mine.w x.mine.p x.mine.t x.mine.y x.yours.m x.yours.w x.yours.p x.yours.t x.yours.y x.fails = some (mkS (sayP x)) := by
  rw [say_val]; rfl
def doo0 (s : Sy) (w : Int) : Sy :=
  if w < 2 then (if (sayP s.x).2 = true then ⟨s.x, s.y, s.p, s.q ++ [(sayP s.x).1]⟩ else s)
  else match s.p with
    | [] => s
    | m :: l => if w = 4 then ⟨s.x, s.y, l, s.q⟩ else (if w = 5 then ⟨s.x, s.y, m :: l ++ [m], s.q⟩ else ⟨(hearP s.x m).1, s.y, l, if (hearP s.x m).2.2 = true then s.q ++ [(hearP s.x m).2.1] else s.q⟩)
def sw (s : Sy) : Sy := ⟨s.y, s.x, s.q, s.p⟩
def doo (s : Sy) (who w : Int) : Sy := if who = 0 then doo0 s w else sw (doo0 (sw s) w)
theorem sw_sw (s : Sy) : sw (sw s) = s := rfl
theorem cf_eq {a b : Cf} (h1 : a.m = b.m) (h2 : a.w = b.w) (h3 : a.p = b.p) (h4 : a.t = b.t) (h5 : a.y = b.y) : a = b := by
  cases a; cases b; simp only at h1 h2 h3 h4 h5; subst h1 h2 h3 h4 h5; rfl
theorem no_z {c : Cf} (h : c = cz) : c.no = true := by subst h; rfl
theorem ok_no {c : Cf} (h : c.ok = true) : c.no = false := by
  unfold Cf.ok at h; have := cok_iff'.1 h
  unfold Cf.no none5
  rw [beq_eq_false_iff_ne.mpr (by omega : c.m ≠ 0)]; rfl
theorem ok_nez {c : Cf} (h : c.ok = true) : c ≠ cz := fun e => by
  have := ok_no h; rw [no_z e] at this; cases this
/-- What goes with what: M is the least of a and b, all of one mode. -/
structure Fit (a b M : Cf) : Prop where
  oka : a.ok = true
  okb : b.ok = true
  okM : M.ok = true
  ma : M.m = a.m
  mb : M.m = b.m
  la : lst a b = M
  lb : lst b a = M
  aM : lst a M = M
  bM : lst b M = M
  MM : lst M M = M
theorem Fit.sw {a b M : Cf} (h : Fit a b M) : Fit b a M := ⟨h.okb, h.oka, h.okM, h.mb, h.ma, h.lb, h.la, h.bM, h.aM, h.MM⟩
theorem Fit.mk' {a b : Cf} (ha : a.ok = true) (hb : b.ok = true) (h : a.m = b.m) : Fit a b (lst a b) := by
  have e : lst b a = lst a b := cf_eq h.symm (by simp only [lst, mn_val]; omega) (by simp only [lst, mn_val]; omega) (by simp only [lst, mn_val]; omega) (by simp only [lst, mn_val]; omega)
  refine ⟨ha, hb, cok_least ha hb, rfl, h, rfl, e, ?_, ?_, ?_⟩
  · exact cf_eq rfl (by simp only [lst, mn_val]; omega) (by simp only [lst, mn_val]; omega) (by simp only [lst, mn_val]; omega) (by simp only [lst, mn_val]; omega)
  · exact cf_eq h.symm (by simp only [lst, mn_val]; omega) (by simp only [lst, mn_val]; omega) (by simp only [lst, mn_val]; omega) (by simp only [lst, mn_val]; omega)
  · exact cf_eq rfl (by simp only [lst, mn_val]; omega) (by simp only [lst, mn_val]; omega) (by simp only [lst, mn_val]; omega) (by simp only [lst, mn_val]; omega)
structure Side (a M : Cf) (x : Ng) : Prop where
  own : x.own = a
  fails : x.fails = false
  asks : x.asks = a ∨ x.asks = M
  mine : x.mine = cz ∨ (x.mine = M ∧ x.asks = M)
  yours : x.yours = cz ∨ x.yours = M
def Mess (b M : Cf) (m : Ms) : Prop := m = ⟨1, b⟩ ∨ m = ⟨1, M⟩ ∨ m = ⟨2, M⟩ ∨ m = ⟨3, M⟩
theorem may_z (a : Cf) : mayV cz.m cz.w cz.p cz.t cz.y a.m = true := by unfold mayV none5 cz; simp
theorem may_ok {M : Cf} (h : M.ok = true) {m : Int} (e : M.m = m) : mayV M.m M.w M.p M.t M.y m = true := mayV_of h e
theorem Side.ok {a b M : Cf} {x : Ng} (f : Fit a b M) (h : Side a M x) : x.ok = true := by
  obtain ⟨h1, h2, h3, h4, h5⟩ := h
  unfold Ng.ok negok
  have e1 : cok x.own.m x.own.w x.own.p x.own.t x.own.y = true := by rw [h1]; exact f.oka
  have e2 : cok x.asks.m x.asks.w x.asks.p x.asks.t x.asks.y = true := by
    rcases h3 with h3 | h3
    · rw [h3]; exact f.oka
    · rw [h3]; exact f.okM
  have e3 : (x.own.m == x.asks.m) = true := by
    rw [h1]
    rcases h3 with h3 | h3
    · rw [h3, beq_iff_eq]
    · rw [h3, beq_iff_eq]; exact f.ma.symm
  have e4 : mayV x.mine.m x.mine.w x.mine.p x.mine.t x.mine.y x.own.m = true := by
    rw [h1]; rcases h4 with h4 | ⟨h4, _⟩
    · rw [h4]; exact may_z a
    · rw [h4]; exact may_ok f.okM f.ma
  have e5 : mayV x.yours.m x.yours.w x.yours.p x.yours.t x.yours.y x.own.m = true := by
    rw [h1]; rcases h5 with h5 | h5
    · rw [h5]; exact may_z a
    · rw [h5]; exact may_ok f.okM f.ma
  rw [e1, e2, e3, e4, e5]; rfl
def mz : Ms := ⟨0, cz⟩
def eqB (a b : Cf) : Bool := a.m == b.m && (a.w == b.w && (a.p == b.p && (a.t == b.t && (a.y == b.y))))
theorem eqB_iff {a b : Cf} : eqB a b = true ↔ a = b := by
  unfold eqB
  simp only [Bool.and_eq_true, beq_iff_eq]
  exact ⟨fun h => cf_eq h.1 h.2.1 h.2.2.1 h.2.2.2.1 h.2.2.2.2, fun h => by subst h; exact ⟨rfl, rfl, rfl, rfl, rfl⟩⟩
theorem neB_iff {a b : Cf} : (!(a.m == b.m) || (!(a.w == b.w) || (!(a.p == b.p) || (!(a.t == b.t) || (!(a.y == b.y)))))) = true ↔ a ≠ b := by
  rw [Ne, ← eqB_iff, eqB]
  cases a.m == b.m <;> cases a.w == b.w <;> cases a.p == b.p <;> cases a.t == b.t <;> cases a.y == b.y <;> simp
def Good (x : Ng) (m : Ms) : Prop := hgood x.own.m x.own.w x.own.p x.own.t x.own.y x.asks.m x.asks.w x.asks.p x.asks.t x.asks.y x.mine.m x.mine.w x.mine.p x.mine.t x.mine.y x.yours.m x.yours.w x.yours.p x.yours.t x.yours.y x.fails m.k m.o.m m.o.w m.o.p m.o.t m.o.y = true
theorem good_of {x : Ng} {m : Ms} (h : x.ok = true) (h2 : 1 ≤ m.k ∧ m.k ≤ 3) (h3 : m.o.ok = true) : Good x m := hgood_intro h h2 h3
theorem hp_fail {x : Ng} {m : Ms} (h : Good x m) (h4 : ¬ m.o.m = x.own.m) : hearP x m = ({ x with fails := true }, mz, false) := by
  unfold hearP; rw [hv_fail h h4]; rfl
theorem hp_but {x : Ng} {m : Ms} (h : Good x m) (h4 : m.o.m = x.own.m) (h5 : m.k = 1) (h6 : lst x.own m.o ≠ m.o) : hearP x m = (x, ⟨3, lst x.own m.o⟩, true) := by
  unfold hearP; rw [hv_but h h4 h5 (neB_iff.2 h6)]; rfl
theorem hp_yes {x : Ng} {m : Ms} (h : Good x m) (h4 : m.o.m = x.own.m) (h5 : m.k = 1) (h6 : lst x.own m.o = m.o) : hearP x m = ({ x with yours := m.o }, ⟨2, m.o⟩, true) := by
  unfold hearP; rw [hv_yes h h4 h5 (fun c => neB_iff.1 c h6)]; rfl
theorem hp_mine {x : Ng} {m : Ms} (h : Good x m) (h4 : m.o.m = x.own.m) (h5 : m.k = 2) (h6 : m.o = x.asks) : hearP x m = ({ x with mine := m.o }, mz, false) := by
  unfold hearP; rw [hv_mine h h4 (by omega) h5 (eqB_iff.2 h6)]; rfl
theorem hp_stay2 {x : Ng} {m : Ms} (h : Good x m) (h4 : m.o.m = x.own.m) (h5 : m.k = 2) (h6 : m.o ≠ x.asks) : hearP x m = (x, mz, false) := by
  unfold hearP; rw [hv_stay2 h h4 (by omega) h5 (fun c => h6 (eqB_iff.1 c))]; rfl
theorem hp_less {x : Ng} {m : Ms} (h : Good x m) (h4 : m.o.m = x.own.m) (h5 : m.k = 3) (h6 : x.mine.no = true) : hearP x m = ({ x with asks := lst x.asks m.o }, mz, false) := by
  unfold hearP; rw [hv_less h h4 (by omega) (by omega) h6]; rfl
theorem hp_stay3 {x : Ng} {m : Ms} (h : Good x m) (h4 : m.o.m = x.own.m) (h5 : m.k = 3) (h6 : ¬ x.mine.no = true) : hearP x m = (x, mz, false) := by
  unfold hearP; rw [hv_stay3 h h4 (by omega) (by omega) h6]; rfl
/-- All that may come of hearing, where both are of one mode. -/
theorem hear_all {a b M : Cf} (f : Fit a b M) {x : Ng} (s : Side a M x) {m : Ms} (hm : Mess b M m) :
    (m = ⟨1, b⟩ ∧ b ≠ M ∧ hearP x m = (x, ⟨3, M⟩, true)) ∨ (m = ⟨1, M⟩ ∧ hearP x m = ({ x with yours := M }, ⟨2, M⟩, true)) ∨
    (m = ⟨2, M⟩ ∧ x.asks = M ∧ hearP x m = ({ x with mine := M }, mz, false)) ∨ (m = ⟨2, M⟩ ∧ x.asks ≠ M ∧ hearP x m = (x, mz, false)) ∨
    (m = ⟨3, M⟩ ∧ x.mine = cz ∧ hearP x m = ({ x with asks := M }, mz, false)) ∨ (m = ⟨3, M⟩ ∧ x.mine = M ∧ x.asks = M ∧ hearP x m = (x, mz, false)) := by
  have hok := s.ok f
  have hM : ∀ k, 1 ≤ k ∧ k ≤ 3 → Good x ⟨k, M⟩ := fun k hk => good_of hok hk f.okM
  have hmo : M.m = x.own.m := by rw [s.own]; exact f.ma
  have yes : hearP x ⟨1, M⟩ = ({ x with yours := M }, ⟨2, M⟩, true) := hp_yes (hM 1 (by omega)) hmo rfl (by rw [s.own]; exact f.aM)
  rcases hm with rfl | rfl | rfl | rfl
  · by_cases hb : b = M
    · subst hb; exact .inr (.inl ⟨rfl, yes⟩)
    · refine .inl ⟨rfl, hb, ?_⟩
      have h1 : Good x ⟨1, b⟩ := good_of hok (by simp only; omega) f.okb
      have h2 : lst x.own b = M := by rw [s.own]; exact f.la
      rw [hp_but h1 (by rw [s.own]; exact f.mb.symm.trans f.ma) rfl (by simp only; rw [h2]; exact fun e => hb e.symm)]
      simp only [h2]
  · exact .inr (.inl ⟨rfl, yes⟩)
  · by_cases ha : x.asks = M
    · exact .inr (.inr (.inl ⟨rfl, ha, hp_mine (hM 2 (by omega)) hmo rfl ha.symm⟩))
    · exact .inr (.inr (.inr (.inl ⟨rfl, ha, hp_stay2 (hM 2 (by omega)) hmo rfl (fun e => ha e.symm)⟩)))
  · rcases s.mine with h | ⟨h, h'⟩
    · refine .inr (.inr (.inr (.inr (.inl ⟨rfl, h, ?_⟩))))
      rw [hp_less (hM 3 (by omega)) hmo rfl (no_z h)]
      have : lst x.asks M = M := by
        rcases s.asks with e | e
        · rw [e]; exact f.aM
        · rw [e]; exact f.MM
      simp only [this]
    · refine .inr (.inr (.inr (.inr (.inr ⟨rfl, h, h', ?_⟩))))
      exact hp_stay3 (hM 3 (by omega)) hmo rfl (by rw [h, ok_no f.okM]; simp)
theorem say_all {a b M : Cf} (f : Fit a b M) {x : Ng} (s : Side a M x) : (x.mine = cz ∧ sayP x = (⟨1, x.asks⟩, true)) ∨ (x.mine = M ∧ (sayP x).2 = false) := by
  have hok := s.ok f
  unfold Ng.ok at hok
  unfold sayP sayV
  rw [hok, s.fails]
  rcases s.mine with h | ⟨h, h'⟩
  · refine .inl ⟨h, ?_⟩
    have : none5 x.mine.m x.mine.w x.mine.p x.mine.t x.mine.y = true := no_z h
    rw [this]; rfl
  · refine .inr ⟨h, ?_⟩
    have : none5 x.mine.m x.mine.w x.mine.p x.mine.t x.mine.y = false := by rw [h]; exact ok_no f.okM
    rw [this]; rfl
/-- What holds always, where both are of one mode. -/
structure Inv (a b M : Cf) (s : Sy) : Prop where
  sx : Side a M s.x
  sy : Side b M s.y
  mp : ∀ m ∈ s.p, Mess b M m
  mq : ∀ m ∈ s.q, Mess a M m
  dx : s.x.mine = M ∨ (⟨2, M⟩ : Ms) ∈ s.p → s.y.yours = M
  dy : s.y.mine = M ∨ (⟨2, M⟩ : Ms) ∈ s.q → s.x.yours = M
theorem Inv.swap {a b M : Cf} {s : Sy} (h : Inv a b M s) : Inv b a M (sw s) := ⟨h.sy, h.sx, h.mq, h.mp, h.dy, h.dx⟩
theorem mem_snoc {α : Type} {l : List α} {x y : α} (h : x ∈ l ++ [y]) : x ∈ l ∨ x = y := by
  rcases List.mem_append.1 h with h | h
  · exact .inl h
  · exact .inr (List.mem_singleton.1 h)
theorem ms_ne {k j : Int} {c d : Cf} (h : k ≠ j) : (⟨k, c⟩ : Ms) ≠ ⟨j, d⟩ := fun e => h (congrArg Ms.k e)
theorem Inv.hear {a b M : Cf} (f : Fit a b M) {s : Sy} (h : Inv a b M s) {m : Ms} {l : List Ms} (e : s.p = m :: l) : Inv a b M ⟨(hearP s.x m).1, s.y, l, if (hearP s.x m).2.2 = true then s.q ++ [(hearP s.x m).2.1] else s.q⟩ := by
  have tl : ∀ m' ∈ l, Mess b M m' := fun m' hm => h.mp m' (by rw [e]; exact List.mem_cons_of_mem _ hm)
  have d1 : s.x.mine = M ∨ (⟨2, M⟩ : Ms) ∈ l → s.y.yours = M := fun hh => h.dx (hh.imp id (fun hm => by rw [e]; exact List.mem_cons_of_mem _ hm))
  have hd : m ∈ s.p := by rw [e]; exact List.mem_cons_self
  rcases hear_all f h.sx (h.mp m hd) with ⟨e1, e2, e3⟩ | ⟨e1, e3⟩ | ⟨e1, e2, e3⟩ | ⟨e1, e2, e3⟩ | ⟨e1, e2, e3⟩ | ⟨e1, e2, e2', e3⟩ <;> rw [e3] <;> simp only [if_true, Bool.false_eq_true, if_false]
  · refine ⟨h.sx, h.sy, tl, fun m' hm => ?_, d1, fun hh => h.dy (hh.imp id (fun hm => ?_))⟩
    · rcases mem_snoc hm with hm | rfl
      · exact h.mq m' hm
      · exact .inr (.inr (.inr rfl))
    · rcases mem_snoc hm with hm | hm
      · exact hm
      · exact absurd hm (ms_ne (by omega))
  · refine ⟨⟨h.sx.own, h.sx.fails, h.sx.asks, h.sx.mine, .inr rfl⟩, h.sy, tl, fun m' hm => ?_, d1, fun _ => rfl⟩
    rcases mem_snoc hm with hm | rfl
    · exact h.mq m' hm
    · exact .inr (.inr (.inl rfl))
  · exact ⟨⟨h.sx.own, h.sx.fails, h.sx.asks, .inr ⟨rfl, e2⟩, h.sx.yours⟩, h.sy, tl, h.mq, fun _ => h.dx (.inr (e1 ▸ hd)), h.dy⟩
  · exact ⟨h.sx, h.sy, tl, h.mq, d1, h.dy⟩
  · exact ⟨⟨h.sx.own, h.sx.fails, .inr rfl, .inl e2, h.sx.yours⟩, h.sy, tl, h.mq, d1, h.dy⟩
  · exact ⟨h.sx, h.sy, tl, h.mq, d1, h.dy⟩
theorem Inv.say {a b M : Cf} (f : Fit a b M) {s : Sy} (h : Inv a b M s) : Inv a b M ⟨s.x, s.y, s.p, s.q ++ [⟨1, s.x.asks⟩]⟩ := by
  refine ⟨h.sx, h.sy, h.mp, fun m' hm => ?_, h.dx, fun hh => h.dy (hh.imp id (fun hm => ?_))⟩
  · rcases mem_snoc hm with hm | rfl
    · exact h.mq m' hm
    · rcases h.sx.asks with e | e <;> rw [e]
      · exact .inl rfl
      · exact .inr (.inl rfl)
  · rcases mem_snoc hm with hm | hm
    · exact hm
    · exact absurd hm (ms_ne (by omega))
theorem Inv.stp0 {a b M : Cf} (f : Fit a b M) {s : Sy} (h : Inv a b M s) (w : Int) : Inv a b M (doo0 s w) := by
  unfold doo0
  by_cases hw : w < 2
  · rw [if_pos hw]
    rcases say_all f h.sx with ⟨_, e⟩ | ⟨_, e⟩
    · rw [e]; exact h.say f
    · rw [e]; exact h
  · rw [if_neg hw]
    cases e : s.p with
    | nil => exact h
    | cons m l =>
      simp only
      have tl : ∀ m' ∈ l, m' ∈ s.p := fun m' hm => by rw [e]; exact List.mem_cons_of_mem _ hm
      by_cases h4 : w = 4
      · rw [if_pos h4]
        exact ⟨h.sx, h.sy, fun m' hm => h.mp m' (tl m' hm), h.mq, fun hh => h.dx (hh.imp id (tl _)), h.dy⟩
      · rw [if_neg h4]
        by_cases h5 : w = 5
        · rw [if_pos h5]
          have up : ∀ m' ∈ m :: l ++ [m], m' ∈ s.p := fun m' hm => by
            rw [e]
            rcases mem_snoc hm with hm | rfl
            · exact hm
            · exact List.mem_cons_self
          exact ⟨h.sx, h.sy, fun m' hm => h.mp m' (up m' hm), h.mq, fun hh => h.dx (hh.imp id (up _)), h.dy⟩
        · rw [if_neg h5]
          exact h.hear f e
theorem Inv.stp {a b M : Cf} (f : Fit a b M) {s : Sy} (h : Inv a b M s) (who w : Int) : Inv a b M (doo s who w) := by
  unfold doo
  by_cases hw : who = 0
  · rw [if_pos hw]; exact h.stp0 f w
  · rw [if_neg hw]; exact (h.swap.stp0 f.sw w).swap
/-! How far it is. -/
def GA (a M : Cf) (s : Sy) : Prop := s.x.asks = M ∨ (⟨1, a⟩ : Ms) ∈ s.q ∨ (⟨3, M⟩ : Ms) ∈ s.p
def GB (M : Cf) (s : Sy) : Prop := s.x.mine = M ∨ (s.x.asks = M ∧ ((⟨1, M⟩ : Ms) ∈ s.q ∨ (⟨2, M⟩ : Ms) ∈ s.p))
theorem mem_tl {m x : Ms} {s l : List Ms} (e : s = m :: l) (h : x ∈ s) : x = m ∨ x ∈ l := by rw [e] at h; exact List.mem_cons.1 h
theorem goes {a b M : Cf} (f : Fit a b M) {s : Sy} (h : Inv a b M s) :
    (GA a M s → GA a M (doo0 s 3)) ∧ (GB M s → GB M (doo0 s 3)) ∧ (GA b M (sw s) → GA b M (sw (doo0 s 3))) ∧ (GB M (sw s) → GB M (sw (doo0 s 3))) := by
  unfold doo0
  rw [if_neg (by omega)]
  cases e : s.p with
  | nil => exact ⟨id, id, id, id⟩
  | cons m l =>
    simp only
    rw [if_neg (by omega), if_neg (by omega)]
    have hd : m ∈ s.p := by rw [e]; exact List.mem_cons_self
    unfold GA GB sw
    have sub : ∀ x ∈ s.q, x ∈ (if (hearP s.x m).2.2 = true then s.q ++ [(hearP s.x m).2.1] else s.q) := fun x hx => by
      split
      · exact List.mem_append.2 (.inl hx)
      · exact hx
    rcases hear_all f h.sx (h.mp m hd) with ⟨e1, e2, e3⟩ | ⟨e1, e3⟩ | ⟨e1, e2, e3⟩ | ⟨e1, e2, e3⟩ | ⟨e1, e2, e3⟩ | ⟨e1, e2, e2', e3⟩
    · rw [e3] at sub ⊢
      simp only [if_true] at sub ⊢
      refine ⟨fun hh => ?_, fun hh => ?_, fun hh => ?_, fun hh => ?_⟩
      · rcases hh with hh | hh | hh
        · exact .inl hh
        · exact .inr (.inl (sub _ hh))
        · rcases mem_tl e hh with hh | hh
          · rw [e1] at hh; exact absurd hh (ms_ne (by omega))
          · exact .inr (.inr hh)
      · rcases hh with hh | ⟨h1, hh | hh⟩
        · exact .inl hh
        · exact .inr ⟨h1, .inl (sub _ hh)⟩
        · rcases mem_tl e hh with hh | hh
          · rw [e1] at hh; exact absurd hh (ms_ne (by omega))
          · exact .inr ⟨h1, .inr hh⟩
      · rcases hh with hh | hh | hh
        · exact .inl hh
        · rcases mem_tl e hh with hh | hh
          · exact .inr (.inr (List.mem_append.2 (.inr (List.mem_singleton.2 rfl))))
          · exact .inr (.inl hh)
        · exact .inr (.inr (sub _ hh))
      · rcases hh with hh | ⟨h1, hh | hh⟩
        · exact .inl hh
        · rcases mem_tl e hh with hh | hh
          · rw [e1] at hh; exact absurd (congrArg Ms.o hh).symm e2
          · exact .inr ⟨h1, .inl hh⟩
        · exact .inr ⟨h1, .inr (sub _ hh)⟩
    · rw [e3] at sub ⊢
      simp only [if_true] at sub ⊢
      refine ⟨fun hh => ?_, fun hh => ?_, fun hh => ?_, fun hh => ?_⟩
      · rcases hh with hh | hh | hh
        · exact .inl hh
        · exact .inr (.inl (sub _ hh))
        · rcases mem_tl e hh with hh | hh
          · rw [e1] at hh; exact absurd hh (ms_ne (by omega))
          · exact .inr (.inr hh)
      · rcases hh with hh | ⟨h1, hh | hh⟩
        · exact .inl hh
        · exact .inr ⟨h1, .inl (sub _ hh)⟩
        · rcases mem_tl e hh with hh | hh
          · rw [e1] at hh; exact absurd hh (ms_ne (by omega))
          · exact .inr ⟨h1, .inr hh⟩
      · rcases hh with hh | hh | hh
        · exact .inl hh
        · rcases mem_tl e hh with hh | hh
          · rw [e1] at hh
            have hbM : b = M := congrArg Ms.o hh
            refine .inl ?_
            rcases h.sy.asks with h2 | h2
            · rw [h2, hbM]
            · exact h2
          · exact .inr (.inl hh)
        · exact .inr (.inr (sub _ hh))
      · rcases hh with hh | ⟨h1, hh | hh⟩
        · exact .inl hh
        · rcases mem_tl e hh with hh | hh
          · exact .inr ⟨h1, .inr (List.mem_append.2 (.inr (List.mem_singleton.2 rfl)))⟩
          · exact .inr ⟨h1, .inl hh⟩
        · exact .inr ⟨h1, .inr (sub _ hh)⟩
    all_goals
      rw [e3] at sub ⊢
      simp only [Bool.false_eq_true, if_false] at sub ⊢
      refine ⟨fun hh => ?_, fun hh => ?_, fun hh => ?_, fun hh => ?_⟩
    · rcases hh with hh | hh | hh
      · exact .inl hh
      · exact .inr (.inl hh)
      · exact .inl e2
    · exact .inl (by simp)
    · rcases hh with hh | hh | hh
      · exact .inl hh
      · rcases mem_tl e hh with hh | hh
        · rw [e1] at hh; exact absurd hh (ms_ne (by omega))
        · exact .inr (.inl hh)
      · exact .inr (.inr hh)
    · rcases hh with hh | ⟨h1, hh | hh⟩
      · exact .inl hh
      · rcases mem_tl e hh with hh | hh
        · rw [e1] at hh; exact absurd hh (ms_ne (by omega))
        · exact .inr ⟨h1, .inl hh⟩
      · exact .inr ⟨h1, .inr hh⟩
    · rcases hh with hh | hh | hh
      · exact .inl hh
      · exact .inr (.inl hh)
      · rcases mem_tl e hh with hh | hh
        · rw [e1] at hh; exact absurd hh (ms_ne (by omega))
        · exact .inr (.inr hh)
    · rcases hh with hh | ⟨h1, hh⟩
      · exact .inl hh
      · exact absurd h1 e2
    · rcases hh with hh | hh | hh
      · exact .inl hh
      · rcases mem_tl e hh with hh | hh
        · rw [e1] at hh; exact absurd hh (ms_ne (by omega))
        · exact .inr (.inl hh)
      · exact .inr (.inr hh)
    · rcases hh with hh | ⟨h1, hh | hh⟩
      · exact .inl hh
      · rcases mem_tl e hh with hh | hh
        · rw [e1] at hh; exact absurd hh (ms_ne (by omega))
        · exact .inr ⟨h1, .inl hh⟩
      · exact .inr ⟨h1, .inr hh⟩
    · exact .inl (by simp)
    · rcases hh with hh | ⟨h1, hh | hh⟩
      · exact .inl hh
      · exact .inr ⟨by simp, .inl hh⟩
      · rcases mem_tl e hh with hh | hh
        · rw [e1] at hh; exact absurd hh (ms_ne (by omega))
        · exact .inr ⟨by simp, .inr hh⟩
    · rcases hh with hh | hh | hh
      · exact .inl hh
      · rcases mem_tl e hh with hh | hh
        · rw [e1] at hh; exact absurd hh (ms_ne (by omega))
        · exact .inr (.inl hh)
      · exact .inr (.inr hh)
    · rcases hh with hh | ⟨h1, hh | hh⟩
      · exact .inl hh
      · rcases mem_tl e hh with hh | hh
        · rw [e1] at hh; exact absurd hh (ms_ne (by omega))
        · exact .inr ⟨h1, .inl hh⟩
      · exact .inr ⟨h1, .inr hh⟩
    · exact .inl e2'
    · exact .inl e2
    · rcases hh with hh | hh | hh
      · exact .inl hh
      · rcases mem_tl e hh with hh | hh
        · rw [e1] at hh; exact absurd hh (ms_ne (by omega))
        · exact .inr (.inl hh)
      · exact .inr (.inr hh)
    · rcases hh with hh | ⟨h1, hh | hh⟩
      · exact .inl hh
      · rcases mem_tl e hh with hh | hh
        · rw [e1] at hh; exact absurd hh (ms_ne (by omega))
        · exact .inr ⟨h1, .inl hh⟩
      · exact .inr ⟨h1, .inr hh⟩
theorem goes_say {a b M : Cf} (f : Fit a b M) {s : Sy} (h : Inv a b M s) :
    GA a M (doo0 s 0) ∧ (s.x.asks = M → GB M (doo0 s 0)) ∧ (GB M s → GB M (doo0 s 0)) ∧ (GA b M (sw s) → GA b M (sw (doo0 s 0))) ∧ (GB M (sw s) → GB M (sw (doo0 s 0))) := by
  unfold doo0
  rw [if_pos (by omega)]
  rcases say_all f h.sx with ⟨hm, e⟩ | ⟨hm, e⟩
  · rw [e]
    simp only [if_true]
    unfold GA GB sw
    have nw : (⟨1, s.x.asks⟩ : Ms) ∈ s.q ++ [⟨1, s.x.asks⟩] := List.mem_append.2 (.inr (List.mem_singleton.2 rfl))
    refine ⟨?_, fun ha => ?_, fun hh => ?_, fun hh => ?_, fun hh => ?_⟩
    · rcases h.sx.asks with h1 | h1
      · refine .inr (.inl ?_); rw [h1] at nw ⊢; exact nw
      · exact .inl h1
    · refine .inr ⟨ha, .inl ?_⟩; rw [ha] at nw ⊢; exact nw
    · rcases hh with hh | ⟨h1, hh | hh⟩
      · exact .inl hh
      · exact .inr ⟨h1, .inl (List.mem_append.2 (.inl hh))⟩
      · exact .inr ⟨h1, .inr hh⟩
    · rcases hh with hh | hh | hh
      · exact .inl hh
      · exact .inr (.inl hh)
      · exact .inr (.inr (List.mem_append.2 (.inl hh)))
    · rcases hh with hh | ⟨h1, hh | hh⟩
      · exact .inl hh
      · exact .inr ⟨h1, .inl hh⟩
      · exact .inr ⟨h1, .inr (List.mem_append.2 (.inl hh))⟩
  · rw [e]
    simp only [Bool.false_eq_true, if_false]
    refine ⟨?_, fun _ => .inl hm, id, id, id⟩
    rcases h.sx.mine with h1 | h1
    · rw [hm] at h1; exact absurd h1 (ok_nez f.okM)
    · exact .inl h1.2
/-! How many steps it takes till nothing is on its way. -/
def wt (m : Ms) : Nat := if m.k = 1 then 2 else 1
def phi : List Ms → Nat
  | [] => 0
  | m :: l => wt m + phi l
def Phi (s : Sy) : Nat := phi s.p + phi s.q
theorem phi_app : ∀ (l r : List Ms), phi (l ++ r) = phi l + phi r
  | [], r => by simp [phi]
  | m :: l, r => by simp only [List.cons_append, phi, phi_app l r]; omega
theorem phi_snoc (l : List Ms) (m : Ms) : phi (l ++ [m]) = phi l + wt m := by rw [phi_app]; simp [phi]
theorem wt_le (m : Ms) : wt m ≤ 2 := by unfold wt; split <;> omega
theorem wt_pos (m : Ms) : 1 ≤ wt m := by unfold wt; split <;> omega
def run : Nat → Nat → Sy → Sy
  | 0, _, s => s
  | f + 1, n, s => if s.p.length + s.q.length > 0 then run f (n + 1) (doo s ((n % 2 : Nat) : Int) 3) else s
theorem run_inv {I : Sy → Prop} (h : ∀ s who, I s → I (doo s who 3)) : ∀ f n s, I s → I (run f n s)
  | 0, _, _, hs => hs
  | f + 1, n, s, hs => by
    unfold run
    split
    · exact run_inv h f (n + 1) _ (h _ _ hs)
    · exact hs
/-- What hearing does to how much there is. -/
structure Fall (I : Sy → Prop) : Prop where
  keep : ∀ s who, I s → I (doo s who 3)
  fx : ∀ s m l, I s → s.p = m :: l → Phi (doo0 s 3) + 1 ≤ Phi s
  fy : ∀ s m l, I s → s.q = m :: l → Phi (doo0 (sw s) 3) + 1 ≤ Phi s
theorem Phi_sw (s : Sy) : Phi (sw s) = Phi s := by unfold Phi sw; simp only; omega
theorem run_end {I : Sy → Prop} (h : Fall I) : ∀ f n s, I s → (2 * Phi s + 1 ≤ f ∨ (2 * Phi s ≤ f ∧ (n % 2 = 0 → s.p ≠ []) ∧ (n % 2 = 1 → s.q ≠ []))) → (run f n s).p = [] ∧ (run f n s).q = []
  | 0, n, s, hs, hf => by
    unfold run
    have h0 : Phi s = 0 := by omega
    unfold Phi at h0
    constructor
    · cases e : s.p with
      | nil => rfl
      | cons m l => rw [e] at h0; have := wt_pos m; simp only [phi] at h0; omega
    · cases e : s.q with
      | nil => rfl
      | cons m l => rw [e] at h0; have := wt_pos m; simp only [phi] at h0; omega
  | f + 1, n, s, hs, hf => by
    unfold run
    by_cases hl : s.p.length + s.q.length > 0
    · rw [if_pos hl]
      rcases Nat.mod_two_eq_zero_or_one n with hn | hn
      · rw [hn]
        cases e : s.p with
        | nil =>
          have e2 : doo s ((0 : Nat) : Int) 3 = s := by unfold doo doo0; rw [if_pos (by omega), if_neg (by omega), e]
          rw [e2]
          have hq : s.q ≠ [] := fun c => by rw [e, c] at hl; exact absurd hl (by simp)
          refine run_end h f (n + 1) s hs (.inr ⟨?_, fun c => by omega, fun _ => hq⟩)
          rcases hf with hf | ⟨_, hf, _⟩
          · omega
          · exact absurd e (hf hn)
        | cons m l =>
          have e2 : doo s ((0 : Nat) : Int) 3 = doo0 s 3 := by unfold doo; rw [if_pos (by omega)]
          have h1 := h.fx s m l hs e
          have h2 := h.keep s ((0 : Nat) : Int) hs
          rw [e2] at h2 ⊢
          exact run_end h f (n + 1) _ h2 (.inl (by omega))
      · rw [hn]
        cases e : s.q with
        | nil =>
          have e2 : doo s ((1 : Nat) : Int) 3 = s := by
            unfold doo doo0
            rw [if_neg (by omega), if_neg (by omega)]
            have : (sw s).p = [] := e
            rw [this]
            rfl
          rw [e2]
          have hq : s.p ≠ [] := fun c => by rw [e, c] at hl; exact absurd hl (by simp)
          refine run_end h f (n + 1) s hs (.inr ⟨?_, fun _ => hq, fun c => by omega⟩)
          rcases hf with hf | ⟨_, _, hf⟩
          · omega
          · exact absurd e (hf hn)
        | cons m l =>
          have e2 : doo s ((1 : Nat) : Int) 3 = sw (doo0 (sw s) 3) := by unfold doo; rw [if_neg (by omega)]
          have h1 := h.fy s m l hs e
          have h2 := h.keep s ((1 : Nat) : Int) hs
          rw [e2] at h2 ⊢
          exact run_end h f (n + 1) _ h2 (.inl (by rw [Phi_sw]; omega))
    · rw [if_neg hl]
      constructor
      · cases e : s.p with
        | nil => rfl
        | cons m l => rw [e] at hl; simp at hl
      · cases e : s.q with
        | nil => rfl
        | cons m l => rw [e] at hl; simp at hl
/-- One thing makes two more at most. -/
theorem Phi_hear (s : Sy) (m : Ms) (l : List Ms) (e : s.p = m :: l) (b : Ms) (o : Bool) (ho : o = true → m.k = 1 ∧ b.k ≠ 1) (x' : Ng) : Phi ⟨x', s.y, l, if o = true then s.q ++ [b] else s.q⟩ + 1 ≤ Phi s := by
  unfold Phi
  rw [e]
  simp only [phi]
  have := wt_pos m
  cases o with
  | false => simp only [Bool.false_eq_true, if_false]; omega
  | true =>
    obtain ⟨h1, h2⟩ := ho rfl
    simp only [if_true, phi_snoc]
    unfold wt
    rw [if_pos h1, if_neg h2]
    omega
theorem Phi_doo0 (s : Sy) (w : Int) (hh : ∀ m l, s.p = m :: l → (hearP s.x m).2.2 = true → m.k = 1 ∧ (hearP s.x m).2.1.k ≠ 1) : Phi (doo0 s w) ≤ Phi s + 2 := by
  unfold doo0
  by_cases hw : w < 2
  · rw [if_pos hw]
    split
    · unfold Phi; simp only [phi_snoc]; have := wt_le (sayP s.x).1; omega
    · omega
  · rw [if_neg hw]
    cases e : s.p with
    | nil => simp only; omega
    | cons m l =>
      simp only
      by_cases h4 : w = 4
      · rw [if_pos h4]; unfold Phi; rw [e]; simp only [phi]; omega
      · rw [if_neg h4]
        by_cases h5 : w = 5
        · rw [if_pos h5]; unfold Phi; rw [e]; simp only [phi_snoc]; have := wt_le m; omega
        · rw [if_neg h5]
          have := Phi_hear s m l e (hearP s.x m).2.1 (hearP s.x m).2.2 (hh m l e) (hearP s.x m).1
          omega
theorem Inv.says {a b M : Cf} (f : Fit a b M) {s : Sy} (h : Inv a b M s) : ∀ m l, s.p = m :: l → (hearP s.x m).2.2 = true → m.k = 1 ∧ (hearP s.x m).2.1.k ≠ 1 := by
  intro m l e ho
  have hd : m ∈ s.p := by rw [e]; exact List.mem_cons_self
  rcases hear_all f h.sx (h.mp m hd) with ⟨e1, e2, e3⟩ | ⟨e1, e3⟩ | ⟨e1, e2, e3⟩ | ⟨e1, e2, e3⟩ | ⟨e1, e2, e3⟩ | ⟨e1, e2, e2', e3⟩ <;> rw [e3] at ho ⊢
  · exact ⟨by rw [e1], by simp⟩
  · exact ⟨by rw [e1], by simp⟩
  all_goals exact absurd ho (by simp)
theorem hear3 {s : Sy} {m : Ms} {l : List Ms} (e : s.p = m :: l) : doo0 s 3 = ⟨(hearP s.x m).1, s.y, l, if (hearP s.x m).2.2 = true then s.q ++ [(hearP s.x m).2.1] else s.q⟩ := by
  unfold doo0
  rw [if_neg (by omega), e]
  simp only
  rw [if_neg (by omega), if_neg (by omega)]
theorem Inv.fall {a b M : Cf} (f : Fit a b M) : Fall (Inv a b M) := by
  refine ⟨fun s who h => h.stp f who 3, fun s m l h e => ?_, fun s m l h e => ?_⟩
  · rw [hear3 e]; exact Phi_hear s m l e _ _ (h.says f m l e) _
  · rw [hear3 (s := sw s) e, ← Phi_sw s]; exact Phi_hear (sw s) m l e _ _ (h.swap.says f.sw m l e) _
theorem Inv.phi {a b M : Cf} (f : Fit a b M) {s : Sy} (h : Inv a b M s) (who w : Int) : Phi (doo s who w) ≤ Phi s + 2 := by
  unfold doo
  split
  · exact Phi_doo0 s w (h.says f)
  · rw [Phi_sw, ← Phi_sw s]; exact Phi_doo0 (sw s) w (h.swap.says f.sw)
def phase (s : Sy) (who : Int) : Sy := run 400 0 (doo s who 0)
def rounds : Nat → Sy → Sy
  | 0, s => s
  | k + 1, s => rounds k (phase (phase s 0) 1)
theorem rounds_succ (k : Nat) (s : Sy) : rounds (k + 1) s = rounds k (phase (phase s 0) 1) := rfl
theorem rounds_zero (s : Sy) : rounds 0 s = s := rfl
/-- What there was behind one round of hearing still goes. -/
def Goal (a b M : Cf) (A B C D : Prop) (s : Sy) : Prop := Inv a b M s ∧ (A → GA a M s) ∧ (B → GB M s) ∧ (C → GA b M (sw s)) ∧ (D → GB M (sw s))
theorem goal_doo {a b M : Cf} (f : Fit a b M) {A B C D : Prop} (s : Sy) (who : Int) (h : Goal a b M A B C D s) : Goal a b M A B C D (doo s who 3) := by
  obtain ⟨hi, h1, h2, h3, h4⟩ := h
  refine ⟨hi.stp f who 3, ?_⟩
  unfold doo
  split
  · obtain ⟨g1, g2, g3, g4⟩ := goes f hi
    exact ⟨fun x => g1 (h1 x), fun x => g2 (h2 x), fun x => g3 (h3 x), fun x => g4 (h4 x)⟩
  · obtain ⟨g1, g2, g3, g4⟩ := goes f.sw hi.swap
    exact ⟨fun x => g3 (h1 x), fun x => g4 (h2 x), fun x => g1 (h3 x), fun x => g2 (h4 x)⟩
theorem ga_end {a M : Cf} {s : Sy} (hp : s.p = []) (hq : s.q = []) (h : GA a M s) : s.x.asks = M := by
  rcases h with h | h | h
  · exact h
  · rw [hq] at h; cases h
  · rw [hp] at h; cases h
theorem gb_end {M : Cf} {s : Sy} (hp : s.p = []) (hq : s.q = []) (h : GB M s) : s.x.mine = M := by
  rcases h with h | ⟨_, h | h⟩
  · exact h
  · rw [hq] at h; cases h
  · rw [hp] at h; cases h
structure Rest (a b M : Cf) (s : Sy) : Prop where
  inv : Inv a b M s
  p : s.p = []
  q : s.q = []
theorem Rest.phi {a b M : Cf} {s : Sy} (h : Rest a b M s) : Phi s = 0 := by unfold Phi; rw [h.p, h.q]; rfl
theorem phase_x {a b M : Cf} (f : Fit a b M) {s : Sy} (h : Inv a b M s) (hp : Phi s ≤ 190) :
    Rest a b M (phase s 0) ∧ (phase s 0).x.asks = M ∧ (s.x.asks = M → (phase s 0).x.mine = M) ∧ (s.y.asks = M → (phase s 0).y.asks = M) ∧ (s.x.mine = M → (phase s 0).x.mine = M) ∧ (s.y.mine = M → (phase s 0).y.mine = M) := by
  have e : doo s 0 0 = doo0 s 0 := by unfold doo; rw [if_pos rfl]
  have hs1 : Inv a b M (doo s 0 0) := h.stp f 0 0
  have hph := h.phi f 0 0
  obtain ⟨g1, g2, g2', g3, g4⟩ := goes_say f h
  have hG : Goal a b M True (s.x.asks = M ∨ s.x.mine = M) (s.y.asks = M) (s.y.mine = M) (doo s 0 0) := by
    rw [e] at hs1 ⊢
    exact ⟨hs1, fun _ => g1, fun x => x.elim g2 (fun x => g2' (.inl x)), fun x => g3 (.inl x), fun x => g4 (.inl x)⟩
  obtain ⟨ri, r1, r2, r3, r4⟩ := run_inv (goal_doo f) 400 0 _ hG
  obtain ⟨e1, e2⟩ := run_end (Inv.fall f) 400 0 _ hs1 (.inl (by omega))
  exact ⟨⟨ri, e1, e2⟩, ga_end e1 e2 (r1 trivial), fun x => gb_end e1 e2 (r2 (.inl x)), fun x => ga_end (s := sw (phase s 0)) e2 e1 (r3 x), fun x => gb_end e1 e2 (r2 (.inr x)), fun x => gb_end (s := sw (phase s 0)) e2 e1 (r4 x)⟩
theorem phase_y {a b M : Cf} (f : Fit a b M) {s : Sy} (h : Inv a b M s) (hp : Phi s ≤ 190) :
    Rest a b M (phase s 1) ∧ (phase s 1).y.asks = M ∧ (s.y.asks = M → (phase s 1).y.mine = M) ∧ (s.x.asks = M → (phase s 1).x.asks = M) ∧ (s.y.mine = M → (phase s 1).y.mine = M) ∧ (s.x.mine = M → (phase s 1).x.mine = M) := by
  have e : doo s 1 0 = sw (doo0 (sw s) 0) := by unfold doo; rw [if_neg (by omega)]
  have hs1 : Inv a b M (doo s 1 0) := h.stp f 1 0
  have hph := h.phi f 1 0
  obtain ⟨g1, g2, g2', g3, g4⟩ := goes_say f.sw h.swap
  have hG : Goal a b M (s.x.asks = M) (s.x.mine = M) True (s.y.asks = M ∨ s.y.mine = M) (doo s 1 0) := by
    rw [e] at hs1 ⊢
    exact ⟨hs1, fun x => g3 (.inl x), fun x => g4 (.inl x), fun _ => g1, fun x => x.elim g2 (fun x => g2' (.inl x))⟩
  obtain ⟨ri, r1, r2, r3, r4⟩ := run_inv (goal_doo f) 400 0 _ hG
  obtain ⟨e1, e2⟩ := run_end (Inv.fall f) 400 0 _ hs1 (.inl (by omega))
  exact ⟨⟨ri, e1, e2⟩, ga_end (s := sw (phase s 1)) e2 e1 (r3 trivial), fun x => gb_end (s := sw (phase s 1)) e2 e1 (r4 (.inl x)), fun x => ga_end e1 e2 (r1 x), fun x => gb_end (s := sw (phase s 1)) e2 e1 (r4 (.inr x)), fun x => gb_end e1 e2 (r2 x)⟩
theorem comes {a b M : Cf} (f : Fit a b M) {s : Sy} (h : Inv a b M s) (hp : Phi s ≤ 190) : Inv a b M (rounds 6 s) ∧ (rounds 6 s).x.mine = M ∧ (rounds 6 s).y.mine = M := by
  have one : ∀ s, Inv a b M s → Phi s ≤ 190 → Rest a b M (phase (phase s 0) 1) ∧ (phase (phase s 0) 1).x.asks = M ∧ (phase (phase s 0) 1).y.asks = M ∧ (s.x.asks = M ∨ s.x.mine = M → (phase (phase s 0) 1).x.mine = M) ∧ (s.y.asks = M ∨ s.y.mine = M → (phase (phase s 0) 1).y.mine = M) := by
    intro s h hp
    obtain ⟨r1, a1, a2, a3, a4, a5⟩ := phase_x f h hp
    obtain ⟨r2, b1, b2, b3, b4, b5⟩ := phase_y f r1.inv (by rw [r1.phi]; omega)
    exact ⟨r2, b3 a1, b1, fun x => b5 (x.elim a2 a4), fun x => x.elim (fun x => b2 (a3 x)) (fun x => b4 (a5 x))⟩
  have two : ∀ k s, Rest a b M s → s.x.mine = M → s.y.mine = M → Inv a b M (rounds k s) ∧ (rounds k s).x.mine = M ∧ (rounds k s).y.mine = M := by
    intro k
    induction k with
    | zero => intro s r h1 h2; rw [rounds_zero]; exact ⟨r.inv, h1, h2⟩
    | succ k ih =>
      intro s r h1 h2
      obtain ⟨r', _, _, c1, c2⟩ := one s r.inv (by rw [r.phi]; omega)
      rw [rounds_succ]
      exact ih _ r' (c1 (.inr h1)) (c2 (.inr h2))
  obtain ⟨r1, a1, a2, _, _⟩ := one s h hp
  obtain ⟨r2, _, _, c1, c2⟩ := one _ r1.inv (by rw [r1.phi]; omega)
  rw [show (6 : Nat) = 4 + 1 + 1 from rfl, rounds_succ, rounds_succ]
  exact two 4 _ r2 (c1 (.inl a1)) (c2 (.inl a2))
/-! Where the two want two modes. -/
structure Two (a b : Cf) : Prop where
  oka : a.ok = true
  okb : b.ok = true
  ne : a.m ≠ b.m
theorem Two.sw {a b : Cf} (h : Two a b) : Two b a := ⟨h.okb, h.oka, fun e => h.ne e.symm⟩
structure Sid2 (a : Cf) (x : Ng) : Prop where
  own : x.own = a
  asks : x.asks = a
  mine : x.mine = cz
  yours : x.yours = cz
structure Inv2 (a b : Cf) (s : Sy) : Prop where
  sx : Sid2 a s.x
  sy : Sid2 b s.y
  mp : ∀ m ∈ s.p, m = ⟨1, b⟩
  mq : ∀ m ∈ s.q, m = ⟨1, a⟩
theorem Inv2.swap {a b : Cf} {s : Sy} (h : Inv2 a b s) : Inv2 b a (sw s) := ⟨h.sy, h.sx, h.mq, h.mp⟩
theorem Sid2.ok {a b : Cf} (f : Two a b) {x : Ng} (h : Sid2 a x) : x.ok = true := by
  obtain ⟨h1, h2, h3, h4⟩ := h
  unfold Ng.ok negok
  rw [h1, h2, h3, h4, may_z a, beq_iff_eq.mpr rfl]
  have := f.oka
  unfold Cf.ok at this
  rw [this]; rfl
theorem hear2 {a b : Cf} (f : Two a b) {x : Ng} (h : Sid2 a x) : hearP x ⟨1, b⟩ = ({ x with fails := true }, mz, false) :=
  hp_fail (good_of (h.ok f) (by simp only; omega) f.okb) (by rw [h.own]; exact fun e => f.ne e.symm)
theorem say2 {a b : Cf} (f : Two a b) {x : Ng} (h : Sid2 a x) : (x.fails = true ∧ (sayP x).2 = false) ∨ (x.fails = false ∧ sayP x = (⟨1, a⟩, true)) := by
  have hok := h.ok f
  unfold Ng.ok at hok
  have hn : none5 x.mine.m x.mine.w x.mine.p x.mine.t x.mine.y = true := no_z h.mine
  unfold sayP sayV
  rw [hok, hn, h.asks]
  cases x.fails
  · exact .inr ⟨rfl, rfl⟩
  · exact .inl ⟨rfl, rfl⟩
theorem Inv2.stp0 {a b : Cf} (f : Two a b) {s : Sy} (h : Inv2 a b s) (w : Int) : Inv2 a b (doo0 s w) := by
  unfold doo0
  by_cases hw : w < 2
  · rw [if_pos hw]
    rcases say2 f h.sx with ⟨_, e⟩ | ⟨_, e⟩
    · rw [e]; exact h
    · rw [e]
      refine ⟨h.sx, h.sy, h.mp, fun m' hm => ?_⟩
      rcases mem_snoc hm with hm | rfl
      · exact h.mq m' hm
      · rfl
  · rw [if_neg hw]
    cases e : s.p with
    | nil => exact h
    | cons m l =>
      simp only
      have tl : ∀ m' ∈ l, m' ∈ s.p := fun m' hm => by rw [e]; exact List.mem_cons_of_mem _ hm
      by_cases h4 : w = 4
      · rw [if_pos h4]
        exact ⟨h.sx, h.sy, fun m' hm => h.mp m' (tl m' hm), h.mq⟩
      · rw [if_neg h4]
        by_cases h5 : w = 5
        · rw [if_pos h5]
          refine ⟨h.sx, h.sy, fun m' hm => h.mp m' ?_, h.mq⟩
          rw [e]
          rcases mem_snoc hm with hm | rfl
          · exact hm
          · exact List.mem_cons_self
        · rw [if_neg h5, h.mp m (by rw [e]; exact List.mem_cons_self), hear2 f h.sx]
          exact ⟨⟨h.sx.own, h.sx.asks, h.sx.mine, h.sx.yours⟩, h.sy, fun m' hm => h.mp m' (tl m' hm), h.mq⟩
theorem Inv2.stp {a b : Cf} (f : Two a b) {s : Sy} (h : Inv2 a b s) (who w : Int) : Inv2 a b (doo s who w) := by
  unfold doo
  by_cases hw : who = 0
  · rw [if_pos hw]; exact h.stp0 f w
  · rw [if_neg hw]; exact (h.swap.stp0 f.sw w).swap
theorem Inv2.says {a b : Cf} (f : Two a b) {s : Sy} (h : Inv2 a b s) : ∀ m l, s.p = m :: l → (hearP s.x m).2.2 = true → m.k = 1 ∧ (hearP s.x m).2.1.k ≠ 1 := by
  intro m l e ho
  rw [h.mp m (by rw [e]; exact List.mem_cons_self), hear2 f h.sx] at ho
  exact absurd ho (by simp)
theorem Inv2.fall {a b : Cf} (f : Two a b) : Fall (Inv2 a b) := by
  refine ⟨fun s who h => h.stp f who 3, fun s m l h e => ?_, fun s m l h e => ?_⟩
  · rw [hear3 e]; exact Phi_hear s m l e _ _ (h.says f m l e) _
  · rw [hear3 (s := sw s) e, ← Phi_sw s]; exact Phi_hear (sw s) m l e _ _ (h.swap.says f.sw m l e) _
theorem Inv2.phi {a b : Cf} (f : Two a b) {s : Sy} (h : Inv2 a b s) (who w : Int) : Phi (doo s who w) ≤ Phi s + 2 := by
  unfold doo
  split
  · exact Phi_doo0 s w (h.says f)
  · rw [Phi_sw, ← Phi_sw s]; exact Phi_doo0 (sw s) w (h.swap.says f.sw)
def GF (s : Sy) : Prop := s.x.fails = true ∨ s.y.fails = true ∨ s.p ≠ [] ∨ s.q ≠ []
theorem GF.swap {s : Sy} (h : GF s) : GF (sw s) := by
  rcases h with h | h | h | h
  · exact .inr (.inl h)
  · exact .inl h
  · exact .inr (.inr (.inr h))
  · exact .inr (.inr (.inl h))
theorem gf_doo0 {a b : Cf} (f : Two a b) {s : Sy} (h : Inv2 a b s) (g : GF s) : GF (doo0 s 3) := by
  cases e : s.p with
  | nil =>
    unfold doo0
    rw [if_neg (by omega), e]
    exact g
  | cons m l =>
    rw [hear3 e, h.mp m (by rw [e]; exact List.mem_cons_self), hear2 f h.sx]
    exact .inl rfl
theorem gf_doo {a b : Cf} (f : Two a b) (s : Sy) (who : Int) (h : Inv2 a b s ∧ GF s) : Inv2 a b (doo s who 3) ∧ GF (doo s who 3) := by
  refine ⟨h.1.stp f who 3, ?_⟩
  unfold doo
  split
  · exact gf_doo0 f h.1 h.2
  · exact (gf_doo0 f.sw h.1.swap h.2.swap).swap
theorem gf_say0 {a b : Cf} (f : Two a b) {s : Sy} (h : Inv2 a b s) : GF (doo0 s 0) := by
  unfold doo0
  rw [if_pos (by omega)]
  rcases say2 f h.sx with ⟨e1, e⟩ | ⟨_, e⟩
  · rw [e]; exact .inl e1
  · rw [e]
    refine .inr (.inr (.inr ?_))
    simp
theorem gf_say {a b : Cf} (f : Two a b) {s : Sy} (h : Inv2 a b s) (who : Int) : GF (doo s who 0) := by
  unfold doo
  split
  · exact gf_say0 f h
  · exact (gf_say0 f.sw h.swap).swap
theorem phase2 {a b : Cf} (f : Two a b) {s : Sy} (h : Inv2 a b s) (hp : Phi s ≤ 190) (who : Int) : Inv2 a b (phase s who) ∧ Phi (phase s who) = 0 ∧ ((phase s who).x.fails = true ∨ (phase s who).y.fails = true) := by
  have h1 := h.stp f who 0
  have hph := h.phi f who 0
  obtain ⟨r1, r2⟩ := run_inv (I := fun s => Inv2 a b s ∧ GF s) (fun s who h => gf_doo f s who h) 400 0 _ ⟨h1, gf_say f h who⟩
  obtain ⟨e1, e2⟩ := run_end (Inv2.fall f) 400 0 _ h1 (.inl (by omega))
  refine ⟨r1, ?_, ?_⟩
  · unfold phase Phi; rw [e1, e2]; rfl
  · rcases r2 with r2 | r2 | r2 | r2
    · exact .inl r2
    · exact .inr r2
    · exact absurd e1 r2
    · exact absurd e2 r2
theorem comes2 {a b : Cf} (f : Two a b) {s : Sy} (h : Inv2 a b s) (hp : Phi s ≤ 190) : Inv2 a b (rounds 6 s) ∧ ((rounds 6 s).x.fails = true ∨ (rounds 6 s).y.fails = true) := by
  have one : ∀ s, Inv2 a b s → Phi s ≤ 190 → Inv2 a b (phase (phase s 0) 1) ∧ Phi (phase (phase s 0) 1) = 0 ∧ ((phase (phase s 0) 1).x.fails = true ∨ (phase (phase s 0) 1).y.fails = true) := by
    intro s h hp
    obtain ⟨a1, a2, _⟩ := phase2 f h hp 0
    exact phase2 f a1 (by omega) 1
  have two : ∀ k s, Inv2 a b s → Phi s ≤ 190 → Inv2 a b (rounds (k + 1) s) ∧ ((rounds (k + 1) s).x.fails = true ∨ (rounds (k + 1) s).y.fails = true) := by
    intro k
    induction k with
    | zero => intro s h hp; obtain ⟨a1, _, a3⟩ := one s h hp; rw [rounds_succ, rounds_zero]; exact ⟨a1, a3⟩
    | succ k ih => intro s h hp; obtain ⟨a1, a2, _⟩ := one s h hp; rw [rounds_succ]; exact ih _ a1 (by omega)
  rw [show (6 : Nat) = 5 + 1 from rfl]
  exact two 5 s h hp
/-! The reader of a code: whatever it picks lies in bounds. -/
def RdOk (s : List Int) : Prop := s.length ≤ 2000 ∧ ∀ x ∈ s, 0 ≤ x ∧ x ≤ 255
theorem rd_range {s : List Int} (h : RdOk s) (i : Int) : 0 ≤ rd s i ∧ rd s i ≤ 255 := by
  unfold rd
  rw [List.getD_eq_getElem?_getD]
  cases e : s[i.toNat]? with
  | none => simp
  | some x => exact h.2 x (List.mem_of_getElem? e)
theorem wrap64_id {x : Int} (h : -9223372036854775808 ≤ x) (h2 : x ≤ 9223372036854775807) : wrap64 x = x := by unfold wrap64; omega
theorem xor_nonneg (a b : Int) (ha : 0 ≤ a) (ha2 : a < 9223372036854775808) (hb : 0 ≤ b) (hb2 : b < 9223372036854775808) : 0 ≤ Go.bits .xor .i64 a b := by
  obtain ⟨m, rfl⟩ := Int.eq_ofNat_of_zero_le ha
  obtain ⟨n, rfl⟩ := Int.eq_ofNat_of_zero_le hb
  have hm : m < 2 ^ 63 := by omega
  have hn : n < 2 ^ 63 := by omega
  have hx := Nat.xor_lt_two_pow hm hn
  have h1 : m % 2 ^ 64 = m := Nat.mod_eq_of_lt (by omega)
  have h2 : n % 2 ^ 64 = n := Nat.mod_eq_of_lt (by omega)
  have h3 : (BitVec.ofNat 64 m ^^^ BitVec.ofNat 64 n).toNat = m ^^^ n := by rw [BitVec.toNat_xor, BitVec.toNat_ofNat, BitVec.toNat_ofNat, h1, h2]
  have h4 : Go.bits .xor .i64 (m : Int) (n : Int) = IntKind.i64.wrap ((BitVec.ofNat 64 m ^^^ BitVec.ofNat 64 n).toNat) := rfl
  rw [h4, h3, IntKind.wrap_i64]
  omega
theorem tmod_range (a n : Int) (ha : 0 ≤ a) (hn : 0 < n) : 0 ≤ Int.tmod a n ∧ Int.tmod a n < n := by
  rw [Int.tmod_eq_emod_of_nonneg ha]
  exact ⟨Int.emod_nonneg _ (by omega), Int.emod_lt_of_pos _ hn⟩
theorem tdiv_range (a n : Int) (ha : 0 ≤ a) (hn : 0 < n) : 0 ≤ Int.tdiv a n ∧ Int.tdiv a n ≤ a := by
  rw [Int.tdiv_eq_ediv_of_nonneg ha]
  exact ⟨Int.ediv_nonneg ha (by omega), Int.ediv_le_self _ ha⟩
theorem pick_rounds (s : List Int) (hs : RdOk s) (p n : Int) (hp : 0 ≤ p) (hp2 : p ≤ 1000000) : ∃ v, (∀ k, spec_l20Rd_pick.f (k + 1) s p n = some (v, p + 1)) ∧ 0 ≤ v ∧ (v < n ∨ v = 0 ∧ n < 1) := by
  have hw : wrap64 (p + 1) = p + 1 := wrap64_id (by omega) (by omega)
  by_cases h1 : n < 1
  · exact ⟨0, fun k => by unfold spec_l20Rd_pick.f; rw [if_pos h1, hw]; simp [spec_l20Rd_pick.j0], by omega, .inr ⟨rfl, h1⟩⟩
  · by_cases h2 : (s.length : Int) = 0
    · refine ⟨0, fun k => ?_, by omega, .inl (by omega)⟩
      unfold spec_l20Rd_pick.f
      rw [if_neg h1, hw, h2]
      simp [spec_l20Rd_pick.j0]
    · have hlen := hs.1
      have hb : ((s.length : Int) == 0) = false := beq_eq_false_iff_ne.mpr h2
      have hw2 : wrap64 (p + 1 - 1) = p := by rw [wrap64_id (by omega) (by omega)]; omega
      by_cases h3 : p < (s.length : Int)
      · have hr := rd_range hs p
        have hw3 : wrap64 (rd s p) = rd s p := wrap64_id (by omega) (by omega)
        have ht := tmod_range (rd s p) n hr.1 (by omega)
        refine ⟨Int.tmod (rd s p) n, fun k => ?_, ht.1, .inl ht.2⟩
        unfold spec_l20Rd_pick.f
        rw [if_neg h1, hw, hb]
        simp only [spec_l20Rd_pick.j0, hw2, hw3]
        rw [if_neg (by decide), if_pos h3, if_pos hp, if_neg (by omega)]
      · have t1 := tmod_range p s.length hp (by omega)
        have w1 : wrap64 (p * 7) = p * 7 := wrap64_id (by omega) (by omega)
        have w2 : wrap64 (p * 7 + 3) = p * 7 + 3 := wrap64_id (by omega) (by omega)
        have t2 := tmod_range (p * 7 + 3) s.length (by omega) (by omega)
        have r1 := rd_range hs (Int.tmod p s.length)
        have r2 := rd_range hs (Int.tmod (p * 7 + 3) s.length)
        have t3 := tdiv_range p s.length hp (by omega)
        generalize e1 : rd s (Int.tmod p s.length) = a at r1
        generalize e2 : rd s (Int.tmod (p * 7 + 3) s.length) = b at r2
        generalize e3 : Int.tdiv p s.length = q at t3
        have v1 : wrap64 (wrap64 (wrap64 (wrap64 (wrap64 a * 131) + wrap64 (wrap64 b * 1117)) + wrap64 (p * 29)) + wrap64 (wrap64 q * 53)) = a * 131 + b * 1117 + p * 29 + q * 53 := by
          rw [wrap64_id (x := a) (by omega) (by omega), wrap64_id (x := b) (by omega) (by omega), wrap64_id (x := q) (by omega) (by omega), wrap64_id (x := a * 131) (by omega) (by omega), wrap64_id (x := b * 1117) (by omega) (by omega), wrap64_id (x := p * 29) (by omega) (by omega), wrap64_id (x := q * 53) (by omega) (by omega), wrap64_id (x := a * 131 + b * 1117) (by omega) (by omega), wrap64_id (x := a * 131 + b * 1117 + p * 29) (by omega) (by omega), wrap64_id (by omega) (by omega)]
        generalize e4 : a * 131 + b * 1117 + p * 29 + q * 53 = z at v1
        have hz : 0 ≤ z ∧ z ≤ 1000000000 := by omega
        have t4 := tdiv_range z 64 hz.1 (by omega)
        have v2 : wrap64 (Int.tdiv z 64) = Int.tdiv z 64 := wrap64_id (by omega) (by omega)
        have hx := xor_nonneg z (Int.tdiv z 64) hz.1 (by omega) t4.1 (by omega)
        have ht := tmod_range _ n hx (by omega)
        refine ⟨_, fun k => ?_, ht.1, .inl ht.2⟩
        unfold spec_l20Rd_pick.f
        rw [if_neg h1, hw, hb]
        simp only [spec_l20Rd_pick.j0, hw2, w1, w2, e1, e2, e3, v1, v2]
        rw [if_neg (by decide), if_neg h3, if_neg h2, if_pos t1.1, if_pos t1.2, if_pos t2.1, if_pos t2.2, if_neg (by omega)]
theorem pick_ok {s : List Int} (hs : RdOk s) {p : Int} (hp : 0 ≤ p ∧ p ≤ 1000000) (n : Int) : EvP (fun k => spec_l20Rd_pick.f k s p n) fun r => r.2 = p + 1 ∧ 0 ≤ r.1 ∧ (r.1 < n ∨ r.1 = 0 ∧ n < 1) := by
  obtain ⟨v, h1, h2⟩ := pick_rounds s hs p n hp.1 hp.2
  exact ⟨(v, p + 1), ⟨1, fun k hk => by obtain ⟨m, rfl⟩ : ∃ m, k = m + 1 := ⟨k - 1, by omega⟩; exact h1 m⟩, rfl, h2⟩
theorem open_ok (l : List Int) (hw : ∀ x ∈ l, (Lit.int .u8 x).wf = true) : ∃ s, spec_l20Open.f l = some (s, 0) ∧ RdOk s := by
  have hb : ∀ x ∈ l, 0 ≤ x ∧ x ≤ 255 := fun x hx => by
    have h := hw x hx
    simp [Lit.wf, IntKind.min, IntKind.max, IntKind.signed, IntKind.bits] at h
    omega
  unfold spec_l20Open.f
  by_cases h : (l.length : Int) > 2000
  · rw [if_pos h, if_pos (by omega)]
    exact ⟨l.take 2000, rfl, List.length_take_le _ _, fun x hx => hb x (List.mem_of_mem_take hx)⟩
  · rw [if_neg h]
    exact ⟨l, rfl, by omega, hb⟩
theorem three {v : Int} (h : 0 ≤ v) (h2 : v < 3 ∨ v = 0 ∧ (3 : Int) < 1) : v = 0 ∨ v = 1 ∨ v = 2 := by omega
theorem two {v : Int} (h : 0 ≤ v) (h2 : v < 2 ∨ v = 0 ∧ (2 : Int) < 1) : v = 0 ∨ v = 1 := by omega
theorem rd0 (a : Int) (l : List Int) : rd (a :: l) 0 = a := rfl
theorem rd1 (a b : Int) (l : List Int) : rd (a :: b :: l) 1 = b := rfl
theorem rd2 (a b c : Int) (l : List Int) : rd (a :: b :: c :: l) 2 = c := rfl
/-! Draws of the reader beyond pick. -/
theorem odd_ok {s : List Int} (hs : RdOk s) {p : Int} (hp : 0 ≤ p ∧ p ≤ 1000000) (n : Int) (hn : n ≤ 1000000) : EvP (fun k => spec_l20Rd_odd.f k s p n) fun r => p ≤ r.2 ∧ r.2 ≤ p + 1 ∧ (n ≤ 0 → r.1 = false) := by
  unfold spec_l20Rd_odd.f
  refine EvP.ite (fun h => ?_) (fun h => EvP.now _ ⟨by simp, by simp; omega, fun _ => rfl⟩)
  refine EvP.bind (pick_ok hs hp n) ?_
  rintro ⟨v, q⟩ ⟨h1, h2, h3⟩
  simp only at h1 h2 h3 ⊢
  refine EvP.now _ ⟨by simp only; omega, by simp only; omega, fun h => by omega⟩
/-! What one wants, drawn. -/
def CfgR (a b c d e : Int) : Prop := (0 ≤ a ∧ a ≤ 3) ∧ (0 ≤ b ∧ b ≤ 5) ∧ (0 ≤ c ∧ c ≤ 9) ∧ (0 ≤ d ∧ d ≤ 25) ∧ (0 ≤ e ∧ e ≤ 6)
theorem cok_iff {a b c d e : Int} : cok a b c d e = true ↔ (1 ≤ a ∧ a ≤ 2) ∧ (1 ≤ b ∧ b ≤ 4) ∧ (1 ≤ c ∧ c ≤ 8) ∧ (1 ≤ d ∧ d ≤ 24) ∧ (1 ≤ e ∧ e ≤ 5) := by
  unfold cok; rw [decide_eq_true_eq]
theorem cfg_ok {s : List Int} (hs : RdOk s) {p : Int} (hp : 0 ≤ p ∧ p ≤ 500000) (n : Int) (hn : n ≤ 1000) :
    EvP (fun k => spec_l20Cfg.f k s p n) fun r => (p ≤ r.2.2.2.2.2 ∧ r.2.2.2.2.2 ≤ p + 20) ∧ CfgR r.1 r.2.1 r.2.2.1 r.2.2.2.1 r.2.2.2.2.1 ∧ (n ≤ 0 → cok r.1 r.2.1 r.2.2.1 r.2.2.2.1 r.2.2.2.2.1 = true) := by
  unfold spec_l20Cfg.f
  refine EvP.bind (pick_ok hs (by omega) 2) ?_
  rintro ⟨v1, p1⟩ ⟨h1, h2, h3⟩
  simp only at h1 h2 h3 ⊢; subst h1
  refine EvP.bind (pick_ok hs (by omega) 4) ?_
  rintro ⟨v2, p2⟩ ⟨i1, i2, i3⟩
  simp only at i1 i2 i3 ⊢; subst i1
  refine EvP.bind (pick_ok hs (by omega) 8) ?_
  rintro ⟨v3, p3⟩ ⟨j1, j2, j3⟩
  simp only at j1 j2 j3 ⊢; subst j1
  rw [wrap64_id (x := 1 + v1) (by omega) (by omega), wrap64_id (x := 1 + v2) (by omega) (by omega), wrap64_id (x := 1 + v3) (by omega) (by omega)]
  refine EvP.some_bind (EvP.bind (pick_ok hs (by omega) 3) ?_)
  rintro ⟨v4, p4⟩ ⟨k1, k2, k3⟩
  simp only at k1 k2 k3 ⊢; subst k1
  refine EvP.pos k2 (EvP.pos (by simp; omega) ?_)
  have hm : 1 ≤ rd [1 + v3, 3, 8] v4 ∧ rd [1 + v3, 3, 8] v4 ≤ 8 := by
    rcases three k2 k3 with rfl | rfl | rfl <;> simp only [rd0, rd1, rd2] <;> omega
  generalize rd [1 + v3, 3, 8] v4 = mps at hm
  refine EvP.bind (pick_ok hs (by omega) 24) ?_
  rintro ⟨v5, p5⟩ ⟨l1, l2, l3⟩
  simp only at l1 l2 l3 ⊢; subst l1
  rw [wrap64_id (x := 1 + v5) (by omega) (by omega)]
  refine EvP.some_bind (EvP.bind (pick_ok hs (by omega) 2) ?_)
  rintro ⟨v6, p6⟩ ⟨m1, m2, m3⟩
  simp only at m1 m2 m3 ⊢; subst m1
  refine EvP.pos m2 (EvP.pos (by simp; omega) ?_)
  have ht : 1 ≤ rd [24, 1 + v5] v6 ∧ rd [24, 1 + v5] v6 ≤ 24 := by
    rcases two m2 m3 with rfl | rfl <;> simp only [rd0, rd1] <;> omega
  generalize rd [24, 1 + v5] v6 = mtu at ht
  refine EvP.bind (pick_ok hs (by omega) 5) ?_
  rintro ⟨v7, p7⟩ ⟨n1, n2, n3⟩
  simp only at n1 n2 n3 ⊢; subst n1
  rw [wrap64_id (x := 1 + v7) (by omega) (by omega)]
  refine EvP.bind (odd_ok hs (by omega) n (by omega)) ?_
  rintro ⟨o, p8⟩ ⟨o1, o2, o3⟩
  simp only at o1 o2 o3 ⊢
  have ok : cok (1 + v1) (1 + v2) mps mtu (1 + v7) = true := by rw [cok_iff]; omega
  refine EvP.ite (fun ho => ?_) (fun _ => EvP.now _ ⟨by simp only; omega, by unfold CfgR; simp only; omega, fun _ => ok⟩)
  have hn0 : ¬ n ≤ 0 := fun h => by rw [o3 h] at ho; cases ho
  refine EvP.bind (pick_ok hs (by omega) 5) ?_
  rintro ⟨v8, p9⟩ ⟨q1, q2, q3⟩
  simp only at q1 q2 q3 ⊢; subst q1
  refine EvP.ite (fun _ => ?_) (fun _ => EvP.ite (fun _ => ?_) (fun _ => EvP.ite (fun _ => ?_) (fun _ => EvP.ite (fun _ => ?_) (fun _ => ?_))))
  all_goals
    refine EvP.some_bind (EvP.bind (pick_ok hs (by omega) 2) ?_)
    rintro ⟨v9, p10⟩ ⟨s1, s2, s3⟩
    simp only at s1 s2 s3 ⊢; subst s1
    refine EvP.pos s2 (EvP.pos (by simp; omega) ?_)
    rcases two s2 s3 with rfl | rfl <;> exact EvP.now _ ⟨by simp only; omega, by unfold CfgR; simp only [rd0, rd1]; omega, fun h => absurd h hn0⟩
/-! What two want, and what happens, drawn. -/
def Play (r : Int × Int × Int × Int × Int × Int × Int × Int × Int × Int × List Int) : Prop :=
  cok r.1 r.2.1 r.2.2.1 r.2.2.2.1 r.2.2.2.2.1 = true ∧ cok r.2.2.2.2.2.1 r.2.2.2.2.2.2.1 r.2.2.2.2.2.2.2.1 r.2.2.2.2.2.2.2.2.1 r.2.2.2.2.2.2.2.2.2.1 = true ∧ r.2.2.2.2.2.2.2.2.2.2.length ≤ 49 ∧ ∀ v ∈ r.2.2.2.2.2.2.2.2.2.2, 0 ≤ v ∧ v ≤ 11
theorem playL_ok {s : List Int} (hs : RdOk s) (a0 a1 a2 a3 a4 b0 b1 b2 b3 b4 : Int) (ha : cok a0 a1 a2 a3 a4 = true) (hb : cok b0 b1 b2 b3 b4 = true) :
    ∀ (N : Nat) (v p : Int) (l : List Int), v ≤ N → 0 ≤ p → p + 2 * N ≤ 400000 → l.length + N ≤ 49 → (∀ x ∈ l, 0 ≤ x ∧ x ≤ 11) → EvP (fun k => spec_DrawNegPlay.l0 k l v s p a0 a1 a2 a3 a4 b0 b1 b2 b3 b4) Play := by
  intro N
  induction N with
  | zero =>
    intro v p l hv hp hq hl hx
    refine EvP.up ?_
    simp only [spec_DrawNegPlay.l0]
    exact EvP.neg (by omega) (EvP.now _ ⟨ha, hb, by simp only; omega, hx⟩)
  | succ N ih =>
    intro v p l hv hp hq hl hx
    refine EvP.up ?_
    simp only [spec_DrawNegPlay.l0]
    refine EvP.ite (fun h => ?_) (fun _ => EvP.now _ ⟨ha, hb, by simp only; omega, hx⟩)
    refine EvP.bind (pick_ok hs (by omega) 12) ?_
    rintro ⟨u, q⟩ ⟨h1, h2, h3⟩
    simp only at h1 h2 h3 ⊢; subst h1
    refine EvP.pos (by omega) ?_
    rw [wrap64_id (x := v - 1) (by omega) (by omega)]
    refine ih (v - 1) (p + 1) _ (by omega) (by omega) (by omega) (by simp only [List.length_append, List.length_cons, List.length_nil]; omega) ?_
    intro x hx2
    rcases List.mem_append.1 hx2 with hx2 | hx2
    · exact hx x hx2
    · rw [List.mem_singleton.1 hx2]; omega
theorem drawPlay_ok (l : List Int) (hw : ∀ x ∈ l, (Lit.int .u8 x).wf = true) : EvP (fun k => spec_DrawNegPlay.f k l) Play := by
  obtain ⟨s, hs, ok⟩ := open_ok l hw
  unfold spec_DrawNegPlay.f
  refine EvP.val_bind hs ?_
  refine EvP.bind (cfg_ok ok (by simp) 0 (by omega)) ?_
  rintro ⟨a0, a1, a2, a3, a4, p⟩ ⟨⟨h1, h2⟩, _, h3⟩
  simp only at h1 h2 h3 ⊢
  refine EvP.bind (cfg_ok ok (by omega) 0 (by omega)) ?_
  rintro ⟨b0, b1, b2, b3, b4, p'⟩ ⟨⟨i1, i2⟩, _, i3⟩
  simp only at i1 i2 i3 ⊢
  refine EvP.bind (pick_ok ok (by omega) 5) ?_
  rintro ⟨v, q⟩ ⟨j1, j2, j3⟩
  simp only at j1 j2 j3 ⊢
  have ha := h3 (by omega)
  have hb := i3 (by omega)
  have tl : ∀ c0 : Int, cok c0 b1 b2 b3 b4 = true → EvP (fun k => spec_DrawNegPlay.j0 k s q a0 a1 a2 a3 a4 c0 b1 b2 b3 b4) Play := by
    intro c0 hc
    refine EvP.up ?_
    simp only [spec_DrawNegPlay.j0]
    refine EvP.bind (pick_ok ok (by omega) 50) ?_
    rintro ⟨u, q2⟩ ⟨k1, k2, k3⟩
    simp only at k1 k2 k3 ⊢
    exact playL_ok ok a0 a1 a2 a3 a4 c0 b1 b2 b3 b4 ha hc 49 u q2 [] (by omega) (by omega) (by omega) (by simp) (by simp)
  refine EvP.ite (fun _ => tl _ ?_) (fun _ => tl _ hb)
  have g1 := cok_iff.1 ha
  have g2 := cok_iff.1 hb
  rw [cok_iff]
  omega
theorem liOk_true : laws_liOk.f = some true := by
  unfold laws_liOk.f impl_CfgOk.f impl_in.f
  decide
def playF : List Int → Sy → Sy
  | [], s => s
  | v :: r, s => playF r (doo s (v % 2) (v / 2))
def newN (a : Cf) : Ng := ⟨a, a, cz, cz, false⟩
theorem new_val {a b c d e : Int} (h : cok a b c d e = true) : impl_NegNew.f a b c d e = some (a, b, c, d, e, a, b, c, d, e, 0, 0, 0, 0, 0, 0, 0, 0, 0, 0, false) := by
  unfold impl_NegNew.f; rw [cfgOk_val, h]; rfl
def doneV (x : Ng) : Int × Int × Int × Int × Int × Bool := if x.ok = true then (if x.fails = true then (0, 0, 0, 0, 0, false) else meetV x.mine.m x.mine.w x.mine.p x.mine.t x.mine.y x.yours.m x.yours.w x.yours.p x.yours.t x.yours.y) else (0, 0, 0, 0, 0, false)
theorem done_f (x : Ng) : impl_NegDone.f x.own.m x.own.w x.own.p x.own.t x.own.y x.asks.m x.asks.w x.asks.p x.asks.t x.asks.y x.mine.m x.mine.w x.mine.p x.mine.t x.mine.y x.yours.m x.yours.w x.yours.p x.yours.t x.yours.y x.fails = some (doneV x) := by
  unfold impl_NegDone.f doneV Ng.ok
  rw [negOk_val, meet_val]
  simp only [Option.bind_some]
  split
  · split
    · rfl
    · rfl
  · rfl
theorem ok_f (x : Ng) : impl_NegOk.f x.own.m x.own.w x.own.p x.own.t x.own.y x.asks.m x.asks.w x.asks.p x.asks.t x.asks.y x.mine.m x.mine.w x.mine.p x.mine.t x.mine.y x.yours.m x.yours.w x.yours.p x.yours.t x.yours.y x.fails = some x.ok := negOk_val ..
theorem meet_fit {a b M : Cf} (f : Fit a b M) : meetV a.m a.w a.p a.t a.y b.m b.w b.p b.t b.y = (M.m, M.w, M.p, M.t, M.y, true) := by
  unfold meetV
  rw [if_pos ⟨f.oka, f.okb, f.ma.symm.trans f.mb⟩, ← f.la]; rfl
theorem meet_no {a b : Cf} (h : ¬ (a.ok = true ∧ b.ok = true ∧ a.m = b.m)) : meetV a.m a.w a.p a.t a.y b.m b.w b.p b.t b.y = (0, 0, 0, 0, 0, false) := by
  exact if_neg h
theorem cz_ok : ¬ cz.ok = true := by decide
theorem done_yes {a b M : Cf} (f : Fit a b M) {x : Ng} (s : Side a M x) (h1 : x.mine = M) (h2 : x.yours = M) : doneV x = (M.m, M.w, M.p, M.t, M.y, true) := by
  have fM : Fit M M M := ⟨f.okM, f.okM, f.okM, rfl, rfl, f.MM, f.MM, f.MM, f.MM, f.MM⟩
  unfold doneV
  rw [if_pos (s.ok f), s.fails, if_neg (by simp), h1, h2]
  exact meet_fit fM
theorem done_or {a b M : Cf} (f : Fit a b M) {x : Ng} (s : Side a M x) : doneV x = (M.m, M.w, M.p, M.t, M.y, true) ∨ doneV x = (0, 0, 0, 0, 0, false) := by
  rcases s.mine with h | ⟨h, _⟩
  · right
    unfold doneV
    rw [if_pos (s.ok f), s.fails, if_neg (by simp)]
    exact meet_no (fun c => cz_ok (h ▸ c.1))
  · rcases s.yours with h2 | h2
    · right
      unfold doneV
      rw [if_pos (s.ok f), s.fails, if_neg (by simp)]
      exact meet_no (fun c => cz_ok (h2 ▸ c.2.1))
    · exact .inl (done_yes f s h h2)
theorem done_no {a b : Cf} (f : Two a b) {x : Ng} (s : Sid2 a x) : doneV x = (0, 0, 0, 0, 0, false) := by
  unfold doneV
  split
  · split
    · rfl
    · exact meet_no (fun c => cz_ok (s.mine ▸ c.1))
  · rfl
theorem play_inv {a b M : Cf} (f : Fit a b M) : ∀ (l : List Int) (s : Sy), Inv a b M s → Inv a b M (playF l s) ∧ Phi (playF l s) ≤ Phi s + 2 * l.length
  | [], s, h => ⟨h, by simp [playF]⟩
  | v :: r, s, h => by
    have h1 := h.stp f (v % 2) (v / 2)
    have h2 := h.phi f (v % 2) (v / 2)
    obtain ⟨h3, h4⟩ := play_inv f r _ h1
    unfold playF
    refine ⟨h3, ?_⟩
    rw [List.length_cons]
    omega
theorem play_inv2 {a b : Cf} (f : Two a b) : ∀ (l : List Int) (s : Sy), Inv2 a b s → Inv2 a b (playF l s) ∧ Phi (playF l s) ≤ Phi s + 2 * l.length
  | [], s, h => ⟨h, by simp [playF]⟩
  | v :: r, s, h => by
    have h1 := h.stp f (v % 2) (v / 2)
    have h2 := h.phi f (v % 2) (v / 2)
    obtain ⟨h3, h4⟩ := play_inv2 f r _ h1
    unfold playF
    refine ⟨h3, ?_⟩
    rw [List.length_cons]
    omega
def begS (a b : Cf) : Sy := ⟨newN a, newN b, [], []⟩
theorem start_inv {a b M : Cf} (f : Fit a b M) : Inv a b M (begS a b) := by
  have nomine : ∀ {p : Prop}, cz = M ∨ (⟨2, M⟩ : Ms) ∈ ([] : List Ms) → p := fun h => h.elim (fun h => absurd h.symm (ok_nez f.okM)) (fun h => absurd h List.not_mem_nil)
  exact ⟨⟨rfl, rfl, .inl rfl, .inl rfl, .inl rfl⟩, ⟨rfl, rfl, .inl rfl, .inl rfl, .inl rfl⟩, fun m hm => absurd hm List.not_mem_nil, fun m hm => absurd hm List.not_mem_nil, nomine, nomine⟩
theorem start_inv2 (a b : Cf) : Inv2 a b (begS a b) := ⟨⟨rfl, rfl, rfl, rfl⟩, ⟨rfl, rfl, rfl, rfl⟩, fun m hm => absurd hm List.not_mem_nil, fun m hm => absurd hm List.not_mem_nil⟩
theorem Phi_start (a b : Cf) : Phi (begS a b) = 0 := rfl
/-- Who is done uses what both meet at. -/
structure SameP (a b : Cf) (s : Sy) : Prop where
  okx : s.x.ok = true
  oky : s.y.ok = true
  x : doneV s.x = meetV a.m a.w a.p a.t a.y b.m b.w b.p b.t b.y ∧ (doneV s.x).2.2.2.2.2 = true ∨ doneV s.x = (0, 0, 0, 0, 0, false)
  y : doneV s.y = meetV a.m a.w a.p a.t a.y b.m b.w b.p b.t b.y ∧ (doneV s.y).2.2.2.2.2 = true ∨ doneV s.y = (0, 0, 0, 0, 0, false)
theorem same_fit {a b M : Cf} (f : Fit a b M) {s : Sy} (h : Inv a b M s) : SameP a b s := by
  refine ⟨h.sx.ok f, h.sy.ok f.sw, ?_, ?_⟩
  · rcases done_or f h.sx with e | e
    · left; rw [e, meet_fit f]; exact ⟨rfl, rfl⟩
    · right; exact e
  · rcases done_or f.sw h.sy with e | e
    · left; rw [e, meet_fit f]; exact ⟨rfl, rfl⟩
    · right; exact e
theorem same_two {a b : Cf} (f : Two a b) {s : Sy} (h : Inv2 a b s) : SameP a b s := ⟨h.sx.ok f, h.sy.ok f.sw, .inr (done_no f h.sx), .inr (done_no f.sw h.sy)⟩
theorem same_play {a b : Cf} (ha : a.ok = true) (hb : b.ok = true) (l : List Int) : SameP a b (playF l (begS a b)) := by
  by_cases h : a.m = b.m
  · have f := Fit.mk' ha hb h
    exact same_fit f (play_inv f l _ (start_inv f)).1
  · have f : Two a b := ⟨ha, hb, h⟩
    exact same_two f (play_inv2 f l _ (start_inv2 a b)).1
/-- Behind six rounds both are done; or nothing comes of it. -/
def ComesP (a b : Cf) (s : Sy) : Prop := (a.m = b.m ∧ (doneV s.x).2.2.2.2.2 = true ∧ (doneV s.y).2.2.2.2.2 = true) ∨ (a.m ≠ b.m ∧ (doneV s.x).2.2.2.2.2 = false ∧ (doneV s.y).2.2.2.2.2 = false ∧ (s.x.fails = true ∨ s.y.fails = true))
theorem comes_play {a b : Cf} (ha : a.ok = true) (hb : b.ok = true) (l : List Int) (hl : l.length ≤ 49) : ComesP a b (rounds 6 (playF l (begS a b))) := by
  by_cases h : a.m = b.m
  · have f := Fit.mk' ha hb h
    obtain ⟨h1, h2⟩ := play_inv f l _ (start_inv f)
    rw [Phi_start] at h2
    obtain ⟨h3, h4, h5⟩ := comes f h1 (by omega)
    refine .inl ⟨h, ?_, ?_⟩
    · rw [done_yes f h3.sx h4 (h3.dy (.inl h5))]
    · rw [done_yes f.sw h3.sy h5 (h3.dx (.inl h4))]
  · have f : Two a b := ⟨ha, hb, h⟩
    obtain ⟨h1, h2⟩ := play_inv2 f l _ (start_inv2 a b)
    rw [Phi_start] at h2
    obtain ⟨h3, h4⟩ := comes2 f h1 (by omega)
    refine .inr ⟨h, ?_, ?_, h4⟩
    · rw [done_no f h3.sx]
    · rw [done_no f.sw h3.sy]

end Go.Proofs.Ytoigmeiollfklaa.Pure
