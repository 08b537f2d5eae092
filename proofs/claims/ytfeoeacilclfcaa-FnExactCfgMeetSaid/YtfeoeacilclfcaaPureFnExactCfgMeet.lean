/- The law FnExactCfgMeet: CfgMeet of the program is that of the reference, for every two. No condition. -/
import Derived.Test.YtfeoeacilclfcaaOpenFnExactCfgMeet
namespace Go.Proofs.Ytfeoeacilclfcaa.Pure
open Go.RowKit Go.Proofs.Ytfeoeacilclfcaa.QFnExactCfgMeet Go.Proofs.YtfeoeacilclfcaaW.PrintWords Go.Proofs.YtfeoeacilclfcaaW.PrintLast Go.Proofs.YtfeoeacilclfcaaW.PrintMore

/-! A small calculus: with enough rounds g comes to something of which Q holds. -/
def EvP {α : Type} (g : Nat → Option α) (Q : α → Prop) : Prop := ∃ r, Ev g r ∧ Q r
theorem EvP.now {α : Type} {Q : α → Prop} (r : α) (h : Q r) : EvP (fun _ => some r) Q := ⟨r, Ev.now r, h⟩
theorem EvP.here {α : Type} {o : Option α} {Q : α → Prop} (r : α) (e : o = some r) (h : Q r) : EvP (fun _ => o) Q := by subst e; exact EvP.now r h
theorem EvP.of {α : Type} {g : Nat → Option α} {Q : α → Prop} (K : Nat) (h : ∃ r, (∀ k, K ≤ k → g k = some r) ∧ Q r) : EvP g Q := by
  obtain ⟨r, h1, h2⟩ := h
  exact ⟨r, ⟨K, h1⟩, h2⟩
theorem EvP.bind {α β : Type} {g : Nat → Option α} {f : Nat → α → Option β} {P : α → Prop} {Q : β → Prop} (h : EvP g P) (k : ∀ a, P a → EvP (fun n => f n a) Q) : EvP (fun n => (g n).bind (f n)) Q := by
  obtain ⟨a, ha, hp⟩ := h
  obtain ⟨r, hr, hq⟩ := k a hp
  exact ⟨r, Ev.bind ha hr, hq⟩
theorem EvP.some_bind {α β : Type} {a : α} {f : Nat → α → Option β} {Q : β → Prop} (k : EvP (fun n => f n a) Q) : EvP (fun n => (some a).bind (f n)) Q := k
theorem EvP.step {α : Type} {g f : Nat → Option α} {Q : α → Prop} (h : ∀ k, g (k + 1) = f k) (k : EvP f Q) : EvP g Q := by
  obtain ⟨r, hr, hq⟩ := k
  exact ⟨r, Ev.step h hr, hq⟩
theorem EvP.congr {α : Type} {g f : Nat → Option α} {Q : α → Prop} (h : ∀ k, g k = f k) (k : EvP f Q) : EvP g Q := by
  obtain ⟨r, hr, hq⟩ := k
  exact ⟨r, Ev.congr h hr, hq⟩
theorem EvP.mono {α : Type} {g : Nat → Option α} {P Q : α → Prop} (h : EvP g P) (k : ∀ a, P a → Q a) : EvP g Q := by
  obtain ⟨r, hr, hp⟩ := h
  exact ⟨r, hr, k r hp⟩
theorem EvP.ite {α : Type} {c : Prop} [Decidable c] {f g : Nat → Option α} {Q : α → Prop} (h1 : c → EvP f Q) (h2 : ¬ c → EvP g Q) : EvP (fun k => if c then f k else g k) Q := by
  by_cases hc : c
  · simp only [if_pos hc]; exact h1 hc
  · simp only [if_neg hc]; exact h2 hc
theorem EvP.pos {α : Type} {c : Prop} [Decidable c] {f g : Nat → Option α} {Q : α → Prop} (hc : c) (h : EvP f Q) : EvP (fun k => if c then f k else g k) Q := by
  simp only [if_pos hc]; exact h
theorem EvP.neg {α : Type} {c : Prop} [Decidable c] {f g : Nat → Option α} {Q : α → Prop} (hc : ¬ c) (h : EvP g Q) : EvP (fun k => if c then f k else g k) Q := by
  simp only [if_neg hc]; exact h
theorem EvP.rounds {α : Type} {g : Nat → Option α} {r : α} (h : EvP g (· = r)) : ∃ k, g k = some r := by
  obtain ⟨q, hq, rfl⟩ := h
  exact hq.rounds
theorem EvP.up {α : Type} {g : Nat → Option α} {Q : α → Prop} (h : EvP (fun k => g (k + 1)) Q) : EvP g Q := EvP.step (fun _ => rfl) h
theorem EvP.val_bind {α β : Type} {o : Option α} {a : α} {f : Nat → α → Option β} {Q : β → Prop} (e : o = some a) (k : EvP (fun n => f n a) Q) : EvP (fun n => o.bind (f n)) Q := by subst e; exact k
theorem in_val (a lo hi : Int) : impl_in.f a lo hi = some (decide (lo ≤ a ∧ a ≤ hi)) := by
  unfold impl_in.f
  by_cases h : a ≥ lo
  · rw [if_pos h]; simp only [Option.some.injEq, decide_eq_decide]; omega
  · rw [if_neg h]; simp only [Option.some.injEq]; exact (decide_eq_false (by omega)).symm
theorem l1In_val (a lo hi : Int) : spec_l1In.f a lo hi = some (decide (lo ≤ a ∧ a ≤ hi)) := in_val a lo hi
def cok (a b c d e : Int) : Bool := decide ((1 ≤ a ∧ a ≤ 2) ∧ (1 ≤ b ∧ b ≤ 4) ∧ (1 ≤ c ∧ c ≤ 8) ∧ (1 ≤ d ∧ d ≤ 24) ∧ (1 ≤ e ∧ e ≤ 5))
theorem cfgOk_val (a b c d e : Int) : impl_CfgOk.f a b c d e = some (cok a b c d e) := by
  unfold impl_CfgOk.f cok
  rw [in_val, in_val, in_val, in_val, in_val]
  simp only [Option.bind_some, decide_eq_true_eq]
  by_cases h1 : 1 ≤ a ∧ a ≤ 2
  · rw [if_pos h1]
    by_cases h2 : 1 ≤ b ∧ b ≤ 4
    · rw [if_pos h2]
      by_cases h3 : 1 ≤ c ∧ c ≤ 8
      · rw [if_pos h3]
        by_cases h4 : 1 ≤ d ∧ d ≤ 24
        · rw [if_pos h4]; simp only [Option.some.injEq, decide_eq_decide]; exact ⟨fun h => ⟨h1, h2, h3, h4, h⟩, fun h => h.2.2.2.2⟩
        · rw [if_neg h4]; exact congrArg some (decide_eq_false (fun h => h4 h.2.2.2.1)).symm
      · rw [if_neg h3]; exact congrArg some (decide_eq_false (fun h => h3 h.2.2.1)).symm
    · rw [if_neg h2]; exact congrArg some (decide_eq_false (fun h => h2 h.2.1)).symm
  · rw [if_neg h1]; exact congrArg some (decide_eq_false (fun h => h1 h.1)).symm
theorem cfgOk_same (a b c d e : Int) : spec_CfgOk.f a b c d e = some (cok a b c d e) := cfgOk_val a b c d e
/-! What two meet at. -/
def meetV (a b c d e a' b' c' d' e' : Int) : Int × Int × Int × Int × Int × Bool := if cok a b c d e = true ∧ cok a' b' c' d' e' = true ∧ a = a' then (a, mn b b', mn c c', mn d d', mn e e', true) else (0, 0, 0, 0, 0, false)
theorem mn_val (a b : Int) : mn a b = min a b := by unfold mn; omega
theorem cok_iff' {a b c d e : Int} : cok a b c d e = true ↔ (1 ≤ a ∧ a ≤ 2) ∧ (1 ≤ b ∧ b ≤ 4) ∧ (1 ≤ c ∧ c ≤ 8) ∧ (1 ≤ d ∧ d ≤ 24) ∧ (1 ≤ e ∧ e ≤ 5) := by
  unfold cok; rw [decide_eq_true_eq]
theorem meet_val (a b c d e a' b' c' d' e' : Int) : impl_CfgMeet.f a b c d e a' b' c' d' e' = some (meetV a b c d e a' b' c' d' e') := by
  unfold impl_CfgMeet.f meetV
  rw [cfgOk_val, cfgOk_val]
  simp only [Option.bind_some]
  by_cases h1 : cok a b c d e = true
  · rw [if_pos h1]
    by_cases h2 : cok a' b' c' d' e' = true
    · rw [if_pos h2]
      by_cases h3 : a = a'
      · rw [if_pos h3, if_pos ⟨h1, h2, h3⟩]
      · rw [if_neg h3, if_neg (fun h => h3 h.2.2)]
    · rw [if_neg h2, if_neg (fun h => h2 h.2.1)]
  · rw [if_neg h1, if_neg (fun h => h1 h.1)]
theorem meet_same (a b c d e a' b' c' d' e' : Int) : spec_CfgMeet.f a b c d e a' b' c' d' e' = some (meetV a b c d e a' b' c' d' e') := by
  have h : spec_CfgMeet.f a b c d e a' b' c' d' e' = impl_CfgMeet.f a b c d e a' b' c' d' e' := by
    unfold spec_CfgMeet.f impl_CfgMeet.f spec_l5Least.f
    rw [cfgOk_val, cfgOk_val, cfgOk_same, cfgOk_same]
    rfl
  rw [h, meet_val]
theorem eqCfg_refl (a b c d e : Int) : laws_eqCfgOpts.f a b c d e a b c d e = some true := by unfold laws_eqCfgOpts.f; simp
theorem FnExactCfgMeet : ∀ (a0_0 : Int) (a0_1 : Int) (a0_2 : Int) (a0_3 : Int) (a0_4 : Int) (a1_0 : Int) (a1_1 : Int) (a1_2 : Int) (a1_3 : Int) (a1_4 : Int), (Lit.int .i64 a0_0).wf = true → (Lit.int .i64 a0_1).wf = true → (Lit.int .i64 a0_2).wf = true → (Lit.int .i64 a0_3).wf = true → (Lit.int .i64 a0_4).wf = true → (Lit.int .i64 a1_0).wf = true → (Lit.int .i64 a1_1).wf = true → (Lit.int .i64 a1_2).wf = true → (Lit.int .i64 a1_3).wf = true → (Lit.int .i64 a1_4).wf = true → laws_FnExactCfgMeet.f a0_0 a0_1 a0_2 a0_3 a0_4 a1_0 a1_1 a1_2 a1_3 a1_4 = some true := by
  intro a b c d e a' b' c' d' e' _ _ _ _ _ _ _ _ _ _
  unfold laws_FnExactCfgMeet.f laws_toCfgOpts.f
  simp only [Option.bind_some, meet_same, meet_val, eqCfg_refl, if_true, bne_self_eq_false, Bool.false_eq_true, if_false]

end Go.Proofs.Ytfeoeacilclfcaa.Pure
