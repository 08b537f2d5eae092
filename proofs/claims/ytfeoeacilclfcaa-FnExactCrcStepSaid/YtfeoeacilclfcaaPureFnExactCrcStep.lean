/- The law FnExactCrcStep: CrcStep of the program is that of the reference, for every int and every byte. No condition. -/
import Derived.Test.YtfeoeacilclfcaaPFnExactCrcStepx1
namespace Go.Proofs.Ytfeoeacilclfcaa.Pure
open Go.RowKit Go.Proofs.Ytfeoeacilclfcaa.PFnExactCrcStep Go.Proofs.YtfeoeacilclfcaaW.PrintWords Go.Proofs.YtfeoeacilclfcaaW.PrintLast Go.Proofs.YtfeoeacilclfcaaW.PrintMore

/-! A small calculus: with enough rounds g comes to something of which Q holds. -/
def EvP {α : Type} (g : Nat → Option α) (Q : α → Prop) : Prop := ∃ r, Ev g r ∧ Q r
theorem EvP.now {α : Type} {Q : α → Prop} (r : α) (h : Q r) : EvP (fun _ => some r) Q := ⟨r, Ev.now r, h⟩
theorem EvP.here {α : Type} {o : Option α} {Q : α → Prop} (r : α) (e : o = some r) (h : Q r) : EvP (fun _ => o) Q := by subst e; exact EvP.now r h
theorem EvP.of {α : Type} {g : Nat → Option α} {Q : α → Prop} (K : Nat) (h : ∃ r, (∀ k, K ≤ k → g k = some r) ∧ Q r) : EvP g Q := by
  obtain ⟨r, h1, h2⟩ := h
  exact ⟨r, ⟨K, h1⟩, h2⟩
theorem EvP.bind {α β : Type} {g : Nat → Option α} {f : Nat → α → Option β} {P : α → Prop} {Q : β → Prop} (h : EvP g P) (k : ∀ a, P a → EvP (fun n => f n a) Q) : EvP (fun n => (g n).bind (f n)) Q := by
  obtain ⟨a, ha, hp⟩ := h
  obtain ⟨r, hr, hq⟩ := k a hp
  exact ⟨r, Ev.bind ha hr, hq⟩
theorem EvP.some_bind {α β : Type} {a : α} {f : Nat → α → Option β} {Q : β → Prop} (k : EvP (fun n => f n a) Q) : EvP (fun n => (some a).bind (f n)) Q := k
theorem EvP.step {α : Type} {g f : Nat → Option α} {Q : α → Prop} (h : ∀ k, g (k + 1) = f k) (k : EvP f Q) : EvP g Q := by
  obtain ⟨r, hr, hq⟩ := k
  exact ⟨r, Ev.step h hr, hq⟩
theorem EvP.congr {α : Type} {g f : Nat → Option α} {Q : α → Prop} (h : ∀ k, g k = f k) (k : EvP f Q) : EvP g Q := by
  obtain ⟨r, hr, hq⟩ := k
  exact ⟨r, Ev.congr h hr, hq⟩
theorem EvP.mono {α : Type} {g : Nat → Option α} {P Q : α → Prop} (h : EvP g P) (k : ∀ a, P a → Q a) : EvP g Q := by
  obtain ⟨r, hr, hp⟩ := h
  exact ⟨r, hr, k r hp⟩
theorem EvP.ite {α : Type} {c : Prop} [Decidable c] {f g : Nat → Option α} {Q : α → Prop} (h1 : c → EvP f Q) (h2 : ¬ c → EvP g Q) : EvP (fun k => if c then f k else g k) Q := by
  by_cases hc : c
  · simp only [if_pos hc]; exact h1 hc
  · simp only [if_neg hc]; exact h2 hc
theorem EvP.pos {α : Type} {c : Prop} [Decidable c] {f g : Nat → Option α} {Q : α → Prop} (hc : c) (h : EvP f Q) : EvP (fun k => if c then f k else g k) Q := by
  simp only [if_pos hc]; exact h
theorem EvP.neg {α : Type} {c : Prop} [Decidable c] {f g : Nat → Option α} {Q : α → Prop} (hc : ¬ c) (h : EvP g Q) : EvP (fun k => if c then f k else g k) Q := by
  simp only [if_neg hc]; exact h
theorem EvP.rounds {α : Type} {g : Nat → Option α} {r : α} (h : EvP g (· = r)) : ∃ k, g k = some r := by
  obtain ⟨q, hq, rfl⟩ := h
  exact hq.rounds
theorem EvP.up {α : Type} {g : Nat → Option α} {Q : α → Prop} (h : EvP (fun k => g (k + 1)) Q) : EvP g Q := EvP.step (fun _ => rfl) h
theorem EvP.val_bind {α β : Type} {o : Option α} {a : α} {f : Nat → α → Option β} {Q : β → Prop} (e : o = some a) (k : EvP (fun n => f n a) Q) : EvP (fun n => o.bind (f n)) Q := by subst e; exact k
theorem wrap64_id {x : Int} (h : -9223372036854775808 ≤ x) (h2 : x ≤ 9223372036854775807) : wrap64 x = x := by unfold wrap64; omega
theorem xor16 (a b : Int) (ha : 0 ≤ a ∧ a < 65536) (hb : 0 ≤ b ∧ b < 65536) : 0 ≤ Go.bits .xor .i64 a b ∧ Go.bits .xor .i64 a b < 65536 := by
  obtain ⟨m, rfl⟩ := Int.eq_ofNat_of_zero_le ha.1
  obtain ⟨n, rfl⟩ := Int.eq_ofNat_of_zero_le hb.1
  have hm : m < 2 ^ 16 := by omega
  have hn : n < 2 ^ 16 := by omega
  have hx := Nat.xor_lt_two_pow hm hn
  have h1 : m % 2 ^ 64 = m := Nat.mod_eq_of_lt (by omega)
  have h2 : n % 2 ^ 64 = n := Nat.mod_eq_of_lt (by omega)
  have h3 : (BitVec.ofNat 64 m ^^^ BitVec.ofNat 64 n).toNat = m ^^^ n := by rw [BitVec.toNat_xor, BitVec.toNat_ofNat, BitVec.toNat_ofNat, h1, h2]
  have h4 : Go.bits .xor .i64 (m : Int) (n : Int) = IntKind.i64.wrap ((BitVec.ofNat 64 m ^^^ BitVec.ofNat 64 n).toNat) := rfl
  rw [h4, h3, IntKind.wrap_i64]
  omega
theorem and1 (a : Int) (ha : 0 ≤ a ∧ a < 65536) : Go.bits .and .i64 a 1 = a % 2 := by
  have h := bits_mask .i64 16 (by decide) (fun n h0 h1 => by rw [IntKind.wrap_i64]; omega) 1 (by decide) a ha.1 (by omega)
  simpa using h
theorem step_round (k : Nat) : ∀ (x i : Int), 0 ≤ x ∧ x < 65536 → spec_CrcStep.l0 k x i = impl_step.l0 k x i := by
  induction k with
  | zero => intro x i _; rfl
  | succ k ih =>
    intro x i hx
    simp only [spec_CrcStep.l0, impl_step.l0]
    have h1 : Int.tmod x 2 = x % 2 := Int.tmod_eq_emod_of_nonneg hx.1
    have h2 : Int.tdiv x 2 = x / 2 := Int.tdiv_eq_ediv_of_nonneg hx.1
    rw [and1 x hx, h1, h2, wrap64_id (x := x / 2) (by omega) (by omega)]
    rw [ih (x / 2) _ (by omega), ih _ _ (xor16 (x / 2) 40961 (by omega) (by omega))]
theorem step_ends (d : Nat) : ∀ (x i : Int), (0 ≤ x ∧ x < 65536) → 0 ≤ i → i ≤ 8 → 8 - i = d → EvP (fun k => impl_step.l0 k x i) (fun r => 0 ≤ r ∧ r < 65536) := by
  induction d with
  | zero =>
    intro x i hx h0 h1 hd
    refine EvP.up ?_
    simp only [impl_step.l0]
    exact EvP.neg (by omega) (EvP.now _ hx)
  | succ d ih =>
    intro x i hx h0 h1 hd
    refine EvP.up ?_
    simp only [impl_step.l0]
    refine EvP.pos (by omega) ?_
    rw [wrap64_id (x := i + 1) (by omega) (by omega)]
    refine EvP.ite (fun _ => ih _ (i + 1) (xor16 (x / 2) 40961 (by omega) (by omega)) (by omega) (by omega) (by omega)) (fun _ => ih _ (i + 1) (by omega) (by omega) (by omega) (by omega))
theorem u8_range {b : Int} (h : (Lit.int .u8 b).wf = true) : 0 ≤ b ∧ b ≤ 255 := by
  simp [Lit.wf, IntKind.min, IntKind.max, IntKind.signed, IntKind.bits] at h
  omega
theorem step_ok (x b : Int) (hx : 0 ≤ x ∧ x < 65536) (hb : 0 ≤ b ∧ b ≤ 255) : EvP (fun k => impl_step.f k x b) (fun r => 0 ≤ r ∧ r < 65536) := by
  unfold impl_step.f
  rw [wrap64_id (x := b) (by omega) (by omega)]
  exact step_ends 8 _ 0 (xor16 x b hx (by omega)) (by omega) (by omega) (by omega)
theorem step_same (k : Nat) (x b : Int) (hx : 0 ≤ x ∧ x < 65536) (hb : 0 ≤ b ∧ b ≤ 255) : spec_CrcStep.f k x b = impl_step.f k x b := by
  unfold impl_step.f spec_CrcStep.f spec_l1In.f
  rw [if_pos hx.1, decide_eq_true (show x ≤ 65535 by omega), Option.bind_some, if_pos rfl, wrap64_id (x := b) (by omega) (by omega)]
  exact step_round k _ 0 (xor16 x b hx (by omega))

theorem FnExactCrcStep : laws_FnExactCrcStep.Pure := by
  intro a0 a1 _ h1
  have hb := u8_range h1
  refine EvP.rounds ?_
  unfold laws_FnExactCrcStep.f
  by_cases hx : 0 ≤ a0 ∧ a0 < 65536
  · obtain ⟨r, hr, _⟩ := step_ok a0 a1 hx hb
    have h2 : Ev (fun k => impl_CrcStep.f k a0 a1) r := by
      refine Ev.congr (f := fun k => impl_step.f k a0 a1) (fun k => ?_) hr
      unfold impl_CrcStep.f impl_in.f
      rw [if_pos hx.1, decide_eq_true (show a0 ≤ 65535 by omega), Option.bind_some, if_pos rfl]
      simp
    have h3 : Ev (fun k => spec_CrcStep.f k a0 a1) r := Ev.congr (fun k => step_same k a0 a1 hx hb) hr
    refine EvP.bind ⟨r, h3, rfl⟩ ?_
    rintro _ rfl
    refine EvP.bind ⟨r, h2, rfl⟩ ?_
    rintro _ rfl
    exact EvP.pos rfl (EvP.now _ rfl)
  · have e1 : ∀ k, spec_CrcStep.f k a0 a1 = some (-1) := fun k => by
      unfold spec_CrcStep.f spec_l1In.f
      by_cases c : a0 ≥ 0
      · rw [if_pos c, decide_eq_false (show ¬ a0 ≤ 65535 by omega)]; rfl
      · rw [if_neg c]; rfl
    have e2 : ∀ k, impl_CrcStep.f k a0 a1 = some (-1) := fun k => by
      unfold impl_CrcStep.f impl_in.f
      by_cases c : a0 ≥ 0
      · rw [if_pos c, decide_eq_false (show ¬ a0 ≤ 65535 by omega)]; rfl
      · rw [if_neg c]; rfl
    simp only [e1, e2]
    exact EvP.now _ (by simp)

end Go.Proofs.Ytfeoeacilclfcaa.Pure
