/- The law FnNegHear: what one hears turns just what it may. No condition. -/
import Derived.Test.YtoigmeiollfklaaQFnNegHearx10
namespace Go.Proofs.Ytoigmeiollfklaa.Pure
open Go.RowKit Go.Proofs.Ytoigmeiollfklaa.QFnNegHear Go.Proofs.YtoigmeiollfklaaW.PrintWords Go.Proofs.YtoigmeiollfklaaW.PrintLast Go.Proofs.YtoigmeiollfklaaW.PrintMore
set_option linter.unusedVariables false
set_option linter.unusedSimpArgs false

/-! A small calculus: with enough rounds g comes to something of which Q holds. -/
def EvP {α : Type} (g : Nat → Option α) (Q : α → Prop) : Prop := ∃ r, Ev g r ∧ Q r
theorem EvP.now {α : Type} {Q : α → Prop} (r : α) (h : Q r) : EvP (fun _ => some r) Q := ⟨r, Ev.now r, h⟩
theorem EvP.here {α : Type} {o : Option α} {Q : α → Prop} (r : α) (e : o = some r) (h : Q r) : EvP (fun _ => o) Q := by subst e; exact EvP.now r h
theorem EvP.of {α : Type} {g : Nat → Option α} {Q : α → Prop} (K : Nat) (h : ∃ r, (∀ k, K ≤ k → g k = some r) ∧ Q r) : EvP g Q := by
  obtain ⟨r, h1, h2⟩ := h
  exact ⟨r, ⟨K, h1⟩, h2⟩
theorem EvP.bind {α β : Type} {g : Nat → Option α} {f : Nat → α → Option β} {P : α → Prop} {Q : β → Prop} (h : EvP g P) (k : ∀ a, P a → EvP (fun n => f n a) Q) : EvP (fun n => (g n).bind (f n)) Q := by
  obtain ⟨a, ha, hp⟩ := h
  obtain ⟨r, hr, hq⟩ := k a hp
  exact ⟨r, Ev.bind ha hr, hq⟩
theorem EvP.some_bind {α β : Type} {a : α} {f : Nat → α → Option β} {Q : β → Prop} (k : EvP (fun n => f n a) Q) : EvP (fun n => (some a).bind (f n)) Q := k
theorem EvP.step {α : Type} {g f : Nat → Option α} {Q : α → Prop} (h : ∀ k, g (k + 1) = f k) (k : EvP f Q) : EvP g Q := by
  obtain ⟨r, hr, hq⟩ := k
  exact ⟨r, Ev.step h hr, hq⟩
theorem EvP.congr {α : Type} {g f : Nat → Option α} {Q : α → Prop} (h : ∀ k, g k = f k) (k : EvP f Q) : EvP g Q := by
  obtain ⟨r, hr, hq⟩ := k
  exact ⟨r, Ev.congr h hr, hq⟩
theorem EvP.mono {α : Type} {g : Nat → Option α} {P Q : α → Prop} (h : EvP g P) (k : ∀ a, P a → Q a) : EvP g Q := by
  obtain ⟨r, hr, hp⟩ := h
  exact ⟨r, hr, k r hp⟩
theorem EvP.ite {α : Type} {c : Prop} [Decidable c] {f g : Nat → Option α} {Q : α → Prop} (h1 : c → EvP f Q) (h2 : ¬ c → EvP g Q) : EvP (fun k => if c then f k else g k) Q := by
  by_cases hc : c
  · simp only [if_pos hc]; exact h1 hc
  · simp only [if_neg hc]; exact h2 hc
theorem EvP.pos {α : Type} {c : Prop} [Decidable c] {f g : Nat → Option α} {Q : α → Prop} (hc : c) (h : EvP f Q) : EvP (fun k => if c then f k else g k) Q := by
  simp only [if_pos hc]; exact h
theorem EvP.neg {α : Type} {c : Prop} [Decidable c] {f g : Nat → Option α} {Q : α → Prop} (hc : ¬ c) (h : EvP g Q) : EvP (fun k => if c then f k else g k) Q := by
  simp only [if_neg hc]; exact h
theorem EvP.rounds {α : Type} {g : Nat → Option α} {r : α} (h : EvP g (· = r)) : ∃ k, g k = some r := by
  obtain ⟨q, hq, rfl⟩ := h
  exact hq.rounds
theorem EvP.up {α : Type} {g : Nat → Option α} {Q : α → Prop} (h : EvP (fun k => g (k + 1)) Q) : EvP g Q := EvP.step (fun _ => rfl) h
theorem EvP.val_bind {α β : Type} {o : Option α} {a : α} {f : Nat → α → Option β} {Q : β → Prop} (e : o = some a) (k : EvP (fun n => f n a) Q) : EvP (fun n => o.bind (f n)) Q := by subst e; exact k
theorem EvP.eq_bind {α β : Type} {g : Nat → Option α} {f : Nat → α → Option β} {a : α} {Q : β → Prop} (h : EvP g (· = a)) (k : EvP (fun n => f n a) Q) : EvP (fun n => (g n).bind (f n)) Q := EvP.bind h (fun _ e => by subst e; exact k)
/-! The reader of a code: whatever it picks lies in bounds. -/
def RdOk (s : List Int) : Prop := s.length ≤ 2000 ∧ ∀ x ∈ s, 0 ≤ x ∧ x ≤ 255
theorem rd_range {s : List Int} (h : RdOk s) (i : Int) : 0 ≤ rd s i ∧ rd s i ≤ 255 := by
  unfold rd
  rw [List.getD_eq_getElem?_getD]
  cases e : s[i.toNat]? with
  | none => simp
  | some x => exact h.2 x (List.mem_of_getElem? e)
theorem wrap64_id {x : Int} (h : -9223372036854775808 ≤ x) (h2 : x ≤ 9223372036854775807) : wrap64 x = x := by unfold wrap64; omega
theorem xor_nonneg (a b : Int) (ha : 0 ≤ a) (ha2 : a < 9223372036854775808) (hb : 0 ≤ b) (hb2 : b < 9223372036854775808) : 0 ≤ Go.bits .xor .i64 a b := by
  obtain ⟨m, rfl⟩ := Int.eq_ofNat_of_zero_le ha
  obtain ⟨n, rfl⟩ := Int.eq_ofNat_of_zero_le hb
  have hm : m < 2 ^ 63 := by omega
  have hn : n < 2 ^ 63 := by omega
  have hx := Nat.xor_lt_two_pow hm hn
  have h1 : m % 2 ^ 64 = m := Nat.mod_eq_of_lt (by omega)
  have h2 : n % 2 ^ 64 = n := Nat.mod_eq_of_lt (by omega)
  have h3 : (BitVec.ofNat 64 m ^^^ BitVec.ofNat 64 n).toNat = m ^^^ n := by rw [BitVec.toNat_xor, BitVec.toNat_ofNat, BitVec.toNat_ofNat, h1, h2]
  have h4 : Go.bits .xor .i64 (m : Int) (n : Int) = IntKind.i64.wrap ((BitVec.ofNat 64 m ^^^ BitVec.ofNat 64 n).toNat) := rfl
  rw [h4, h3, IntKind.wrap_i64]
  omega
theorem tmod_range (a n : Int) (ha : 0 ≤ a) (hn : 0 < n) : 0 ≤ Int.tmod a n ∧ Int.tmod a n < n := by
  rw [Int.tmod_eq_emod_of_nonneg ha]
  exact ⟨Int.emod_nonneg _ (by omega), Int.emod_lt_of_pos _ hn⟩
theorem tdiv_range (a n : Int) (ha : 0 ≤ a) (hn : 0 < n) : 0 ≤ Int.tdiv a n ∧ Int.tdiv a n ≤ a := by
  rw [Int.tdiv_eq_ediv_of_nonneg ha]
  exact ⟨Int.ediv_nonneg ha (by omega), Int.ediv_le_self _ ha⟩
theorem pick_rounds (s : List Int) (hs : RdOk s) (p n : Int) (hp : 0 ≤ p) (hp2 : p ≤ 1000000) : ∃ v, (∀ k, spec_l20Rd_pick.f (k + 1) s p n = some (v, p + 1)) ∧ 0 ≤ v ∧ (v < n ∨ v = 0 ∧ n < 1) := by
  have hw : wrap64 (p + 1) = p + 1 := wrap64_id (by omega) (by omega)
  by_cases h1 : n < 1
  · exact ⟨0, fun k => by unfold spec_l20Rd_pick.f; rw [if_pos h1, hw]; simp [spec_l20Rd_pick.j0], by omega, .inr ⟨rfl, h1⟩⟩
  · by_cases h2 : (s.length : Int) = 0
    · refine ⟨0, fun k => ?_, by omega, .inl (by omega)⟩
      unfold spec_l20Rd_pick.f
      rw [if_neg h1, hw, h2]
      simp [spec_l20Rd_pick.j0]
    · have hlen := hs.1
      have hb : ((s.length : Int) == 0) = false := beq_eq_false_iff_ne.mpr h2
      have hw2 : wrap64 (p + 1 - 1) = p := by rw [wrap64_id (by omega) (by omega)]; omega
      by_cases h3 : p < (s.length : Int)
      · have hr := rd_range hs p
        have hw3 : wrap64 (rd s p) = rd s p := wrap64_id (by omega) (by omega)
        have ht := tmod_range (rd s p) n hr.1 (by omega)
        refine ⟨Int.tmod (rd s p) n, fun k => ?_, ht.1, .inl ht.2⟩
        unfold spec_l20Rd_pick.f
        rw [if_neg h1, hw, hb]
        simp only [spec_l20Rd_pick.j0, hw2, hw3]
        rw [if_neg (by decide), if_pos h3, if_pos hp, if_neg (by omega)]
      · have t1 := tmod_range p s.length hp (by omega)
        have w1 : wrap64 (p * 7) = p * 7 := wrap64_id (by omega) (by omega)
        have w2 : wrap64 (p * 7 + 3) = p * 7 + 3 := wrap64_id (by omega) (by omega)
        have t2 := tmod_range (p * 7 + 3) s.length (by omega) (by omega)
        have r1 := rd_range hs (Int.tmod p s.length)
        have r2 := rd_range hs (Int.tmod (p * 7 + 3) s.length)
        have t3 := tdiv_range p s.length hp (by omega)
        generalize e1 : rd s (Int.tmod p s.length) = a at r1
        generalize e2 : rd s (Int.tmod (p * 7 + 3) s.length) = b at r2
        generalize e3 : Int.tdiv p s.length = q at t3
        have v1 : wrap64 (wrap64 (wrap64 (wrap64 (wrap64 a * 131) + wrap64 (wrap64 b * 1117)) + wrap64 (p * 29)) + wrap64 (wrap64 q * 53)) = a * 131 + b * 1117 + p * 29 + q * 53 := by
          rw [wrap64_id (x := a) (by omega) (by omega), wrap64_id (x := b) (by omega) (by omega), wrap64_id (x := q) (by omega) (by omega), wrap64_id (x := a * 131) (by omega) (by omega), wrap64_id (x := b * 1117) (by omega) (by omega), wrap64_id (x := p * 29) (by omega) (by omega), wrap64_id (x := q * 53) (by omega) (by omega), wrap64_id (x := a * 131 + b * 1117) (by omega) (by omega), wrap64_id (x := a * 131 + b * 1117 + p * 29) (by omega) (by omega), wrap64_id (by omega) (by omega)]
        generalize e4 : a * 131 + b * 1117 + p * 29 + q * 53 = z at v1
        have hz : 0 ≤ z ∧ z ≤ 1000000000 := by omega
        have t4 := tdiv_range z 64 hz.1 (by omega)
        have v2 : wrap64 (Int.tdiv z 64) = Int.tdiv z 64 := wrap64_id (by omega) (by omega)
        have hx := xor_nonneg z (Int.tdiv z 64) hz.1 (by omega) t4.1 (by omega)
        have ht := tmod_range _ n hx (by omega)
        refine ⟨_, fun k => ?_, ht.1, .inl ht.2⟩
        unfold spec_l20Rd_pick.f
        rw [if_neg h1, hw, hb]
        simp only [spec_l20Rd_pick.j0, hw2, w1, w2, e1, e2, e3, v1, v2]
        rw [if_neg (by decide), if_neg h3, if_neg h2, if_pos t1.1, if_pos t1.2, if_pos t2.1, if_pos t2.2, if_neg (by omega)]
theorem pick_ok {s : List Int} (hs : RdOk s) {p : Int} (hp : 0 ≤ p ∧ p ≤ 1000000) (n : Int) : EvP (fun k => spec_l20Rd_pick.f k s p n) fun r => r.2 = p + 1 ∧ 0 ≤ r.1 ∧ (r.1 < n ∨ r.1 = 0 ∧ n < 1) := by
  obtain ⟨v, h1, h2⟩ := pick_rounds s hs p n hp.1 hp.2
  exact ⟨(v, p + 1), ⟨1, fun k hk => by obtain ⟨m, rfl⟩ : ∃ m, k = m + 1 := ⟨k - 1, by omega⟩; exact h1 m⟩, rfl, h2⟩
theorem open_ok (l : List Int) (hw : ∀ x ∈ l, (Lit.int .u8 x).wf = true) : ∃ s, spec_l20Open.f l = some (s, 0) ∧ RdOk s := by
  have hb : ∀ x ∈ l, 0 ≤ x ∧ x ≤ 255 := fun x hx => by
    have h := hw x hx
    simp [Lit.wf, IntKind.min, IntKind.max, IntKind.signed, IntKind.bits] at h
    omega
  unfold spec_l20Open.f
  by_cases h : (l.length : Int) > 2000
  · rw [if_pos h, if_pos (by omega)]
    exact ⟨l.take 2000, rfl, List.length_take_le _ _, fun x hx => hb x (List.mem_of_mem_take hx)⟩
  · rw [if_neg h]
    exact ⟨l, rfl, by omega, hb⟩
theorem three {v : Int} (h : 0 ≤ v) (h2 : v < 3 ∨ v = 0 ∧ (3 : Int) < 1) : v = 0 ∨ v = 1 ∨ v = 2 := by omega
theorem two {v : Int} (h : 0 ≤ v) (h2 : v < 2 ∨ v = 0 ∧ (2 : Int) < 1) : v = 0 ∨ v = 1 := by omega
theorem rd0 (a : Int) (l : List Int) : rd (a :: l) 0 = a := rfl
theorem rd1 (a b : Int) (l : List Int) : rd (a :: b :: l) 1 = b := rfl
theorem rd2 (a b c : Int) (l : List Int) : rd (a :: b :: c :: l) 2 = c := rfl
/-! Draws of the reader beyond pick. -/
theorem odd_ok {s : List Int} (hs : RdOk s) {p : Int} (hp : 0 ≤ p ∧ p ≤ 1000000) (n : Int) (hn : n ≤ 1000000) : EvP (fun k => spec_l20Rd_odd.f k s p n) fun r => p ≤ r.2 ∧ r.2 ≤ p + 1 ∧ (n ≤ 0 → r.1 = false) := by
  unfold spec_l20Rd_odd.f
  refine EvP.ite (fun h => ?_) (fun h => EvP.now _ ⟨by simp, by simp; omega, fun _ => rfl⟩)
  refine EvP.bind (pick_ok hs hp n) ?_
  rintro ⟨v, q⟩ ⟨h1, h2, h3⟩
  simp only at h1 h2 h3 ⊢
  refine EvP.now _ ⟨by simp only; omega, by simp only; omega, fun h => by omega⟩
theorem in_val (a lo hi : Int) : impl_in.f a lo hi = some (decide (lo ≤ a ∧ a ≤ hi)) := by
  unfold impl_in.f
  by_cases h : a ≥ lo
  · rw [if_pos h]; simp only [Option.some.injEq, decide_eq_decide]; omega
  · rw [if_neg h]; simp only [Option.some.injEq]; exact (decide_eq_false (by omega)).symm
theorem l1In_val (a lo hi : Int) : spec_l1In.f a lo hi = some (decide (lo ≤ a ∧ a ≤ hi)) := in_val a lo hi
def cok (a b c d e : Int) : Bool := decide ((1 ≤ a ∧ a ≤ 2) ∧ (1 ≤ b ∧ b ≤ 4) ∧ (1 ≤ c ∧ c ≤ 8) ∧ (1 ≤ d ∧ d ≤ 24) ∧ (1 ≤ e ∧ e ≤ 5))
theorem cfgOk_val (a b c d e : Int) : impl_CfgOk.f a b c d e = some (cok a b c d e) := by
  unfold impl_CfgOk.f cok
  rw [in_val, in_val, in_val, in_val, in_val]
  simp only [Option.bind_some, decide_eq_true_eq]
  by_cases h1 : 1 ≤ a ∧ a ≤ 2
  · rw [if_pos h1]
    by_cases h2 : 1 ≤ b ∧ b ≤ 4
    · rw [if_pos h2]
      by_cases h3 : 1 ≤ c ∧ c ≤ 8
      · rw [if_pos h3]
        by_cases h4 : 1 ≤ d ∧ d ≤ 24
        · rw [if_pos h4]; simp only [Option.some.injEq, decide_eq_decide]; exact ⟨fun h => ⟨h1, h2, h3, h4, h⟩, fun h => h.2.2.2.2⟩
        · rw [if_neg h4]; exact congrArg some (decide_eq_false (fun h => h4 h.2.2.2.1)).symm
      · rw [if_neg h3]; exact congrArg some (decide_eq_false (fun h => h3 h.2.2.1)).symm
    · rw [if_neg h2]; exact congrArg some (decide_eq_false (fun h => h2 h.2.1)).symm
  · rw [if_neg h1]; exact congrArg some (decide_eq_false (fun h => h1 h.1)).symm
theorem cfgOk_same (a b c d e : Int) : spec_CfgOk.f a b c d e = some (cok a b c d e) := cfgOk_val a b c d e
/-! What one wants, drawn. -/
def CfgR (a b c d e : Int) : Prop := (0 ≤ a ∧ a ≤ 3) ∧ (0 ≤ b ∧ b ≤ 5) ∧ (0 ≤ c ∧ c ≤ 9) ∧ (0 ≤ d ∧ d ≤ 25) ∧ (0 ≤ e ∧ e ≤ 6)
theorem cok_iff {a b c d e : Int} : cok a b c d e = true ↔ (1 ≤ a ∧ a ≤ 2) ∧ (1 ≤ b ∧ b ≤ 4) ∧ (1 ≤ c ∧ c ≤ 8) ∧ (1 ≤ d ∧ d ≤ 24) ∧ (1 ≤ e ∧ e ≤ 5) := by
  unfold cok; rw [decide_eq_true_eq]
theorem cfg_ok {s : List Int} (hs : RdOk s) {p : Int} (hp : 0 ≤ p ∧ p ≤ 500000) (n : Int) (hn : n ≤ 1000) :
    EvP (fun k => spec_l20Cfg.f k s p n) fun r => (p ≤ r.2.2.2.2.2 ∧ r.2.2.2.2.2 ≤ p + 20) ∧ CfgR r.1 r.2.1 r.2.2.1 r.2.2.2.1 r.2.2.2.2.1 ∧ (n ≤ 0 → cok r.1 r.2.1 r.2.2.1 r.2.2.2.1 r.2.2.2.2.1 = true) := by
  unfold spec_l20Cfg.f
  refine EvP.bind (pick_ok hs (by omega) 2) ?_
  rintro ⟨v1, p1⟩ ⟨h1, h2, h3⟩
  simp only at h1 h2 h3 ⊢; subst h1
  refine EvP.bind (pick_ok hs (by omega) 4) ?_
  rintro ⟨v2, p2⟩ ⟨i1, i2, i3⟩
  simp only at i1 i2 i3 ⊢; subst i1
  refine EvP.bind (pick_ok hs (by omega) 8) ?_
  rintro ⟨v3, p3⟩ ⟨j1, j2, j3⟩
  simp only at j1 j2 j3 ⊢; subst j1
  rw [wrap64_id (x := 1 + v1) (by omega) (by omega), wrap64_id (x := 1 + v2) (by omega) (by omega), wrap64_id (x := 1 + v3) (by omega) (by omega)]
  refine EvP.some_bind (EvP.bind (pick_ok hs (by omega) 3) ?_)
  rintro ⟨v4, p4⟩ ⟨k1, k2, k3⟩
  simp only at k1 k2 k3 ⊢; subst k1
  refine EvP.pos k2 (EvP.pos (by simp; omega) ?_)
  have hm : 1 ≤ rd [1 + v3, 3, 8] v4 ∧ rd [1 + v3, 3, 8] v4 ≤ 8 := by
    rcases three k2 k3 with rfl | rfl | rfl <;> simp only [rd0, rd1, rd2] <;> omega
  generalize rd [1 + v3, 3, 8] v4 = mps at hm
  refine EvP.bind (pick_ok hs (by omega) 24) ?_
  rintro ⟨v5, p5⟩ ⟨l1, l2, l3⟩
  simp only at l1 l2 l3 ⊢; subst l1
  rw [wrap64_id (x := 1 + v5) (by omega) (by omega)]
  refine EvP.some_bind (EvP.bind (pick_ok hs (by omega) 2) ?_)
  rintro ⟨v6, p6⟩ ⟨m1, m2, m3⟩
  simp only at m1 m2 m3 ⊢; subst m1
  refine EvP.pos m2 (EvP.pos (by simp; omega) ?_)
  have ht : 1 ≤ rd [24, 1 + v5] v6 ∧ rd [24, 1 + v5] v6 ≤ 24 := by
    rcases two m2 m3 with rfl | rfl <;> simp only [rd0, rd1] <;> omega
  generalize rd [24, 1 + v5] v6 = mtu at ht
  refine EvP.bind (pick_ok hs (by omega) 5) ?_
  rintro ⟨v7, p7⟩ ⟨n1, n2, n3⟩
  simp only at n1 n2 n3 ⊢; subst n1
  rw [wrap64_id (x := 1 + v7) (by omega) (by omega)]
  refine EvP.bind (odd_ok hs (by omega) n (by omega)) ?_
  rintro ⟨o, p8⟩ ⟨o1, o2, o3⟩
  simp only at o1 o2 o3 ⊢
  have ok : cok (1 + v1) (1 + v2) mps mtu (1 + v7) = true := by rw [cok_iff]; omega
  refine EvP.ite (fun ho => ?_) (fun _ => EvP.now _ ⟨by simp only; omega, by unfold CfgR; simp only; omega, fun _ => ok⟩)
  have hn0 : ¬ n ≤ 0 := fun h => by rw [o3 h] at ho; cases ho
  refine EvP.bind (pick_ok hs (by omega) 5) ?_
  rintro ⟨v8, p9⟩ ⟨q1, q2, q3⟩
  simp only at q1 q2 q3 ⊢; subst q1
  refine EvP.ite (fun _ => ?_) (fun _ => EvP.ite (fun _ => ?_) (fun _ => EvP.ite (fun _ => ?_) (fun _ => EvP.ite (fun _ => ?_) (fun _ => ?_))))
  all_goals
    refine EvP.some_bind (EvP.bind (pick_ok hs (by omega) 2) ?_)
    rintro ⟨v9, p10⟩ ⟨s1, s2, s3⟩
    simp only at s1 s2 s3 ⊢; subst s1
    refine EvP.pos s2 (EvP.pos (by simp; omega) ?_)
    rcases two s2 s3 with rfl | rfl <;> exact EvP.now _ ⟨by simp only; omega, by unfold CfgR; simp only [rd0, rd1]; omega, fun h => absurd h hn0⟩
/-! Whether a state of agreeing is ok. -/
def none5 (a b c d e : Int) : Bool := a == 0 && (b == 0 && (c == 0 && (d == 0 && (e == 0))))
def mayV (a b c d e m : Int) : Bool := none5 a b c d e || (cok a b c d e && (m == a))
theorem beq_turn (a b : Int) : (a == b) = (b == a) := by by_cases h : a = b
                                                         · subst h; rfl
                                                         · rw [beq_eq_false_iff_ne.mpr h, beq_eq_false_iff_ne.mpr (fun e => h e.symm)]
theorem may_val (a b c d e m : Int) : impl_CfgOpts_may.f a b c d e m = some (mayV a b c d e m) := by
  have h : impl_CfgOpts_may.f a b c d e m = if none5 a b c d e = true then some true else ((impl_CfgOk.f a b c d e).bind fun t => if t = true then some (a == m) else some false) := rfl
  rw [h, cfgOk_val, beq_turn a m]
  unfold mayV
  simp only [Option.bind_some]
  cases none5 a b c d e <;> cases cok a b c d e <;> rfl
def negok (a0 a1 a2 a3 a4 a5 a6 a7 a8 a9 a10 a11 a12 a13 a14 a15 a16 a17 a18 a19 : Int) : Bool := cok a0 a1 a2 a3 a4 && ((cok a5 a6 a7 a8 a9 && (a0 == a5)) && (mayV a10 a11 a12 a13 a14 a0 && mayV a15 a16 a17 a18 a19 a0))
theorem negOk_val (a0 a1 a2 a3 a4 a5 a6 a7 a8 a9 a10 a11 a12 a13 a14 a15 a16 a17 a18 a19 : Int) (a20 : Bool) : impl_NegOk.f a0 a1 a2 a3 a4 a5 a6 a7 a8 a9 a10 a11 a12 a13 a14 a15 a16 a17 a18 a19 a20 = some (negok a0 a1 a2 a3 a4 a5 a6 a7 a8 a9 a10 a11 a12 a13 a14 a15 a16 a17 a18 a19) := by
  unfold impl_NegOk.f negok
  simp only [cfgOk_val, may_val, Option.bind_some]
  generalize cok a0 a1 a2 a3 a4 = p
  generalize cok a5 a6 a7 a8 a9 = q
  generalize mayV a10 a11 a12 a13 a14 a0 = x
  generalize mayV a15 a16 a17 a18 a19 a0 = y
  rw [beq_turn a0 a5]
  by_cases h : a5 = a0
  · rw [if_pos h, beq_iff_eq.mpr h]
    cases p <;> cases q <;> cases x <;> cases y <;> rfl
  · rw [if_neg h, beq_eq_false_iff_ne.mpr h]
    cases p <;> cases q <;> cases x <;> cases y <;> rfl
theorem one_val (a b c d e a' b' c' d' e' : Int) : spec_l5One.f a b c d e a' b' c' d' e' = some (cok a' b' c' d' e' && (a == a')) := by
  unfold spec_l5One.f
  rw [cfgOk_same]
  simp only [Option.bind_some]
  cases cok a' b' c' d' e' <;> rfl
theorem none_val (a b c d e : Int) : spec_l5None.f a b c d e = some (none5 a b c d e) := rfl
theorem negOk_same (a0 a1 a2 a3 a4 a5 a6 a7 a8 a9 a10 a11 a12 a13 a14 a15 a16 a17 a18 a19 : Int) (a20 : Bool) : spec_NegOk.f a0 a1 a2 a3 a4 a5 a6 a7 a8 a9 a10 a11 a12 a13 a14 a15 a16 a17 a18 a19 a20 = some (negok a0 a1 a2 a3 a4 a5 a6 a7 a8 a9 a10 a11 a12 a13 a14 a15 a16 a17 a18 a19) := by
  unfold spec_NegOk.f negok mayV
  simp only [cfgOk_same, one_val, none_val, Option.bind_some]
  generalize cok a0 a1 a2 a3 a4 = p
  generalize (cok a5 a6 a7 a8 a9 && (a0 == a5)) = q
  generalize none5 a10 a11 a12 a13 a14 = n
  generalize none5 a15 a16 a17 a18 a19 = m
  generalize (cok a10 a11 a12 a13 a14 && (a0 == a10)) = x
  generalize (cok a15 a16 a17 a18 a19 && (a0 == a15)) = y
  cases p <;> cases q <;> cases n <;> cases m <;> cases x <;> cases y <;> rfl
/-! What is heard. -/
def hcore (a0 a1 a2 a3 a4 a5 a6 a7 a8 a9 a10 a11 a12 a13 a14 a15 a16 a17 a18 a19 : Int) (a20 : Bool) (m0 m1 m2 m3 m4 m5 : Int) : Int × Int × Int × Int × Int × Int × Int × Int × Int × Int × Int × Int × Int × Int × Int × Int × Int × Int × Int × Int × Bool × Int × Int × Int × Int × Int × Int × Bool := if m1 = a0 then (if m0 = 1 then (if (!(a0 == m1) || (!((mn a1 m2) == m2) || (!((mn a2 m3) == m3) || (!((mn a3 m4) == m4) || (!((mn a4 m5) == m5)))))) = true then (a0, a1, a2, a3, a4, a5, a6, a7, a8, a9, a10, a11, a12, a13, a14, a15, a16, a17, a18, a19, a20, 3, a0, mn a1 m2, mn a2 m3, mn a3 m4, mn a4 m5, true) else (a0, a1, a2, a3, a4, a5, a6, a7, a8, a9, a10, a11, a12, a13, a14, m1, m2, m3, m4, m5, a20, 2, m1, m2, m3, m4, m5, true)) else (if m0 = 2 then (if (m1 == a5 && (m2 == a6 && (m3 == a7 && (m4 == a8 && (m5 == a9))))) = true then (a0, a1, a2, a3, a4, a5, a6, a7, a8, a9, m1, m2, m3, m4, m5, a15, a16, a17, a18, a19, a20, 0, 0, 0, 0, 0, 0, false) else (a0, a1, a2, a3, a4, a5, a6, a7, a8, a9, a10, a11, a12, a13, a14, a15, a16, a17, a18, a19, a20, 0, 0, 0, 0, 0, 0, false)) else (if none5 a10 a11 a12 a13 a14 = true then (a0, a1, a2, a3, a4, a5, mn a6 m2, mn a7 m3, mn a8 m4, mn a9 m5, a10, a11, a12, a13, a14, a15, a16, a17, a18, a19, a20, 0, 0, 0, 0, 0, 0, false) else (a0, a1, a2, a3, a4, a5, a6, a7, a8, a9, a10, a11, a12, a13, a14, a15, a16, a17, a18, a19, a20, 0, 0, 0, 0, 0, 0, false)))) else (a0, a1, a2, a3, a4, a5, a6, a7, a8, a9, a10, a11, a12, a13, a14, a15, a16, a17, a18, a19, true, 0, 0, 0, 0, 0, 0, false)
def hzero : Int × Int × Int × Int × Int × Int × Int × Int × Int × Int × Int × Int × Int × Int × Int × Int × Int × Int × Int × Int × Bool × Int × Int × Int × Int × Int × Int × Bool := (0, 0, 0, 0, 0, 0, 0, 0, 0, 0, 0, 0, 0, 0, 0, 0, 0, 0, 0, 0, false, 0, 0, 0, 0, 0, 0, false)
def hgood (a0 a1 a2 a3 a4 a5 a6 a7 a8 a9 a10 a11 a12 a13 a14 a15 a16 a17 a18 a19 : Int) (a20 : Bool) (m0 m1 m2 m3 m4 m5 : Int) : Bool := negok a0 a1 a2 a3 a4 a5 a6 a7 a8 a9 a10 a11 a12 a13 a14 a15 a16 a17 a18 a19 && (decide (1 ≤ m0 ∧ m0 ≤ 3) && cok m1 m2 m3 m4 m5)
def hearV (a0 a1 a2 a3 a4 a5 a6 a7 a8 a9 a10 a11 a12 a13 a14 a15 a16 a17 a18 a19 : Int) (a20 : Bool) (m0 m1 m2 m3 m4 m5 : Int) : Int × Int × Int × Int × Int × Int × Int × Int × Int × Int × Int × Int × Int × Int × Int × Int × Int × Int × Int × Int × Bool × Int × Int × Int × Int × Int × Int × Bool := if hgood a0 a1 a2 a3 a4 a5 a6 a7 a8 a9 a10 a11 a12 a13 a14 a15 a16 a17 a18 a19 a20 m0 m1 m2 m3 m4 m5 = true then hcore a0 a1 a2 a3 a4 a5 a6 a7 a8 a9 a10 a11 a12 a13 a14 a15 a16 a17 a18 a19 a20 m0 m1 m2 m3 m4 m5 else hzero
theorem negok_parts {a0 a1 a2 a3 a4 a5 a6 a7 a8 a9 a10 a11 a12 a13 a14 a15 a16 a17 a18 a19 : Int} (h : negok a0 a1 a2 a3 a4 a5 a6 a7 a8 a9 a10 a11 a12 a13 a14 a15 a16 a17 a18 a19 = true) : cok a0 a1 a2 a3 a4 = true ∧ cok a5 a6 a7 a8 a9 = true ∧ a0 = a5 ∧ mayV a10 a11 a12 a13 a14 a0 = true ∧ mayV a15 a16 a17 a18 a19 a0 = true := by
  unfold negok at h
  simp only [Bool.and_eq_true, beq_iff_eq] at h
  exact ⟨h.1, h.2.1.1, h.2.1.2, h.2.2.1, h.2.2.2⟩
theorem hear_same (a0 a1 a2 a3 a4 a5 a6 a7 a8 a9 a10 a11 a12 a13 a14 a15 a16 a17 a18 a19 : Int) (a20 : Bool) (m0 m1 m2 m3 m4 m5 : Int) : spec_NegHear.f a0 a1 a2 a3 a4 a5 a6 a7 a8 a9 a10 a11 a12 a13 a14 a15 a16 a17 a18 a19 a20 m0 m1 m2 m3 m4 m5 = some (hearV a0 a1 a2 a3 a4 a5 a6 a7 a8 a9 a10 a11 a12 a13 a14 a15 a16 a17 a18 a19 a20 m0 m1 m2 m3 m4 m5) := by
  unfold spec_NegHear.f hearV hgood
  rw [negOk_same, l1In_val, cfgOk_same]
  simp only [Option.bind_some]
  by_cases h1 : negok a0 a1 a2 a3 a4 a5 a6 a7 a8 a9 a10 a11 a12 a13 a14 a15 a16 a17 a18 a19 = true
  · by_cases h2 : 1 ≤ m0 ∧ m0 ≤ 3
    · by_cases h3 : cok m1 m2 m3 m4 m5 = true
      · have hgd : (negok a0 a1 a2 a3 a4 a5 a6 a7 a8 a9 a10 a11 a12 a13 a14 a15 a16 a17 a18 a19 && (decide (1 ≤ m0 ∧ m0 ≤ 3) && cok m1 m2 m3 m4 m5)) = true := by rw [h1, h3, decide_eq_true h2]; rfl
        rw [if_pos hgd, if_pos h1, if_pos (decide_eq_true h2), if_pos h3]
        have e : spec_l5Hear.f a0 a1 a2 a3 a4 a5 a6 a7 a8 a9 a10 a11 a12 a13 a14 a15 a16 a17 a18 a19 a20 m0 m1 m2 m3 m4 m5 = some (hcore a0 a1 a2 a3 a4 a5 a6 a7 a8 a9 a10 a11 a12 a13 a14 a15 a16 a17 a18 a19 a20 m0 m1 m2 m3 m4 m5) := by
          unfold spec_l5Hear.f hcore spec_l5Least.f
          rw [none_val]
          simp only [Option.bind_some]
          by_cases h4 : m1 = a0
          · rw [if_pos h4, if_pos h4]
            by_cases h5 : m0 = 1
            · rw [if_pos h5, if_pos h5]; split <;> rfl
            · rw [if_neg h5, if_neg h5]
              by_cases h6 : m0 = 2
              · rw [if_pos h6, if_pos h6]; split <;> rfl
              · rw [if_neg h6, if_neg h6]; split <;> rfl
          · rw [if_neg h4, if_neg h4]
        rw [e]
        rfl
      · have hgd : ¬ (negok a0 a1 a2 a3 a4 a5 a6 a7 a8 a9 a10 a11 a12 a13 a14 a15 a16 a17 a18 a19 && (decide (1 ≤ m0 ∧ m0 ≤ 3) && cok m1 m2 m3 m4 m5)) = true := by rw [Bool.eq_false_iff.mpr h3]; simp
        rw [if_neg hgd, if_pos h1, if_pos (decide_eq_true h2), if_neg h3]; rfl
    · have hgd : ¬ (negok a0 a1 a2 a3 a4 a5 a6 a7 a8 a9 a10 a11 a12 a13 a14 a15 a16 a17 a18 a19 && (decide (1 ≤ m0 ∧ m0 ≤ 3) && cok m1 m2 m3 m4 m5)) = true := by rw [decide_eq_false h2]; simp
      rw [if_neg hgd, if_pos h1, decide_eq_false h2, if_neg Bool.false_ne_true]; rfl
  · have hgd : ¬ (negok a0 a1 a2 a3 a4 a5 a6 a7 a8 a9 a10 a11 a12 a13 a14 a15 a16 a17 a18 a19 && (decide (1 ≤ m0 ∧ m0 ≤ 3) && cok m1 m2 m3 m4 m5)) = true := by rw [Bool.eq_false_iff.mpr h1]; simp
    rw [if_neg hgd, if_neg h1]; rfl
/-! One that agrees, drawn: the draw always comes to something. -/
def cur21 (r : Int × Int × Int × Int × Int × Int × Int × Int × Int × Int × Int × Int × Int × Int × Int × Int × Int × Int × Int × Int × Bool × Int) : Int := r.2.2.2.2.2.2.2.2.2.2.2.2.2.2.2.2.2.2.2.2.2
theorem negMsg_ok {s : List Int} (hs : RdOk s) {p : Int} (hp : 0 ≤ p ∧ p ≤ 450000) (b0 b1 b2 b3 b4 n : Int) (hn : n ≤ 1000) : EvP (fun k => spec_l20NegMsg.f k s p b0 b1 b2 b3 b4 n) fun r => p ≤ r.2.2.2.2.2.2 ∧ r.2.2.2.2.2.2 ≤ p + 30 := by
  unfold spec_l20NegMsg.f
  refine EvP.bind (pick_ok hs (by omega) 3) ?_
  rintro ⟨v1, p1⟩ ⟨h1, h2, h3⟩
  simp only at h1 h2 h3 ⊢; subst h1
  refine EvP.bind (pick_ok hs (by omega) 3) ?_
  rintro ⟨v2, p2⟩ ⟨i1, i2, i3⟩
  simp only at i1 i2 i3 ⊢; subst i1
  refine EvP.ite (fun _ => ?_) (fun _ => EvP.now _ ⟨by simp only; omega, by simp only; omega⟩)
  refine EvP.bind (cfg_ok hs (by omega) n hn) ?_
  rintro ⟨x1, x2, x3, x4, x5, q⟩ ⟨⟨j1, j2⟩, _⟩
  simp only at j1 j2 ⊢
  refine EvP.bind (pick_ok hs (by omega) 4) ?_
  rintro ⟨v3, p3⟩ ⟨k1, k2, k3⟩
  simp only at k1 k2 k3 ⊢; subst k1
  exact EvP.ite (fun _ => EvP.now _ ⟨by simp only; omega, by simp only; omega⟩) (fun _ => EvP.now _ ⟨by simp only; omega, by simp only; omega⟩)
theorem negL0_ok {s : List Int} (hs : RdOk s) (n : Int) (hn : n ≤ 1000) (b0 b1 b2 b3 b4 : Int) : ∀ (N : Nat) (v p : Int) (a0 a1 a2 a3 a4 a5 a6 a7 a8 a9 a10 a11 a12 a13 a14 a15 a16 a17 a18 a19 : Int) (a20 : Bool), v ≤ N → 0 ≤ p → p + 30 * N ≤ 400000 → EvP (fun k => spec_l20Neg.l0 k n v s p b0 b1 b2 b3 b4 a0 a1 a2 a3 a4 a5 a6 a7 a8 a9 a10 a11 a12 a13 a14 a15 a16 a17 a18 a19 a20) fun r => p ≤ cur21 r ∧ cur21 r ≤ p + 30 * N + 30 := by
  intro N
  induction N with
  | zero =>
    intro v p a0 a1 a2 a3 a4 a5 a6 a7 a8 a9 a10 a11 a12 a13 a14 a15 a16 a17 a18 a19 a20 hv hp hq
    refine EvP.up ?_
    simp only [spec_l20Neg.l0]
    refine EvP.neg (by omega) ?_
    refine EvP.bind (odd_ok hs (by omega) n (by omega)) ?_
    rintro ⟨o, q⟩ ⟨o1, o2, _⟩
    simp only at o1 o2 ⊢
    refine EvP.ite (fun _ => ?_) (fun _ => EvP.now _ ⟨by simp only [cur21]; omega, by simp only [cur21]; omega⟩)
    refine EvP.bind (pick_ok hs (by omega) 4) ?_
    rintro ⟨v2, q2⟩ ⟨h1, h2, h3⟩
    simp only at h1 h2 h3 ⊢; subst h1
    refine EvP.ite (fun _ => ?_) (fun _ => EvP.ite (fun _ => ?_) (fun _ => EvP.ite (fun _ => ?_) (fun _ => ?_)))
    · refine EvP.bind (cfg_ok hs (by omega) 1 (by omega)) ?_
      rintro ⟨x1, x2, x3, x4, x5, z⟩ ⟨⟨j1, j2⟩, _⟩
      simp only at j1 j2 ⊢
      exact EvP.now _ ⟨by simp only [cur21]; omega, by simp only [cur21]; omega⟩
    · refine EvP.bind (cfg_ok hs (by omega) 1 (by omega)) ?_
      rintro ⟨x1, x2, x3, x4, x5, z⟩ ⟨⟨j1, j2⟩, _⟩
      simp only at j1 j2 ⊢
      exact EvP.now _ ⟨by simp only [cur21]; omega, by simp only [cur21]; omega⟩
    · refine EvP.bind (cfg_ok hs (by omega) 2 (by omega)) ?_
      rintro ⟨x1, x2, x3, x4, x5, z⟩ ⟨⟨j1, j2⟩, _⟩
      simp only at j1 j2 ⊢
      exact EvP.now _ ⟨by simp only [cur21]; omega, by simp only [cur21]; omega⟩
    · refine EvP.bind (cfg_ok hs (by omega) 2 (by omega)) ?_
      rintro ⟨x1, x2, x3, x4, x5, z⟩ ⟨⟨j1, j2⟩, _⟩
      simp only at j1 j2 ⊢
      exact EvP.now _ ⟨by simp only [cur21]; omega, by simp only [cur21]; omega⟩
  | succ N ih =>
    intro v p a0 a1 a2 a3 a4 a5 a6 a7 a8 a9 a10 a11 a12 a13 a14 a15 a16 a17 a18 a19 a20 hv hp hq
    refine EvP.up ?_
    simp only [spec_l20Neg.l0]
    refine EvP.ite (fun h => ?_) (fun _ => ?_)
    · refine EvP.bind (negMsg_ok hs (by omega) b0 b1 b2 b3 b4 0 (by omega)) ?_
      rintro ⟨m0, m1, m2, m3, m4, m5, q⟩ ⟨j1, j2⟩
      simp only at j1 j2 ⊢
      refine EvP.val_bind (hear_same ..) ?_
      rw [wrap64_id (x := v - 1) (by omega) (by omega)]
      exact (ih (v - 1) q _ _ _ _ _ _ _ _ _ _ _ _ _ _ _ _ _ _ _ _ _ (by omega) (by omega) (by omega)).mono (fun r hr => ⟨by omega, by omega⟩)
    · skip
      refine EvP.bind (odd_ok hs (by omega) n (by omega)) ?_
      rintro ⟨o, q⟩ ⟨o1, o2, _⟩
      simp only at o1 o2 ⊢
      refine EvP.ite (fun _ => ?_) (fun _ => EvP.now _ ⟨by simp only [cur21]; omega, by simp only [cur21]; omega⟩)
      refine EvP.bind (pick_ok hs (by omega) 4) ?_
      rintro ⟨v2, q2⟩ ⟨h1, h2, h3⟩
      simp only at h1 h2 h3 ⊢; subst h1
      refine EvP.ite (fun _ => ?_) (fun _ => EvP.ite (fun _ => ?_) (fun _ => EvP.ite (fun _ => ?_) (fun _ => ?_)))
      · refine EvP.bind (cfg_ok hs (by omega) 1 (by omega)) ?_
        rintro ⟨x1, x2, x3, x4, x5, z⟩ ⟨⟨j1, j2⟩, _⟩
        simp only at j1 j2 ⊢
        exact EvP.now _ ⟨by simp only [cur21]; omega, by simp only [cur21]; omega⟩
      · refine EvP.bind (cfg_ok hs (by omega) 1 (by omega)) ?_
        rintro ⟨x1, x2, x3, x4, x5, z⟩ ⟨⟨j1, j2⟩, _⟩
        simp only at j1 j2 ⊢
        exact EvP.now _ ⟨by simp only [cur21]; omega, by simp only [cur21]; omega⟩
      · refine EvP.bind (cfg_ok hs (by omega) 2 (by omega)) ?_
        rintro ⟨x1, x2, x3, x4, x5, z⟩ ⟨⟨j1, j2⟩, _⟩
        simp only at j1 j2 ⊢
        exact EvP.now _ ⟨by simp only [cur21]; omega, by simp only [cur21]; omega⟩
      · refine EvP.bind (cfg_ok hs (by omega) 2 (by omega)) ?_
        rintro ⟨x1, x2, x3, x4, x5, z⟩ ⟨⟨j1, j2⟩, _⟩
        simp only at j1 j2 ⊢
        exact EvP.now _ ⟨by simp only [cur21]; omega, by simp only [cur21]; omega⟩
theorem neg_ok {s : List Int} (hs : RdOk s) {p : Int} (hp : 0 ≤ p ∧ p ≤ 300000) (n : Int) (hn : n ≤ 1000) : EvP (fun k => spec_l20Neg.f k s p n) fun r => p ≤ cur21 r ∧ cur21 r ≤ p + 400 := by
  unfold spec_l20Neg.f
  refine EvP.bind (cfg_ok hs (by omega) 0 (by omega)) ?_
  rintro ⟨b0, b1, b2, b3, b4, q⟩ ⟨⟨j1, j2⟩, _⟩
  simp only at j1 j2 ⊢
  have hN : ∃ y, spec_NegNew.f b0 b1 b2 b3 b4 = some y := by
    unfold spec_NegNew.f; rw [cfgOk_same]; simp only [Option.bind_some]; split <;> exact ⟨_, rfl⟩
  obtain ⟨y, hy⟩ := hN
  refine EvP.val_bind hy ?_
  refine EvP.bind (pick_ok hs (by omega) 6) ?_
  rintro ⟨v, q2⟩ ⟨h1, h2, h3⟩
  simp only at h1 h2 h3 ⊢; subst h1
  exact (negL0_ok hs n hn b0 b1 b2 b3 b4 6 v _ _ _ _ _ _ _ _ _ _ _ _ _ _ _ _ _ _ _ _ _ _ (by omega) (by omega) (by omega)).mono (fun r hr => ⟨by omega, by omega⟩)
/-! What two meet at. -/
def meetV (a b c d e a' b' c' d' e' : Int) : Int × Int × Int × Int × Int × Bool := if cok a b c d e = true ∧ cok a' b' c' d' e' = true ∧ a = a' then (a, mn b b', mn c c', mn d d', mn e e', true) else (0, 0, 0, 0, 0, false)
theorem mn_val (a b : Int) : mn a b = min a b := by unfold mn; omega
theorem cok_iff' {a b c d e : Int} : cok a b c d e = true ↔ (1 ≤ a ∧ a ≤ 2) ∧ (1 ≤ b ∧ b ≤ 4) ∧ (1 ≤ c ∧ c ≤ 8) ∧ (1 ≤ d ∧ d ≤ 24) ∧ (1 ≤ e ∧ e ≤ 5) := by
  unfold cok; rw [decide_eq_true_eq]
theorem meet_val (a b c d e a' b' c' d' e' : Int) : impl_CfgMeet.f a b c d e a' b' c' d' e' = some (meetV a b c d e a' b' c' d' e') := by
  unfold impl_CfgMeet.f meetV
  rw [cfgOk_val, cfgOk_val]
  simp only [Option.bind_some]
  by_cases h1 : cok a b c d e = true
  · rw [if_pos h1]
    by_cases h2 : cok a' b' c' d' e' = true
    · rw [if_pos h2]
      by_cases h3 : a = a'
      · rw [if_pos h3, if_pos ⟨h1, h2, h3⟩]
      · rw [if_neg h3, if_neg (fun h => h3 h.2.2)]
    · rw [if_neg h2, if_neg (fun h => h2 h.2.1)]
  · rw [if_neg h1, if_neg (fun h => h1 h.1)]
theorem hear_val (a0 a1 a2 a3 a4 a5 a6 a7 a8 a9 a10 a11 a12 a13 a14 a15 a16 a17 a18 a19 : Int) (a20 : Bool) (m0 m1 m2 m3 m4 m5 : Int) : impl_NegHear.f a0 a1 a2 a3 a4 a5 a6 a7 a8 a9 a10 a11 a12 a13 a14 a15 a16 a17 a18 a19 a20 m0 m1 m2 m3 m4 m5 = some (hearV a0 a1 a2 a3 a4 a5 a6 a7 a8 a9 a10 a11 a12 a13 a14 a15 a16 a17 a18 a19 a20 m0 m1 m2 m3 m4 m5) := by
  unfold impl_NegHear.f hearV hgood
  rw [negOk_val, in_val, cfgOk_val, meet_val, meet_val]
  simp only [Option.bind_some]
  by_cases h1 : negok a0 a1 a2 a3 a4 a5 a6 a7 a8 a9 a10 a11 a12 a13 a14 a15 a16 a17 a18 a19 = true
  · by_cases h2 : 1 ≤ m0 ∧ m0 ≤ 3
    · by_cases h3 : cok m1 m2 m3 m4 m5 = true
      · obtain ⟨g1, g2, g3, _, _⟩ := negok_parts h1
        have hgd : (negok a0 a1 a2 a3 a4 a5 a6 a7 a8 a9 a10 a11 a12 a13 a14 a15 a16 a17 a18 a19 && (decide (1 ≤ m0 ∧ m0 ≤ 3) && cok m1 m2 m3 m4 m5)) = true := by rw [h1, h3, decide_eq_true h2]; rfl
        rw [if_pos hgd, if_pos h1, if_pos (decide_eq_true h2), if_pos h3]
        unfold hcore
        by_cases h4 : m1 = a0
        · have e1 : meetV a0 a1 a2 a3 a4 m1 m2 m3 m4 m5 = (a0, mn a1 m2, mn a2 m3, mn a3 m4, mn a4 m5, true) := by unfold meetV; rw [if_pos ⟨g1, h3, h4.symm⟩]
          have e2 : meetV a5 a6 a7 a8 a9 m1 m2 m3 m4 m5 = (a5, mn a6 m2, mn a7 m3, mn a8 m4, mn a9 m5, true) := by unfold meetV; rw [if_pos ⟨g2, h3, g3.symm.trans h4.symm⟩]
          rw [if_pos h4, if_pos h4, e1, e2]
          by_cases h5 : m0 = 1
          · rw [if_pos h5, if_pos h5]; simp only; split <;> rfl
          · rw [if_neg h5, if_neg h5]
            by_cases h6 : m0 = 2
            · rw [if_pos h6, if_pos h6]; split <;> rfl
            · rw [if_neg h6, if_neg h6, if_pos (by omega : m0 = 3)]
              unfold none5
              split <;> rfl
        · rw [if_neg h4, if_neg h4]
      · have hgd : ¬ (negok a0 a1 a2 a3 a4 a5 a6 a7 a8 a9 a10 a11 a12 a13 a14 a15 a16 a17 a18 a19 && (decide (1 ≤ m0 ∧ m0 ≤ 3) && cok m1 m2 m3 m4 m5)) = true := by rw [Bool.eq_false_iff.mpr h3]; simp
        rw [if_neg hgd, if_pos h1, if_pos (decide_eq_true h2), if_neg h3]; rfl
    · have hgd : ¬ (negok a0 a1 a2 a3 a4 a5 a6 a7 a8 a9 a10 a11 a12 a13 a14 a15 a16 a17 a18 a19 && (decide (1 ≤ m0 ∧ m0 ≤ 3) && cok m1 m2 m3 m4 m5)) = true := by rw [decide_eq_false h2]; simp
      rw [if_neg hgd, if_pos h1, decide_eq_false h2, if_neg Bool.false_ne_true]; rfl
  · have hgd : ¬ (negok a0 a1 a2 a3 a4 a5 a6 a7 a8 a9 a10 a11 a12 a13 a14 a15 a16 a17 a18 a19 && (decide (1 ≤ m0 ∧ m0 ≤ 3) && cok m1 m2 m3 m4 m5)) = true := by rw [Bool.eq_false_iff.mpr h1]; simp
    rw [if_neg hgd, if_neg h1]; rfl
theorem drawHear_ok (l : List Int) (hw : ∀ x ∈ l, (Lit.int .u8 x).wf = true) : EvP (fun k => spec_DrawNegHear.f k l) fun _ => True := by
  obtain ⟨s, hs, ok⟩ := open_ok l hw
  unfold spec_DrawNegHear.f
  refine EvP.val_bind hs (EvP.bind (neg_ok ok (by simp) 12 (by omega)) ?_)
  rintro ⟨a0, a1, a2, a3, a4, a5, a6, a7, a8, a9, a10, a11, a12, a13, a14, a15, a16, a17, a18, a19, a20, q⟩ ⟨h1, h2⟩
  simp only [cur21] at h1 h2 ⊢
  refine EvP.bind (negMsg_ok ok (by omega) _ _ _ _ _ 12 (by omega)) ?_
  rintro ⟨m0, m1, m2, m3, m4, m5, q2⟩ ⟨j1, j2⟩
  simp only at j1 j2 ⊢
  refine EvP.bind (odd_ok ok (by omega) 16 (by omega)) ?_
  rintro ⟨o, q3⟩ ⟨o1, o2, _⟩
  simp only at o1 o2 ⊢
  refine EvP.ite (fun _ => ?_) (fun _ => EvP.now _ trivial)
  refine EvP.some_bind (EvP.bind (pick_ok ok (by omega) 2) ?_)
  rintro ⟨v, q4⟩ ⟨i1, i2, i3⟩
  simp only at i1 i2 i3 ⊢
  exact EvP.pos i2 (EvP.pos (by simp; omega) (EvP.now _ trivial))
theorem hv_fail {a0 a1 a2 a3 a4 a5 a6 a7 a8 a9 a10 a11 a12 a13 a14 a15 a16 a17 a18 a19 : Int} {a20 : Bool} {m0 m1 m2 m3 m4 m5 : Int} (hg : hgood a0 a1 a2 a3 a4 a5 a6 a7 a8 a9 a10 a11 a12 a13 a14 a15 a16 a17 a18 a19 a20 m0 m1 m2 m3 m4 m5 = true) (h4 : ¬ m1 = a0) : hearV a0 a1 a2 a3 a4 a5 a6 a7 a8 a9 a10 a11 a12 a13 a14 a15 a16 a17 a18 a19 a20 m0 m1 m2 m3 m4 m5 = (a0, a1, a2, a3, a4, a5, a6, a7, a8, a9, a10, a11, a12, a13, a14, a15, a16, a17, a18, a19, true, 0, 0, 0, 0, 0, 0, false) := by unfold hearV; rw [if_pos hg]; unfold hcore; rw [if_neg h4]
theorem hv_but {a0 a1 a2 a3 a4 a5 a6 a7 a8 a9 a10 a11 a12 a13 a14 a15 a16 a17 a18 a19 : Int} {a20 : Bool} {m0 m1 m2 m3 m4 m5 : Int} (hg : hgood a0 a1 a2 a3 a4 a5 a6 a7 a8 a9 a10 a11 a12 a13 a14 a15 a16 a17 a18 a19 a20 m0 m1 m2 m3 m4 m5 = true) (h4 : m1 = a0) (h5 : m0 = 1) (h6 : (!(a0 == m1) || (!((mn a1 m2) == m2) || (!((mn a2 m3) == m3) || (!((mn a3 m4) == m4) || (!((mn a4 m5) == m5)))))) = true) : hearV a0 a1 a2 a3 a4 a5 a6 a7 a8 a9 a10 a11 a12 a13 a14 a15 a16 a17 a18 a19 a20 m0 m1 m2 m3 m4 m5 = (a0, a1, a2, a3, a4, a5, a6, a7, a8, a9, a10, a11, a12, a13, a14, a15, a16, a17, a18, a19, a20, 3, a0, mn a1 m2, mn a2 m3, mn a3 m4, mn a4 m5, true) := by unfold hearV; rw [if_pos hg]; unfold hcore; rw [if_pos h4, if_pos h5, if_pos h6]
theorem hv_yes {a0 a1 a2 a3 a4 a5 a6 a7 a8 a9 a10 a11 a12 a13 a14 a15 a16 a17 a18 a19 : Int} {a20 : Bool} {m0 m1 m2 m3 m4 m5 : Int} (hg : hgood a0 a1 a2 a3 a4 a5 a6 a7 a8 a9 a10 a11 a12 a13 a14 a15 a16 a17 a18 a19 a20 m0 m1 m2 m3 m4 m5 = true) (h4 : m1 = a0) (h5 : m0 = 1) (h6 : ¬ (!(a0 == m1) || (!((mn a1 m2) == m2) || (!((mn a2 m3) == m3) || (!((mn a3 m4) == m4) || (!((mn a4 m5) == m5)))))) = true) : hearV a0 a1 a2 a3 a4 a5 a6 a7 a8 a9 a10 a11 a12 a13 a14 a15 a16 a17 a18 a19 a20 m0 m1 m2 m3 m4 m5 = (a0, a1, a2, a3, a4, a5, a6, a7, a8, a9, a10, a11, a12, a13, a14, m1, m2, m3, m4, m5, a20, 2, m1, m2, m3, m4, m5, true) := by unfold hearV; rw [if_pos hg]; unfold hcore; rw [if_pos h4, if_pos h5, if_neg h6]
theorem hv_mine {a0 a1 a2 a3 a4 a5 a6 a7 a8 a9 a10 a11 a12 a13 a14 a15 a16 a17 a18 a19 : Int} {a20 : Bool} {m0 m1 m2 m3 m4 m5 : Int} (hg : hgood a0 a1 a2 a3 a4 a5 a6 a7 a8 a9 a10 a11 a12 a13 a14 a15 a16 a17 a18 a19 a20 m0 m1 m2 m3 m4 m5 = true) (h4 : m1 = a0) (h5 : ¬ m0 = 1) (h6 : m0 = 2) (h7 : (m1 == a5 && (m2 == a6 && (m3 == a7 && (m4 == a8 && (m5 == a9))))) = true) : hearV a0 a1 a2 a3 a4 a5 a6 a7 a8 a9 a10 a11 a12 a13 a14 a15 a16 a17 a18 a19 a20 m0 m1 m2 m3 m4 m5 = (a0, a1, a2, a3, a4, a5, a6, a7, a8, a9, m1, m2, m3, m4, m5, a15, a16, a17, a18, a19, a20, 0, 0, 0, 0, 0, 0, false) := by unfold hearV; rw [if_pos hg]; unfold hcore; rw [if_pos h4, if_neg h5, if_pos h6, if_pos h7]
theorem hv_stay2 {a0 a1 a2 a3 a4 a5 a6 a7 a8 a9 a10 a11 a12 a13 a14 a15 a16 a17 a18 a19 : Int} {a20 : Bool} {m0 m1 m2 m3 m4 m5 : Int} (hg : hgood a0 a1 a2 a3 a4 a5 a6 a7 a8 a9 a10 a11 a12 a13 a14 a15 a16 a17 a18 a19 a20 m0 m1 m2 m3 m4 m5 = true) (h4 : m1 = a0) (h5 : ¬ m0 = 1) (h6 : m0 = 2) (h7 : ¬ (m1 == a5 && (m2 == a6 && (m3 == a7 && (m4 == a8 && (m5 == a9))))) = true) : hearV a0 a1 a2 a3 a4 a5 a6 a7 a8 a9 a10 a11 a12 a13 a14 a15 a16 a17 a18 a19 a20 m0 m1 m2 m3 m4 m5 = (a0, a1, a2, a3, a4, a5, a6, a7, a8, a9, a10, a11, a12, a13, a14, a15, a16, a17, a18, a19, a20, 0, 0, 0, 0, 0, 0, false) := by unfold hearV; rw [if_pos hg]; unfold hcore; rw [if_pos h4, if_neg h5, if_pos h6, if_neg h7]
theorem hv_less {a0 a1 a2 a3 a4 a5 a6 a7 a8 a9 a10 a11 a12 a13 a14 a15 a16 a17 a18 a19 : Int} {a20 : Bool} {m0 m1 m2 m3 m4 m5 : Int} (hg : hgood a0 a1 a2 a3 a4 a5 a6 a7 a8 a9 a10 a11 a12 a13 a14 a15 a16 a17 a18 a19 a20 m0 m1 m2 m3 m4 m5 = true) (h4 : m1 = a0) (h5 : ¬ m0 = 1) (h6 : ¬ m0 = 2) (h7 : none5 a10 a11 a12 a13 a14 = true) : hearV a0 a1 a2 a3 a4 a5 a6 a7 a8 a9 a10 a11 a12 a13 a14 a15 a16 a17 a18 a19 a20 m0 m1 m2 m3 m4 m5 = (a0, a1, a2, a3, a4, a5, mn a6 m2, mn a7 m3, mn a8 m4, mn a9 m5, a10, a11, a12, a13, a14, a15, a16, a17, a18, a19, a20, 0, 0, 0, 0, 0, 0, false) := by unfold hearV; rw [if_pos hg]; unfold hcore; rw [if_pos h4, if_neg h5, if_neg h6, if_pos h7]
theorem hv_stay3 {a0 a1 a2 a3 a4 a5 a6 a7 a8 a9 a10 a11 a12 a13 a14 a15 a16 a17 a18 a19 : Int} {a20 : Bool} {m0 m1 m2 m3 m4 m5 : Int} (hg : hgood a0 a1 a2 a3 a4 a5 a6 a7 a8 a9 a10 a11 a12 a13 a14 a15 a16 a17 a18 a19 a20 m0 m1 m2 m3 m4 m5 = true) (h4 : m1 = a0) (h5 : ¬ m0 = 1) (h6 : ¬ m0 = 2) (h7 : ¬ none5 a10 a11 a12 a13 a14 = true) : hearV a0 a1 a2 a3 a4 a5 a6 a7 a8 a9 a10 a11 a12 a13 a14 a15 a16 a17 a18 a19 a20 m0 m1 m2 m3 m4 m5 = (a0, a1, a2, a3, a4, a5, a6, a7, a8, a9, a10, a11, a12, a13, a14, a15, a16, a17, a18, a19, a20, 0, 0, 0, 0, 0, 0, false) := by unfold hearV; rw [if_pos hg]; unfold hcore; rw [if_pos h4, if_neg h5, if_neg h6, if_neg h7]
theorem hv_zero {a0 a1 a2 a3 a4 a5 a6 a7 a8 a9 a10 a11 a12 a13 a14 a15 a16 a17 a18 a19 : Int} {a20 : Bool} {m0 m1 m2 m3 m4 m5 : Int} (hg : ¬ hgood a0 a1 a2 a3 a4 a5 a6 a7 a8 a9 a10 a11 a12 a13 a14 a15 a16 a17 a18 a19 a20 m0 m1 m2 m3 m4 m5 = true) : hearV a0 a1 a2 a3 a4 a5 a6 a7 a8 a9 a10 a11 a12 a13 a14 a15 a16 a17 a18 a19 a20 m0 m1 m2 m3 m4 m5 = (0, 0, 0, 0, 0, 0, 0, 0, 0, 0, 0, 0, 0, 0, 0, 0, 0, 0, 0, 0, false, 0, 0, 0, 0, 0, 0, false) := by unfold hearV; rw [if_neg hg]; rfl
theorem hgood_parts {a0 a1 a2 a3 a4 a5 a6 a7 a8 a9 a10 a11 a12 a13 a14 a15 a16 a17 a18 a19 : Int} {a20 : Bool} {m0 m1 m2 m3 m4 m5 : Int} (h : hgood a0 a1 a2 a3 a4 a5 a6 a7 a8 a9 a10 a11 a12 a13 a14 a15 a16 a17 a18 a19 a20 m0 m1 m2 m3 m4 m5 = true) : negok a0 a1 a2 a3 a4 a5 a6 a7 a8 a9 a10 a11 a12 a13 a14 a15 a16 a17 a18 a19 = true ∧ (1 ≤ m0 ∧ m0 ≤ 3) ∧ cok m1 m2 m3 m4 m5 = true := by
  unfold hgood at h
  simp only [Bool.and_eq_true, decide_eq_true_eq] at h
  exact h
theorem hgood_intro {a0 a1 a2 a3 a4 a5 a6 a7 a8 a9 a10 a11 a12 a13 a14 a15 a16 a17 a18 a19 : Int} {a20 : Bool} {m0 m1 m2 m3 m4 m5 : Int} (h1 : negok a0 a1 a2 a3 a4 a5 a6 a7 a8 a9 a10 a11 a12 a13 a14 a15 a16 a17 a18 a19 = true) (h2 : 1 ≤ m0 ∧ m0 ≤ 3) (h3 : cok m1 m2 m3 m4 m5 = true) : hgood a0 a1 a2 a3 a4 a5 a6 a7 a8 a9 a10 a11 a12 a13 a14 a15 a16 a17 a18 a19 a20 m0 m1 m2 m3 m4 m5 = true := by
  unfold hgood
  rw [h1, h3, decide_eq_true h2]; rfl
theorem mayV_of {a b c d e m : Int} (h : cok a b c d e = true) (h2 : a = m) : mayV a b c d e m = true := by
  unfold mayV; rw [h, beq_iff_eq.mpr h2.symm]; simp
theorem negok_yours {a0 a1 a2 a3 a4 a5 a6 a7 a8 a9 a10 a11 a12 a13 a14 a15 a16 a17 a18 a19 m1 m2 m3 m4 m5 : Int} (h : negok a0 a1 a2 a3 a4 a5 a6 a7 a8 a9 a10 a11 a12 a13 a14 a15 a16 a17 a18 a19 = true) (h2 : cok m1 m2 m3 m4 m5 = true) (h3 : m1 = a0) : negok a0 a1 a2 a3 a4 a5 a6 a7 a8 a9 a10 a11 a12 a13 a14 m1 m2 m3 m4 m5 = true := by
  obtain ⟨g1, g2, g3, g4, g5⟩ := negok_parts h
  unfold negok; rw [g1, g2, g4, mayV_of h2 h3, beq_iff_eq.mpr g3]; rfl
theorem negok_mine {a0 a1 a2 a3 a4 a5 a6 a7 a8 a9 a10 a11 a12 a13 a14 a15 a16 a17 a18 a19 m1 m2 m3 m4 m5 : Int} (h : negok a0 a1 a2 a3 a4 a5 a6 a7 a8 a9 a10 a11 a12 a13 a14 a15 a16 a17 a18 a19 = true) (h2 : cok m1 m2 m3 m4 m5 = true) (h3 : m1 = a0) : negok a0 a1 a2 a3 a4 a5 a6 a7 a8 a9 m1 m2 m3 m4 m5 a15 a16 a17 a18 a19 = true := by
  obtain ⟨g1, g2, g3, g4, g5⟩ := negok_parts h
  unfold negok; rw [g1, g2, g5, mayV_of h2 h3, beq_iff_eq.mpr g3]; rfl
theorem cok_least {a b c d e a' b' c' d' e' : Int} (h : cok a b c d e = true) (h2 : cok a' b' c' d' e' = true) : cok a (mn b b') (mn c c') (mn d d') (mn e e') = true := by
  have g1 := cok_iff'.1 h
  have g2 := cok_iff'.1 h2
  simp only [mn_val]
  rw [cok_iff']
  omega
theorem negok_less {a0 a1 a2 a3 a4 a5 a6 a7 a8 a9 a10 a11 a12 a13 a14 a15 a16 a17 a18 a19 m1 m2 m3 m4 m5 : Int} (h : negok a0 a1 a2 a3 a4 a5 a6 a7 a8 a9 a10 a11 a12 a13 a14 a15 a16 a17 a18 a19 = true) (h2 : cok m1 m2 m3 m4 m5 = true) : negok a0 a1 a2 a3 a4 a5 (mn a6 m2) (mn a7 m3) (mn a8 m4) (mn a9 m5) a10 a11 a12 a13 a14 a15 a16 a17 a18 a19 = true := by
  obtain ⟨g1, g2, g3, g4, g5⟩ := negok_parts h
  unfold negok; rw [g1, cok_least g2 h2, g4, g5, beq_iff_eq.mpr g3]; rfl
theorem ne_of_nelo {a b c d e a' b' c' d' e' : Int} (h : (!(a == a') || (!(b == b') || (!(c == c') || (!(d == d') || (!(e == e')))))) = true) : ¬ (a == a' && (b == b' && (c == c' && (d == d' && (e == e'))))) = true := by
  cases h1 : a == a' <;> cases h2 : b == b' <;> cases h3 : c == c' <;> cases h4 : d == d' <;> cases h5 : e == e' <;> simp_all
theorem mn_mn (a b : Int) : mn (mn a b) b = mn a b := by simp only [mn_val]; omega
theorem liOk_true : laws_liOk.f = some true := by
  unfold laws_liOk.f impl_CfgOk.f impl_in.f
  decide
theorem FnNegHear : laws_FnNegHear.Pure := by
  intro l0 _ _ hw
  refine EvP.rounds ?_
  unfold laws_FnNegHear.f
  refine EvP.ite (fun _ => EvP.now _ rfl) (fun _ => ?_)
  refine EvP.bind (drawHear_ok l0 hw) ?_
  rintro ⟨a0, a1, a2, a3, a4, a5, a6, a7, a8, a9, a10, a11, a12, a13, a14, a15, a16, a17, a18, a19, a20, m0, m1, m2, m3, m4, m5⟩ _
  simp only
  refine EvP.val_bind (hear_val ..) (EvP.val_bind (hear_same ..) ?_)
  by_cases hg : hgood a0 a1 a2 a3 a4 a5 a6 a7 a8 a9 a10 a11 a12 a13 a14 a15 a16 a17 a18 a19 a20 m0 m1 m2 m3 m4 m5 = true
  · obtain ⟨h1, h2, h3⟩ := hgood_parts hg
    obtain ⟨g1, g2, g3, g4, g5⟩ := negok_parts h1
    by_cases h4 : m1 = a0
    · have hm : meetV a0 a1 a2 a3 a4 m1 m2 m3 m4 m5 = (a0, mn a1 m2, mn a2 m3, mn a3 m4, mn a4 m5, true) := by unfold meetV; rw [if_pos ⟨g1, h3, h4.symm⟩]
      by_cases h5 : m0 = 1
      · by_cases h6 : (!(a0 == m1) || (!((mn a1 m2) == m2) || (!((mn a2 m3) == m3) || (!((mn a3 m4) == m4) || (!((mn a4 m5) == m5)))))) = true
        · exact (by
        rw [hv_but hg h4 h5 h6]
        refine EvP.neg (by simp) (EvP.neg (by simp) (EvP.neg (by simp) (EvP.val_bind (negOk_val ..) (EvP.val_bind (negOk_same ..) (EvP.neg (by simp) (EvP.val_bind (negOk_same ..) (EvP.pos h1 (EvP.neg (by omega) (EvP.neg (by omega) (EvP.val_bind (cfgOk_same ..) (EvP.pos h3 (EvP.val_bind (negOk_val ..) (EvP.pos h1 (EvP.neg (by simp) (EvP.neg (by simp only [mn_val]; omega) (EvP.neg (by simp only [mn_val]; omega) (EvP.val_bind (meet_val ..) ?_)))))))))))))))))
        rw [hm]
        exact EvP.pos rfl (EvP.pos h5 (EvP.neg (ne_of_nelo h6) (EvP.pos rfl (EvP.pos (by simp) (EvP.now _ (by simp)))))))
        · have ok := negok_yours h1 h3 h4
          exact (by
        rw [hv_yes hg h4 h5 h6]
        refine EvP.neg (by simp) (EvP.neg (by simp) (EvP.neg (by simp) (EvP.val_bind (negOk_val ..) (EvP.val_bind (negOk_same ..) (EvP.neg (by simp) (EvP.val_bind (negOk_same ..) (EvP.pos h1 (EvP.neg (by omega) (EvP.neg (by omega) (EvP.val_bind (cfgOk_same ..) (EvP.pos h3 (EvP.val_bind (negOk_val ..) (EvP.pos ok (EvP.neg (by simp) (EvP.neg (by simp only [mn_val]; omega) (EvP.neg (by simp only [mn_val]; omega) (EvP.val_bind (meet_val ..) ?_)))))))))))))))))
        rw [hm]
        exact EvP.pos rfl (EvP.pos h5 (EvP.pos (by simpa using h6) (EvP.pos rfl (EvP.pos (by simp) (EvP.now _ (by simp)))))))
      · by_cases h6 : m0 = 2
        · by_cases h7 : (m1 == a5 && (m2 == a6 && (m3 == a7 && (m4 == a8 && (m5 == a9))))) = true
          · have ok := negok_mine h1 h3 h4
            exact (by
        rw [hv_mine hg h4 h5 h6 h7]
        refine EvP.neg (by simp) (EvP.neg (by simp) (EvP.neg (by simp) (EvP.val_bind (negOk_val ..) (EvP.val_bind (negOk_same ..) (EvP.neg (by simp) (EvP.val_bind (negOk_same ..) (EvP.pos h1 (EvP.neg (by omega) (EvP.neg (by omega) (EvP.val_bind (cfgOk_same ..) (EvP.pos h3 (EvP.val_bind (negOk_val ..) (EvP.pos ok (EvP.neg (by simp) (EvP.neg (by simp only [mn_val]; omega) (EvP.neg (by simp only [mn_val]; omega) (EvP.val_bind (meet_val ..) ?_)))))))))))))))))
        rw [hm]
        exact EvP.pos rfl (EvP.neg h5 (EvP.neg (by simp) (EvP.now _ (by simp)))))
          · exact (by
        rw [hv_stay2 hg h4 h5 h6 h7]
        refine EvP.neg (by simp) (EvP.neg (by simp) (EvP.neg (by simp) (EvP.val_bind (negOk_val ..) (EvP.val_bind (negOk_same ..) (EvP.neg (by simp) (EvP.val_bind (negOk_same ..) (EvP.pos h1 (EvP.neg (by omega) (EvP.neg (by omega) (EvP.val_bind (cfgOk_same ..) (EvP.pos h3 (EvP.val_bind (negOk_val ..) (EvP.pos h1 (EvP.neg (by simp) (EvP.neg (by simp only [mn_val]; omega) (EvP.neg (by simp only [mn_val]; omega) (EvP.val_bind (meet_val ..) ?_)))))))))))))))))
        rw [hm]
        exact EvP.pos rfl (EvP.neg h5 (EvP.neg (by simp) (EvP.now _ (by simp)))))
        · by_cases h7 : none5 a10 a11 a12 a13 a14 = true
          · have ok := negok_less h1 h3
            exact (by
        rw [hv_less hg h4 h5 h6 h7]
        refine EvP.neg (by simp) (EvP.neg (by simp) (EvP.neg (by simp) (EvP.val_bind (negOk_val ..) (EvP.val_bind (negOk_same ..) (EvP.neg (by simp) (EvP.val_bind (negOk_same ..) (EvP.pos h1 (EvP.neg (by omega) (EvP.neg (by omega) (EvP.val_bind (cfgOk_same ..) (EvP.pos h3 (EvP.val_bind (negOk_val ..) (EvP.pos ok (EvP.neg (by simp) (EvP.neg (by simp only [mn_val]; omega) (EvP.neg (by simp only [mn_val]; omega) (EvP.val_bind (meet_val ..) ?_)))))))))))))))))
        rw [hm]
        exact EvP.pos rfl (EvP.neg h5 (EvP.neg (by simp) (EvP.now _ (by simp)))))
          · exact (by
        rw [hv_stay3 hg h4 h5 h6 h7]
        refine EvP.neg (by simp) (EvP.neg (by simp) (EvP.neg (by simp) (EvP.val_bind (negOk_val ..) (EvP.val_bind (negOk_same ..) (EvP.neg (by simp) (EvP.val_bind (negOk_same ..) (EvP.pos h1 (EvP.neg (by omega) (EvP.neg (by omega) (EvP.val_bind (cfgOk_same ..) (EvP.pos h3 (EvP.val_bind (negOk_val ..) (EvP.pos h1 (EvP.neg (by simp) (EvP.neg (by simp only [mn_val]; omega) (EvP.neg (by simp only [mn_val]; omega) (EvP.val_bind (meet_val ..) ?_)))))))))))))))))
        rw [hm]
        exact EvP.pos rfl (EvP.neg h5 (EvP.neg (by simp) (EvP.now _ (by simp)))))
    · have hm : meetV a0 a1 a2 a3 a4 m1 m2 m3 m4 m5 = (0, 0, 0, 0, 0, false) := by unfold meetV; rw [if_neg (fun h => h4 h.2.2.symm)]
      exact (by
        rw [hv_fail hg h4]
        refine EvP.neg (by simp) (EvP.neg (by simp) (EvP.neg (by simp) (EvP.val_bind (negOk_val ..) (EvP.val_bind (negOk_same ..) (EvP.neg (by simp) (EvP.val_bind (negOk_same ..) (EvP.pos h1 (EvP.neg (by omega) (EvP.neg (by omega) (EvP.val_bind (cfgOk_same ..) (EvP.pos h3 (EvP.val_bind (negOk_val ..) (EvP.pos h1 (EvP.neg (by simp) (EvP.neg (by simp only [mn_val]; omega) (EvP.neg (by simp only [mn_val]; omega) (EvP.val_bind (meet_val ..) ?_)))))))))))))))))
        rw [hm]
        exact EvP.neg (by simp) (EvP.pos rfl (EvP.now _ rfl)))
  · rw [hv_zero hg]
    have hz : EvP (fun _ : Nat => (laws_liOk.f).bind fun t => some t) (· = true) := EvP.val_bind liOk_true (EvP.now _ rfl)
    refine EvP.neg (by simp) (EvP.neg (by simp) (EvP.neg (by simp) (EvP.val_bind (negOk_val ..) (EvP.val_bind (negOk_same ..) (EvP.neg (by simp) (EvP.val_bind (negOk_same ..) (EvP.ite (fun h1 => EvP.ite (fun _ => EvP.pos (by simp) (EvP.neg (by simp) hz)) (fun h2 => EvP.ite (fun _ => EvP.pos (by simp) (EvP.neg (by simp) hz)) (fun h3 => EvP.val_bind (cfgOk_same ..) (EvP.ite (fun h4 => absurd (hgood_intro h1 (by omega) h4) hg) (fun _ => EvP.pos (by simp) (EvP.neg (by simp) hz)))))) (fun _ => EvP.pos (by simp) (EvP.neg (by simp) hz)))))))))

end Go.Proofs.Ytoigmeiollfklaa.Pure
