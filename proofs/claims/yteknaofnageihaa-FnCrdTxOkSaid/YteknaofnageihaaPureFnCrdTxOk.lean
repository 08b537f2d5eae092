/- The law FnCrdTxOk: credits are what was granted, less what was sent. No condition. -/
import Derived.Test.YteknaofnageihaaQFnCrdTxOkx29
namespace Go.Proofs.Yteknaofnageihaa.Pure
open Go.RowKit Go.Proofs.Yteknaofnageihaa.QFnCrdTxOk Go.Proofs.YteknaofnageihaaW.PrintWords Go.Proofs.YteknaofnageihaaW.PrintLast Go.Proofs.YteknaofnageihaaW.PrintMore
set_option linter.unusedVariables false
set_option linter.unusedSimpArgs false

/-! A small calculus: with enough rounds g comes to something of which Q holds. -/
def EvP {α : Type} (g : Nat → Option α) (Q : α → Prop) : Prop := ∃ r, Ev g r ∧ Q r
theorem EvP.now {α : Type} {Q : α → Prop} (r : α) (h : Q r) : EvP (fun _ => some r) Q := ⟨r, Ev.now r, h⟩
theorem EvP.here {α : Type} {o : Option α} {Q : α → Prop} (r : α) (e : o = some r) (h : Q r) : EvP (fun _ => o) Q := by subst e; exact EvP.now r h
theorem EvP.of {α : Type} {g : Nat → Option α} {Q : α → Prop} (K : Nat) (h : ∃ r, (∀ k, K ≤ k → g k = some r) ∧ Q r) : EvP g Q := by
  obtain ⟨r, h1, h2⟩ := h
  exact ⟨r, ⟨K, h1⟩, h2⟩
theorem EvP.bind {α β : Type} {g : Nat → Option α} {f : Nat → α → Option β} {P : α → Prop} {Q : β → Prop} (h : EvP g P) (k : ∀ a, P a → EvP (fun n => f n a) Q) : EvP (fun n => (g n).bind (f n)) Q := by
  obtain ⟨a, ha, hp⟩ := h
  obtain ⟨r, hr, hq⟩ := k a hp
  exact ⟨r, Ev.bind ha hr, hq⟩
theorem EvP.some_bind {α β : Type} {a : α} {f : Nat → α → Option β} {Q : β → Prop} (k : EvP (fun n => f n a) Q) : EvP (fun n => (some a).bind (f n)) Q := k
theorem EvP.step {α : Type} {g f : Nat → Option α} {Q : α → Prop} (h : ∀ k, g (k + 1) = f k) (k : EvP f Q) : EvP g Q := by
  obtain ⟨r, hr, hq⟩ := k
  exact ⟨r, Ev.step h hr, hq⟩
theorem EvP.congr {α : Type} {g f : Nat → Option α} {Q : α → Prop} (h : ∀ k, g k = f k) (k : EvP f Q) : EvP g Q := by
  obtain ⟨r, hr, hq⟩ := k
  exact ⟨r, Ev.congr h hr, hq⟩
theorem EvP.mono {α : Type} {g : Nat → Option α} {P Q : α → Prop} (h : EvP g P) (k : ∀ a, P a → Q a) : EvP g Q := by
  obtain ⟨r, hr, hp⟩ := h
  exact ⟨r, hr, k r hp⟩
theorem EvP.ite {α : Type} {c : Prop} [Decidable c] {f g : Nat → Option α} {Q : α → Prop} (h1 : c → EvP f Q) (h2 : ¬ c → EvP g Q) : EvP (fun k => if c then f k else g k) Q := by
  by_cases hc : c
  · simp only [if_pos hc]; exact h1 hc
  · simp only [if_neg hc]; exact h2 hc
theorem EvP.pos {α : Type} {c : Prop} [Decidable c] {f g : Nat → Option α} {Q : α → Prop} (hc : c) (h : EvP f Q) : EvP (fun k => if c then f k else g k) Q := by
  simp only [if_pos hc]; exact h
theorem EvP.neg {α : Type} {c : Prop} [Decidable c] {f g : Nat → Option α} {Q : α → Prop} (hc : ¬ c) (h : EvP g Q) : EvP (fun k => if c then f k else g k) Q := by
  simp only [if_neg hc]; exact h
theorem EvP.rounds {α : Type} {g : Nat → Option α} {r : α} (h : EvP g (· = r)) : ∃ k, g k = some r := by
  obtain ⟨q, hq, rfl⟩ := h
  exact hq.rounds
theorem EvP.up {α : Type} {g : Nat → Option α} {Q : α → Prop} (h : EvP (fun k => g (k + 1)) Q) : EvP g Q := EvP.step (fun _ => rfl) h
theorem EvP.val_bind {α β : Type} {o : Option α} {a : α} {f : Nat → α → Option β} {Q : β → Prop} (e : o = some a) (k : EvP (fun n => f n a) Q) : EvP (fun n => o.bind (f n)) Q := by subst e; exact k
theorem EvP.eq_bind {α β : Type} {g : Nat → Option α} {f : Nat → α → Option β} {a : α} {Q : β → Prop} (h : EvP g (· = a)) (k : EvP (fun n => f n a) Q) : EvP (fun n => (g n).bind (f n)) Q := EvP.bind h (fun _ e => by subst e; exact k)
/-! The reader of a code: whatever it picks lies in bounds. -/
def RdOk (s : List Int) : Prop := s.length ≤ 2000 ∧ ∀ x ∈ s, 0 ≤ x ∧ x ≤ 255
theorem rd_range {s : List Int} (h : RdOk s) (i : Int) : 0 ≤ rd s i ∧ rd s i ≤ 255 := by
  unfold rd
  rw [List.getD_eq_getElem?_getD]
  cases e : s[i.toNat]? with
  | none => simp
  | some x => exact h.2 x (List.mem_of_getElem? e)
theorem wrap64_id {x : Int} (h : -9223372036854775808 ≤ x) (h2 : x ≤ 9223372036854775807) : wrap64 x = x := by unfold wrap64; omega
theorem xor_nonneg (a b : Int) (ha : 0 ≤ a) (ha2 : a < 9223372036854775808) (hb : 0 ≤ b) (hb2 : b < 9223372036854775808) : 0 ≤ Go.bits .xor .i64 a b := by
  obtain ⟨m, rfl⟩ := Int.eq_ofNat_of_zero_le ha
  obtain ⟨n, rfl⟩ := Int.eq_ofNat_of_zero_le hb
  have hm : m < 2 ^ 63 := by omega
  have hn : n < 2 ^ 63 := by omega
  have hx := Nat.xor_lt_two_pow hm hn
  have h1 : m % 2 ^ 64 = m := Nat.mod_eq_of_lt (by omega)
  have h2 : n % 2 ^ 64 = n := Nat.mod_eq_of_lt (by omega)
  have h3 : (BitVec.ofNat 64 m ^^^ BitVec.ofNat 64 n).toNat = m ^^^ n := by rw [BitVec.toNat_xor, BitVec.toNat_ofNat, BitVec.toNat_ofNat, h1, h2]
  have h4 : Go.bits .xor .i64 (m : Int) (n : Int) = IntKind.i64.wrap ((BitVec.ofNat 64 m ^^^ BitVec.ofNat 64 n).toNat) := rfl
  rw [h4, h3, IntKind.wrap_i64]
  omega
theorem tmod_range (a n : Int) (ha : 0 ≤ a) (hn : 0 < n) : 0 ≤ Int.tmod a n ∧ Int.tmod a n < n := by
  rw [Int.tmod_eq_emod_of_nonneg ha]
  exact ⟨Int.emod_nonneg _ (by omega), Int.emod_lt_of_pos _ hn⟩
theorem tdiv_range (a n : Int) (ha : 0 ≤ a) (hn : 0 < n) : 0 ≤ Int.tdiv a n ∧ Int.tdiv a n ≤ a := by
  rw [Int.tdiv_eq_ediv_of_nonneg ha]
  exact ⟨Int.ediv_nonneg ha (by omega), Int.ediv_le_self _ ha⟩
theorem pick_rounds (s : List Int) (hs : RdOk s) (p n : Int) (hp : 0 ≤ p) (hp2 : p ≤ 1000000) : ∃ v, (∀ k, spec_l20Rd_pick.f (k + 1) s p n = some (v, p + 1)) ∧ 0 ≤ v ∧ (v < n ∨ v = 0 ∧ n < 1) := by
  have hw : wrap64 (p + 1) = p + 1 := wrap64_id (by omega) (by omega)
  by_cases h1 : n < 1
  · exact ⟨0, fun k => by unfold spec_l20Rd_pick.f; rw [if_pos h1, hw]; simp [spec_l20Rd_pick.j0], by omega, .inr ⟨rfl, h1⟩⟩
  · by_cases h2 : (s.length : Int) = 0
    · refine ⟨0, fun k => ?_, by omega, .inl (by omega)⟩
      unfold spec_l20Rd_pick.f
      rw [if_neg h1, hw, h2]
      simp [spec_l20Rd_pick.j0]
    · have hlen := hs.1
      have hb : ((s.length : Int) == 0) = false := beq_eq_false_iff_ne.mpr h2
      have hw2 : wrap64 (p + 1 - 1) = p := by rw [wrap64_id (by omega) (by omega)]; omega
      by_cases h3 : p < (s.length : Int)
      · have hr := rd_range hs p
        have hw3 : wrap64 (rd s p) = rd s p := wrap64_id (by omega) (by omega)
        have ht := tmod_range (rd s p) n hr.1 (by omega)
        refine ⟨Int.tmod (rd s p) n, fun k => ?_, ht.1, .inl ht.2⟩
        unfold spec_l20Rd_pick.f
        rw [if_neg h1, hw, hb]
        simp only [spec_l20Rd_pick.j0, hw2, hw3]
        rw [if_neg (by decide), if_pos h3, if_pos hp, if_neg (by omega)]
      · have t1 := tmod_range p s.length hp (by omega)
        have w1 : wrap64 (p * 7) = p * 7 := wrap64_id (by omega) (by omega)
        have w2 : wrap64 (p * 7 + 3) = p * 7 + 3 := wrap64_id (by omega) (by omega)
        have t2 := tmod_range (p * 7 + 3) s.length (by omega) (by omega)
        have r1 := rd_range hs (Int.tmod p s.length)
        have r2 := rd_range hs (Int.tmod (p * 7 + 3) s.length)
        have t3 := tdiv_range p s.length hp (by omega)
        generalize e1 : rd s (Int.tmod p s.length) = a at r1
        generalize e2 : rd s (Int.tmod (p * 7 + 3) s.length) = b at r2
        generalize e3 : Int.tdiv p s.length = q at t3
        have v1 : wrap64 (wrap64 (wrap64 (wrap64 (wrap64 a * 131) + wrap64 (wrap64 b * 1117)) + wrap64 (p * 29)) + wrap64 (wrap64 q * 53)) = a * 131 + b * 1117 + p * 29 + q * 53 := by
          rw [wrap64_id (x := a) (by omega) (by omega), wrap64_id (x := b) (by omega) (by omega), wrap64_id (x := q) (by omega) (by omega), wrap64_id (x := a * 131) (by omega) (by omega), wrap64_id (x := b * 1117) (by omega) (by omega), wrap64_id (x := p * 29) (by omega) (by omega), wrap64_id (x := q * 53) (by omega) (by omega), wrap64_id (x := a * 131 + b * 1117) (by omega) (by omega), wrap64_id (x := a * 131 + b * 1117 + p * 29) (by omega) (by omega), wrap64_id (by omega) (by omega)]
        generalize e4 : a * 131 + b * 1117 + p * 29 + q * 53 = z at v1
        have hz : 0 ≤ z ∧ z ≤ 1000000000 := by omega
        have t4 := tdiv_range z 64 hz.1 (by omega)
        have v2 : wrap64 (Int.tdiv z 64) = Int.tdiv z 64 := wrap64_id (by omega) (by omega)
        have hx := xor_nonneg z (Int.tdiv z 64) hz.1 (by omega) t4.1 (by omega)
        have ht := tmod_range _ n hx (by omega)
        refine ⟨_, fun k => ?_, ht.1, .inl ht.2⟩
        unfold spec_l20Rd_pick.f
        rw [if_neg h1, hw, hb]
        simp only [spec_l20Rd_pick.j0, hw2, w1, w2, e1, e2, e3, v1, v2]
        rw [if_neg (by decide), if_neg h3, if_neg h2, if_pos t1.1, if_pos t1.2, if_pos t2.1, if_pos t2.2, if_neg (by omega)]
theorem pick_ok {s : List Int} (hs : RdOk s) {p : Int} (hp : 0 ≤ p ∧ p ≤ 1000000) (n : Int) : EvP (fun k => spec_l20Rd_pick.f k s p n) fun r => r.2 = p + 1 ∧ 0 ≤ r.1 ∧ (r.1 < n ∨ r.1 = 0 ∧ n < 1) := by
  obtain ⟨v, h1, h2⟩ := pick_rounds s hs p n hp.1 hp.2
  exact ⟨(v, p + 1), ⟨1, fun k hk => by obtain ⟨m, rfl⟩ : ∃ m, k = m + 1 := ⟨k - 1, by omega⟩; exact h1 m⟩, rfl, h2⟩
theorem open_ok (l : List Int) (hw : ∀ x ∈ l, (Lit.int .u8 x).wf = true) : ∃ s, spec_l20Open.f l = some (s, 0) ∧ RdOk s := by
  have hb : ∀ x ∈ l, 0 ≤ x ∧ x ≤ 255 := fun x hx => by
    have h := hw x hx
    simp [Lit.wf, IntKind.min, IntKind.max, IntKind.signed, IntKind.bits] at h
    omega
  unfold spec_l20Open.f
  by_cases h : (l.length : Int) > 2000
  · rw [if_pos h, if_pos (by omega)]
    exact ⟨l.take 2000, rfl, List.length_take_le _ _, fun x hx => hb x (List.mem_of_mem_take hx)⟩
  · rw [if_neg h]
    exact ⟨l, rfl, by omega, hb⟩
theorem three {v : Int} (h : 0 ≤ v) (h2 : v < 3 ∨ v = 0 ∧ (3 : Int) < 1) : v = 0 ∨ v = 1 ∨ v = 2 := by omega
theorem two {v : Int} (h : 0 ≤ v) (h2 : v < 2 ∨ v = 0 ∧ (2 : Int) < 1) : v = 0 ∨ v = 1 := by omega
theorem rd0 (a : Int) (l : List Int) : rd (a :: l) 0 = a := rfl
theorem rd1 (a b : Int) (l : List Int) : rd (a :: b :: l) 1 = b := rfl
theorem rd2 (a b c : Int) (l : List Int) : rd (a :: b :: c :: l) 2 = c := rfl
/-! Draws of the reader beyond pick. -/
theorem odd_ok {s : List Int} (hs : RdOk s) {p : Int} (hp : 0 ≤ p ∧ p ≤ 1000000) (n : Int) (hn : n ≤ 1000000) : EvP (fun k => spec_l20Rd_odd.f k s p n) fun r => p ≤ r.2 ∧ r.2 ≤ p + 1 ∧ (n ≤ 0 → r.1 = false) := by
  unfold spec_l20Rd_odd.f
  refine EvP.ite (fun h => ?_) (fun h => EvP.now _ ⟨by simp, by simp; omega, fun _ => rfl⟩)
  refine EvP.bind (pick_ok hs hp n) ?_
  rintro ⟨v, q⟩ ⟨h1, h2, h3⟩
  simp only at h1 h2 h3 ⊢
  refine EvP.now _ ⟨by simp only; omega, by simp only; omega, fun h => by omega⟩
theorem in_val (a lo hi : Int) : impl_in.f a lo hi = some (decide (lo ≤ a ∧ a ≤ hi)) := by
  unfold impl_in.f
  by_cases h : a ≥ lo
  · rw [if_pos h]; simp only [Option.some.injEq, decide_eq_decide]; omega
  · rw [if_neg h]; simp only [Option.some.injEq]; exact (decide_eq_false (by omega)).symm
theorem l1In_val (a lo hi : Int) : spec_l1In.f a lo hi = some (decide (lo ≤ a ∧ a ≤ hi)) := in_val a lo hi
def cok (a b c d e : Int) : Bool := decide ((1 ≤ a ∧ a ≤ 2) ∧ (1 ≤ b ∧ b ≤ 4) ∧ (1 ≤ c ∧ c ≤ 8) ∧ (1 ≤ d ∧ d ≤ 24) ∧ (1 ≤ e ∧ e ≤ 5))
theorem cfgOk_val (a b c d e : Int) : impl_CfgOk.f a b c d e = some (cok a b c d e) := by
  unfold impl_CfgOk.f cok
  rw [in_val, in_val, in_val, in_val, in_val]
  simp only [Option.bind_some, decide_eq_true_eq]
  by_cases h1 : 1 ≤ a ∧ a ≤ 2
  · rw [if_pos h1]
    by_cases h2 : 1 ≤ b ∧ b ≤ 4
    · rw [if_pos h2]
      by_cases h3 : 1 ≤ c ∧ c ≤ 8
      · rw [if_pos h3]
        by_cases h4 : 1 ≤ d ∧ d ≤ 24
        · rw [if_pos h4]; simp only [Option.some.injEq, decide_eq_decide]; exact ⟨fun h => ⟨h1, h2, h3, h4, h⟩, fun h => h.2.2.2.2⟩
        · rw [if_neg h4]; exact congrArg some (decide_eq_false (fun h => h4 h.2.2.2.1)).symm
      · rw [if_neg h3]; exact congrArg some (decide_eq_false (fun h => h3 h.2.2.1)).symm
    · rw [if_neg h2]; exact congrArg some (decide_eq_false (fun h => h2 h.2.1)).symm
  · rw [if_neg h1]; exact congrArg some (decide_eq_false (fun h => h1 h.1)).symm
theorem cfgOk_same (a b c d e : Int) : spec_CfgOk.f a b c d e = some (cok a b c d e) := cfgOk_val a b c d e
/-! What one wants, drawn. -/
def CfgR (a b c d e : Int) : Prop := (0 ≤ a ∧ a ≤ 3) ∧ (0 ≤ b ∧ b ≤ 5) ∧ (0 ≤ c ∧ c ≤ 9) ∧ (0 ≤ d ∧ d ≤ 25) ∧ (0 ≤ e ∧ e ≤ 6)
theorem cok_iff {a b c d e : Int} : cok a b c d e = true ↔ (1 ≤ a ∧ a ≤ 2) ∧ (1 ≤ b ∧ b ≤ 4) ∧ (1 ≤ c ∧ c ≤ 8) ∧ (1 ≤ d ∧ d ≤ 24) ∧ (1 ≤ e ∧ e ≤ 5) := by
  unfold cok; rw [decide_eq_true_eq]
theorem cfg_ok {s : List Int} (hs : RdOk s) {p : Int} (hp : 0 ≤ p ∧ p ≤ 500000) (n : Int) (hn : n ≤ 1000) :
    EvP (fun k => spec_l20Cfg.f k s p n) fun r => (p ≤ r.2.2.2.2.2 ∧ r.2.2.2.2.2 ≤ p + 20) ∧ CfgR r.1 r.2.1 r.2.2.1 r.2.2.2.1 r.2.2.2.2.1 ∧ (n ≤ 0 → cok r.1 r.2.1 r.2.2.1 r.2.2.2.1 r.2.2.2.2.1 = true) := by
  unfold spec_l20Cfg.f
  refine EvP.bind (pick_ok hs (by omega) 2) ?_
  rintro ⟨v1, p1⟩ ⟨h1, h2, h3⟩
  simp only at h1 h2 h3 ⊢; subst h1
  refine EvP.bind (pick_ok hs (by omega) 4) ?_
  rintro ⟨v2, p2⟩ ⟨i1, i2, i3⟩
  simp only at i1 i2 i3 ⊢; subst i1
  refine EvP.bind (pick_ok hs (by omega) 8) ?_
  rintro ⟨v3, p3⟩ ⟨j1, j2, j3⟩
  simp only at j1 j2 j3 ⊢; subst j1
  rw [wrap64_id (x := 1 + v1) (by omega) (by omega), wrap64_id (x := 1 + v2) (by omega) (by omega), wrap64_id (x := 1 + v3) (by omega) (by omega)]
  refine EvP.some_bind (EvP.bind (pick_ok hs (by omega) 3) ?_)
  rintro ⟨v4, p4⟩ ⟨k1, k2, k3⟩
  simp only at k1 k2 k3 ⊢; subst k1
  refine EvP.pos k2 (EvP.pos (by simp; omega) ?_)
  have hm : 1 ≤ rd [1 + v3, 3, 8] v4 ∧ rd [1 + v3, 3, 8] v4 ≤ 8 := by
    rcases three k2 k3 with rfl | rfl | rfl <;> simp only [rd0, rd1, rd2] <;> omega
  generalize rd [1 + v3, 3, 8] v4 = mps at hm
  refine EvP.bind (pick_ok hs (by omega) 24) ?_
  rintro ⟨v5, p5⟩ ⟨l1, l2, l3⟩
  simp only at l1 l2 l3 ⊢; subst l1
  rw [wrap64_id (x := 1 + v5) (by omega) (by omega)]
  refine EvP.some_bind (EvP.bind (pick_ok hs (by omega) 2) ?_)
  rintro ⟨v6, p6⟩ ⟨m1, m2, m3⟩
  simp only at m1 m2 m3 ⊢; subst m1
  refine EvP.pos m2 (EvP.pos (by simp; omega) ?_)
  have ht : 1 ≤ rd [24, 1 + v5] v6 ∧ rd [24, 1 + v5] v6 ≤ 24 := by
    rcases two m2 m3 with rfl | rfl <;> simp only [rd0, rd1] <;> omega
  generalize rd [24, 1 + v5] v6 = mtu at ht
  refine EvP.bind (pick_ok hs (by omega) 5) ?_
  rintro ⟨v7, p7⟩ ⟨n1, n2, n3⟩
  simp only at n1 n2 n3 ⊢; subst n1
  rw [wrap64_id (x := 1 + v7) (by omega) (by omega)]
  refine EvP.bind (odd_ok hs (by omega) n (by omega)) ?_
  rintro ⟨o, p8⟩ ⟨o1, o2, o3⟩
  simp only at o1 o2 o3 ⊢
  have ok : cok (1 + v1) (1 + v2) mps mtu (1 + v7) = true := by rw [cok_iff]; omega
  refine EvP.ite (fun ho => ?_) (fun _ => EvP.now _ ⟨by simp only; omega, by unfold CfgR; simp only; omega, fun _ => ok⟩)
  have hn0 : ¬ n ≤ 0 := fun h => by rw [o3 h] at ho; cases ho
  refine EvP.bind (pick_ok hs (by omega) 5) ?_
  rintro ⟨v8, p9⟩ ⟨q1, q2, q3⟩
  simp only at q1 q2 q3 ⊢; subst q1
  refine EvP.ite (fun _ => ?_) (fun _ => EvP.ite (fun _ => ?_) (fun _ => EvP.ite (fun _ => ?_) (fun _ => EvP.ite (fun _ => ?_) (fun _ => ?_))))
  all_goals
    refine EvP.some_bind (EvP.bind (pick_ok hs (by omega) 2) ?_)
    rintro ⟨v9, p10⟩ ⟨s1, s2, s3⟩
    simp only at s1 s2 s3 ⊢; subst s1
    refine EvP.pos s2 (EvP.pos (by simp; omega) ?_)
    rcases two s2 s3 with rfl | rfl <;> exact EvP.now _ ⟨by simp only; omega, by unfold CfgR; simp only [rd0, rd1]; omega, fun h => absurd h hn0⟩
def ByteL (l : List Int) : Prop := ∀ x ∈ l, 0 ≤ x ∧ x ≤ 255
theorem bytes_loop {s : List Int} (hs : RdOk s) (d : Nat) : ∀ (out : List Int) (p : Int), ByteL out → out.length + d ≤ 100000 → 0 ≤ p → p + 3 * d ≤ 900000 →
    EvP (fun k => spec_l20Bytes.l0 k out (d : Int) s p) fun r => r.2 = p + 3 * d ∧ ByteL r.1 ∧ r.1.length = out.length + d := by
  induction d with
  | zero =>
    intro out p hb hl hp hp2
    refine EvP.up ?_
    simp only [spec_l20Bytes.l0]
    exact EvP.neg (by omega) (EvP.now _ ⟨by simp, hb, by simp⟩)
  | succ d ih =>
    intro out p hb hl hp hp2
    refine EvP.up ?_
    simp only [spec_l20Bytes.l0]
    refine EvP.pos (by omega) ?_
    refine EvP.bind (pick_ok hs (by omega) 256) ?_
    rintro ⟨v1, p1⟩ ⟨h1, h2, h3⟩
    simp only at h1 h2 h3 ⊢; subst h1
    refine EvP.bind (pick_ok hs (by omega) 4) ?_
    rintro ⟨v2, p2⟩ ⟨g1, g2, g3⟩
    simp only at g1 g2 g3 ⊢; subst g1
    refine EvP.some_bind ?_
    refine EvP.bind (pick_ok hs (by omega) 3) ?_
    rintro ⟨v3, p3⟩ ⟨q1, q2, q3⟩
    simp only at q1 q2 q3 ⊢; subst q1
    refine EvP.pos q2 (EvP.pos (by simp; omega) (EvP.pos (by omega) ?_))
    have hw : wrap64 (((d + 1 : Nat) : Int) - 1) = (d : Int) := by rw [wrap64_id (by omega) (by omega)]; omega
    rw [hw]
    refine EvP.mono (ih (out ++ [rd [v1, v2, 255] v3 % 256]) (p + 1 + 1 + 1) ?_ (by simp; omega) (by omega) (by omega)) ?_
    · intro x hx
      rcases List.mem_append.1 hx with h | h
      · exact hb x h
      · rw [List.mem_singleton] at h; omega
    · rintro ⟨r1, r2⟩ ⟨h1, h2, h3⟩
      simp only at h1 h2 h3 ⊢
      refine ⟨by omega, h2, ?_⟩
      rw [h3, List.length_append, List.length_singleton]; omega
theorem bytes_ok {s : List Int} (hs : RdOk s) {p : Int} (n : Int) (hn : 0 ≤ n) (hn2 : n ≤ 10000) (hp : 0 ≤ p ∧ p ≤ 500000) :
    EvP (fun k => spec_l20Bytes.f k s p n) fun r => p + 1 ≤ r.2 ∧ r.2 ≤ p + 1 + 3 * n ∧ ByteL r.1 ∧ (r.1.length : Int) ≤ n := by
  unfold spec_l20Bytes.f
  rw [wrap64_id (x := n + 1) (by omega) (by omega)]
  refine EvP.bind (pick_ok hs (by omega) (n + 1)) ?_
  rintro ⟨v, q⟩ ⟨h1, h2, h3⟩
  simp only at h1 h2 h3 ⊢; subst h1
  obtain ⟨d, rfl⟩ := Int.eq_ofNat_of_zero_le h2
  refine EvP.mono (bytes_loop hs d [] (p + 1) (fun x hx => by simp at hx) (by simp; omega) (by omega) (by omega)) ?_
  rintro ⟨r1, r2⟩ ⟨h1, h2, h3⟩
  simp only at h1 h2 h3 ⊢
  simp only [List.length_nil, Nat.zero_add] at h3
  exact ⟨by omega, by omega, h2, by omega⟩
/-! A piece is ok. -/
def pok (seg len : Int) (l : List Int) : Bool := decide ((seg = 0 ∧ (l.length : Int) ≤ 8 ∧ len = (l.length : Int)) ∨ (seg = 1 ∧ 1 ≤ (l.length : Int) ∧ (l.length : Int) ≤ 8 ∧ (l.length : Int) + 1 ≤ len ∧ len ≤ 24) ∨ ((seg = 2 ∨ seg = 3) ∧ 1 ≤ (l.length : Int) ∧ (l.length : Int) ≤ 8 ∧ len = 0))
theorem part_tail {s : List Int} (hs : RdOk s) {p : Int} (hp : 0 ≤ p ∧ p ≤ 400000) (seg : Int) (l : List Int) (h0 : 0 ≤ seg ∧ seg ≤ 3) (hl : ByteL l) (hn : (l.length : Int) ≤ 8) (hn1 : seg ≠ 0 → 1 ≤ (l.length : Int)) :
    EvP (fun k => spec_l20Part.j1 k s p seg 0 l) fun r => p ≤ r.2.2.2 ∧ r.2.2.2 ≤ p + 1 ∧ pok r.1 r.2.1 r.2.2.1 = true ∧ ByteL r.2.2.1 ∧ (r.2.2.1.length : Int) ≤ 8 ∧ (0 ≤ r.1 ∧ r.1 ≤ 3) ∧ (0 ≤ r.2.1 ∧ r.2.1 ≤ 24) := by
  refine EvP.up ?_
  simp only [spec_l20Part.j1]
  refine EvP.ite (fun h => ?_) (fun h => ?_)
  · refine EvP.neg (by omega) (EvP.now _ ⟨by simp only; omega, by simp only; omega, ?_, hl, hn, h0, by simp only; omega⟩)
    unfold pok; rw [decide_eq_true_eq]; exact .inl ⟨h, hn, rfl⟩
  · refine EvP.ite (fun h1 => ?_) (fun h1 => EvP.now _ ⟨by simp only; omega, by simp only; omega, ?_, hl, hn, h0, by simp only; omega⟩)
    · have h2 := hn1 h
      rw [wrap64_id (x := 24 - (l.length : Int)) (by omega) (by omega)]
      refine EvP.bind (pick_ok hs (by omega) (24 - (l.length : Int))) ?_
      rintro ⟨v, q⟩ ⟨g1, g2, g3⟩
      simp only at g1 g2 g3 ⊢; subst g1
      rw [wrap64_id (x := (l.length : Int) + 1) (by omega) (by omega), wrap64_id (x := (l.length : Int) + 1 + v) (by omega) (by omega)]
      refine EvP.now _ ⟨by simp only; omega, by simp only; omega, ?_, hl, hn, h0, by simp only; omega⟩
      unfold pok; rw [decide_eq_true_eq]; simp only; omega
    · have h2 := hn1 h
      unfold pok; rw [decide_eq_true_eq]; exact .inr (.inr ⟨by simp only; omega, h2, hn, rfl⟩)
theorem part_ok {s : List Int} (hs : RdOk s) {p : Int} (hp : 0 ≤ p ∧ p ≤ 300000) :
    EvP (fun k => spec_l20Part.f k s p) fun r => p ≤ r.2.2.2 ∧ r.2.2.2 ≤ p + 40 ∧ pok r.1 r.2.1 r.2.2.1 = true ∧ ByteL r.2.2.1 ∧ (r.2.2.1.length : Int) ≤ 8 ∧ (0 ≤ r.1 ∧ r.1 ≤ 3) ∧ (0 ≤ r.2.1 ∧ r.2.1 ≤ 24) := by
  unfold spec_l20Part.f
  refine EvP.bind (pick_ok hs (by omega) 4) ?_
  rintro ⟨v, p1⟩ ⟨h1, h2, h3⟩
  simp only at h1 h2 h3 ⊢; subst h1
  refine EvP.bind (bytes_ok hs 8 (by omega) (by omega) (by omega)) ?_
  rintro ⟨b, p2⟩ ⟨b1, b2, b3, b4⟩
  simp only at b1 b2 b3 b4 ⊢
  have tail : ∀ x : Bool, (x = true → v ≠ 0) → (x = false → v ≠ 0 → 1 ≤ (b.length : Int)) → EvP (fun k => spec_l20Part.j0 k x s p2 v 0 b) fun r => p ≤ r.2.2.2 ∧ r.2.2.2 ≤ p + 40 ∧ pok r.1 r.2.1 r.2.2.1 = true ∧ ByteL r.2.2.1 ∧ (r.2.2.1.length : Int) ≤ 8 ∧ (0 ≤ r.1 ∧ r.1 ≤ 3) ∧ (0 ≤ r.2.1 ∧ r.2.1 ≤ 24) := by
    intro x _ hx
    refine EvP.up ?_
    simp only [spec_l20Part.j0]
    refine EvP.ite (fun h => ?_) (fun h => ?_)
    · refine EvP.mono (part_tail hs (by omega) v [7] (by omega) (fun y hy => by rw [List.mem_singleton] at hy; omega) (by simp) (fun _ => by simp)) ?_
      rintro r ⟨a1, a2, a3⟩; exact ⟨by omega, by omega, a3⟩
    · refine EvP.mono (part_tail hs (by omega) v b (by omega) b3 b4 (hx (Bool.eq_false_iff.mpr h))) ?_
      rintro r ⟨a1, a2, a3⟩; exact ⟨by omega, by omega, a3⟩
  refine EvP.ite (fun h => tail _ (fun h => by cases h) (fun _ h2 => absurd h h2)) (fun h => tail _ (fun _ => h) (fun h2 _ => ?_))
  rw [beq_eq_false_iff_ne] at h2
  omega
theorem partOr_ok {s : List Int} (hs : RdOk s) {p : Int} (hp : 0 ≤ p ∧ p ≤ 200000) (n : Int) (hn : n ≤ 1000) :
    EvP (fun k => spec_l20PartOr.f k s p n) fun r => p ≤ r.2.2.2 ∧ r.2.2.2 ≤ p + 50 ∧ ByteL r.2.2.1 ∧ (r.2.2.1.length : Int) ≤ 16 ∧ (-1 ≤ r.1 ∧ r.1 ≤ 4) ∧ (-1 ≤ r.2.1 ∧ r.2.1 ≤ 25) := by
  unfold spec_l20PartOr.f
  refine EvP.bind (part_ok hs (by omega)) ?_
  rintro ⟨seg, len, l, p1⟩ ⟨h1, h2, _, h3, h4, h5, h6⟩
  simp only at h1 h2 h3 h4 h5 h6 ⊢
  refine EvP.bind (odd_ok hs (by omega) n (by omega)) ?_
  rintro ⟨o, p2⟩ ⟨o1, o2, _⟩
  simp only at o1 o2 ⊢
  refine EvP.ite (fun _ => ?_) (fun _ => EvP.now _ ⟨by simp only; omega, by simp only; omega, h3, by simp only; omega, by simp only; omega, by simp only; omega⟩)
  refine EvP.bind (pick_ok hs (by omega) 3) ?_
  rintro ⟨v, p3⟩ ⟨q1, q2, q3⟩
  simp only at q1 q2 q3 ⊢; subst q1
  refine EvP.ite (fun _ => ?_) (fun _ => EvP.ite (fun _ => ?_) (fun _ => ?_))
  · refine EvP.some_bind (EvP.bind (pick_ok hs (by omega) 3) ?_)
    rintro ⟨v2, p4⟩ ⟨g1, g2, g3⟩
    simp only at g1 g2 g3 ⊢; subst g1
    refine EvP.pos g2 (EvP.pos (by simp; omega) ?_)
    rcases three g2 g3 with rfl | rfl | rfl <;> exact EvP.now _ ⟨by simp only; omega, by simp only; omega, h3, by simp only; omega, by simp only [rd0, rd1, rd2]; omega, by simp only; omega⟩
  · refine EvP.some_bind (EvP.bind (pick_ok hs (by omega) 3) ?_)
    rintro ⟨v2, p4⟩ ⟨g1, g2, g3⟩
    simp only at g1 g2 g3 ⊢; subst g1
    refine EvP.pos g2 (EvP.pos (by simp; omega) ?_)
    rcases three g2 g3 with rfl | rfl | rfl <;> exact EvP.now _ ⟨by simp only; omega, by simp only; omega, h3, by simp only; omega, by simp only; omega, by simp only [rd0, rd1, rd2]; omega⟩
  · refine EvP.some_bind (EvP.pos (by simp; omega) (EvP.now _ ⟨by simp only; omega, by simp only; omega, ?_, by simp; omega, by simp only; omega, by simp only; omega⟩))
    intro x hx
    rcases List.mem_append.1 hx with h | h
    · exact h3 x h
    · simp at h; omega
theorem rdB (xs : List S39) (i : Nat) (h : i < xs.length) : rd_T39 xs (i : Int) = xs[i] := by
  unfold rd_T39
  rw [Int.toNat_natCast, List.getD_eq_getElem?_getD, List.getElem?_eq_getElem h]; rfl
theorem in_val2 (a lo hi : Int) : impl_in.f a lo hi = some (decide (lo ≤ a ∧ a ≤ hi)) := by
  unfold impl_in.f
  by_cases h : a ≥ lo
  · rw [if_pos h]; simp only [Option.some.injEq, decide_eq_decide]; omega
  · rw [if_neg h]; simp only [Option.some.injEq]; exact (decide_eq_false (by omega)).symm
theorem pieceOk_val (seg len : Int) (l : List Int) (hl : l.length ≤ 281474976710656) : impl_pieceOk.f seg len l = some (pok seg len l) := by
  unfold impl_pieceOk.f pok
  simp only [in_val2, Option.bind_some, decide_eq_true_eq]
  rw [wrap64_id (x := (l.length : Int) + 1) (by omega) (by omega)]
  by_cases h0 : seg = 0
  · rw [if_pos h0]
    by_cases h1 : (l.length : Int) ≤ 8
    · rw [if_pos h1]
      rw [Option.some.injEq, Bool.eq_iff_iff, beq_iff_eq, decide_eq_true_eq]; omega
    · rw [if_neg h1, Option.some.injEq]; exact (decide_eq_false (by omega)).symm
  · rw [if_neg h0]
    by_cases h1 : seg = 1
    · rw [if_pos h1]
      by_cases h2 : 1 ≤ (l.length : Int) ∧ (l.length : Int) ≤ 8
      · rw [if_pos h2, Option.some.injEq, decide_eq_decide]; omega
      · rw [if_neg h2, Option.some.injEq]; exact (decide_eq_false (by omega)).symm
    · rw [if_neg h1]
      by_cases h3 : seg = 2
      · rw [if_pos h3]
        by_cases h2 : 1 ≤ (l.length : Int) ∧ (l.length : Int) ≤ 8
        · rw [if_pos h2, Option.some.injEq, Bool.eq_iff_iff, beq_iff_eq, decide_eq_true_eq]; omega
        · rw [if_neg h2, Option.some.injEq]; exact (decide_eq_false (by omega)).symm
      · rw [if_neg h3]
        by_cases h4 : seg = 3
        · rw [if_pos h4]
          by_cases h2 : 1 ≤ (l.length : Int) ∧ (l.length : Int) ≤ 8
          · rw [if_pos h2, Option.some.injEq, Bool.eq_iff_iff, beq_iff_eq, decide_eq_true_eq]; omega
          · rw [if_neg h2, Option.some.injEq]; exact (decide_eq_false (by omega)).symm
        · rw [if_neg h4, Option.some.injEq]; exact (decide_eq_false (by omega)).symm
theorem partOk_val (seg len : Int) (l : List Int) (hl : l.length ≤ 281474976710656) : impl_PartOk.f seg len l = some (pok seg len l) := by
  unfold impl_PartOk.f
  rw [pieceOk_val seg len l hl]
  rfl
theorem l2Seg_ok (a b c : Int) (d e : Bool) (f seg len : Int) (l : List Int) (hl : l.length ≤ 281474976710656) : EvP (fun k => spec_l2Seg.f k a b c d e f seg len l) (· = pok seg len l) := by
  have in_val3 : ∀ a lo hi : Int, spec_l1In.f a lo hi = some (decide (lo ≤ a ∧ a ≤ hi)) := by
    intro a lo hi
    unfold spec_l1In.f
    by_cases h : a ≥ lo
    · rw [if_pos h]; simp only [Option.some.injEq, decide_eq_decide]; omega
    · rw [if_neg h]; simp only [Option.some.injEq]; exact (decide_eq_false (by omega)).symm
  have tail : ∀ x : Bool, (x = true → pok seg len l = false) → (x = false → (0 ≤ seg ∧ seg ≤ 3) ∧ (l.length : Int) ≤ 8 ∧ ((l.length : Int) = 0 → len = 0)) → EvP (fun k => spec_l2Seg.j0 k x a b c d e f seg len l) (· = pok seg len l) := by
    intro x hx hx2
    refine EvP.up ?_
    simp only [spec_l2Seg.j0, in_val3, Option.bind_some, decide_eq_true_eq]
    refine EvP.ite (fun h => EvP.now _ (hx h).symm) (fun h => ?_)
    obtain ⟨h1, h2, h3⟩ := hx2 (Bool.eq_false_iff.mpr h)
    rw [wrap64_id (x := (l.length : Int) + 1) (by omega) (by omega)]
    unfold pok
    refine EvP.ite (fun h0 => EvP.now _ ?_) (fun h0 => EvP.ite (fun h4 => EvP.ite (fun h5 => EvP.now _ ?_) (fun h5 => EvP.now _ ?_)) (fun h4 => EvP.ite (fun h5 => EvP.now _ ?_) (fun h5 => EvP.now _ ?_)))
    · rw [Bool.eq_iff_iff, beq_iff_eq, decide_eq_true_eq]; omega
    · rw [decide_eq_decide]; omega
    · exact (decide_eq_false (by omega)).symm
    · rw [decide_eq_decide]; omega
    · exact (decide_eq_false (by omega)).symm
  unfold spec_l2Seg.f
  simp only [in_val3, Option.bind_some, decide_eq_true_eq]
  refine EvP.ite (fun h1 => EvP.ite (fun h2 => EvP.ite (fun h3 => tail _ ?_ ?_) (fun h3 => tail _ ?_ ?_)) (fun h2 => tail _ ?_ ?_)) (fun h1 => tail _ ?_ ?_)
  · intro h; rw [decide_eq_true_eq] at h; omega
  · intro h; rw [decide_eq_false_iff_not] at h; omega
  · intro _; unfold pok; exact decide_eq_false (by omega)
  · intro h; cases h
  · intro h; rw [decide_eq_true_eq] at h; unfold pok; exact decide_eq_false (by omega)
  · intro h; rw [decide_eq_false_iff_not] at h; omega
  · intro _; unfold pok; exact decide_eq_false (by omega)
  · intro h; cases h
theorem specPart_ok (seg len : Int) (l : List Int) (hl : l.length ≤ 281474976710656) : EvP (fun k => spec_PartOk.f k seg len l) (· = pok seg len l) := by
  unfold spec_PartOk.f
  refine EvP.bind (l2Seg_ok 0 0 0 false false 0 seg len l hl) ?_
  rintro _ rfl
  exact EvP.now _ rfl
def partB (m : Int) (x : S39) : Bool := pok x.f0 x.f1 x.f2 && decide ((x.f2.length : Int) ≤ m)
theorem specParts_loop (m : Int) (l : List S39) (hl : l.length ≤ 1048576) (hb : ∀ x ∈ l, x.f2.length ≤ 1048576) (d : Nat) : ∀ i : Nat, i ≤ l.length → l.length - i = d →
    EvP (fun k => spec_l6Parts.l0 k l m (i : Int)) (· = (l.drop i).all (partB m)) := by
  induction d with
  | zero =>
    intro i h0 hd
    refine EvP.up ?_
    simp only [spec_l6Parts.l0]
    refine EvP.neg (by omega) (EvP.now _ ?_)
    rw [List.drop_eq_nil_of_le (by omega)]; rfl
  | succ d ih =>
    intro i h0 hd
    have hi : i < l.length := by omega
    refine EvP.up ?_
    simp only [spec_l6Parts.l0]
    refine EvP.pos (by omega) (EvP.pos (by omega) ?_)
    rw [rdB l i hi]
    have hw : wrap64 ((i : Int) + 1) = ((i + 1 : Nat) : Int) := by rw [wrap64_id (by omega) (by omega)]; omega
    rw [hw, List.drop_eq_getElem_cons hi, List.all_cons]
    have hx := hb _ (List.getElem_mem hi)
    refine EvP.eq_bind (specPart_ok _ _ _ (by omega)) ?_
    unfold partB
    refine EvP.ite (fun h1 => ?_) (fun h1 => EvP.now _ (by rw [Bool.not_eq_true] at h1; rw [h1]; rfl))
    rw [h1, Bool.true_and]
    refine EvP.ite (fun h2 => EvP.now _ (by rw [decide_eq_false (by omega)]; rfl)) (fun h2 => ?_)
    rw [decide_eq_true (by omega), Bool.true_and]
    exact ih (i + 1) (by omega) (by omega)
theorem specParts_ok (m : Int) (l : List S39) (hl : l.length ≤ 1048576) (hb : ∀ x ∈ l, x.f2.length ≤ 1048576) : EvP (fun k => spec_l6Parts.f k l m) (· = l.all (partB m)) := by
  unfold spec_l6Parts.f
  exact specParts_loop m l hl hb l.length 0 (by omega) (by omega)
theorem implParts_loop (m : Int) (l : List S39) (hl : l.length ≤ 1048576) (hb : ∀ x ∈ l, x.f2.length ≤ 1048576) (d : Nat) : ∀ i : Nat, i ≤ l.length → l.length - i = d →
    EvP (fun k => impl_CfgOpts_partsOk.l0 k l m (i : Int)) (fun r => (!decide (r ≥ 0)) = (l.drop i).all (partB m)) := by
  induction d with
  | zero =>
    intro i h0 hd
    refine EvP.up ?_
    simp only [impl_CfgOpts_partsOk.l0]
    refine EvP.neg (by omega) (EvP.now _ ?_)
    rw [List.drop_eq_nil_of_le (by omega)]; rfl
  | succ d ih =>
    intro i h0 hd
    have hi : i < l.length := by omega
    refine EvP.up ?_
    simp only [impl_CfgOpts_partsOk.l0, impl_CfgOpts_partsOk.p]
    refine EvP.pos (by omega) (EvP.pos (by omega) ?_)
    rw [rdB l i hi]
    have hw : wrap64 ((i : Int) + 1) = ((i + 1 : Nat) : Int) := by rw [wrap64_id (by omega) (by omega)]; omega
    rw [hw, List.drop_eq_getElem_cons hi, List.all_cons]
    have hx := hb _ (List.getElem_mem hi)
    rw [partOk_val _ _ _ (by omega)]
    unfold partB
    cases h1 : pok l[i].f0 l[i].f1 l[i].f2 with
    | false =>
      refine EvP.val_bind (a := true) (by simp) (EvP.pos rfl (EvP.now _ ?_))
      rw [decide_eq_true (by omega)]; rfl
    | true =>
      refine EvP.val_bind (a := decide ((l[i].f2.length : Int) > m)) (by simp) ?_
      refine EvP.ite (fun h2 => EvP.now _ ?_) (fun h2 => ?_)
      · rw [decide_eq_true (by omega), decide_eq_false (by have := of_decide_eq_true h2; omega)]; rfl
      · rw [decide_eq_true (by rw [decide_eq_true_eq] at h2; omega), Bool.true_and, Bool.true_and]
        exact ih (i + 1) (by omega) (by omega)
theorem implParts_ok (a b m c d : Int) (l : List S39) (hl : l.length ≤ 1048576) (hb : ∀ x ∈ l, x.f2.length ≤ 1048576) : EvP (fun k => impl_CfgOpts_partsOk.f k a b m c d l) (· = l.all (partB m)) := by
  unfold impl_CfgOpts_partsOk.f
  refine EvP.bind (implParts_loop m l hl hb l.length 0 (by omega) (by omega)) ?_
  intro r hr
  exact EvP.now _ hr
def ctok (a b c d e have' : Int) (l : List S39) (gr se : Int) : Bool :=
  cok a b c d e && (decide (0 ≤ have' ∧ have' ≤ 255) && (decide (0 ≤ gr ∧ gr ≤ 9999) && (decide (0 ≤ se ∧ se ≤ 9999) && (decide (have' = wrap64 (gr - se)) && (decide ((l.length : Int) ≤ 24) && l.all (partB c))))))
theorem specCrdTxOk_ok (a b c d e h' : Int) (l : List S39) (gr se : Int) (dd : Bool) (hl : l.length ≤ 1048576) (hb : ∀ x ∈ l, x.f2.length ≤ 1048576) :
    EvP (fun k => spec_CrdTxOk.f k a b c d e h' l gr se dd) (· = ctok a b c d e h' l gr se) := by
  unfold spec_CrdTxOk.f ctok
  rw [cfgOk_same]
  refine EvP.some_bind ?_
  cases cok a b c d e with
  | false => exact EvP.neg (by simp) (EvP.now _ rfl)
  | true =>
    rw [Bool.true_and]
    refine EvP.pos rfl ?_
    rw [l1In_val]
    refine EvP.some_bind ?_
    cases decide (0 ≤ h' ∧ h' ≤ 255) with
    | false => exact EvP.neg (by simp) (EvP.now _ rfl)
    | true =>
      rw [Bool.true_and]
      refine EvP.pos rfl (EvP.ite (fun h1 => ?_) (fun h1 => EvP.now _ (by rw [decide_eq_false h1]; simp)))
      rw [decide_eq_true h1, Bool.true_and, l1In_val]
      refine EvP.some_bind ?_
      cases decide (0 ≤ gr ∧ gr ≤ 9999) with
      | false => exact EvP.neg (by simp) (EvP.now _ rfl)
      | true =>
        rw [Bool.true_and]
        refine EvP.pos rfl ?_
        rw [l1In_val]
        refine EvP.some_bind ?_
        cases decide (0 ≤ se ∧ se ≤ 9999) with
        | false => exact EvP.neg (by simp) (EvP.now _ rfl)
        | true =>
          rw [Bool.true_and]
          refine EvP.pos rfl (EvP.ite (fun h2 => ?_) (fun h2 => EvP.now _ (by rw [decide_eq_false (fun z => h2 z.symm)]; simp)))
          rw [decide_eq_true h2.symm, Bool.true_and]
          exact EvP.eq_bind (specParts_ok c l hl hb) (EvP.now _ rfl)
theorem implCrdTxOk_ok (a b c d e h' : Int) (l : List S39) (gr se : Int) (dd : Bool) (hl : l.length ≤ 1048576) (hb : ∀ x ∈ l, x.f2.length ≤ 1048576) :
    EvP (fun k => impl_CrdTxOk.f k a b c d e h' l gr se dd) (· = ctok a b c d e h' l gr se) := by
  unfold impl_CrdTxOk.f ctok
  rw [cfgOk_val]
  refine EvP.some_bind ?_
  cases cok a b c d e with
  | false => exact EvP.neg (by simp) (EvP.now _ rfl)
  | true =>
    rw [Bool.true_and]
    refine EvP.pos rfl ?_
    rw [in_val]
    refine EvP.some_bind ?_
    cases decide (0 ≤ h' ∧ h' ≤ 255) with
    | false => exact EvP.neg (by simp) (EvP.now _ rfl)
    | true =>
      rw [Bool.true_and]
      refine EvP.pos rfl ?_
      rw [in_val]
      refine EvP.some_bind ?_
      cases decide (0 ≤ gr ∧ gr ≤ 9999) with
      | false => exact EvP.neg (by simp) (EvP.now _ rfl)
      | true =>
        rw [Bool.true_and]
        refine EvP.pos rfl ?_
        rw [in_val]
        refine EvP.some_bind ?_
        cases decide (0 ≤ se ∧ se ≤ 9999) with
        | false => exact EvP.neg (by simp) (EvP.now _ rfl)
        | true =>
          rw [Bool.true_and]
          refine EvP.pos rfl (EvP.ite (fun h2 => ?_) (fun h2 => EvP.now _ (by rw [decide_eq_false h2]; simp)))
          rw [decide_eq_true h2, Bool.true_and]
          refine EvP.ite (fun h1 => ?_) (fun h1 => EvP.now _ (by rw [decide_eq_false h1]; simp))
          rw [decide_eq_true h1, Bool.true_and]
          exact EvP.eq_bind (implParts_ok a b c d e l hl hb) (EvP.now _ rfl)
def pieceAt (s : List Int) (m j : Nat) : S39 := ⟨if j = 0 then 1 else if (j + 1) * m ≥ s.length then 3 else 2, if j = 0 then (s.length : Int) else 0, (s.take (min s.length (j * m + m))).drop (j * m)⟩
def pieceN (n m : Nat) : Nat := (n + m - 1) / m
def segL (s : List Int) (m : Nat) : List S39 := if s.length ≤ m then [⟨0, s.length, s⟩] else (List.range (pieceN s.length m)).map (pieceAt s m)
def segB (n a : Int) : Bool := decide (n ≤ 24) && decide (1 ≤ a ∧ a ≤ 8)
theorem pieceN_lt (n m j : Nat) (hm : 1 ≤ m) (hn : 1 ≤ n) : j < pieceN n m ↔ j * m < n := by
  unfold pieceN
  rw [Nat.lt_iff_add_one_le, Nat.le_div_iff_mul_le (by omega), Nat.succ_mul]
  omega
theorem mn_nat (n b : Nat) : mn (n : Int) (b : Int) = ((min n b : Nat) : Int) := by
  unfold mn
  split <;> omega
theorem range_snoc (s : List Int) (m j : Nat) : (List.range (j + 1)).map (pieceAt s m) = (List.range j).map (pieceAt s m) ++ [pieceAt s m j] := by
  rw [List.range_succ, List.map_append]; rfl
theorem specCut_loop (s : List Int) (m : Nat) (hn : s.length ≤ 24) (hm : 1 ≤ m ∧ m ≤ 8) (hlt : m < s.length) (d : Nat) : ∀ j : Nat, j ≤ pieceN s.length m → pieceN s.length m - j = d →
    EvP (fun k => spec_SegCut.l0 k s (m : Int) ((List.range j).map (pieceAt s m)) ((j * m : Nat) : Int)) (· = (List.range (pieceN s.length m)).map (pieceAt s m)) := by
  have hc : ∀ j, j < pieceN s.length m ↔ j * m < s.length := fun j => pieceN_lt _ _ _ (by omega) (by omega)
  have hcb : pieceN s.length m ≤ 100 := by unfold pieceN; exact Nat.le_trans (Nat.div_le_self _ _) (by omega)
  induction d with
  | zero =>
    intro j h0 hd
    have hj : j = pieceN s.length m := by omega
    subst hj
    have h1 := mt (hc (pieceN s.length m)).2 (by omega)
    refine EvP.up ?_
    simp only [spec_SegCut.l0]
    exact EvP.neg (by omega) (EvP.now _ rfl)
  | succ d ih =>
    intro j h0 hd
    have hj : j < pieceN s.length m := by omega
    have ha := (hc j).1 hj
    have hs := Nat.succ_mul j m
    have h0m : j * m = 0 ↔ j = 0 := by
      rw [Nat.mul_eq_zero]; omega
    have ih1 := ih (j + 1) (by omega) (by omega)
    rw [range_snoc] at ih1
    have hp : pieceAt s m j = ⟨if j = 0 then 1 else if (j + 1) * m ≥ s.length then 3 else 2, if j = 0 then (s.length : Int) else 0, (s.take (min s.length (j * m + m))).drop (j * m)⟩ := rfl
    simp only [Nat.add_eq, Nat.succ_eq_add_one] at hs
    rw [hs] at hp ih1
    generalize hA : j * m = a at *
    refine EvP.up ?_
    simp only [spec_SegCut.l0]
    have hw : wrap64 ((a : Int) + (m : Int)) = ((a + m : Nat) : Int) := by rw [wrap64_id (by omega) (by omega)]; omega
    rw [hw, mn_nat]
    refine EvP.pos (by omega) (EvP.some_bind (EvP.pos (by omega) (EvP.pos (by omega) (EvP.pos (by omega) ?_))))
    rw [Int.toNat_natCast, Int.toNat_natCast]
    refine EvP.pos (by simp only [List.length_drop, List.length_take, List.length_nil]; omega) (EvP.some_bind ?_)
    have hl : ((List.range j).map (pieceAt s m)).length < 3518437208883 := by simp only [List.length_map, List.length_range]; omega
    rw [List.nil_append]
    by_cases hz : j = 0
    · rw [hp, if_pos hz, if_pos hz] at ih1
      exact EvP.pos (by omega) (EvP.neg (by omega) (EvP.pos hl ih1))
    · rw [hp, if_neg hz, if_neg hz] at ih1
      refine EvP.neg (by omega) (EvP.pos (by omega) (EvP.ite (fun h2 => ?_) (fun h2 => ?_)))
      · rw [if_pos (by omega)] at ih1
        exact EvP.pos hl ih1
      · rw [if_neg (by omega)] at ih1
        exact EvP.pos hl ih1
theorem in_valC (a lo hi : Int) : impl_in.f a lo hi = some (decide (lo ≤ a ∧ a ≤ hi)) := by
  unfold impl_in.f
  by_cases h : a ≥ lo
  · rw [if_pos h]; congr 1; by_cases h2 : a ≤ hi
    · rw [decide_eq_true h2, decide_eq_true ⟨h, h2⟩]
    · rw [decide_eq_false h2, decide_eq_false (fun z => h2 z.2)]
  · rw [if_neg h, decide_eq_false (fun z => h z.1)]
theorem specCut_ok (s : List Int) (a : Int) (hs : s.length ≤ 1000000) : EvP (fun k => spec_SegCut.f k s a) (· = if segB s.length a then segL s a.toNat else []) := by
  unfold spec_SegCut.f segB
  refine EvP.some_bind (EvP.ite (fun h => ?_) (fun h => ?_))
  · refine EvP.up ?_
    simp only [spec_SegCut.j0]
    rw [decide_eq_false (by omega)]
    exact EvP.pos trivial (EvP.now _ rfl)
  · rw [show spec_l1In.f a 1 8 = some (decide (1 ≤ a ∧ a ≤ 8)) from in_valC a 1 8, decide_eq_true (show (s.length : Int) ≤ 24 by omega), Bool.true_and]
    refine EvP.some_bind (EvP.up ?_)
    simp only [spec_SegCut.j0]
    by_cases h2 : 1 ≤ a ∧ a ≤ 8
    · rw [decide_eq_true h2]
      refine EvP.neg (by simp) ?_
      obtain ⟨m, rfl⟩ := Int.eq_ofNat_of_zero_le (by omega : 0 ≤ a)
      unfold segL
      rw [Int.toNat_natCast, if_pos rfl]
      refine EvP.ite (fun h3 => ?_) (fun h3 => ?_)
      · rw [if_pos (by omega)]
        refine EvP.some_bind (EvP.pos (by simp only [List.length_nil]; omega) (EvP.pos (by simp only [List.length_nil]; omega) (EvP.now _ rfl)))
      · rw [if_neg (by omega)]
        have := specCut_loop s m (by omega) (by omega) (by omega) (pieceN s.length m) 0 (by omega) (by omega)
        simpa using this
    · rw [decide_eq_false h2]
      exact EvP.pos (by simp) (EvP.now _ rfl)
theorem pieceAt_len (s : List Int) (m j : Nat) (h : j * m + m ≤ s.length) : (pieceAt s m j).f2.length = m := by
  simp only [pieceAt, List.length_drop, List.length_take]
  omega
theorem pieceAt_le (s : List Int) (m j : Nat) : (pieceAt s m j).f2.length ≤ m := by
  simp only [pieceAt, List.length_drop, List.length_take]
  omega
theorem segL_len (s : List Int) (m : Nat) (hm : 1 ≤ m) : (segL s m).length = if s.length ≤ m then 1 else pieceN s.length m := by
  unfold segL
  split
  · rfl
  · rw [List.length_map, List.length_range]
theorem segL_bound (s : List Int) (m : Nat) (hm : 1 ≤ m) (hn : s.length ≤ 24) : (segL s m).length ≤ 1048576 ∧ ∀ x ∈ segL s m, x.f2.length ≤ 1048576 := by
  refine ⟨?_, ?_⟩
  · rw [segL_len s m hm]
    split
    · omega
    · exact Nat.le_trans (Nat.div_le_self _ _) (by omega)
  · unfold segL
    split
    · intro x hx
      simp only [List.mem_singleton] at hx
      subst hx
      show s.length ≤ _
      omega
    · intro x hx
      obtain ⟨j, _, rfl⟩ := List.mem_map.1 hx
      simp only [pieceAt, List.length_drop, List.length_take]
      omega
theorem segL_small (s : List Int) (m : Nat) (hm : 1 ≤ m) (hn : s.length ≤ 24) : (segL s m).length ≤ 100 ∧ ∀ x ∈ segL s m, x.f2.length ≤ 100 := by
  refine ⟨?_, ?_⟩
  · rw [segL_len s m hm]
    split
    · omega
    · exact Nat.le_trans (Nat.div_le_self _ _) (by
        rename_i h
        omega)
  · unfold segL
    split
    · intro x hx
      simp only [List.mem_singleton] at hx
      subst hx
      show s.length ≤ _
      omega
    · intro x hx
      obtain ⟨j, _, rfl⟩ := List.mem_map.1 hx
      simp only [pieceAt, List.length_drop, List.length_take]
      omega
theorem l6List_loop (l : List S39) (hl : l.length ≤ 1048576) (hb : ∀ x ∈ l, x.f2.length ≤ 1048576) (d : Nat) : ∀ i : Nat, i ≤ l.length → l.length - i = d →
    EvP (fun k => spec_l6List.l0 k l (l.take i) (i : Int)) (· = l) := by
  induction d with
  | zero =>
    intro i h0 hd
    have hi : i = l.length := by omega
    subst hi
    refine EvP.up ?_
    simp only [spec_l6List.l0]
    exact EvP.neg (by omega) (EvP.now _ (by simp))
  | succ d ih =>
    intro i h0 hd
    have hi : i < l.length := by omega
    have hx := hb _ (List.getElem_mem hi)
    refine EvP.up ?_
    simp only [spec_l6List.l0]
    rw [rdB l i hi]
    have hw : wrap64 ((i : Int) + 1) = ((i + 1 : Nat) : Int) := by rw [wrap64_id (by omega) (by omega)]; omega
    rw [hw]
    refine EvP.pos (by omega) (EvP.pos (by omega) (EvP.some_bind (EvP.pos (by simp only [List.length_nil]; omega) (EvP.pos (by simp only [List.length_take]; omega) ?_))))
    have ih1 := ih (i + 1) (by omega) (by omega)
    rw [List.take_succ_eq_append_getElem hi] at ih1
    exact ih1
theorem l6List_ok (l : List S39) (hl : l.length ≤ 1048576) (hb : ∀ x ∈ l, x.f2.length ≤ 1048576) : EvP (fun k => spec_l6List.f k l) (· = l) := by
  unfold spec_l6List.f
  exact l6List_loop l hl hb l.length 0 (by omega) (by omega)
theorem liOk_true : laws_liOk.f = some true := by
  unfold laws_liOk.f impl_CfgOk.f impl_in.f
  decide
def QB (l : List S39) : Prop := l.length ≤ 100 ∧ ∀ x ∈ l, x.f2.length ≤ 100
theorem QB.big {l : List S39} (h : QB l) : l.length ≤ 1048576 ∧ ∀ x ∈ l, x.f2.length ≤ 1048576 := ⟨Nat.le_trans h.1 (by omega), fun x hx => Nat.le_trans (h.2 x hx) (by omega)⟩
theorem QB.nil : QB [] := ⟨by simp, by simp⟩
theorem l8Tx_ok (a : Int) (l : List S39) (c d : Int) (e : Bool) (h : QB l) : EvP (fun k => spec_l8Tx.f k a l c d e) (· = (a, l, c, d, e)) := by
  unfold spec_l8Tx.f
  exact EvP.eq_bind (l6List_ok l h.big.1 h.big.2) (EvP.now _ rfl)
theorem crdPut_ok (a b c d e h' : Int) (l : List S39) (gr se : Int) (dd : Bool) (s : List Int) (h : QB l) (hs : s.length ≤ 1000) :
    EvP (fun k => spec_CrdPut.f k a b c d e h' l gr se dd s) fun r => QB r.2.1 := by
  unfold spec_CrdPut.f
  refine EvP.eq_bind (specCrdTxOk_ok a b c d e h' l gr se dd h.big.1 h.big.2) ?_
  refine EvP.ite (fun hc => ?_) (fun _ => EvP.now _ QB.nil)
  refine EvP.eq_bind (l8Tx_ok h' l gr se dd h) ?_
  refine EvP.eq_bind (specCut_ok s c (by omega)) ?_
  refine EvP.ite (fun _ => EvP.now _ h) (fun _ => EvP.ite (fun _ => EvP.now _ h) (fun _ => ?_))
  have hq : QB (if segB s.length c then segL s c.toNat else []) := by
    split
    · rename_i hb
      unfold segB at hb
      simp only [Bool.and_eq_true, decide_eq_true_eq] at hb
      exact segL_small s c.toNat (by omega) (by omega)
    · exact QB.nil
  generalize (if segB s.length c then segL s c.toNat else []) = q at hq ⊢
  have hq1 := hq.1
  have h1 := h.1
  rw [wrap64_id (by omega) (by omega)]
  refine EvP.ite (fun _ => EvP.now _ h) (fun h24 => EvP.pos (by show l.length + q.length < 3518437208883; omega) ?_)
  have hx : QB (l ++ q) := by
    refine ⟨by rw [List.length_append]; omega, fun x hx => ?_⟩
    rcases List.mem_append.1 hx with hx | hx
    · exact h.2 x hx
    · exact hq.2 x hx
  exact EvP.eq_bind (l8Tx_ok h' (l ++ q) gr se dd hx) (EvP.now _ hx)
theorem crdTake_ok (a b c d e h' : Int) (l : List S39) (gr se : Int) (dd : Bool) (n : Int) (h : QB l) :
    EvP (fun k => spec_CrdTake.f k a b c d e h' l gr se dd n) fun r => QB r.2.1 := by
  unfold spec_CrdTake.f
  have hj : ∀ x : Bool, EvP (fun k => spec_CrdTake.j0 k n x h' l gr se dd) fun r => QB r.2.1 := by
    intro x
    refine EvP.up ?_
    simp only [spec_CrdTake.j0]
    refine EvP.ite (fun _ => EvP.now _ QB.nil) (fun _ => EvP.eq_bind (l8Tx_ok h' l gr se dd h) ?_)
    exact EvP.ite (fun _ => EvP.now _ h) (fun _ => EvP.ite (fun _ => EvP.now _ h) (fun _ => EvP.ite (fun _ => EvP.now _ h) (fun _ => EvP.now _ h)))
  refine EvP.eq_bind (specCrdTxOk_ok a b c d e h' l gr se dd h.big.1 h.big.2) ?_
  refine EvP.ite (fun hc => ?_) (fun _ => hj _)
  exact EvP.val_bind (l1In_val n 1 255) (hj _)
theorem crdSend_ok (a b c d e h' : Int) (l : List S39) (gr se : Int) (dd : Bool) (h : QB l) :
    EvP (fun k => spec_CrdSend.f k a b c d e h' l gr se dd) fun r => QB r.2.1 := by
  unfold spec_CrdSend.f
  refine EvP.eq_bind (specCrdTxOk_ok a b c d e h' l gr se dd h.big.1 h.big.2) ?_
  refine EvP.ite (fun hc => ?_) (fun _ => EvP.now _ QB.nil)
  refine EvP.eq_bind (l8Tx_ok h' l gr se dd h) ?_
  refine EvP.ite (fun _ => EvP.now _ h) (fun _ => EvP.ite (fun _ => EvP.now _ h) (fun _ => EvP.ite (fun _ => EvP.now _ h) (fun h0 => EvP.ite (fun _ => EvP.now _ h) (fun _ => ?_))))
  refine EvP.pos (by show (0 : Int) < (l.length : Int); omega) (EvP.pos (by show (1 : Int) ≤ (l.length : Int); omega) ?_)
  have hd : QB (l.drop 1) := ⟨by rw [List.length_drop]; have := h.1; omega, fun x hx => h.2 x (List.mem_of_mem_drop hx)⟩
  refine EvP.eq_bind (l6List_ok (l.drop 1) hd.big.1 hd.big.2) (EvP.some_bind (EvP.pos ?_ (EvP.now _ hd)))
  have hl : 0 < l.length := by omega
  have := rdB l 0 hl
  rw [show ((0 : Nat) : Int) = 0 from rfl] at this
  rw [this]
  have := h.2 _ (List.getElem_mem hl)
  simp only [List.length_nil]
  omega
theorem ctx_end {s : List Int} (hs : RdOk s) (n : Int) (hn : n ≤ 1000) {p : Int} (hp : 0 ≤ p ∧ p ≤ 100000) (a b c d e h' : Int) (l : List S39) (gr se : Int) (dd : Bool) (h : QB l) :
    EvP (fun k => spec_l20Ctx.l0 k n 0 s p a b c d e h' l gr se dd) fun r => r.2.1.length ≤ 1048576 ∧ ∀ x ∈ r.2.1, x.f2.length ≤ 1048576 := by
  refine EvP.up ?_
  simp only [spec_l20Ctx.l0]
  refine EvP.neg (by omega) (EvP.bind (odd_ok hs (by omega) n (by omega)) ?_)
  rintro ⟨o, p1⟩ ⟨o1, o2, _⟩
  simp only at o1 o2 ⊢
  refine EvP.ite (fun _ => ?_) (fun _ => EvP.now _ h.big)
  refine EvP.bind (pick_ok hs (by omega) 4) ?_
  rintro ⟨v, p2⟩ ⟨q1, q2, q3⟩
  simp only at q1 q2 q3 ⊢; subst q1
  refine EvP.ite (fun _ => ?_) (fun _ => EvP.ite (fun _ => ?_) (fun _ => EvP.ite (fun _ => ?_) (fun _ => ?_)))
  · refine EvP.some_bind (EvP.bind (pick_ok hs (by omega) 3) ?_)
    rintro ⟨v5, p6⟩ ⟨w1, w2, w3⟩
    simp only at w1 w2 w3 ⊢; subst w1
    exact EvP.pos w2 (EvP.pos (by simp; omega) (EvP.now _ h.big))
  · refine EvP.some_bind (EvP.bind (pick_ok hs (by omega) 3) ?_)
    rintro ⟨v5, p6⟩ ⟨w1, w2, w3⟩
    simp only at w1 w2 w3 ⊢; subst w1
    exact EvP.pos w2 (EvP.pos (by simp; omega) (EvP.now _ h.big))
  · refine EvP.bind (partOr_ok hs (by omega) 2 (by omega)) ?_
    rintro ⟨sg, pl, dt, q⟩ ⟨g1, g2, g3, g4, g5, g6⟩
    simp only at g1 g2 g3 g4 g5 g6 ⊢
    have h1 := h.1
    refine EvP.pos (by omega) (EvP.now _ ⟨?_, fun x hx => ?_⟩)
    · simp only [List.length_append, List.length_cons, List.length_nil]; omega
    · rcases List.mem_append.1 hx with hx | hx
      · exact h.big.2 x hx
      · simp only [List.mem_singleton] at hx
        subst hx
        show dt.length ≤ _
        omega
  · refine EvP.some_bind (EvP.bind (pick_ok hs (by omega) 2) ?_)
    rintro ⟨v5, p6⟩ ⟨w1, w2, w3⟩
    simp only at w1 w2 w3 ⊢; subst w1
    exact EvP.pos w2 (EvP.pos (by simp; omega) (EvP.now _ h.big))
theorem ctx_loop {s : List Int} (hs : RdOk s) (n : Int) (hn : n ≤ 1000) (a b c d e : Int) (hd : 0 ≤ d ∧ d ≤ 30) (m : Nat) (hm : m ≤ 16) : ∀ (p : Int) (h' : Int) (l : List S39) (gr se : Int) (dd : Bool), 0 ≤ p → p + 200 * m ≤ 100000 → QB l →
    EvP (fun k => spec_l20Ctx.l0 k n (m : Int) s p a b c d e h' l gr se dd) fun r => r.2.1.length ≤ 1048576 ∧ ∀ x ∈ r.2.1, x.f2.length ≤ 1048576 := by
  induction m with
  | zero =>
    intro p h' l gr se dd h0 h1 h
    exact ctx_end hs n hn (by omega) a b c d e h' l gr se dd h
  | succ m ih =>
    intro p h' l gr se dd h0 h1 h
    refine EvP.up ?_
    simp only [spec_l20Ctx.l0]
    refine EvP.pos (by omega) (EvP.bind (pick_ok hs (by omega) 4) ?_)
    rintro ⟨v, p2⟩ ⟨q1, q2, q3⟩
    simp only at q1 q2 q3 ⊢; subst q1
    have hw : wrap64 (((m + 1 : Nat) : Int) - 1) = (m : Int) := by rw [wrap64_id (by omega) (by omega)]; omega
    have hj : ∀ x : Bool, EvP (fun k => spec_l20Ctx.j1 k n ((m + 1 : Nat) : Int) v x s (p + 1) a b c d e h' l gr se dd) fun r => r.2.1.length ≤ 1048576 ∧ ∀ x ∈ r.2.1, x.f2.length ≤ 1048576 := by
      intro x
      refine EvP.up ?_
      simp only [spec_l20Ctx.j1]
      rw [hw]
      refine EvP.ite (fun _ => ?_) (fun _ => EvP.ite (fun _ => ?_) (fun _ => ?_))
      · refine EvP.bind (bytes_ok hs d hd.1 (by omega) (by omega)) ?_
        rintro ⟨bs, p3⟩ ⟨b1, b2, _, b4⟩
        simp only at b1 b2 b4 ⊢
        refine EvP.bind (crdPut_ok a b c d e h' l gr se dd bs h (by omega)) ?_
        rintro ⟨x1, x2, x3, x4, x5, x6⟩ hx
        exact ih (by omega) _ _ _ _ _ _ (by omega) (by omega) hx
      · refine EvP.bind (pick_ok hs (by omega) 6) ?_
        rintro ⟨v1, p3⟩ ⟨w1, w2, w3⟩
        simp only at w1 w2 w3 ⊢; subst w1
        refine EvP.bind (pick_ok hs (by omega) 250) ?_
        rintro ⟨v2, p4⟩ ⟨y1, y2, y3⟩
        simp only at y1 y2 y3 ⊢; subst y1
        refine EvP.some_bind (EvP.bind (pick_ok hs (by omega) 2) ?_)
        rintro ⟨v3, p5⟩ ⟨z1, z2, z3⟩
        simp only at z1 z2 z3 ⊢; subst z1
        refine EvP.pos z2 (EvP.pos (by simp; omega) ?_)
        refine EvP.bind (crdTake_ok a b c d e h' l gr se dd _ h) ?_
        rintro ⟨x1, x2, x3, x4, x5⟩ hx
        exact ih (by omega) _ _ _ _ _ _ (by omega) (by omega) hx
      · refine EvP.bind (crdSend_ok a b c d e h' l gr se dd h) ?_
        rintro ⟨x1, x2, x3, x4, x5, x6⟩ hx
        exact ih (by omega) _ _ _ _ _ _ (by omega) (by omega) hx
    exact EvP.ite (fun _ => hj _) (fun _ => hj _)
theorem drawCtx_ok (l0 : List Int) (hw : ∀ x ∈ l0, (Lit.int .u8 x).wf = true) : EvP (fun k => spec_DrawCrdTxOk.f k l0) fun r => r.2.2.2.2.2.2.1.length ≤ 1048576 ∧ ∀ x ∈ r.2.2.2.2.2.2.1, x.f2.length ≤ 1048576 := by
  obtain ⟨s, hs, ok⟩ := open_ok l0 hw
  unfold spec_DrawCrdTxOk.f
  refine EvP.val_bind hs (EvP.bind (cfg_ok ok (by omega) 12 (by omega)) ?_)
  rintro ⟨a, b, c, d, e, p⟩ ⟨c1, c2, _⟩
  simp only at c1 c2 ⊢
  have hd : 0 ≤ d ∧ d ≤ 30 := by
    unfold CfgR at c2
    omega
  refine EvP.bind (P := fun r => r.2.1.length ≤ 1048576 ∧ ∀ x ∈ r.2.1, x.f2.length ≤ 1048576) ?_ ?_
  · unfold spec_l20Ctx.f
    refine EvP.bind (pick_ok ok (by omega) 16) ?_
    rintro ⟨v, p2⟩ ⟨q1, q2, q3⟩
    simp only at q1 q2 q3 ⊢; subst q1
    obtain ⟨m, rfl⟩ := Int.eq_ofNat_of_zero_le q2
    exact ctx_loop ok 2 (by omega) a b c d e hd m (by omega) _ 0 [] 0 0 false (by omega) (by omega) QB.nil
  · rintro ⟨x1, x2, x3, x4, x5, x6⟩ hx
    exact EvP.now _ hx
theorem FnCrdTxOk : laws_FnCrdTxOk.Pure := by
  intro l0 _ _ hw
  refine EvP.rounds ?_
  unfold laws_FnCrdTxOk.f
  refine EvP.ite (fun _ => EvP.now _ rfl) (fun _ => ?_)
  refine EvP.bind (drawCtx_ok l0 hw) ?_
  rintro ⟨a, b, c, d, e, h', l, gr, se, dd⟩ ⟨g1, g2⟩
  simp only at g1 g2 ⊢
  refine EvP.eq_bind (implCrdTxOk_ok a b c d e h' l gr se dd g1 g2) (EvP.eq_bind (specCrdTxOk_ok a b c d e h' l gr se dd g1 g2) (EvP.neg (by simp) (EvP.ite (fun h => ?_) (fun _ => EvP.val_bind liOk_true (EvP.now _ rfl)))))
  have hc := h
  unfold ctok at h
  simp only [Bool.and_eq_true, decide_eq_true_eq] at h
  obtain ⟨k1, k2, k3, k4, k5, k6, k7⟩ := h
  rw [wrap64_id (by omega) (by omega)] at k5
  rw [wrap64_id (x := h' + 1) (by omega) (by omega), wrap64_id (x := gr - se) (by omega) (by omega), wrap64_id (x := gr + 1) (by omega) (by omega), wrap64_id (x := se + 1) (by omega) (by omega)]
  refine EvP.eq_bind (implCrdTxOk_ok a b c d e (h' + 1) l gr se dd g1 g2) (EvP.neg ?_ (EvP.pos k5 (EvP.eq_bind (implCrdTxOk_ok a b c d e h' l (gr + 1) (se + 1) dd g1 g2) ?_)))
  · intro hz
    unfold ctok at hz
    simp only [Bool.and_eq_true, decide_eq_true_eq] at hz
    obtain ⟨_, _, _, _, z5, _, _⟩ := hz
    rw [wrap64_id (by omega) (by omega)] at z5
    omega
  · have hv : ctok a b c d e h' l (gr + 1) (se + 1) = (decide (gr + 1 ≤ 9999) && decide (se + 1 ≤ 9999)) := by
      unfold ctok
      rw [k1, decide_eq_true k2, decide_eq_true k6, k7, wrap64_id (by omega) (by omega), decide_eq_true (show h' = gr + 1 - (se + 1) by omega), show decide (0 ≤ gr + 1 ∧ gr + 1 ≤ 9999) = decide (gr + 1 ≤ 9999) from decide_eq_decide.2 ⟨fun z => z.2, fun z => ⟨by omega, z⟩⟩, show decide (0 ≤ se + 1 ∧ se + 1 ≤ 9999) = decide (se + 1 ≤ 9999) from decide_eq_decide.2 ⟨fun z => z.2, fun z => ⟨by omega, z⟩⟩]
      simp
    rw [hv]
    refine EvP.ite (fun hz => EvP.now _ ?_) (fun hz => EvP.now _ ?_)
    · rw [decide_eq_true hz]; simp
    · rw [decide_eq_false hz]; simp

end Go.Proofs.Yteknaofnageihaa.Pure
