/- The law FnRxOk: who hears counts round about. No condition. -/
import Derived.Test.YtiilmbpknngpfaaPFnRxOkx7
namespace Go.Proofs.Ytiilmbpknngpfaa.Pure
open Go.RowKit Go.Proofs.Ytiilmbpknngpfaa.PFnRxOk Go.Proofs.YtiilmbpknngpfaaW.PrintWords Go.Proofs.YtiilmbpknngpfaaW.PrintLast Go.Proofs.YtiilmbpknngpfaaW.PrintMore

/-! A small calculus: with enough rounds g comes to something of which Q holds. -/
def EvP {α : Type} (g : Nat → Option α) (Q : α → Prop) : Prop := ∃ r, Ev g r ∧ Q r
theorem EvP.now {α : Type} {Q : α → Prop} (r : α) (h : Q r) : EvP (fun _ => some r) Q := ⟨r, Ev.now r, h⟩
theorem EvP.here {α : Type} {o : Option α} {Q : α → Prop} (r : α) (e : o = some r) (h : Q r) : EvP (fun _ => o) Q := by subst e; exact EvP.now r h
theorem EvP.of {α : Type} {g : Nat → Option α} {Q : α → Prop} (K : Nat) (h : ∃ r, (∀ k, K ≤ k → g k = some r) ∧ Q r) : EvP g Q := by
  obtain ⟨r, h1, h2⟩ := h
  exact ⟨r, ⟨K, h1⟩, h2⟩
theorem EvP.bind {α β : Type} {g : Nat → Option α} {f : Nat → α → Option β} {P : α → Prop} {Q : β → Prop} (h : EvP g P) (k : ∀ a, P a → EvP (fun n => f n a) Q) : EvP (fun n => (g n).bind (f n)) Q := by
  obtain ⟨a, ha, hp⟩ := h
  obtain ⟨r, hr, hq⟩ := k a hp
  exact ⟨r, Ev.bind ha hr, hq⟩
theorem EvP.some_bind {α β : Type} {a : α} {f : Nat → α → Option β} {Q : β → Prop} (k : EvP (fun n => f n a) Q) : EvP (fun n => (some a).bind (f n)) Q := k
theorem EvP.step {α : Type} {g f : Nat → Option α} {Q : α → Prop} (h : ∀ k, g (k + 1) = f k) (k : EvP f Q) : EvP g Q := by
  obtain ⟨r, hr, hq⟩ := k
  exact ⟨r, Ev.step h hr, hq⟩
theorem EvP.congr {α : Type} {g f : Nat → Option α} {Q : α → Prop} (h : ∀ k, g k = f k) (k : EvP f Q) : EvP g Q := by
  obtain ⟨r, hr, hq⟩ := k
  exact ⟨r, Ev.congr h hr, hq⟩
theorem EvP.mono {α : Type} {g : Nat → Option α} {P Q : α → Prop} (h : EvP g P) (k : ∀ a, P a → Q a) : EvP g Q := by
  obtain ⟨r, hr, hp⟩ := h
  exact ⟨r, hr, k r hp⟩
theorem EvP.ite {α : Type} {c : Prop} [Decidable c] {f g : Nat → Option α} {Q : α → Prop} (h1 : c → EvP f Q) (h2 : ¬ c → EvP g Q) : EvP (fun k => if c then f k else g k) Q := by
  by_cases hc : c
  · simp only [if_pos hc]; exact h1 hc
  · simp only [if_neg hc]; exact h2 hc
theorem EvP.pos {α : Type} {c : Prop} [Decidable c] {f g : Nat → Option α} {Q : α → Prop} (hc : c) (h : EvP f Q) : EvP (fun k => if c then f k else g k) Q := by
  simp only [if_pos hc]; exact h
theorem EvP.neg {α : Type} {c : Prop} [Decidable c] {f g : Nat → Option α} {Q : α → Prop} (hc : ¬ c) (h : EvP g Q) : EvP (fun k => if c then f k else g k) Q := by
  simp only [if_neg hc]; exact h
theorem EvP.rounds {α : Type} {g : Nat → Option α} {r : α} (h : EvP g (· = r)) : ∃ k, g k = some r := by
  obtain ⟨q, hq, rfl⟩ := h
  exact hq.rounds
theorem EvP.up {α : Type} {g : Nat → Option α} {Q : α → Prop} (h : EvP (fun k => g (k + 1)) Q) : EvP g Q := EvP.step (fun _ => rfl) h
theorem EvP.val_bind {α β : Type} {o : Option α} {a : α} {f : Nat → α → Option β} {Q : β → Prop} (e : o = some a) (k : EvP (fun n => f n a) Q) : EvP (fun n => o.bind (f n)) Q := by subst e; exact k
/-! The reader of a code: whatever it picks lies in bounds. -/
def RdOk (s : List Int) : Prop := s.length ≤ 2000 ∧ ∀ x ∈ s, 0 ≤ x ∧ x ≤ 255
theorem rd_range {s : List Int} (h : RdOk s) (i : Int) : 0 ≤ rd s i ∧ rd s i ≤ 255 := by
  unfold rd
  rw [List.getD_eq_getElem?_getD]
  cases e : s[i.toNat]? with
  | none => simp
  | some x => exact h.2 x (List.mem_of_getElem? e)
theorem wrap64_id {x : Int} (h : -9223372036854775808 ≤ x) (h2 : x ≤ 9223372036854775807) : wrap64 x = x := by unfold wrap64; omega
theorem xor_nonneg (a b : Int) (ha : 0 ≤ a) (ha2 : a < 9223372036854775808) (hb : 0 ≤ b) (hb2 : b < 9223372036854775808) : 0 ≤ Go.bits .xor .i64 a b := by
  obtain ⟨m, rfl⟩ := Int.eq_ofNat_of_zero_le ha
  obtain ⟨n, rfl⟩ := Int.eq_ofNat_of_zero_le hb
  have hm : m < 2 ^ 63 := by omega
  have hn : n < 2 ^ 63 := by omega
  have hx := Nat.xor_lt_two_pow hm hn
  have h1 : m % 2 ^ 64 = m := Nat.mod_eq_of_lt (by omega)
  have h2 : n % 2 ^ 64 = n := Nat.mod_eq_of_lt (by omega)
  have h3 : (BitVec.ofNat 64 m ^^^ BitVec.ofNat 64 n).toNat = m ^^^ n := by rw [BitVec.toNat_xor, BitVec.toNat_ofNat, BitVec.toNat_ofNat, h1, h2]
  have h4 : Go.bits .xor .i64 (m : Int) (n : Int) = IntKind.i64.wrap ((BitVec.ofNat 64 m ^^^ BitVec.ofNat 64 n).toNat) := rfl
  rw [h4, h3, IntKind.wrap_i64]
  omega
theorem tmod_range (a n : Int) (ha : 0 ≤ a) (hn : 0 < n) : 0 ≤ Int.tmod a n ∧ Int.tmod a n < n := by
  rw [Int.tmod_eq_emod_of_nonneg ha]
  exact ⟨Int.emod_nonneg _ (by omega), Int.emod_lt_of_pos _ hn⟩
theorem tdiv_range (a n : Int) (ha : 0 ≤ a) (hn : 0 < n) : 0 ≤ Int.tdiv a n ∧ Int.tdiv a n ≤ a := by
  rw [Int.tdiv_eq_ediv_of_nonneg ha]
  exact ⟨Int.ediv_nonneg ha (by omega), Int.ediv_le_self _ ha⟩
theorem pick_rounds (s : List Int) (hs : RdOk s) (p n : Int) (hp : 0 ≤ p) (hp2 : p ≤ 1000000) : ∃ v, (∀ k, spec_l20Rd_pick.f (k + 1) s p n = some (v, p + 1)) ∧ 0 ≤ v ∧ (v < n ∨ v = 0 ∧ n < 1) := by
  have hw : wrap64 (p + 1) = p + 1 := wrap64_id (by omega) (by omega)
  by_cases h1 : n < 1
  · exact ⟨0, fun k => by unfold spec_l20Rd_pick.f; rw [if_pos h1, hw]; simp [spec_l20Rd_pick.j0], by omega, .inr ⟨rfl, h1⟩⟩
  · by_cases h2 : (s.length : Int) = 0
    · refine ⟨0, fun k => ?_, by omega, .inl (by omega)⟩
      unfold spec_l20Rd_pick.f
      rw [if_neg h1, hw, h2]
      simp [spec_l20Rd_pick.j0]
    · have hlen := hs.1
      have hb : ((s.length : Int) == 0) = false := beq_eq_false_iff_ne.mpr h2
      have hw2 : wrap64 (p + 1 - 1) = p := by rw [wrap64_id (by omega) (by omega)]; omega
      by_cases h3 : p < (s.length : Int)
      · have hr := rd_range hs p
        have hw3 : wrap64 (rd s p) = rd s p := wrap64_id (by omega) (by omega)
        have ht := tmod_range (rd s p) n hr.1 (by omega)
        refine ⟨Int.tmod (rd s p) n, fun k => ?_, ht.1, .inl ht.2⟩
        unfold spec_l20Rd_pick.f
        rw [if_neg h1, hw, hb]
        simp only [spec_l20Rd_pick.j0, hw2, hw3]
        rw [if_neg (by decide), if_pos h3, if_pos hp, if_neg (by omega)]
      · have t1 := tmod_range p s.length hp (by omega)
        have w1 : wrap64 (p * 7) = p * 7 := wrap64_id (by omega) (by omega)
        have w2 : wrap64 (p * 7 + 3) = p * 7 + 3 := wrap64_id (by omega) (by omega)
        have t2 := tmod_range (p * 7 + 3) s.length (by omega) (by omega)
        have r1 := rd_range hs (Int.tmod p s.length)
        have r2 := rd_range hs (Int.tmod (p * 7 + 3) s.length)
        have t3 := tdiv_range p s.length hp (by omega)
        generalize e1 : rd s (Int.tmod p s.length) = a at r1
        generalize e2 : rd s (Int.tmod (p * 7 + 3) s.length) = b at r2
        generalize e3 : Int.tdiv p s.length = q at t3
        have v1 : wrap64 (wrap64 (wrap64 (wrap64 (wrap64 a * 131) + wrap64 (wrap64 b * 1117)) + wrap64 (p * 29)) + wrap64 (wrap64 q * 53)) = a * 131 + b * 1117 + p * 29 + q * 53 := by
          rw [wrap64_id (x := a) (by omega) (by omega), wrap64_id (x := b) (by omega) (by omega), wrap64_id (x := q) (by omega) (by omega), wrap64_id (x := a * 131) (by omega) (by omega), wrap64_id (x := b * 1117) (by omega) (by omega), wrap64_id (x := p * 29) (by omega) (by omega), wrap64_id (x := q * 53) (by omega) (by omega), wrap64_id (x := a * 131 + b * 1117) (by omega) (by omega), wrap64_id (x := a * 131 + b * 1117 + p * 29) (by omega) (by omega), wrap64_id (by omega) (by omega)]
        generalize e4 : a * 131 + b * 1117 + p * 29 + q * 53 = z at v1
        have hz : 0 ≤ z ∧ z ≤ 1000000000 := by omega
        have t4 := tdiv_range z 64 hz.1 (by omega)
        have v2 : wrap64 (Int.tdiv z 64) = Int.tdiv z 64 := wrap64_id (by omega) (by omega)
        have hx := xor_nonneg z (Int.tdiv z 64) hz.1 (by omega) t4.1 (by omega)
        have ht := tmod_range _ n hx (by omega)
        refine ⟨_, fun k => ?_, ht.1, .inl ht.2⟩
        unfold spec_l20Rd_pick.f
        rw [if_neg h1, hw, hb]
        simp only [spec_l20Rd_pick.j0, hw2, w1, w2, e1, e2, e3, v1, v2]
        rw [if_neg (by decide), if_neg h3, if_neg h2, if_pos t1.1, if_pos t1.2, if_pos t2.1, if_pos t2.2, if_neg (by omega)]
theorem pick_ok {s : List Int} (hs : RdOk s) {p : Int} (hp : 0 ≤ p ∧ p ≤ 1000000) (n : Int) : EvP (fun k => spec_l20Rd_pick.f k s p n) fun r => r.2 = p + 1 ∧ 0 ≤ r.1 ∧ (r.1 < n ∨ r.1 = 0 ∧ n < 1) := by
  obtain ⟨v, h1, h2⟩ := pick_rounds s hs p n hp.1 hp.2
  exact ⟨(v, p + 1), ⟨1, fun k hk => by obtain ⟨m, rfl⟩ : ∃ m, k = m + 1 := ⟨k - 1, by omega⟩; exact h1 m⟩, rfl, h2⟩
theorem open_ok (l : List Int) (hw : ∀ x ∈ l, (Lit.int .u8 x).wf = true) : ∃ s, spec_l20Open.f l = some (s, 0) ∧ RdOk s := by
  have hb : ∀ x ∈ l, 0 ≤ x ∧ x ≤ 255 := fun x hx => by
    have h := hw x hx
    simp [Lit.wf, IntKind.min, IntKind.max, IntKind.signed, IntKind.bits] at h
    omega
  unfold spec_l20Open.f
  by_cases h : (l.length : Int) > 2000
  · rw [if_pos h, if_pos (by omega)]
    exact ⟨l.take 2000, rfl, List.length_take_le _ _, fun x hx => hb x (List.mem_of_mem_take hx)⟩
  · rw [if_neg h]
    exact ⟨l, rfl, by omega, hb⟩
/-! Draws of the reader beyond pick: odd, bytes. -/
def ByteL (l : List Int) : Prop := ∀ x ∈ l, 0 ≤ x ∧ x ≤ 255
theorem odd_ok {s : List Int} (hs : RdOk s) {p : Int} (hp : 0 ≤ p ∧ p ≤ 1000000) (n : Int) (hn : n ≤ 1000000) : EvP (fun k => spec_l20Rd_odd.f k s p n) fun r => p ≤ r.2 ∧ r.2 ≤ p + 1 ∧ (n ≤ 0 → r.1 = false) := by
  unfold spec_l20Rd_odd.f
  refine EvP.ite (fun h => ?_) (fun h => EvP.now _ ⟨by simp, by simp; omega, fun _ => rfl⟩)
  refine EvP.bind (pick_ok hs hp n) ?_
  rintro ⟨v, q⟩ ⟨h1, h2, h3⟩
  simp only at h1 h2 h3 ⊢
  refine EvP.now _ ⟨by simp only; omega, by simp only; omega, fun h => by omega⟩
theorem bytes_loop {s : List Int} (hs : RdOk s) (d : Nat) : ∀ (out : List Int) (p : Int), ByteL out → out.length + d ≤ 100000 → 0 ≤ p → p + 3 * d ≤ 900000 →
    EvP (fun k => spec_l20Bytes.l0 k out (d : Int) s p) fun r => r.2 = p + 3 * d ∧ ByteL r.1 ∧ r.1.length = out.length + d := by
  induction d with
  | zero =>
    intro out p hb hl hp hp2
    refine EvP.up ?_
    simp only [spec_l20Bytes.l0]
    exact EvP.neg (by omega) (EvP.now _ ⟨by simp, hb, by simp⟩)
  | succ d ih =>
    intro out p hb hl hp hp2
    refine EvP.up ?_
    simp only [spec_l20Bytes.l0]
    refine EvP.pos (by omega) ?_
    refine EvP.bind (pick_ok hs (by omega) 256) ?_
    rintro ⟨v1, p1⟩ ⟨h1, h2, h3⟩
    simp only at h1 h2 h3 ⊢; subst h1
    refine EvP.bind (pick_ok hs (by omega) 4) ?_
    rintro ⟨v2, p2⟩ ⟨g1, g2, g3⟩
    simp only at g1 g2 g3 ⊢; subst g1
    refine EvP.some_bind ?_
    refine EvP.bind (pick_ok hs (by omega) 3) ?_
    rintro ⟨v3, p3⟩ ⟨q1, q2, q3⟩
    simp only at q1 q2 q3 ⊢; subst q1
    refine EvP.pos q2 (EvP.pos (by simp; omega) (EvP.pos (by omega) ?_))
    have hw : wrap64 (((d + 1 : Nat) : Int) - 1) = (d : Int) := by rw [wrap64_id (by omega) (by omega)]; omega
    rw [hw]
    refine EvP.mono (ih (out ++ [rd [v1, v2, 255] v3 % 256]) (p + 1 + 1 + 1) ?_ (by simp; omega) (by omega) (by omega)) ?_
    · intro x hx
      rcases List.mem_append.1 hx with h | h
      · exact hb x h
      · rw [List.mem_singleton] at h; omega
    · rintro ⟨r1, r2⟩ ⟨h1, h2, h3⟩
      simp only at h1 h2 h3 ⊢
      refine ⟨by omega, h2, ?_⟩
      rw [h3, List.length_append, List.length_singleton]; omega
theorem bytes_ok {s : List Int} (hs : RdOk s) {p : Int} (n : Int) (hn : 0 ≤ n) (hn2 : n ≤ 10000) (hp : 0 ≤ p ∧ p ≤ 500000) :
    EvP (fun k => spec_l20Bytes.f k s p n) fun r => p + 1 ≤ r.2 ∧ r.2 ≤ p + 1 + 3 * n ∧ ByteL r.1 ∧ (r.1.length : Int) ≤ n := by
  unfold spec_l20Bytes.f
  rw [wrap64_id (x := n + 1) (by omega) (by omega)]
  refine EvP.bind (pick_ok hs (by omega) (n + 1)) ?_
  rintro ⟨v, q⟩ ⟨h1, h2, h3⟩
  simp only at h1 h2 h3 ⊢; subst h1
  obtain ⟨d, rfl⟩ := Int.eq_ofNat_of_zero_le h2
  refine EvP.mono (bytes_loop hs d [] (p + 1) (fun x hx => by simp at hx) (by simp; omega) (by omega) (by omega)) ?_
  rintro ⟨r1, r2⟩ ⟨h1, h2, h3⟩
  simp only at h1 h2 h3 ⊢
  simp only [List.length_nil, Nat.zero_add] at h3
  exact ⟨by omega, by omega, h2, by omega⟩
theorem three {v : Int} (h : 0 ≤ v) (h2 : v < 3 ∨ v = 0 ∧ (3 : Int) < 1) : v = 0 ∨ v = 1 ∨ v = 2 := by omega
theorem two {v : Int} (h : 0 ≤ v) (h2 : v < 2 ∨ v = 0 ∧ (2 : Int) < 1) : v = 0 ∨ v = 1 := by omega
theorem rd0 (a : Int) (l : List Int) : rd (a :: l) 0 = a := rfl
theorem rd1 (a b : Int) (l : List Int) : rd (a :: b :: l) 1 = b := rfl
theorem rd2 (a b c : Int) (l : List Int) : rd (a :: b :: c :: l) 2 = c := rfl
theorem join_tail {s : List Int} (hs : RdOk s) (n : Int) (hn : n ≤ 1000) {p : Int} (hp : 0 ≤ p ∧ p ≤ 400000) (len : Int) (got : List Int) (hl : -1 ≤ len ∧ len ≤ 25) (hg : ByteL got) (hg2 : got.length ≤ 25) :
    EvP (fun k => spec_l20Join.j0 k n s p len got) fun r => p ≤ r.2.2 ∧ r.2.2 ≤ p + 100 ∧ (-1 ≤ r.1 ∧ r.1 ≤ 25) ∧ ByteL r.2.1 ∧ r.2.1.length ≤ 25 := by
  refine EvP.up ?_
  simp only [spec_l20Join.j0]
  refine EvP.bind (odd_ok hs (by omega) n (by omega)) ?_
  rintro ⟨o, p1⟩ ⟨o1, o2, _⟩
  simp only at o1 o2 ⊢
  refine EvP.ite (fun _ => ?_) (fun _ => EvP.now _ ⟨by simp only; omega, by simp only; omega, by simp only; omega, hg, hg2⟩)
  refine EvP.bind (pick_ok hs (by omega) 3) ?_
  rintro ⟨v, p2⟩ ⟨h1, h2, h3⟩
  simp only at h1 h2 h3 ⊢; subst h1
  refine EvP.ite (fun _ => ?_) (fun _ => EvP.ite (fun _ => EvP.now _ ⟨by simp only; omega, by simp only; omega, by simp only; omega, fun x hx => by simp at hx, by simp⟩) (fun _ => ?_))
  · refine EvP.some_bind ?_
    refine EvP.bind (pick_ok hs (by omega) 3) ?_
    rintro ⟨v2, p3⟩ ⟨g1, g2, g3⟩
    simp only at g1 g2 g3 ⊢; subst g1
    refine EvP.pos g2 (EvP.pos (by simp; omega) ?_)
    rcases three g2 g3 with rfl | rfl | rfl <;> exact EvP.now _ ⟨by simp only; omega, by simp only; omega, by simp only [rd0, rd1, rd2]; omega, hg, hg2⟩
  · refine EvP.bind (bytes_ok hs 25 (by omega) (by omega) (by omega)) ?_
    rintro ⟨b, p3⟩ ⟨b1, b2, b3, b4⟩
    simp only at b1 b2 b3 b4 ⊢
    exact EvP.now _ ⟨by simp only; omega, by simp only; omega, by simp only; omega, b3, by simp only; omega⟩
theorem join_ok {s : List Int} (hs : RdOk s) (n : Int) (hn : n ≤ 1000) {p : Int} (hp : 0 ≤ p ∧ p ≤ 300000) :
    EvP (fun k => spec_l20Join.f k s p n) fun r => p ≤ r.2.2 ∧ r.2.2 ≤ p + 300 ∧ (-1 ≤ r.1 ∧ r.1 ≤ 25) ∧ ByteL r.2.1 ∧ r.2.1.length ≤ 25 := by
  unfold spec_l20Join.f
  refine EvP.bind (pick_ok hs (by omega) 2) ?_
  rintro ⟨v, p1⟩ ⟨h1, h2, h3⟩
  simp only at h1 h2 h3 ⊢; subst h1
  refine EvP.ite (fun _ => ?_) (fun _ => ?_)
  · refine EvP.bind (pick_ok hs (by omega) 23) ?_
    rintro ⟨v2, p2⟩ ⟨g1, g2, g3⟩
    simp only at g1 g2 g3 ⊢; subst g1
    rw [wrap64_id (x := 2 + v2) (by omega) (by omega), wrap64_id (x := 2 + v2 - 1) (by omega) (by omega)]
    refine EvP.bind (bytes_ok hs (2 + v2 - 1) (by omega) (by omega) (by omega)) ?_
    rintro ⟨b, p3⟩ ⟨b1, b2, b3, b4⟩
    simp only at b1 b2 b3 b4 ⊢
    refine EvP.ite (fun _ => ?_) (fun _ => ?_)
    · refine EvP.mono (join_tail hs n hn (by omega) (2 + v2) [1] (by omega) (fun x hx => by rw [List.mem_singleton] at hx; omega) (by simp)) ?_
      rintro r ⟨a1, a2, a3, a4, a5⟩
      exact ⟨by omega, by omega, a3, a4, a5⟩
    · refine EvP.mono (join_tail hs n hn (by omega) (2 + v2) b (by omega) b3 (by omega)) ?_
      rintro r ⟨a1, a2, a3, a4, a5⟩
      exact ⟨by omega, by omega, a3, a4, a5⟩
  · refine EvP.mono (join_tail hs n hn (by omega) 0 [] (by omega) (fun x hx => by simp at hx) (by simp)) ?_
    rintro r ⟨a1, a2, a3, a4, a5⟩
    exact ⟨by omega, by omega, a3, a4, a5⟩
def jok (len : Int) (got : List Int) : Bool := if len = 0 ∧ got.length = 0 then true else decide (2 ≤ len ∧ len ≤ 24 ∧ 1 ≤ (got.length : Int) ∧ (got.length : Int) ≤ len - 1)
theorem joinOk_val (len : Int) (got : List Int) : impl_JoinOk.f len got = some (jok len got) := by
  unfold impl_JoinOk.f impl_in.f jok
  by_cases h0 : len = 0
  · subst h0
    by_cases h1 : (got.length : Int) = 0
    · have : got.length = 0 := by omega
      simp [this]
    · have : ¬ got.length = 0 := by omega
      simp [this]
  · rw [if_neg h0, if_neg (fun h : len = 0 ∧ got.length = 0 => h0 h.1)]
    by_cases h1 : len ≥ 2
    · by_cases h2 : len ≤ 24
      · have hw : wrap64 (len - 1) = len - 1 := by unfold wrap64; omega
        rw [if_pos h1, decide_eq_true h2, hw]
        simp only [Option.bind_some, if_true]
        by_cases h3 : (got.length : Int) ≥ 1
        · rw [if_pos h3]
          simp only [Option.bind_some, Option.some.injEq, decide_eq_decide]
          omega
        · rw [if_neg h3]
          simp only [Option.bind_some, Option.some.injEq]
          exact (decide_eq_false (by omega)).symm
      · rw [if_pos h1, decide_eq_false h2]
        simp only [Option.bind_some, Option.some.injEq, Bool.false_eq_true, if_false]
        exact (decide_eq_false (by omega)).symm
    · rw [if_neg h1]
      simp only [Option.bind_some, Option.some.injEq, Bool.false_eq_true, if_false]
      exact (decide_eq_false (by omega)).symm
theorem joinOk_same (len : Int) (got : List Int) : spec_JoinOk.f len got = some (jok len got) := joinOk_val len got
def xok (exp count len : Int) (got : List Int) : Bool := decide ((0 ≤ exp ∧ exp ≤ 7) ∧ (0 ≤ count ∧ count ≤ 9999) ∧ count % 8 = exp) && jok len got
theorem rxOk_val (exp count len : Int) (got : List Int) (a b c : Bool) : impl_RxOk.f exp count len got a b c = some (xok exp count len got) := by
  have iv : ∀ a lo hi : Int, impl_in.f a lo hi = some (decide (lo ≤ a ∧ a ≤ hi)) := by
    intro a lo hi
    unfold impl_in.f
    by_cases h : a ≥ lo
    · rw [if_pos h]; simp only [Option.some.injEq, decide_eq_decide]; omega
    · rw [if_neg h]; simp only [Option.some.injEq]; exact (decide_eq_false (by omega)).symm
  unfold impl_RxOk.f impl_isNumber.f xok
  simp only [iv, joinOk_val, Option.bind_some, decide_eq_true_eq]
  by_cases h1 : 0 ≤ exp ∧ exp ≤ 7
  · rw [if_pos h1]
    by_cases h2 : 0 ≤ count ∧ count ≤ 9999
    · rw [if_pos h2]
      have hn : impl_NumOf.f count = some (count % 8) := by
        unfold impl_NumOf.f
        rw [if_neg (by omega), Int.tmod_eq_emod_of_nonneg h2.1]
      rw [hn]
      simp only [Option.bind_some]
      by_cases h3 : count % 8 = exp
      · rw [if_pos h3, decide_eq_true ⟨h1, h2, h3⟩]; simp
      · rw [if_neg h3, decide_eq_false (fun h => h3 h.2.2)]; simp
    · rw [if_neg h2, decide_eq_false (fun h => h2 h.2.1)]; simp
  · rw [if_neg h1, decide_eq_false (fun h => h1 h.1)]; simp
theorem rxOk_same (exp count len : Int) (got : List Int) (a b c : Bool) : spec_RxOk.f exp count len got a b c = some (xok exp count len got) := by
  have h : spec_RxOk.f exp count len got a b c = impl_RxOk.f exp count len got a b c := by
    unfold spec_RxOk.f impl_RxOk.f impl_isNumber.f
    have e2 : impl_in.f = spec_l1In.f := rfl
    have e3 : impl_NumOf.f = spec_NumOf.f := rfl
    have e4 : impl_JoinOk.f = spec_JoinOk.f := rfl
    rw [e2, e3, e4]
    simp only [Option.bind_assoc, Option.bind_some]
  rw [h, rxOk_val]
theorem liOk_true : laws_liOk.f = some true := by
  unfold laws_liOk.f impl_CfgOk.f impl_in.f
  decide
theorem rx_drawn {s : List Int} (ok : RdOk s) : EvP (fun k => spec_l20Rx.f k s 0 2) fun r => -1 ≤ r.2.1 ∧ r.2.1 ≤ 10000 := by
  unfold spec_l20Rx.f
  refine EvP.bind (pick_ok ok (by omega) 40) ?_
  rintro ⟨c, p1⟩ ⟨h1, h2, h3⟩
  simp only at h1 h2 h3 ⊢; subst h1
  refine EvP.bind (join_ok ok 0 (by omega) (by omega)) ?_
  rintro ⟨len, got, p2⟩ ⟨j1, j2, j3, j4, j5⟩
  simp only at j1 j2 j3 j4 j5 ⊢
  refine EvP.bind (pick_ok ok (by omega) 3) ?_
  rintro ⟨v2, p3⟩ ⟨g1, g2, g3⟩
  simp only at g1 g2 g3 ⊢; subst g1
  refine EvP.bind (pick_ok ok (by omega) 4) ?_
  rintro ⟨v3, p4⟩ ⟨q1, q2, q3⟩
  simp only at q1 q2 q3 ⊢; subst q1
  refine EvP.bind (pick_ok ok (by omega) 12) ?_
  rintro ⟨v4, p5⟩ ⟨u1, u2, u3⟩
  simp only at u1 u2 u3 ⊢; subst u1
  refine EvP.bind (odd_ok ok (by omega) 2 (by omega)) ?_
  rintro ⟨o, p6⟩ ⟨o1, o2, _⟩
  simp only at o1 o2 ⊢
  have hc : -1 ≤ c ∧ c ≤ 10000 := by omega
  refine EvP.ite (fun _ => ?_) (fun _ => EvP.now _ hc)
  refine EvP.bind (pick_ok ok (by omega) 3) ?_
  rintro ⟨v5, p7⟩ ⟨w1, w2, w3⟩
  simp only at w1 w2 w3 ⊢; subst w1
  refine EvP.ite (fun _ => ?_) (fun _ => EvP.ite (fun _ => ?_) (fun _ => ?_))
  · refine EvP.val_bind (o := spec_NumNext.f (Int.tmod c 8)) rfl (EvP.some_bind (EvP.bind (pick_ok ok (by omega) 3) ?_))
    rintro ⟨v6, p8⟩ ⟨x1, x2, x3⟩
    simp only at x1 x2 x3 ⊢; subst x1
    exact EvP.pos x2 (EvP.pos (by simp; omega) (EvP.now _ hc))
  · refine EvP.some_bind (EvP.bind (pick_ok ok (by omega) 3) ?_)
    rintro ⟨v6, p8⟩ ⟨x1, x2, x3⟩
    simp only at x1 x2 x3 ⊢; subst x1
    refine EvP.pos x2 (EvP.pos (by simp; omega) ?_)
    rw [wrap64_id (x := c + 8) (by omega) (by omega)]
    rcases three x2 x3 with rfl | rfl | rfl <;> exact EvP.now _ (by simp only [rd0, rd1, rd2]; omega)
  · refine EvP.bind (join_ok ok 1 (by omega) (by omega)) ?_
    intro _ _
    exact EvP.now _ hc
theorem FnRxOk : laws_FnRxOk.Pure := by
  intro l0 _ _ hw
  refine EvP.rounds ?_
  unfold laws_FnRxOk.f
  refine EvP.ite (fun _ => EvP.now _ rfl) (fun _ => ?_)
  have hd : EvP (fun k => spec_DrawRxOk.f k l0) fun r => -1 ≤ r.2.1 ∧ r.2.1 ≤ 10000 := by
    obtain ⟨s, hs, ok⟩ := open_ok l0 hw
    unfold spec_DrawRxOk.f
    refine EvP.val_bind hs ?_
    refine EvP.bind (rx_drawn ok) ?_
    intro _ h
    exact EvP.now _ h
  refine EvP.bind hd ?_
  rintro ⟨exp, count, len, got, a, b, c⟩ hc
  simp only at hc ⊢
  rw [wrap64_id (x := count + 1) (by omega) (by omega), wrap64_id (x := count + 8) (by omega) (by omega)]
  refine EvP.val_bind (rxOk_val ..) (EvP.val_bind (rxOk_same ..) (EvP.neg (by simp) (EvP.ite (fun h => ?_) (fun _ => EvP.val_bind liOk_true (EvP.now _ rfl)))))
  unfold xok at h
  rw [Bool.and_eq_true, decide_eq_true_eq] at h
  refine EvP.val_bind (rxOk_val ..) (EvP.neg ?_ (EvP.val_bind (rxOk_val ..) (EvP.now _ ?_)))
  · unfold xok; rw [decide_eq_false (by omega)]; simp
  · unfold xok
    rw [h.2, Bool.and_true, beq_iff_eq, decide_eq_decide]
    omega

end Go.Proofs.Ytiilmbpknngpfaa.Pure
