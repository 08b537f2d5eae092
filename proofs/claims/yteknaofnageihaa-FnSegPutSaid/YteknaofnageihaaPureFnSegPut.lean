/- The law FnSegPut: what does not fit leaves nothing. No condition. -/
import Derived.Test.YteknaofnageihaaQFnSegPutx8
namespace Go.Proofs.Yteknaofnageihaa.Pure
open Go.RowKit Go.Proofs.Yteknaofnageihaa.QFnSegPut Go.Proofs.YteknaofnageihaaW.PrintWords Go.Proofs.YteknaofnageihaaW.PrintLast Go.Proofs.YteknaofnageihaaW.PrintMore
set_option linter.unusedVariables false
set_option linter.unusedSimpArgs false

/-! A small calculus: with enough rounds g comes to something of which Q holds. -/
def EvP {α : Type} (g : Nat → Option α) (Q : α → Prop) : Prop := ∃ r, Ev g r ∧ Q r
theorem EvP.now {α : Type} {Q : α → Prop} (r : α) (h : Q r) : EvP (fun _ => some r) Q := ⟨r, Ev.now r, h⟩
theorem EvP.here {α : Type} {o : Option α} {Q : α → Prop} (r : α) (e : o = some r) (h : Q r) : EvP (fun _ => o) Q := by subst e; exact EvP.now r h
theorem EvP.of {α : Type} {g : Nat → Option α} {Q : α → Prop} (K : Nat) (h : ∃ r, (∀ k, K ≤ k → g k = some r) ∧ Q r) : EvP g Q := by
  obtain ⟨r, h1, h2⟩ := h
  exact ⟨r, ⟨K, h1⟩, h2⟩
theorem EvP.bind {α β : Type} {g : Nat → Option α} {f : Nat → α → Option β} {P : α → Prop} {Q : β → Prop} (h : EvP g P) (k : ∀ a, P a → EvP (fun n => f n a) Q) : EvP (fun n => (g n).bind (f n)) Q := by
  obtain ⟨a, ha, hp⟩ := h
  obtain ⟨r, hr, hq⟩ := k a hp
  exact ⟨r, Ev.bind ha hr, hq⟩
theorem EvP.some_bind {α β : Type} {a : α} {f : Nat → α → Option β} {Q : β → Prop} (k : EvP (fun n => f n a) Q) : EvP (fun n => (some a).bind (f n)) Q := k
theorem EvP.step {α : Type} {g f : Nat → Option α} {Q : α → Prop} (h : ∀ k, g (k + 1) = f k) (k : EvP f Q) : EvP g Q := by
  obtain ⟨r, hr, hq⟩ := k
  exact ⟨r, Ev.step h hr, hq⟩
theorem EvP.congr {α : Type} {g f : Nat → Option α} {Q : α → Prop} (h : ∀ k, g k = f k) (k : EvP f Q) : EvP g Q := by
  obtain ⟨r, hr, hq⟩ := k
  exact ⟨r, Ev.congr h hr, hq⟩
theorem EvP.mono {α : Type} {g : Nat → Option α} {P Q : α → Prop} (h : EvP g P) (k : ∀ a, P a → Q a) : EvP g Q := by
  obtain ⟨r, hr, hp⟩ := h
  exact ⟨r, hr, k r hp⟩
theorem EvP.ite {α : Type} {c : Prop} [Decidable c] {f g : Nat → Option α} {Q : α → Prop} (h1 : c → EvP f Q) (h2 : ¬ c → EvP g Q) : EvP (fun k => if c then f k else g k) Q := by
  by_cases hc : c
  · simp only [if_pos hc]; exact h1 hc
  · simp only [if_neg hc]; exact h2 hc
theorem EvP.pos {α : Type} {c : Prop} [Decidable c] {f g : Nat → Option α} {Q : α → Prop} (hc : c) (h : EvP f Q) : EvP (fun k => if c then f k else g k) Q := by
  simp only [if_pos hc]; exact h
theorem EvP.neg {α : Type} {c : Prop} [Decidable c] {f g : Nat → Option α} {Q : α → Prop} (hc : ¬ c) (h : EvP g Q) : EvP (fun k => if c then f k else g k) Q := by
  simp only [if_neg hc]; exact h
theorem EvP.rounds {α : Type} {g : Nat → Option α} {r : α} (h : EvP g (· = r)) : ∃ k, g k = some r := by
  obtain ⟨q, hq, rfl⟩ := h
  exact hq.rounds
theorem EvP.up {α : Type} {g : Nat → Option α} {Q : α → Prop} (h : EvP (fun k => g (k + 1)) Q) : EvP g Q := EvP.step (fun _ => rfl) h
theorem EvP.val_bind {α β : Type} {o : Option α} {a : α} {f : Nat → α → Option β} {Q : β → Prop} (e : o = some a) (k : EvP (fun n => f n a) Q) : EvP (fun n => o.bind (f n)) Q := by subst e; exact k
theorem EvP.eq_bind {α β : Type} {g : Nat → Option α} {f : Nat → α → Option β} {a : α} {Q : β → Prop} (h : EvP g (· = a)) (k : EvP (fun n => f n a) Q) : EvP (fun n => (g n).bind (f n)) Q := EvP.bind h (fun _ e => by subst e; exact k)
/-! The reader of a code: whatever it picks lies in bounds. -/
def RdOk (s : List Int) : Prop := s.length ≤ 2000 ∧ ∀ x ∈ s, 0 ≤ x ∧ x ≤ 255
theorem rd_range {s : List Int} (h : RdOk s) (i : Int) : 0 ≤ rd s i ∧ rd s i ≤ 255 := by
  unfold rd
  rw [List.getD_eq_getElem?_getD]
  cases e : s[i.toNat]? with
  | none => simp
  | some x => exact h.2 x (List.mem_of_getElem? e)
theorem wrap64_id {x : Int} (h : -9223372036854775808 ≤ x) (h2 : x ≤ 9223372036854775807) : wrap64 x = x := by unfold wrap64; omega
theorem xor_nonneg (a b : Int) (ha : 0 ≤ a) (ha2 : a < 9223372036854775808) (hb : 0 ≤ b) (hb2 : b < 9223372036854775808) : 0 ≤ Go.bits .xor .i64 a b := by
  obtain ⟨m, rfl⟩ := Int.eq_ofNat_of_zero_le ha
  obtain ⟨n, rfl⟩ := Int.eq_ofNat_of_zero_le hb
  have hm : m < 2 ^ 63 := by omega
  have hn : n < 2 ^ 63 := by omega
  have hx := Nat.xor_lt_two_pow hm hn
  have h1 : m % 2 ^ 64 = m := Nat.mod_eq_of_lt (by omega)
  have h2 : n % 2 ^ 64 = n := Nat.mod_eq_of_lt (by omega)
  have h3 : (BitVec.ofNat 64 m ^^^ BitVec.ofNat 64 n).toNat = m ^^^ n := by rw [BitVec.toNat_xor, BitVec.toNat_ofNat, BitVec.toNat_ofNat, h1, h2]
  have h4 : Go.bits .xor .i64 (m : Int) (n : Int) = IntKind.i64.wrap ((BitVec.ofNat 64 m ^^^ BitVec.ofNat 64 n).toNat) := rfl
  rw [h4, h3, IntKind.wrap_i64]
  omega
theorem tmod_range (a n : Int) (ha : 0 ≤ a) (hn : 0 < n) : 0 ≤ Int.tmod a n ∧ Int.tmod a n < n := by
  rw [Int.tmod_eq_emod_of_nonneg ha]
  exact ⟨Int.emod_nonneg _ (by omega), Int.emod_lt_of_pos _ hn⟩
theorem tdiv_range (a n : Int) (ha : 0 ≤ a) (hn : 0 < n) : 0 ≤ Int.tdiv a n ∧ Int.tdiv a n ≤ a := by
  rw [Int.tdiv_eq_ediv_of_nonneg ha]
  exact ⟨Int.ediv_nonneg ha (by omega), Int.ediv_le_self _ ha⟩
theorem pick_rounds (s : List Int) (hs : RdOk s) (p n : Int) (hp : 0 ≤ p) (hp2 : p ≤ 1000000) : ∃ v, (∀ k, spec_l20Rd_pick.f (k + 1) s p n = some (v, p + 1)) ∧ 0 ≤ v ∧ (v < n ∨ v = 0 ∧ n < 1) := by
  have hw : wrap64 (p + 1) = p + 1 := wrap64_id (by omega) (by omega)
  by_cases h1 : n < 1
  · exact ⟨0, fun k => by unfold spec_l20Rd_pick.f; rw [if_pos h1, hw]; simp [spec_l20Rd_pick.j0], by omega, .inr ⟨rfl, h1⟩⟩
  · by_cases h2 : (s.length : Int) = 0
    · refine ⟨0, fun k => ?_, by omega, .inl (by omega)⟩
      unfold spec_l20Rd_pick.f
      rw [if_neg h1, hw, h2]
      simp [spec_l20Rd_pick.j0]
    · have hlen := hs.1
      have hb : ((s.length : Int) == 0) = false := beq_eq_false_iff_ne.mpr h2
      have hw2 : wrap64 (p + 1 - 1) = p := by rw [wrap64_id (by omega) (by omega)]; omega
      by_cases h3 : p < (s.length : Int)
      · have hr := rd_range hs p
        have hw3 : wrap64 (rd s p) = rd s p := wrap64_id (by omega) (by omega)
        have ht := tmod_range (rd s p) n hr.1 (by omega)
        refine ⟨Int.tmod (rd s p) n, fun k => ?_, ht.1, .inl ht.2⟩
        unfold spec_l20Rd_pick.f
        rw [if_neg h1, hw, hb]
        simp only [spec_l20Rd_pick.j0, hw2, hw3]
        rw [if_neg (by decide), if_pos h3, if_pos hp, if_neg (by omega)]
      · have t1 := tmod_range p s.length hp (by omega)
        have w1 : wrap64 (p * 7) = p * 7 := wrap64_id (by omega) (by omega)
        have w2 : wrap64 (p * 7 + 3) = p * 7 + 3 := wrap64_id (by omega) (by omega)
        have t2 := tmod_range (p * 7 + 3) s.length (by omega) (by omega)
        have r1 := rd_range hs (Int.tmod p s.length)
        have r2 := rd_range hs (Int.tmod (p * 7 + 3) s.length)
        have t3 := tdiv_range p s.length hp (by omega)
        generalize e1 : rd s (Int.tmod p s.length) = a at r1
        generalize e2 : rd s (Int.tmod (p * 7 + 3) s.length) = b at r2
        generalize e3 : Int.tdiv p s.length = q at t3
        have v1 : wrap64 (wrap64 (wrap64 (wrap64 (wrap64 a * 131) + wrap64 (wrap64 b * 1117)) + wrap64 (p * 29)) + wrap64 (wrap64 q * 53)) = a * 131 + b * 1117 + p * 29 + q * 53 := by
          rw [wrap64_id (x := a) (by omega) (by omega), wrap64_id (x := b) (by omega) (by omega), wrap64_id (x := q) (by omega) (by omega), wrap64_id (x := a * 131) (by omega) (by omega), wrap64_id (x := b * 1117) (by omega) (by omega), wrap64_id (x := p * 29) (by omega) (by omega), wrap64_id (x := q * 53) (by omega) (by omega), wrap64_id (x := a * 131 + b * 1117) (by omega) (by omega), wrap64_id (x := a * 131 + b * 1117 + p * 29) (by omega) (by omega), wrap64_id (by omega) (by omega)]
        generalize e4 : a * 131 + b * 1117 + p * 29 + q * 53 = z at v1
        have hz : 0 ≤ z ∧ z ≤ 1000000000 := by omega
        have t4 := tdiv_range z 64 hz.1 (by omega)
        have v2 : wrap64 (Int.tdiv z 64) = Int.tdiv z 64 := wrap64_id (by omega) (by omega)
        have hx := xor_nonneg z (Int.tdiv z 64) hz.1 (by omega) t4.1 (by omega)
        have ht := tmod_range _ n hx (by omega)
        refine ⟨_, fun k => ?_, ht.1, .inl ht.2⟩
        unfold spec_l20Rd_pick.f
        rw [if_neg h1, hw, hb]
        simp only [spec_l20Rd_pick.j0, hw2, w1, w2, e1, e2, e3, v1, v2]
        rw [if_neg (by decide), if_neg h3, if_neg h2, if_pos t1.1, if_pos t1.2, if_pos t2.1, if_pos t2.2, if_neg (by omega)]
theorem pick_ok {s : List Int} (hs : RdOk s) {p : Int} (hp : 0 ≤ p ∧ p ≤ 1000000) (n : Int) : EvP (fun k => spec_l20Rd_pick.f k s p n) fun r => r.2 = p + 1 ∧ 0 ≤ r.1 ∧ (r.1 < n ∨ r.1 = 0 ∧ n < 1) := by
  obtain ⟨v, h1, h2⟩ := pick_rounds s hs p n hp.1 hp.2
  exact ⟨(v, p + 1), ⟨1, fun k hk => by obtain ⟨m, rfl⟩ : ∃ m, k = m + 1 := ⟨k - 1, by omega⟩; exact h1 m⟩, rfl, h2⟩
theorem open_ok (l : List Int) (hw : ∀ x ∈ l, (Lit.int .u8 x).wf = true) : ∃ s, spec_l20Open.f l = some (s, 0) ∧ RdOk s := by
  have hb : ∀ x ∈ l, 0 ≤ x ∧ x ≤ 255 := fun x hx => by
    have h := hw x hx
    simp [Lit.wf, IntKind.min, IntKind.max, IntKind.signed, IntKind.bits] at h
    omega
  unfold spec_l20Open.f
  by_cases h : (l.length : Int) > 2000
  · rw [if_pos h, if_pos (by omega)]
    exact ⟨l.take 2000, rfl, List.length_take_le _ _, fun x hx => hb x (List.mem_of_mem_take hx)⟩
  · rw [if_neg h]
    exact ⟨l, rfl, by omega, hb⟩
theorem three {v : Int} (h : 0 ≤ v) (h2 : v < 3 ∨ v = 0 ∧ (3 : Int) < 1) : v = 0 ∨ v = 1 ∨ v = 2 := by omega
theorem two {v : Int} (h : 0 ≤ v) (h2 : v < 2 ∨ v = 0 ∧ (2 : Int) < 1) : v = 0 ∨ v = 1 := by omega
theorem rd0 (a : Int) (l : List Int) : rd (a :: l) 0 = a := rfl
theorem rd1 (a b : Int) (l : List Int) : rd (a :: b :: l) 1 = b := rfl
theorem rd2 (a b c : Int) (l : List Int) : rd (a :: b :: c :: l) 2 = c := rfl
/-! Draws of the reader beyond pick. -/
theorem odd_ok {s : List Int} (hs : RdOk s) {p : Int} (hp : 0 ≤ p ∧ p ≤ 1000000) (n : Int) (hn : n ≤ 1000000) : EvP (fun k => spec_l20Rd_odd.f k s p n) fun r => p ≤ r.2 ∧ r.2 ≤ p + 1 ∧ (n ≤ 0 → r.1 = false) := by
  unfold spec_l20Rd_odd.f
  refine EvP.ite (fun h => ?_) (fun h => EvP.now _ ⟨by simp, by simp; omega, fun _ => rfl⟩)
  refine EvP.bind (pick_ok hs hp n) ?_
  rintro ⟨v, q⟩ ⟨h1, h2, h3⟩
  simp only at h1 h2 h3 ⊢
  refine EvP.now _ ⟨by simp only; omega, by simp only; omega, fun h => by omega⟩
def ByteL (l : List Int) : Prop := ∀ x ∈ l, 0 ≤ x ∧ x ≤ 255
theorem bytes_loop {s : List Int} (hs : RdOk s) (d : Nat) : ∀ (out : List Int) (p : Int), ByteL out → out.length + d ≤ 100000 → 0 ≤ p → p + 3 * d ≤ 900000 →
    EvP (fun k => spec_l20Bytes.l0 k out (d : Int) s p) fun r => r.2 = p + 3 * d ∧ ByteL r.1 ∧ r.1.length = out.length + d := by
  induction d with
  | zero =>
    intro out p hb hl hp hp2
    refine EvP.up ?_
    simp only [spec_l20Bytes.l0]
    exact EvP.neg (by omega) (EvP.now _ ⟨by simp, hb, by simp⟩)
  | succ d ih =>
    intro out p hb hl hp hp2
    refine EvP.up ?_
    simp only [spec_l20Bytes.l0]
    refine EvP.pos (by omega) ?_
    refine EvP.bind (pick_ok hs (by omega) 256) ?_
    rintro ⟨v1, p1⟩ ⟨h1, h2, h3⟩
    simp only at h1 h2 h3 ⊢; subst h1
    refine EvP.bind (pick_ok hs (by omega) 4) ?_
    rintro ⟨v2, p2⟩ ⟨g1, g2, g3⟩
    simp only at g1 g2 g3 ⊢; subst g1
    refine EvP.some_bind ?_
    refine EvP.bind (pick_ok hs (by omega) 3) ?_
    rintro ⟨v3, p3⟩ ⟨q1, q2, q3⟩
    simp only at q1 q2 q3 ⊢; subst q1
    refine EvP.pos q2 (EvP.pos (by simp; omega) (EvP.pos (by omega) ?_))
    have hw : wrap64 (((d + 1 : Nat) : Int) - 1) = (d : Int) := by rw [wrap64_id (by omega) (by omega)]; omega
    rw [hw]
    refine EvP.mono (ih (out ++ [rd [v1, v2, 255] v3 % 256]) (p + 1 + 1 + 1) ?_ (by simp; omega) (by omega) (by omega)) ?_
    · intro x hx
      rcases List.mem_append.1 hx with h | h
      · exact hb x h
      · rw [List.mem_singleton] at h; omega
    · rintro ⟨r1, r2⟩ ⟨h1, h2, h3⟩
      simp only at h1 h2 h3 ⊢
      refine ⟨by omega, h2, ?_⟩
      rw [h3, List.length_append, List.length_singleton]; omega
theorem bytes_ok {s : List Int} (hs : RdOk s) {p : Int} (n : Int) (hn : 0 ≤ n) (hn2 : n ≤ 10000) (hp : 0 ≤ p ∧ p ≤ 500000) :
    EvP (fun k => spec_l20Bytes.f k s p n) fun r => p + 1 ≤ r.2 ∧ r.2 ≤ p + 1 + 3 * n ∧ ByteL r.1 ∧ (r.1.length : Int) ≤ n := by
  unfold spec_l20Bytes.f
  rw [wrap64_id (x := n + 1) (by omega) (by omega)]
  refine EvP.bind (pick_ok hs (by omega) (n + 1)) ?_
  rintro ⟨v, q⟩ ⟨h1, h2, h3⟩
  simp only at h1 h2 h3 ⊢; subst h1
  obtain ⟨d, rfl⟩ := Int.eq_ofNat_of_zero_le h2
  refine EvP.mono (bytes_loop hs d [] (p + 1) (fun x hx => by simp at hx) (by simp; omega) (by omega) (by omega)) ?_
  rintro ⟨r1, r2⟩ ⟨h1, h2, h3⟩
  simp only at h1 h2 h3 ⊢
  simp only [List.length_nil, Nat.zero_add] at h3
  exact ⟨by omega, by omega, h2, by omega⟩
theorem join_tail {s : List Int} (hs : RdOk s) (n : Int) (hn : n ≤ 1000) {p : Int} (hp : 0 ≤ p ∧ p ≤ 400000) (len : Int) (got : List Int) (hl : -1 ≤ len ∧ len ≤ 25) (hg : ByteL got) (hg2 : got.length ≤ 25) :
    EvP (fun k => spec_l20Join.j0 k n s p len got) fun r => p ≤ r.2.2 ∧ r.2.2 ≤ p + 100 ∧ (-1 ≤ r.1 ∧ r.1 ≤ 25) ∧ ByteL r.2.1 ∧ r.2.1.length ≤ 25 := by
  refine EvP.up ?_
  simp only [spec_l20Join.j0]
  refine EvP.bind (odd_ok hs (by omega) n (by omega)) ?_
  rintro ⟨o, p1⟩ ⟨o1, o2, _⟩
  simp only at o1 o2 ⊢
  refine EvP.ite (fun _ => ?_) (fun _ => EvP.now _ ⟨by simp only; omega, by simp only; omega, by simp only; omega, hg, hg2⟩)
  refine EvP.bind (pick_ok hs (by omega) 3) ?_
  rintro ⟨v, p2⟩ ⟨h1, h2, h3⟩
  simp only at h1 h2 h3 ⊢; subst h1
  refine EvP.ite (fun _ => ?_) (fun _ => EvP.ite (fun _ => EvP.now _ ⟨by simp only; omega, by simp only; omega, by simp only; omega, fun x hx => by simp at hx, by simp⟩) (fun _ => ?_))
  · refine EvP.some_bind ?_
    refine EvP.bind (pick_ok hs (by omega) 3) ?_
    rintro ⟨v2, p3⟩ ⟨g1, g2, g3⟩
    simp only at g1 g2 g3 ⊢; subst g1
    refine EvP.pos g2 (EvP.pos (by simp; omega) ?_)
    rcases three g2 g3 with rfl | rfl | rfl <;> exact EvP.now _ ⟨by simp only; omega, by simp only; omega, by simp only [rd0, rd1, rd2]; omega, hg, hg2⟩
  · refine EvP.bind (bytes_ok hs 25 (by omega) (by omega) (by omega)) ?_
    rintro ⟨b, p3⟩ ⟨b1, b2, b3, b4⟩
    simp only at b1 b2 b3 b4 ⊢
    exact EvP.now _ ⟨by simp only; omega, by simp only; omega, by simp only; omega, b3, by simp only; omega⟩
theorem join_ok {s : List Int} (hs : RdOk s) (n : Int) (hn : n ≤ 1000) {p : Int} (hp : 0 ≤ p ∧ p ≤ 300000) :
    EvP (fun k => spec_l20Join.f k s p n) fun r => p ≤ r.2.2 ∧ r.2.2 ≤ p + 300 ∧ (-1 ≤ r.1 ∧ r.1 ≤ 25) ∧ ByteL r.2.1 ∧ r.2.1.length ≤ 25 := by
  unfold spec_l20Join.f
  refine EvP.bind (pick_ok hs (by omega) 2) ?_
  rintro ⟨v, p1⟩ ⟨h1, h2, h3⟩
  simp only at h1 h2 h3 ⊢; subst h1
  refine EvP.ite (fun _ => ?_) (fun _ => ?_)
  · refine EvP.bind (pick_ok hs (by omega) 23) ?_
    rintro ⟨v2, p2⟩ ⟨g1, g2, g3⟩
    simp only at g1 g2 g3 ⊢; subst g1
    rw [wrap64_id (x := 2 + v2) (by omega) (by omega), wrap64_id (x := 2 + v2 - 1) (by omega) (by omega)]
    refine EvP.bind (bytes_ok hs (2 + v2 - 1) (by omega) (by omega) (by omega)) ?_
    rintro ⟨b, p3⟩ ⟨b1, b2, b3, b4⟩
    simp only at b1 b2 b3 b4 ⊢
    refine EvP.ite (fun _ => ?_) (fun _ => ?_)
    · refine EvP.mono (join_tail hs n hn (by omega) (2 + v2) [1] (by omega) (fun x hx => by rw [List.mem_singleton] at hx; omega) (by simp)) ?_
      rintro r ⟨a1, a2, a3, a4, a5⟩
      exact ⟨by omega, by omega, a3, a4, a5⟩
    · refine EvP.mono (join_tail hs n hn (by omega) (2 + v2) b (by omega) b3 (by omega)) ?_
      rintro r ⟨a1, a2, a3, a4, a5⟩
      exact ⟨by omega, by omega, a3, a4, a5⟩
  · refine EvP.mono (join_tail hs n hn (by omega) 0 [] (by omega) (fun x hx => by simp at hx) (by simp)) ?_
    rintro r ⟨a1, a2, a3, a4, a5⟩
    exact ⟨by omega, by omega, a3, a4, a5⟩
/-! A piece is ok. -/
def pok (seg len : Int) (l : List Int) : Bool := decide ((seg = 0 ∧ (l.length : Int) ≤ 8 ∧ len = (l.length : Int)) ∨ (seg = 1 ∧ 1 ≤ (l.length : Int) ∧ (l.length : Int) ≤ 8 ∧ (l.length : Int) + 1 ≤ len ∧ len ≤ 24) ∨ ((seg = 2 ∨ seg = 3) ∧ 1 ≤ (l.length : Int) ∧ (l.length : Int) ≤ 8 ∧ len = 0))
theorem part_tail {s : List Int} (hs : RdOk s) {p : Int} (hp : 0 ≤ p ∧ p ≤ 400000) (seg : Int) (l : List Int) (h0 : 0 ≤ seg ∧ seg ≤ 3) (hl : ByteL l) (hn : (l.length : Int) ≤ 8) (hn1 : seg ≠ 0 → 1 ≤ (l.length : Int)) :
    EvP (fun k => spec_l20Part.j1 k s p seg 0 l) fun r => p ≤ r.2.2.2 ∧ r.2.2.2 ≤ p + 1 ∧ pok r.1 r.2.1 r.2.2.1 = true ∧ ByteL r.2.2.1 ∧ (r.2.2.1.length : Int) ≤ 8 ∧ (0 ≤ r.1 ∧ r.1 ≤ 3) ∧ (0 ≤ r.2.1 ∧ r.2.1 ≤ 24) := by
  refine EvP.up ?_
  simp only [spec_l20Part.j1]
  refine EvP.ite (fun h => ?_) (fun h => ?_)
  · refine EvP.neg (by omega) (EvP.now _ ⟨by simp only; omega, by simp only; omega, ?_, hl, hn, h0, by simp only; omega⟩)
    unfold pok; rw [decide_eq_true_eq]; exact .inl ⟨h, hn, rfl⟩
  · refine EvP.ite (fun h1 => ?_) (fun h1 => EvP.now _ ⟨by simp only; omega, by simp only; omega, ?_, hl, hn, h0, by simp only; omega⟩)
    · have h2 := hn1 h
      rw [wrap64_id (x := 24 - (l.length : Int)) (by omega) (by omega)]
      refine EvP.bind (pick_ok hs (by omega) (24 - (l.length : Int))) ?_
      rintro ⟨v, q⟩ ⟨g1, g2, g3⟩
      simp only at g1 g2 g3 ⊢; subst g1
      rw [wrap64_id (x := (l.length : Int) + 1) (by omega) (by omega), wrap64_id (x := (l.length : Int) + 1 + v) (by omega) (by omega)]
      refine EvP.now _ ⟨by simp only; omega, by simp only; omega, ?_, hl, hn, h0, by simp only; omega⟩
      unfold pok; rw [decide_eq_true_eq]; simp only; omega
    · have h2 := hn1 h
      unfold pok; rw [decide_eq_true_eq]; exact .inr (.inr ⟨by simp only; omega, h2, hn, rfl⟩)
theorem part_ok {s : List Int} (hs : RdOk s) {p : Int} (hp : 0 ≤ p ∧ p ≤ 300000) :
    EvP (fun k => spec_l20Part.f k s p) fun r => p ≤ r.2.2.2 ∧ r.2.2.2 ≤ p + 40 ∧ pok r.1 r.2.1 r.2.2.1 = true ∧ ByteL r.2.2.1 ∧ (r.2.2.1.length : Int) ≤ 8 ∧ (0 ≤ r.1 ∧ r.1 ≤ 3) ∧ (0 ≤ r.2.1 ∧ r.2.1 ≤ 24) := by
  unfold spec_l20Part.f
  refine EvP.bind (pick_ok hs (by omega) 4) ?_
  rintro ⟨v, p1⟩ ⟨h1, h2, h3⟩
  simp only at h1 h2 h3 ⊢; subst h1
  refine EvP.bind (bytes_ok hs 8 (by omega) (by omega) (by omega)) ?_
  rintro ⟨b, p2⟩ ⟨b1, b2, b3, b4⟩
  simp only at b1 b2 b3 b4 ⊢
  have tail : ∀ x : Bool, (x = true → v ≠ 0) → (x = false → v ≠ 0 → 1 ≤ (b.length : Int)) → EvP (fun k => spec_l20Part.j0 k x s p2 v 0 b) fun r => p ≤ r.2.2.2 ∧ r.2.2.2 ≤ p + 40 ∧ pok r.1 r.2.1 r.2.2.1 = true ∧ ByteL r.2.2.1 ∧ (r.2.2.1.length : Int) ≤ 8 ∧ (0 ≤ r.1 ∧ r.1 ≤ 3) ∧ (0 ≤ r.2.1 ∧ r.2.1 ≤ 24) := by
    intro x _ hx
    refine EvP.up ?_
    simp only [spec_l20Part.j0]
    refine EvP.ite (fun h => ?_) (fun h => ?_)
    · refine EvP.mono (part_tail hs (by omega) v [7] (by omega) (fun y hy => by rw [List.mem_singleton] at hy; omega) (by simp) (fun _ => by simp)) ?_
      rintro r ⟨a1, a2, a3⟩; exact ⟨by omega, by omega, a3⟩
    · refine EvP.mono (part_tail hs (by omega) v b (by omega) b3 b4 (hx (Bool.eq_false_iff.mpr h))) ?_
      rintro r ⟨a1, a2, a3⟩; exact ⟨by omega, by omega, a3⟩
  refine EvP.ite (fun h => tail _ (fun h => by cases h) (fun _ h2 => absurd h h2)) (fun h => tail _ (fun _ => h) (fun h2 _ => ?_))
  rw [beq_eq_false_iff_ne] at h2
  omega
theorem partOr_ok {s : List Int} (hs : RdOk s) {p : Int} (hp : 0 ≤ p ∧ p ≤ 200000) (n : Int) (hn : n ≤ 1000) :
    EvP (fun k => spec_l20PartOr.f k s p n) fun r => p ≤ r.2.2.2 ∧ r.2.2.2 ≤ p + 50 ∧ ByteL r.2.2.1 ∧ (r.2.2.1.length : Int) ≤ 16 ∧ (-1 ≤ r.1 ∧ r.1 ≤ 4) ∧ (-1 ≤ r.2.1 ∧ r.2.1 ≤ 25) := by
  unfold spec_l20PartOr.f
  refine EvP.bind (part_ok hs (by omega)) ?_
  rintro ⟨seg, len, l, p1⟩ ⟨h1, h2, _, h3, h4, h5, h6⟩
  simp only at h1 h2 h3 h4 h5 h6 ⊢
  refine EvP.bind (odd_ok hs (by omega) n (by omega)) ?_
  rintro ⟨o, p2⟩ ⟨o1, o2, _⟩
  simp only at o1 o2 ⊢
  refine EvP.ite (fun _ => ?_) (fun _ => EvP.now _ ⟨by simp only; omega, by simp only; omega, h3, by simp only; omega, by simp only; omega, by simp only; omega⟩)
  refine EvP.bind (pick_ok hs (by omega) 3) ?_
  rintro ⟨v, p3⟩ ⟨q1, q2, q3⟩
  simp only at q1 q2 q3 ⊢; subst q1
  refine EvP.ite (fun _ => ?_) (fun _ => EvP.ite (fun _ => ?_) (fun _ => ?_))
  · refine EvP.some_bind (EvP.bind (pick_ok hs (by omega) 3) ?_)
    rintro ⟨v2, p4⟩ ⟨g1, g2, g3⟩
    simp only at g1 g2 g3 ⊢; subst g1
    refine EvP.pos g2 (EvP.pos (by simp; omega) ?_)
    rcases three g2 g3 with rfl | rfl | rfl <;> exact EvP.now _ ⟨by simp only; omega, by simp only; omega, h3, by simp only; omega, by simp only [rd0, rd1, rd2]; omega, by simp only; omega⟩
  · refine EvP.some_bind (EvP.bind (pick_ok hs (by omega) 3) ?_)
    rintro ⟨v2, p4⟩ ⟨g1, g2, g3⟩
    simp only at g1 g2 g3 ⊢; subst g1
    refine EvP.pos g2 (EvP.pos (by simp; omega) ?_)
    rcases three g2 g3 with rfl | rfl | rfl <;> exact EvP.now _ ⟨by simp only; omega, by simp only; omega, h3, by simp only; omega, by simp only; omega, by simp only [rd0, rd1, rd2]; omega⟩
  · refine EvP.some_bind (EvP.pos (by simp; omega) (EvP.now _ ⟨by simp only; omega, by simp only; omega, ?_, by simp; omega, by simp only; omega, by simp only; omega⟩))
    intro x hx
    rcases List.mem_append.1 hx with h | h
    · exact h3 x h
    · simp at h; omega
def jok (len : Int) (got : List Int) : Bool := if len = 0 ∧ got.length = 0 then true else decide (2 ≤ len ∧ len ≤ 24 ∧ 1 ≤ (got.length : Int) ∧ (got.length : Int) ≤ len - 1)
theorem joinOk_val (len : Int) (got : List Int) : impl_JoinOk.f len got = some (jok len got) := by
  unfold impl_JoinOk.f impl_in.f jok
  by_cases h0 : len = 0
  · subst h0
    by_cases h1 : (got.length : Int) = 0
    · have : got.length = 0 := by omega
      simp [this]
    · have : ¬ got.length = 0 := by omega
      simp [this]
  · rw [if_neg h0, if_neg (fun h : len = 0 ∧ got.length = 0 => h0 h.1)]
    by_cases h1 : len ≥ 2
    · by_cases h2 : len ≤ 24
      · have hw : wrap64 (len - 1) = len - 1 := by unfold wrap64; omega
        rw [if_pos h1, decide_eq_true h2, hw]
        simp only [Option.bind_some, if_true]
        by_cases h3 : (got.length : Int) ≥ 1
        · rw [if_pos h3]
          simp only [Option.bind_some, Option.some.injEq, decide_eq_decide]
          omega
        · rw [if_neg h3]
          simp only [Option.bind_some, Option.some.injEq]
          exact (decide_eq_false (by omega)).symm
      · rw [if_pos h1, decide_eq_false h2]
        simp only [Option.bind_some, Option.some.injEq, Bool.false_eq_true, if_false]
        exact (decide_eq_false (by omega)).symm
    · rw [if_neg h1]
      simp only [Option.bind_some, Option.some.injEq, Bool.false_eq_true, if_false]
      exact (decide_eq_false (by omega)).symm
theorem in_val2 (a lo hi : Int) : impl_in.f a lo hi = some (decide (lo ≤ a ∧ a ≤ hi)) := by
  unfold impl_in.f
  by_cases h : a ≥ lo
  · rw [if_pos h]; simp only [Option.some.injEq, decide_eq_decide]; omega
  · rw [if_neg h]; simp only [Option.some.injEq]; exact (decide_eq_false (by omega)).symm
theorem pieceOk_val (seg len : Int) (l : List Int) (hl : l.length ≤ 281474976710656) : impl_pieceOk.f seg len l = some (pok seg len l) := by
  unfold impl_pieceOk.f pok
  simp only [in_val2, Option.bind_some, decide_eq_true_eq]
  rw [wrap64_id (x := (l.length : Int) + 1) (by omega) (by omega)]
  by_cases h0 : seg = 0
  · rw [if_pos h0]
    by_cases h1 : (l.length : Int) ≤ 8
    · rw [if_pos h1]
      rw [Option.some.injEq, Bool.eq_iff_iff, beq_iff_eq, decide_eq_true_eq]; omega
    · rw [if_neg h1, Option.some.injEq]; exact (decide_eq_false (by omega)).symm
  · rw [if_neg h0]
    by_cases h1 : seg = 1
    · rw [if_pos h1]
      by_cases h2 : 1 ≤ (l.length : Int) ∧ (l.length : Int) ≤ 8
      · rw [if_pos h2, Option.some.injEq, decide_eq_decide]; omega
      · rw [if_neg h2, Option.some.injEq]; exact (decide_eq_false (by omega)).symm
    · rw [if_neg h1]
      by_cases h3 : seg = 2
      · rw [if_pos h3]
        by_cases h2 : 1 ≤ (l.length : Int) ∧ (l.length : Int) ≤ 8
        · rw [if_pos h2, Option.some.injEq, Bool.eq_iff_iff, beq_iff_eq, decide_eq_true_eq]; omega
        · rw [if_neg h2, Option.some.injEq]; exact (decide_eq_false (by omega)).symm
      · rw [if_neg h3]
        by_cases h4 : seg = 3
        · rw [if_pos h4]
          by_cases h2 : 1 ≤ (l.length : Int) ∧ (l.length : Int) ≤ 8
          · rw [if_pos h2, Option.some.injEq, Bool.eq_iff_iff, beq_iff_eq, decide_eq_true_eq]; omega
          · rw [if_neg h2, Option.some.injEq]; exact (decide_eq_false (by omega)).symm
        · rw [if_neg h4, Option.some.injEq]; exact (decide_eq_false (by omega)).symm
theorem partOk_val (seg len : Int) (l : List Int) (hl : l.length ≤ 281474976710656) : impl_PartOk.f seg len l = some (pok seg len l) := by
  unfold impl_PartOk.f
  rw [pieceOk_val seg len l hl]
  rfl
def putV (len : Int) (got : List Int) (seg plen : Int) (data : List Int) : Int × List Int × List Int × Int :=
  if seg = 0 ∧ len = 0 then (0, [], got ++ data, 2) else if seg = 1 ∧ len = 0 then (plen, got ++ data, [], 1) else if seg = 2 ∧ len > 0 ∧ ((got ++ data).length : Int) < len then (len, got ++ data, [], 1) else if seg = 3 ∧ len > 0 ∧ ((got ++ data).length : Int) = len then (0, [], got ++ data, 2) else (0, [], [], 3)
def segPutV (len : Int) (got : List Int) (seg plen : Int) (data : List Int) : Int × List Int × List Int × Int :=
  if jok len got = true ∧ pok seg plen data = true then putV len got seg plen data else (0, [], [], 0)
theorem cloneb_val (l : List Int) (h : l.length ≤ 1000000) : impl_clone_byte.f l = some l := by
  unfold impl_clone_byte.f
  rw [if_pos (by omega)]
theorem put_j2 (all : List Int) (b : Bool) (len : Int) (got : List Int) (seg plen : Int) (data : List Int) :
    EvP (fun k => impl_SegJoin_put.j2 k all b len got seg plen data) (· = if b = true then (len, all, [], 1) else if seg = 3 ∧ len > 0 ∧ (all.length : Int) = len then (0, [], all, 2) else (0, [], [], 3)) := by
  refine EvP.up ?_
  simp only [impl_SegJoin_put.j2]
  refine EvP.ite (fun h => EvP.now _ (by rw [if_pos h])) (fun h => ?_)
  rw [if_neg h]
  refine EvP.ite (fun h1 => ?_) (fun h1 => EvP.now _ (by rw [if_neg (fun z => h1 z.1)]))
  refine EvP.ite (fun h2 => ?_) (fun h2 => EvP.now _ (by rw [if_neg (fun z => h2 z.2.1)]))
  exact EvP.ite (fun h3 => EvP.now _ (by rw [if_pos ⟨h1, h2, h3⟩])) (fun h3 => EvP.now _ (by rw [if_neg (fun z => h3 z.2.2)]))
theorem put_j1 (all : List Int) (b : Bool) (len : Int) (got : List Int) (seg plen : Int) (data : List Int) :
    EvP (fun k => impl_SegJoin_put.j1 k all b len got seg plen data) (· = if b = true then (plen, all, [], 1) else if seg = 2 ∧ len > 0 ∧ (all.length : Int) < len then (len, all, [], 1) else if seg = 3 ∧ len > 0 ∧ (all.length : Int) = len then (0, [], all, 2) else (0, [], [], 3)) := by
  refine EvP.up ?_
  simp only [impl_SegJoin_put.j1]
  refine EvP.ite (fun h => EvP.now _ (by rw [if_pos h])) (fun h => ?_)
  rw [if_neg h]
  refine EvP.ite (fun h1 => ?_) (fun h1 => (put_j2 _ _ _ _ _ _ _).mono (fun r hr => by rw [hr, if_neg (by simp), if_neg (c := seg = 2 ∧ _) (fun z => h1 z.1)]))
  refine EvP.ite (fun h2 => ?_) (fun h2 => (put_j2 _ _ _ _ _ _ _).mono (fun r hr => by rw [hr, if_neg (by simp), if_neg (c := seg = 2 ∧ _) (fun z => h2 z.2.1)]))
  refine (put_j2 _ _ _ _ _ _ _).mono (fun r hr => ?_)
  rw [hr]
  by_cases h3 : (all.length : Int) < len
  · rw [if_pos (decide_eq_true h3), if_pos ⟨h1, h2, h3⟩]
  · rw [if_neg (by rw [decide_eq_false h3]; simp), if_neg (c := seg = 2 ∧ _) (fun z => h3 z.2.2)]
theorem put_j0 (all : List Int) (b : Bool) (len : Int) (got : List Int) (seg plen : Int) (data : List Int) :
    EvP (fun k => impl_SegJoin_put.j0 k all b len got seg plen data) (· = if b = true then (0, [], all, 2) else if seg = 1 ∧ len = 0 then (plen, all, [], 1) else if seg = 2 ∧ len > 0 ∧ (all.length : Int) < len then (len, all, [], 1) else if seg = 3 ∧ len > 0 ∧ (all.length : Int) = len then (0, [], all, 2) else (0, [], [], 3)) := by
  refine EvP.up ?_
  simp only [impl_SegJoin_put.j0]
  refine EvP.ite (fun h => EvP.now _ (by rw [if_pos h])) (fun h => ?_)
  rw [if_neg h]
  refine EvP.ite (fun h1 => ?_) (fun h1 => (put_j1 _ _ _ _ _ _ _).mono (fun r hr => by rw [hr, if_neg (by simp), if_neg (c := seg = 1 ∧ _) (fun z => h1 z.1)]))
  refine (put_j1 _ _ _ _ _ _ _).mono (fun r hr => ?_)
  rw [hr]
  by_cases h3 : len = 0
  · rw [if_pos (beq_iff_eq.2 h3), if_pos ⟨h1, h3⟩]
  · rw [if_neg (by rw [beq_eq_false_iff_ne.2 h3]; simp), if_neg (c := seg = 1 ∧ _) (fun z => h3 z.2)]
theorem put_ok (len : Int) (got : List Int) (seg plen : Int) (data : List Int) (hg : got.length ≤ 500000) (hd : data.length ≤ 500000) :
    EvP (fun k => impl_SegJoin_put.f k len got seg plen data) (· = putV len got seg plen data) := by
  unfold impl_SegJoin_put.f putV
  rw [cloneb_val got (by omega)]
  refine EvP.some_bind (EvP.pos (by omega) ?_)
  rw [cloneb_val _ (by rw [List.length_append]; omega)]
  refine EvP.some_bind (EvP.ite (fun h1 => ?_) (fun h1 => (put_j0 _ _ _ _ _ _ _).mono (fun r hr => by rw [hr, if_neg (by simp), if_neg (c := seg = 0 ∧ _) (fun z => h1 z.1)])))
  refine (put_j0 _ _ _ _ _ _ _).mono (fun r hr => ?_)
  rw [hr]
  by_cases h3 : len = 0
  · rw [if_pos (beq_iff_eq.2 h3), if_pos ⟨h1, h3⟩]
  · rw [if_neg (by rw [beq_eq_false_iff_ne.2 h3]; simp), if_neg (c := seg = 0 ∧ _) (fun z => h3 z.2)]
theorem segPut_ok (len : Int) (got : List Int) (seg plen : Int) (data : List Int) (hg : got.length ≤ 500000) (hd : data.length ≤ 500000) :
    EvP (fun k => impl_SegPut.f k len got seg plen data) (· = segPutV len got seg plen data) := by
  unfold impl_SegPut.f segPutV
  rw [joinOk_val]
  refine EvP.some_bind (EvP.ite (fun h1 => ?_) (fun h1 => EvP.now _ (by rw [if_neg (fun z => h1 z.1)])))
  rw [partOk_val _ _ _ (by omega)]
  refine EvP.some_bind (EvP.ite (fun h2 => ?_) (fun h2 => EvP.now _ (by rw [if_neg (fun z => h2 z.2)])))
  rw [if_pos ⟨h1, h2⟩]
  exact EvP.eq_bind (put_ok len got seg plen data hg hd) (EvP.now _ rfl)
theorem segPutV_bound (len : Int) (got : List Int) (seg plen : Int) (data : List Int) : (segPutV len got seg plen data).2.1.length ≤ got.length + data.length := by
  unfold segPutV putV
  repeat' split
  all_goals simp only [List.length_append, List.length_nil]; omega
theorem joinOk_same (len : Int) (got : List Int) : spec_JoinOk.f len got = some (jok len got) := joinOk_val len got
theorem l2Seg_ok (a b c : Int) (d e : Bool) (f seg len : Int) (l : List Int) (hl : l.length ≤ 281474976710656) : EvP (fun k => spec_l2Seg.f k a b c d e f seg len l) (· = pok seg len l) := by
  have in_val3 : ∀ a lo hi : Int, spec_l1In.f a lo hi = some (decide (lo ≤ a ∧ a ≤ hi)) := by
    intro a lo hi
    unfold spec_l1In.f
    by_cases h : a ≥ lo
    · rw [if_pos h]; simp only [Option.some.injEq, decide_eq_decide]; omega
    · rw [if_neg h]; simp only [Option.some.injEq]; exact (decide_eq_false (by omega)).symm
  have tail : ∀ x : Bool, (x = true → pok seg len l = false) → (x = false → (0 ≤ seg ∧ seg ≤ 3) ∧ (l.length : Int) ≤ 8 ∧ ((l.length : Int) = 0 → len = 0)) → EvP (fun k => spec_l2Seg.j0 k x a b c d e f seg len l) (· = pok seg len l) := by
    intro x hx hx2
    refine EvP.up ?_
    simp only [spec_l2Seg.j0, in_val3, Option.bind_some, decide_eq_true_eq]
    refine EvP.ite (fun h => EvP.now _ (hx h).symm) (fun h => ?_)
    obtain ⟨h1, h2, h3⟩ := hx2 (Bool.eq_false_iff.mpr h)
    rw [wrap64_id (x := (l.length : Int) + 1) (by omega) (by omega)]
    unfold pok
    refine EvP.ite (fun h0 => EvP.now _ ?_) (fun h0 => EvP.ite (fun h4 => EvP.ite (fun h5 => EvP.now _ ?_) (fun h5 => EvP.now _ ?_)) (fun h4 => EvP.ite (fun h5 => EvP.now _ ?_) (fun h5 => EvP.now _ ?_)))
    · rw [Bool.eq_iff_iff, beq_iff_eq, decide_eq_true_eq]; omega
    · rw [decide_eq_decide]; omega
    · exact (decide_eq_false (by omega)).symm
    · rw [decide_eq_decide]; omega
    · exact (decide_eq_false (by omega)).symm
  unfold spec_l2Seg.f
  simp only [in_val3, Option.bind_some, decide_eq_true_eq]
  refine EvP.ite (fun h1 => EvP.ite (fun h2 => EvP.ite (fun h3 => tail _ ?_ ?_) (fun h3 => tail _ ?_ ?_)) (fun h2 => tail _ ?_ ?_)) (fun h1 => tail _ ?_ ?_)
  · intro h; rw [decide_eq_true_eq] at h; omega
  · intro h; rw [decide_eq_false_iff_not] at h; omega
  · intro _; unfold pok; exact decide_eq_false (by omega)
  · intro h; cases h
  · intro h; rw [decide_eq_true_eq] at h; unfold pok; exact decide_eq_false (by omega)
  · intro h; rw [decide_eq_false_iff_not] at h; omega
  · intro _; unfold pok; exact decide_eq_false (by omega)
  · intro h; cases h
theorem specPart_ok (seg len : Int) (l : List Int) (hl : l.length ≤ 281474976710656) : EvP (fun k => spec_PartOk.f k seg len l) (· = pok seg len l) := by
  unfold spec_PartOk.f
  refine EvP.bind (l2Seg_ok 0 0 0 false false 0 seg len l hl) ?_
  rintro _ rfl
  exact EvP.now _ rfl
theorem jok_cases {len : Int} {got : List Int} (h : jok len got = true) : (len = 0 ∧ got = []) ∨ (2 ≤ len ∧ len ≤ 24 ∧ 1 ≤ (got.length : Int) ∧ (got.length : Int) ≤ len - 1) := by
  unfold jok at h
  by_cases h0 : len = 0 ∧ got.length = 0
  · exact .inl ⟨h0.1, List.eq_nil_of_length_eq_zero h0.2⟩
  · rw [if_neg h0, decide_eq_true_eq] at h
    exact .inr h
theorem l4Bad_val : spec_l4Bad.f = some (0, [], [], 3) := rfl
theorem l4put_j0 (all : List Int) (b : Bool) (len : Int) (got : List Int) : EvP (fun k => spec_l4Put.j0 k all b len got) (· = if b = true then (0, [], [], 3) else (len, all, [], 1)) := by
  refine EvP.up ?_
  simp only [spec_l4Put.j0]
  refine EvP.ite (fun h => ?_) (fun h => EvP.now _ (by rw [if_neg h]))
  rw [if_pos h, l4Bad_val]
  exact EvP.now _ rfl
theorem l4put_ok (len : Int) (got : List Int) (seg plen : Int) (data : List Int) (hg : got.length ≤ 500000) (hd : data.length ≤ 500000) (hj : jok len got = true) (hp : pok seg plen data = true) :
    EvP (fun k => spec_l4Put.f k len got seg plen data) (· = putV len got seg plen data) := by
  have hl : len = 0 ∨ len > 0 := by rcases jok_cases hj with h | h <;> omega
  have hs : seg = 0 ∨ seg = 1 ∨ seg = 2 ∨ seg = 3 := by
    unfold pok at hp
    rw [decide_eq_true_eq] at hp
    omega
  unfold spec_l4Put.f putV
  refine EvP.some_bind (EvP.pos (by simp; omega) (EvP.some_bind ?_))
  rw [List.nil_append]
  refine EvP.pos (by omega) (EvP.some_bind ?_)
  rw [l4Bad_val]
  refine EvP.ite (fun h1 => EvP.ite (fun h2 => EvP.now _ ?_) (fun h2 => EvP.now _ ?_)) (fun h1 => EvP.ite (fun h2 => EvP.ite (fun h3 => EvP.now _ ?_) (fun h3 => EvP.now _ ?_)) (fun h2 => EvP.ite (fun h3 => EvP.ite (fun h4 => (l4put_j0 _ _ _ _).mono (fun r hr => ?_)) (fun h4 => (l4put_j0 _ _ _ _).mono (fun r hr => ?_))) (fun h3 => EvP.ite (fun h4 => EvP.ite (fun h5 => EvP.now _ ?_) (fun h5 => EvP.now _ ?_)) (fun h4 => EvP.now _ ?_))))
  · rw [if_neg (by omega), if_neg (by omega), if_neg (by omega), if_neg (by omega)]
  · rw [if_pos (by omega)]
  · rw [if_neg (by omega), if_neg (by omega), if_neg (by omega), if_neg (by omega)]
  · rw [if_neg (by omega), if_pos (by omega)]
  · rw [hr, if_neg (c := seg = 0 ∧ _) (by omega), if_neg (c := seg = 1 ∧ _) (by omega)]
    by_cases hc : ((got ++ data).length : Int) < len
    · rw [if_neg (by rw [decide_eq_false (by omega)]; simp), if_pos ⟨h3, h4, hc⟩]
    · rw [if_pos (decide_eq_true (by omega)), if_neg (c := seg = 2 ∧ _) (fun z => hc z.2.2), if_neg (c := seg = 3 ∧ _) (by omega)]
  · rw [hr, if_pos rfl, if_neg (by omega), if_neg (by omega), if_neg (by omega), if_neg (by omega)]
  · rw [if_neg (by omega), if_neg (by omega), if_neg (by omega), if_pos ⟨by omega, h4, h5⟩]
  · rw [if_neg (by omega), if_neg (by omega), if_neg (by omega), if_neg (fun z => h5 z.2.2)]
  · rw [if_neg (by omega), if_neg (by omega), if_neg (by omega), if_neg (by omega)]
theorem specSegPut_ok (len : Int) (got : List Int) (seg plen : Int) (data : List Int) (hg : got.length ≤ 500000) (hd : data.length ≤ 500000) :
    EvP (fun k => spec_SegPut.f k len got seg plen data) (· = segPutV len got seg plen data) := by
  unfold spec_SegPut.f segPutV
  rw [joinOk_same]
  refine EvP.some_bind (EvP.ite (fun h1 => ?_) (fun h1 => EvP.now _ (by rw [if_neg (fun z => h1 z.1)])))
  refine EvP.eq_bind (specPart_ok _ _ _ (by omega)) (EvP.ite (fun h2 => ?_) (fun h2 => EvP.now _ (by rw [if_neg (fun z => h2 z.2)])))
  rw [if_pos ⟨h1, h2⟩]
  exact EvP.eq_bind (l4put_ok len got seg plen data hg hd h1 h2) (EvP.now _ rfl)
theorem liBytes_loop (l : List Int) (hl : l.length ≤ 1048576) (d : Nat) : ∀ i : Nat, i ≤ l.length → l.length - i = d → EvP (fun k => laws_liBytes.l0 k l l (i : Int)) (· = true) := by
  induction d with
  | zero =>
    intro i h0 hd
    refine EvP.up ?_
    simp only [laws_liBytes.l0]
    exact EvP.neg (by omega) (EvP.now _ rfl)
  | succ d ih =>
    intro i h0 hd
    refine EvP.up ?_
    simp only [laws_liBytes.l0]
    refine EvP.pos (by omega) (EvP.pos (by omega) (EvP.pos (by omega) (EvP.pos trivial ?_)))
    have hw : wrap64 ((i : Int) + 1) = ((i + 1 : Nat) : Int) := by rw [wrap64_id (by omega) (by omega)]; omega
    rw [hw]
    exact ih (i + 1) (by omega) (by omega)
theorem liBytes_ok (l : List Int) (hl : l.length ≤ 1048576) : EvP (fun k => laws_liBytes.f k l l) (· = true) := by
  unfold laws_liBytes.f
  exact EvP.pos rfl (liBytes_loop l hl l.length 0 (by omega) (by omega))
theorem liOk_true : laws_liOk.f = some true := by
  unfold laws_liOk.f impl_CfgOk.f impl_in.f
  decide
theorem liJoin_ok (a : Int) (l : List Int) (hl : l.length ≤ 1048576) : EvP (fun k => laws_liJoin.f k a l a l) (· = true) := by
  unfold laws_liJoin.f
  exact EvP.pos rfl (EvP.eq_bind (liBytes_ok l hl) (EvP.now _ rfl))
theorem drawPut_ok (l0 : List Int) (hw : ∀ x ∈ l0, (Lit.int .u8 x).wf = true) : EvP (fun k => spec_DrawSegPut.f k l0) fun r => r.2.1.length ≤ 25 ∧ (r.2.2.2.2.length : Int) ≤ 16 := by
  unfold spec_DrawSegPut.f
  obtain ⟨s, e, hs⟩ := open_ok l0 hw
  refine EvP.val_bind e ?_
  refine EvP.bind (join_ok hs 9 (by omega) (by omega)) ?_
  rintro ⟨len, got, p⟩ ⟨h1, h2, h3, h4, h5⟩
  simp only at h1 h2 h3 h4 h5 ⊢
  refine EvP.bind (partOr_ok hs (by omega) 9 (by omega)) ?_
  rintro ⟨sg, pl, dt, q⟩ ⟨g1, g2, g3, g4, g5, g6⟩
  simp only at g1 g2 g3 g4 g5 g6 ⊢
  refine EvP.bind (pick_ok hs (by omega) 3) ?_
  rintro ⟨v, q2⟩ ⟨h8, h9, h10⟩
  simp only at h8 h9 h10 ⊢
  rw [wrap64_id (x := len - (got.length : Int)) (by omega) (by omega)]
  refine EvP.ite (fun _ => EvP.ite (fun hgt => ?_) (fun _ => EvP.now _ ⟨h5, g4⟩)) (fun _ => EvP.now _ ⟨h5, g4⟩)
  have hm : 0 ≤ mn (len - (got.length : Int)) 8 ∧ mn (len - (got.length : Int)) 8 ≤ 8 := by unfold mn; split <;> omega
  refine EvP.pos hm.1 (EvP.pos (by omega) (EvP.now _ ⟨h5, ?_⟩))
  simp only [List.length_replicate]
  omega
theorem FnSegPut : laws_FnSegPut.Pure := by
  intro l0 _ _ hw
  refine EvP.rounds ?_
  unfold laws_FnSegPut.f
  refine EvP.ite (fun _ => EvP.now _ rfl) (fun _ => ?_)
  refine EvP.bind (drawPut_ok l0 hw) ?_
  rintro ⟨len, got, seg, plen, data⟩ ⟨h1, h2⟩
  simp only at h1 h2 ⊢
  have hb := segPutV_bound len got seg plen data
  have hb2 : (segPutV len got seg plen data).2.2.1.length ≤ got.length + data.length := by
    unfold segPutV putV
    repeat' split
    all_goals simp only [List.length_append, List.length_nil]; omega
  refine EvP.eq_bind (segPut_ok len got seg plen data (by omega) (by omega)) (EvP.eq_bind (specSegPut_ok len got seg plen data (by omega) (by omega)) ?_)
  refine EvP.eq_bind (liJoin_ok _ _ (by omega)) (EvP.pos rfl (EvP.eq_bind (liBytes_ok _ (by omega)) (EvP.pos rfl ?_)))
  refine EvP.up ?_
  simp only [laws_FnSegPut.j0]
  refine EvP.neg (by simp) ?_
  rw [joinOk_same]
  refine EvP.some_bind ?_
  have j1t : ¬ (jok len got = true ∧ pok seg plen data = true) → EvP (fun k => laws_FnSegPut.j1 k (segPutV len got seg plen data).2.2.1 (segPutV len got seg plen data).2.2.2 true len got seg plen data (segPutV len got seg plen data).1 (segPutV len got seg plen data).2.1) (· = true) := by
    intro hn
    refine EvP.up ?_
    simp only [laws_FnSegPut.j1]
    have e : segPutV len got seg plen data = (0, [], [], 0) := by unfold segPutV; rw [if_neg hn]
    rw [e]
    refine EvP.pos trivial (EvP.pos rfl (EvP.eq_bind (liJoin_ok _ _ (by simp)) (EvP.pos rfl ?_)))
    rw [liOk_true]
    exact EvP.now _ rfl
  refine EvP.ite (fun hj => ?_) (fun hj => j1t (fun z => hj z.1))
  refine EvP.eq_bind (specPart_ok _ _ _ (by omega)) ?_
  by_cases hp : pok seg plen data = true
  rotate_left
  · rw [Bool.not_eq_true] at hp
    rw [hp]
    exact j1t (fun z => by rw [hp] at z; exact absurd z.2 (by simp))
  rw [hp]
  refine EvP.up ?_
  simp only [laws_FnSegPut.j1]
  refine EvP.neg (by simp) (EvP.some_bind (EvP.pos (by simp; omega) (EvP.some_bind (EvP.pos (by simp; omega) (EvP.some_bind ?_)))))
  rw [List.nil_append]
  have hal : (got ++ data).length ≤ 1048576 := by rw [List.length_append]; omega
  have e : segPutV len got seg plen data = putV len got seg plen data := by unfold segPutV; rw [if_pos ⟨hj, hp⟩]
  rw [e]
  have hjc := jok_cases hj
  have hpc := hp
  unfold pok at hpc
  rw [decide_eq_true_eq] at hpc
  unfold putV
  by_cases c1 : seg = 0 ∧ len = 0
  · rw [if_pos c1]
    refine EvP.neg (by simp) (EvP.pos rfl (EvP.eq_bind (liJoin_ok _ _ (by simp)) (EvP.pos rfl (EvP.eq_bind (liBytes_ok _ hal) (EvP.pos rfl (EvP.pos c1.2 (EvP.now _ rfl)))))))
  rw [if_neg c1]
  by_cases c2 : seg = 1 ∧ len = 0
  · rw [if_pos c2]
    have hg : got = [] := by rcases hjc with h | h; exact h.2; omega
    subst hg
    rw [List.nil_append] at hal ⊢
    refine EvP.pos rfl ?_
    rw [joinOk_val]
    refine EvP.some_bind (EvP.pos ?_ (EvP.eq_bind (liBytes_ok _ hal) (EvP.pos rfl (EvP.now _ rfl))))
    show jok plen data = true
    unfold jok
    rw [if_neg (by omega), decide_eq_true_eq]
    omega
  rw [if_neg c2]
  by_cases c3 : seg = 2 ∧ len > 0 ∧ ((got ++ data).length : Int) < len
  · rw [if_pos c3]
    refine EvP.pos rfl ?_
    rw [joinOk_val]
    refine EvP.some_bind (EvP.pos ?_ (EvP.eq_bind (liBytes_ok _ hal) (EvP.pos rfl (EvP.now _ rfl))))
    show jok len (got ++ data) = true
    unfold jok
    rw [List.length_append] at c3 ⊢
    rw [if_neg (by omega), decide_eq_true_eq]
    omega
  rw [if_neg c3]
  by_cases c4 : seg = 3 ∧ len > 0 ∧ ((got ++ data).length : Int) = len
  · rw [if_pos c4]
    refine EvP.neg (by simp) (EvP.pos rfl (EvP.eq_bind (liJoin_ok _ _ (by simp)) (EvP.pos rfl (EvP.eq_bind (liBytes_ok _ hal) (EvP.pos rfl (EvP.ite (fun _ => EvP.now _ rfl) (fun _ => EvP.now _ ?_)))))))
    exact beq_iff_eq.2 c4.2.2
  rw [if_neg c4]
  refine EvP.neg (by simp) (EvP.neg (by simp) (EvP.pos rfl (EvP.eq_bind (liJoin_ok _ _ (by simp)) (EvP.pos rfl (EvP.now _ rfl)))))

end Go.Proofs.Yteknaofnageihaa.Pure
