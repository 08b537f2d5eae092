/- The law FnFrmOk: a frame has just what its kind has. No condition. -/
import Derived.Test.YtoigmeiollfklaaQFnFrmOkx7
namespace Go.Proofs.Ytoigmeiollfklaa.Pure
open Go.RowKit Go.Proofs.Ytoigmeiollfklaa.QFnFrmOk Go.Proofs.YtoigmeiollfklaaW.PrintWords Go.Proofs.YtoigmeiollfklaaW.PrintLast Go.Proofs.YtoigmeiollfklaaW.PrintMore
set_option linter.unusedVariables false
set_option linter.unusedSimpArgs false

/-! A small calculus: with enough rounds g comes to something of which Q holds. -/
def EvP {α : Type} (g : Nat → Option α) (Q : α → Prop) : Prop := ∃ r, Ev g r ∧ Q r
theorem EvP.now {α : Type} {Q : α → Prop} (r : α) (h : Q r) : EvP (fun _ => some r) Q := ⟨r, Ev.now r, h⟩
theorem EvP.here {α : Type} {o : Option α} {Q : α → Prop} (r : α) (e : o = some r) (h : Q r) : EvP (fun _ => o) Q := by subst e; exact EvP.now r h
theorem EvP.of {α : Type} {g : Nat → Option α} {Q : α → Prop} (K : Nat) (h : ∃ r, (∀ k, K ≤ k → g k = some r) ∧ Q r) : EvP g Q := by
  obtain ⟨r, h1, h2⟩ := h
  exact ⟨r, ⟨K, h1⟩, h2⟩
theorem EvP.bind {α β : Type} {g : Nat → Option α} {f : Nat → α → Option β} {P : α → Prop} {Q : β → Prop} (h : EvP g P) (k : ∀ a, P a → EvP (fun n => f n a) Q) : EvP (fun n => (g n).bind (f n)) Q := by
  obtain ⟨a, ha, hp⟩ := h
  obtain ⟨r, hr, hq⟩ := k a hp
  exact ⟨r, Ev.bind ha hr, hq⟩
theorem EvP.some_bind {α β : Type} {a : α} {f : Nat → α → Option β} {Q : β → Prop} (k : EvP (fun n => f n a) Q) : EvP (fun n => (some a).bind (f n)) Q := k
theorem EvP.step {α : Type} {g f : Nat → Option α} {Q : α → Prop} (h : ∀ k, g (k + 1) = f k) (k : EvP f Q) : EvP g Q := by
  obtain ⟨r, hr, hq⟩ := k
  exact ⟨r, Ev.step h hr, hq⟩
theorem EvP.congr {α : Type} {g f : Nat → Option α} {Q : α → Prop} (h : ∀ k, g k = f k) (k : EvP f Q) : EvP g Q := by
  obtain ⟨r, hr, hq⟩ := k
  exact ⟨r, Ev.congr h hr, hq⟩
theorem EvP.mono {α : Type} {g : Nat → Option α} {P Q : α → Prop} (h : EvP g P) (k : ∀ a, P a → Q a) : EvP g Q := by
  obtain ⟨r, hr, hp⟩ := h
  exact ⟨r, hr, k r hp⟩
theorem EvP.ite {α : Type} {c : Prop} [Decidable c] {f g : Nat → Option α} {Q : α → Prop} (h1 : c → EvP f Q) (h2 : ¬ c → EvP g Q) : EvP (fun k => if c then f k else g k) Q := by
  by_cases hc : c
  · simp only [if_pos hc]; exact h1 hc
  · simp only [if_neg hc]; exact h2 hc
theorem EvP.pos {α : Type} {c : Prop} [Decidable c] {f g : Nat → Option α} {Q : α → Prop} (hc : c) (h : EvP f Q) : EvP (fun k => if c then f k else g k) Q := by
  simp only [if_pos hc]; exact h
theorem EvP.neg {α : Type} {c : Prop} [Decidable c] {f g : Nat → Option α} {Q : α → Prop} (hc : ¬ c) (h : EvP g Q) : EvP (fun k => if c then f k else g k) Q := by
  simp only [if_neg hc]; exact h
theorem EvP.rounds {α : Type} {g : Nat → Option α} {r : α} (h : EvP g (· = r)) : ∃ k, g k = some r := by
  obtain ⟨q, hq, rfl⟩ := h
  exact hq.rounds
theorem EvP.up {α : Type} {g : Nat → Option α} {Q : α → Prop} (h : EvP (fun k => g (k + 1)) Q) : EvP g Q := EvP.step (fun _ => rfl) h
theorem EvP.val_bind {α β : Type} {o : Option α} {a : α} {f : Nat → α → Option β} {Q : β → Prop} (e : o = some a) (k : EvP (fun n => f n a) Q) : EvP (fun n => o.bind (f n)) Q := by subst e; exact k
theorem EvP.eq_bind {α β : Type} {g : Nat → Option α} {f : Nat → α → Option β} {a : α} {Q : β → Prop} (h : EvP g (· = a)) (k : EvP (fun n => f n a) Q) : EvP (fun n => (g n).bind (f n)) Q := EvP.bind h (fun _ e => by subst e; exact k)
/-! The reader of a code: whatever it picks lies in bounds. -/
def RdOk (s : List Int) : Prop := s.length ≤ 2000 ∧ ∀ x ∈ s, 0 ≤ x ∧ x ≤ 255
theorem rd_range {s : List Int} (h : RdOk s) (i : Int) : 0 ≤ rd s i ∧ rd s i ≤ 255 := by
  unfold rd
  rw [List.getD_eq_getElem?_getD]
  cases e : s[i.toNat]? with
  | none => simp
  | some x => exact h.2 x (List.mem_of_getElem? e)
theorem wrap64_id {x : Int} (h : -9223372036854775808 ≤ x) (h2 : x ≤ 9223372036854775807) : wrap64 x = x := by unfold wrap64; omega
theorem xor_nonneg (a b : Int) (ha : 0 ≤ a) (ha2 : a < 9223372036854775808) (hb : 0 ≤ b) (hb2 : b < 9223372036854775808) : 0 ≤ Go.bits .xor .i64 a b := by
  obtain ⟨m, rfl⟩ := Int.eq_ofNat_of_zero_le ha
  obtain ⟨n, rfl⟩ := Int.eq_ofNat_of_zero_le hb
  have hm : m < 2 ^ 63 := by omega
  have hn : n < 2 ^ 63 := by omega
  have hx := Nat.xor_lt_two_pow hm hn
  have h1 : m % 2 ^ 64 = m := Nat.mod_eq_of_lt (by omega)
  have h2 : n % 2 ^ 64 = n := Nat.mod_eq_of_lt (by omega)
  have h3 : (BitVec.ofNat 64 m ^^^ BitVec.ofNat 64 n).toNat = m ^^^ n := by rw [BitVec.toNat_xor, BitVec.toNat_ofNat, BitVec.toNat_ofNat, h1, h2]
  have h4 : Go.bits .xor .i64 (m : Int) (n : Int) = IntKind.i64.wrap ((BitVec.ofNat 64 m ^^^ BitVec.ofNat 64 n).toNat) := rfl
  rw [h4, h3, IntKind.wrap_i64]
  omega
theorem tmod_range (a n : Int) (ha : 0 ≤ a) (hn : 0 < n) : 0 ≤ Int.tmod a n ∧ Int.tmod a n < n := by
  rw [Int.tmod_eq_emod_of_nonneg ha]
  exact ⟨Int.emod_nonneg _ (by omega), Int.emod_lt_of_pos _ hn⟩
theorem tdiv_range (a n : Int) (ha : 0 ≤ a) (hn : 0 < n) : 0 ≤ Int.tdiv a n ∧ Int.tdiv a n ≤ a := by
  rw [Int.tdiv_eq_ediv_of_nonneg ha]
  exact ⟨Int.ediv_nonneg ha (by omega), Int.ediv_le_self _ ha⟩
theorem pick_rounds (s : List Int) (hs : RdOk s) (p n : Int) (hp : 0 ≤ p) (hp2 : p ≤ 1000000) : ∃ v, (∀ k, spec_l20Rd_pick.f (k + 1) s p n = some (v, p + 1)) ∧ 0 ≤ v ∧ (v < n ∨ v = 0 ∧ n < 1) := by
  have hw : wrap64 (p + 1) = p + 1 := wrap64_id (by omega) (by omega)
  by_cases h1 : n < 1
  · exact ⟨0, fun k => by unfold spec_l20Rd_pick.f; rw [if_pos h1, hw]; simp [spec_l20Rd_pick.j0], by omega, .inr ⟨rfl, h1⟩⟩
  · by_cases h2 : (s.length : Int) = 0
    · refine ⟨0, fun k => ?_, by omega, .inl (by omega)⟩
      unfold spec_l20Rd_pick.f
      rw [if_neg h1, hw, h2]
      simp [spec_l20Rd_pick.j0]
    · have hlen := hs.1
      have hb : ((s.length : Int) == 0) = false := beq_eq_false_iff_ne.mpr h2
      have hw2 : wrap64 (p + 1 - 1) = p := by rw [wrap64_id (by omega) (by omega)]; omega
      by_cases h3 : p < (s.length : Int)
      · have hr := rd_range hs p
        have hw3 : wrap64 (rd s p) = rd s p := wrap64_id (by omega) (by omega)
        have ht := tmod_range (rd s p) n hr.1 (by omega)
        refine ⟨Int.tmod (rd s p) n, fun k => ?_, ht.1, .inl ht.2⟩
        unfold spec_l20Rd_pick.f
        rw [if_neg h1, hw, hb]
        simp only [spec_l20Rd_pick.j0, hw2, hw3]
        rw [if_neg (by decide), if_pos h3, if_pos hp, if_neg (by omega)]
      · have t1 := tmod_range p s.length hp (by omega)
        have w1 : wrap64 (p * 7) = p * 7 := wrap64_id (by omega) (by omega)
        have w2 : wrap64 (p * 7 + 3) = p * 7 + 3 := wrap64_id (by omega) (by omega)
        have t2 := tmod_range (p * 7 + 3) s.length (by omega) (by omega)
        have r1 := rd_range hs (Int.tmod p s.length)
        have r2 := rd_range hs (Int.tmod (p * 7 + 3) s.length)
        have t3 := tdiv_range p s.length hp (by omega)
        generalize e1 : rd s (Int.tmod p s.length) = a at r1
        generalize e2 : rd s (Int.tmod (p * 7 + 3) s.length) = b at r2
        generalize e3 : Int.tdiv p s.length = q at t3
        have v1 : wrap64 (wrap64 (wrap64 (wrap64 (wrap64 a * 131) + wrap64 (wrap64 b * 1117)) + wrap64 (p * 29)) + wrap64 (wrap64 q * 53)) = a * 131 + b * 1117 + p * 29 + q * 53 := by
          rw [wrap64_id (x := a) (by omega) (by omega), wrap64_id (x := b) (by omega) (by omega), wrap64_id (x := q) (by omega) (by omega), wrap64_id (x := a * 131) (by omega) (by omega), wrap64_id (x := b * 1117) (by omega) (by omega), wrap64_id (x := p * 29) (by omega) (by omega), wrap64_id (x := q * 53) (by omega) (by omega), wrap64_id (x := a * 131 + b * 1117) (by omega) (by omega), wrap64_id (x := a * 131 + b * 1117 + p * 29) (by omega) (by omega), wrap64_id (by omega) (by omega)]
        generalize e4 : a * 131 + b * 1117 + p * 29 + q * 53 = z at v1
        have hz : 0 ≤ z ∧ z ≤ 1000000000 := by omega
        have t4 := tdiv_range z 64 hz.1 (by omega)
        have v2 : wrap64 (Int.tdiv z 64) = Int.tdiv z 64 := wrap64_id (by omega) (by omega)
        have hx := xor_nonneg z (Int.tdiv z 64) hz.1 (by omega) t4.1 (by omega)
        have ht := tmod_range _ n hx (by omega)
        refine ⟨_, fun k => ?_, ht.1, .inl ht.2⟩
        unfold spec_l20Rd_pick.f
        rw [if_neg h1, hw, hb]
        simp only [spec_l20Rd_pick.j0, hw2, w1, w2, e1, e2, e3, v1, v2]
        rw [if_neg (by decide), if_neg h3, if_neg h2, if_pos t1.1, if_pos t1.2, if_pos t2.1, if_pos t2.2, if_neg (by omega)]
theorem pick_ok {s : List Int} (hs : RdOk s) {p : Int} (hp : 0 ≤ p ∧ p ≤ 1000000) (n : Int) : EvP (fun k => spec_l20Rd_pick.f k s p n) fun r => r.2 = p + 1 ∧ 0 ≤ r.1 ∧ (r.1 < n ∨ r.1 = 0 ∧ n < 1) := by
  obtain ⟨v, h1, h2⟩ := pick_rounds s hs p n hp.1 hp.2
  exact ⟨(v, p + 1), ⟨1, fun k hk => by obtain ⟨m, rfl⟩ : ∃ m, k = m + 1 := ⟨k - 1, by omega⟩; exact h1 m⟩, rfl, h2⟩
theorem open_ok (l : List Int) (hw : ∀ x ∈ l, (Lit.int .u8 x).wf = true) : ∃ s, spec_l20Open.f l = some (s, 0) ∧ RdOk s := by
  have hb : ∀ x ∈ l, 0 ≤ x ∧ x ≤ 255 := fun x hx => by
    have h := hw x hx
    simp [Lit.wf, IntKind.min, IntKind.max, IntKind.signed, IntKind.bits] at h
    omega
  unfold spec_l20Open.f
  by_cases h : (l.length : Int) > 2000
  · rw [if_pos h, if_pos (by omega)]
    exact ⟨l.take 2000, rfl, List.length_take_le _ _, fun x hx => hb x (List.mem_of_mem_take hx)⟩
  · rw [if_neg h]
    exact ⟨l, rfl, by omega, hb⟩
theorem three {v : Int} (h : 0 ≤ v) (h2 : v < 3 ∨ v = 0 ∧ (3 : Int) < 1) : v = 0 ∨ v = 1 ∨ v = 2 := by omega
theorem two {v : Int} (h : 0 ≤ v) (h2 : v < 2 ∨ v = 0 ∧ (2 : Int) < 1) : v = 0 ∨ v = 1 := by omega
theorem rd0 (a : Int) (l : List Int) : rd (a :: l) 0 = a := rfl
theorem rd1 (a b : Int) (l : List Int) : rd (a :: b :: l) 1 = b := rfl
theorem rd2 (a b c : Int) (l : List Int) : rd (a :: b :: c :: l) 2 = c := rfl
/-! Draws of the reader beyond pick. -/
theorem odd_ok {s : List Int} (hs : RdOk s) {p : Int} (hp : 0 ≤ p ∧ p ≤ 1000000) (n : Int) (hn : n ≤ 1000000) : EvP (fun k => spec_l20Rd_odd.f k s p n) fun r => p ≤ r.2 ∧ r.2 ≤ p + 1 ∧ (n ≤ 0 → r.1 = false) := by
  unfold spec_l20Rd_odd.f
  refine EvP.ite (fun h => ?_) (fun h => EvP.now _ ⟨by simp, by simp; omega, fun _ => rfl⟩)
  refine EvP.bind (pick_ok hs hp n) ?_
  rintro ⟨v, q⟩ ⟨h1, h2, h3⟩
  simp only at h1 h2 h3 ⊢
  refine EvP.now _ ⟨by simp only; omega, by simp only; omega, fun h => by omega⟩
def ByteL (l : List Int) : Prop := ∀ x ∈ l, 0 ≤ x ∧ x ≤ 255
theorem bytes_loop {s : List Int} (hs : RdOk s) (d : Nat) : ∀ (out : List Int) (p : Int), ByteL out → out.length + d ≤ 100000 → 0 ≤ p → p + 3 * d ≤ 900000 →
    EvP (fun k => spec_l20Bytes.l0 k out (d : Int) s p) fun r => r.2 = p + 3 * d ∧ ByteL r.1 ∧ r.1.length = out.length + d := by
  induction d with
  | zero =>
    intro out p hb hl hp hp2
    refine EvP.up ?_
    simp only [spec_l20Bytes.l0]
    exact EvP.neg (by omega) (EvP.now _ ⟨by simp, hb, by simp⟩)
  | succ d ih =>
    intro out p hb hl hp hp2
    refine EvP.up ?_
    simp only [spec_l20Bytes.l0]
    refine EvP.pos (by omega) ?_
    refine EvP.bind (pick_ok hs (by omega) 256) ?_
    rintro ⟨v1, p1⟩ ⟨h1, h2, h3⟩
    simp only at h1 h2 h3 ⊢; subst h1
    refine EvP.bind (pick_ok hs (by omega) 4) ?_
    rintro ⟨v2, p2⟩ ⟨g1, g2, g3⟩
    simp only at g1 g2 g3 ⊢; subst g1
    refine EvP.some_bind ?_
    refine EvP.bind (pick_ok hs (by omega) 3) ?_
    rintro ⟨v3, p3⟩ ⟨q1, q2, q3⟩
    simp only at q1 q2 q3 ⊢; subst q1
    refine EvP.pos q2 (EvP.pos (by simp; omega) (EvP.pos (by omega) ?_))
    have hw : wrap64 (((d + 1 : Nat) : Int) - 1) = (d : Int) := by rw [wrap64_id (by omega) (by omega)]; omega
    rw [hw]
    refine EvP.mono (ih (out ++ [rd [v1, v2, 255] v3 % 256]) (p + 1 + 1 + 1) ?_ (by simp; omega) (by omega) (by omega)) ?_
    · intro x hx
      rcases List.mem_append.1 hx with h | h
      · exact hb x h
      · rw [List.mem_singleton] at h; omega
    · rintro ⟨r1, r2⟩ ⟨h1, h2, h3⟩
      simp only at h1 h2 h3 ⊢
      refine ⟨by omega, h2, ?_⟩
      rw [h3, List.length_append, List.length_singleton]; omega
theorem bytes_ok {s : List Int} (hs : RdOk s) {p : Int} (n : Int) (hn : 0 ≤ n) (hn2 : n ≤ 10000) (hp : 0 ≤ p ∧ p ≤ 500000) :
    EvP (fun k => spec_l20Bytes.f k s p n) fun r => p + 1 ≤ r.2 ∧ r.2 ≤ p + 1 + 3 * n ∧ ByteL r.1 ∧ (r.1.length : Int) ≤ n := by
  unfold spec_l20Bytes.f
  rw [wrap64_id (x := n + 1) (by omega) (by omega)]
  refine EvP.bind (pick_ok hs (by omega) (n + 1)) ?_
  rintro ⟨v, q⟩ ⟨h1, h2, h3⟩
  simp only at h1 h2 h3 ⊢; subst h1
  obtain ⟨d, rfl⟩ := Int.eq_ofNat_of_zero_le h2
  refine EvP.mono (bytes_loop hs d [] (p + 1) (fun x hx => by simp at hx) (by simp; omega) (by omega) (by omega)) ?_
  rintro ⟨r1, r2⟩ ⟨h1, h2, h3⟩
  simp only at h1 h2 h3 ⊢
  simp only [List.length_nil, Nat.zero_add] at h3
  exact ⟨by omega, by omega, h2, by omega⟩
/-! A piece is ok. -/
def pok (seg len : Int) (l : List Int) : Bool := decide ((seg = 0 ∧ (l.length : Int) ≤ 8 ∧ len = (l.length : Int)) ∨ (seg = 1 ∧ 1 ≤ (l.length : Int) ∧ (l.length : Int) ≤ 8 ∧ (l.length : Int) + 1 ≤ len ∧ len ≤ 24) ∨ ((seg = 2 ∨ seg = 3) ∧ 1 ≤ (l.length : Int) ∧ (l.length : Int) ≤ 8 ∧ len = 0))
theorem part_tail {s : List Int} (hs : RdOk s) {p : Int} (hp : 0 ≤ p ∧ p ≤ 400000) (seg : Int) (l : List Int) (h0 : 0 ≤ seg ∧ seg ≤ 3) (hl : ByteL l) (hn : (l.length : Int) ≤ 8) (hn1 : seg ≠ 0 → 1 ≤ (l.length : Int)) :
    EvP (fun k => spec_l20Part.j1 k s p seg 0 l) fun r => p ≤ r.2.2.2 ∧ r.2.2.2 ≤ p + 1 ∧ pok r.1 r.2.1 r.2.2.1 = true ∧ ByteL r.2.2.1 ∧ (r.2.2.1.length : Int) ≤ 8 ∧ (0 ≤ r.1 ∧ r.1 ≤ 3) ∧ (0 ≤ r.2.1 ∧ r.2.1 ≤ 24) := by
  refine EvP.up ?_
  simp only [spec_l20Part.j1]
  refine EvP.ite (fun h => ?_) (fun h => ?_)
  · refine EvP.neg (by omega) (EvP.now _ ⟨by simp only; omega, by simp only; omega, ?_, hl, hn, h0, by simp only; omega⟩)
    unfold pok; rw [decide_eq_true_eq]; exact .inl ⟨h, hn, rfl⟩
  · refine EvP.ite (fun h1 => ?_) (fun h1 => EvP.now _ ⟨by simp only; omega, by simp only; omega, ?_, hl, hn, h0, by simp only; omega⟩)
    · have h2 := hn1 h
      rw [wrap64_id (x := 24 - (l.length : Int)) (by omega) (by omega)]
      refine EvP.bind (pick_ok hs (by omega) (24 - (l.length : Int))) ?_
      rintro ⟨v, q⟩ ⟨g1, g2, g3⟩
      simp only at g1 g2 g3 ⊢; subst g1
      rw [wrap64_id (x := (l.length : Int) + 1) (by omega) (by omega), wrap64_id (x := (l.length : Int) + 1 + v) (by omega) (by omega)]
      refine EvP.now _ ⟨by simp only; omega, by simp only; omega, ?_, hl, hn, h0, by simp only; omega⟩
      unfold pok; rw [decide_eq_true_eq]; simp only; omega
    · have h2 := hn1 h
      unfold pok; rw [decide_eq_true_eq]; exact .inr (.inr ⟨by simp only; omega, h2, hn, rfl⟩)
theorem part_ok {s : List Int} (hs : RdOk s) {p : Int} (hp : 0 ≤ p ∧ p ≤ 300000) :
    EvP (fun k => spec_l20Part.f k s p) fun r => p ≤ r.2.2.2 ∧ r.2.2.2 ≤ p + 40 ∧ pok r.1 r.2.1 r.2.2.1 = true ∧ ByteL r.2.2.1 ∧ (r.2.2.1.length : Int) ≤ 8 ∧ (0 ≤ r.1 ∧ r.1 ≤ 3) ∧ (0 ≤ r.2.1 ∧ r.2.1 ≤ 24) := by
  unfold spec_l20Part.f
  refine EvP.bind (pick_ok hs (by omega) 4) ?_
  rintro ⟨v, p1⟩ ⟨h1, h2, h3⟩
  simp only at h1 h2 h3 ⊢; subst h1
  refine EvP.bind (bytes_ok hs 8 (by omega) (by omega) (by omega)) ?_
  rintro ⟨b, p2⟩ ⟨b1, b2, b3, b4⟩
  simp only at b1 b2 b3 b4 ⊢
  have tail : ∀ x : Bool, (x = true → v ≠ 0) → (x = false → v ≠ 0 → 1 ≤ (b.length : Int)) → EvP (fun k => spec_l20Part.j0 k x s p2 v 0 b) fun r => p ≤ r.2.2.2 ∧ r.2.2.2 ≤ p + 40 ∧ pok r.1 r.2.1 r.2.2.1 = true ∧ ByteL r.2.2.1 ∧ (r.2.2.1.length : Int) ≤ 8 ∧ (0 ≤ r.1 ∧ r.1 ≤ 3) ∧ (0 ≤ r.2.1 ∧ r.2.1 ≤ 24) := by
    intro x _ hx
    refine EvP.up ?_
    simp only [spec_l20Part.j0]
    refine EvP.ite (fun h => ?_) (fun h => ?_)
    · refine EvP.mono (part_tail hs (by omega) v [7] (by omega) (fun y hy => by rw [List.mem_singleton] at hy; omega) (by simp) (fun _ => by simp)) ?_
      rintro r ⟨a1, a2, a3⟩; exact ⟨by omega, by omega, a3⟩
    · refine EvP.mono (part_tail hs (by omega) v b (by omega) b3 b4 (hx (Bool.eq_false_iff.mpr h))) ?_
      rintro r ⟨a1, a2, a3⟩; exact ⟨by omega, by omega, a3⟩
  refine EvP.ite (fun h => tail _ (fun h => by cases h) (fun _ h2 => absurd h h2)) (fun h => tail _ (fun _ => h) (fun h2 _ => ?_))
  rw [beq_eq_false_iff_ne] at h2
  omega
theorem l2Seg_ok (a b c : Int) (d e : Bool) (f seg len : Int) (l : List Int) (hl : l.length ≤ 281474976710656) : EvP (fun k => spec_l2Seg.f k a b c d e f seg len l) (· = pok seg len l) := by
  have in_val3 : ∀ a lo hi : Int, spec_l1In.f a lo hi = some (decide (lo ≤ a ∧ a ≤ hi)) := by
    intro a lo hi
    unfold spec_l1In.f
    by_cases h : a ≥ lo
    · rw [if_pos h]; simp only [Option.some.injEq, decide_eq_decide]; omega
    · rw [if_neg h]; simp only [Option.some.injEq]; exact (decide_eq_false (by omega)).symm
  have tail : ∀ x : Bool, (x = true → pok seg len l = false) → (x = false → (0 ≤ seg ∧ seg ≤ 3) ∧ (l.length : Int) ≤ 8 ∧ ((l.length : Int) = 0 → len = 0)) → EvP (fun k => spec_l2Seg.j0 k x a b c d e f seg len l) (· = pok seg len l) := by
    intro x hx hx2
    refine EvP.up ?_
    simp only [spec_l2Seg.j0, in_val3, Option.bind_some, decide_eq_true_eq]
    refine EvP.ite (fun h => EvP.now _ (hx h).symm) (fun h => ?_)
    obtain ⟨h1, h2, h3⟩ := hx2 (Bool.eq_false_iff.mpr h)
    rw [wrap64_id (x := (l.length : Int) + 1) (by omega) (by omega)]
    unfold pok
    refine EvP.ite (fun h0 => EvP.now _ ?_) (fun h0 => EvP.ite (fun h4 => EvP.ite (fun h5 => EvP.now _ ?_) (fun h5 => EvP.now _ ?_)) (fun h4 => EvP.ite (fun h5 => EvP.now _ ?_) (fun h5 => EvP.now _ ?_)))
    · rw [Bool.eq_iff_iff, beq_iff_eq, decide_eq_true_eq]; omega
    · rw [decide_eq_decide]; omega
    · exact (decide_eq_false (by omega)).symm
    · rw [decide_eq_decide]; omega
    · exact (decide_eq_false (by omega)).symm
  unfold spec_l2Seg.f
  simp only [in_val3, Option.bind_some, decide_eq_true_eq]
  refine EvP.ite (fun h1 => EvP.ite (fun h2 => EvP.ite (fun h3 => tail _ ?_ ?_) (fun h3 => tail _ ?_ ?_)) (fun h2 => tail _ ?_ ?_)) (fun h1 => tail _ ?_ ?_)
  · intro h; rw [decide_eq_true_eq] at h; omega
  · intro h; rw [decide_eq_false_iff_not] at h; omega
  · intro _; unfold pok; exact decide_eq_false (by omega)
  · intro h; cases h
  · intro h; rw [decide_eq_true_eq] at h; unfold pok; exact decide_eq_false (by omega)
  · intro h; rw [decide_eq_false_iff_not] at h; omega
  · intro _; unfold pok; exact decide_eq_false (by omega)
  · intro h; cases h
theorem in_val2 (a lo hi : Int) : impl_in.f a lo hi = some (decide (lo ≤ a ∧ a ≤ hi)) := by
  unfold impl_in.f
  by_cases h : a ≥ lo
  · rw [if_pos h]; simp only [Option.some.injEq, decide_eq_decide]; omega
  · rw [if_neg h]; simp only [Option.some.injEq]; exact (decide_eq_false (by omega)).symm
theorem pieceOk_val (seg len : Int) (l : List Int) (hl : l.length ≤ 281474976710656) : impl_pieceOk.f seg len l = some (pok seg len l) := by
  unfold impl_pieceOk.f pok
  simp only [in_val2, Option.bind_some, decide_eq_true_eq]
  rw [wrap64_id (x := (l.length : Int) + 1) (by omega) (by omega)]
  by_cases h0 : seg = 0
  · rw [if_pos h0]
    by_cases h1 : (l.length : Int) ≤ 8
    · rw [if_pos h1]
      rw [Option.some.injEq, Bool.eq_iff_iff, beq_iff_eq, decide_eq_true_eq]; omega
    · rw [if_neg h1, Option.some.injEq]; exact (decide_eq_false (by omega)).symm
  · rw [if_neg h0]
    by_cases h1 : seg = 1
    · rw [if_pos h1]
      by_cases h2 : 1 ≤ (l.length : Int) ∧ (l.length : Int) ≤ 8
      · rw [if_pos h2, Option.some.injEq, decide_eq_decide]; omega
      · rw [if_neg h2, Option.some.injEq]; exact (decide_eq_false (by omega)).symm
    · rw [if_neg h1]
      by_cases h3 : seg = 2
      · rw [if_pos h3]
        by_cases h2 : 1 ≤ (l.length : Int) ∧ (l.length : Int) ≤ 8
        · rw [if_pos h2, Option.some.injEq, Bool.eq_iff_iff, beq_iff_eq, decide_eq_true_eq]; omega
        · rw [if_neg h2, Option.some.injEq]; exact (decide_eq_false (by omega)).symm
      · rw [if_neg h3]
        by_cases h4 : seg = 3
        · rw [if_pos h4]
          by_cases h2 : 1 ≤ (l.length : Int) ∧ (l.length : Int) ≤ 8
          · rw [if_pos h2, Option.some.injEq, Bool.eq_iff_iff, beq_iff_eq, decide_eq_true_eq]; omega
          · rw [if_neg h2, Option.some.injEq]; exact (decide_eq_false (by omega)).symm
        · rw [if_neg h4, Option.some.injEq]; exact (decide_eq_false (by omega)).symm
def frok (kd sq ak : Int) (po fi : Bool) (sy sg ln : Int) (d : List Int) : Bool := decide ((kd = 1 ∧ (0 ≤ sq ∧ sq ≤ 7) ∧ (0 ≤ ak ∧ ak ≤ 7) ∧ po = false ∧ sy = 0 ∧ pok sg ln d = true) ∨ (kd = 2 ∧ sq = 0 ∧ (0 ≤ ak ∧ ak ≤ 7) ∧ ¬ (po = true ∧ fi = true) ∧ (0 ≤ sy ∧ sy ≤ 2) ∧ sg = 0 ∧ ln = 0 ∧ d.length = 0) ∨ (kd = 3 ∧ sq = 0 ∧ ak = 0 ∧ po = false ∧ fi = false ∧ sy = 0 ∧ pok sg ln d = true) ∨ (kd = 4 ∧ sq = 0 ∧ ak = 0 ∧ po = false ∧ fi = false ∧ sy = 0 ∧ sg = 0 ∧ (1 ≤ ln ∧ ln ≤ 255) ∧ d.length = 0))
theorem l1In_val2 (a lo hi : Int) : spec_l1In.f a lo hi = some (decide (lo ≤ a ∧ a ≤ hi)) := in_val2 a lo hi
theorem specFrm_ok (kd sq ak : Int) (po fi : Bool) (sy sg ln : Int) (d : List Int) (hd : d.length ≤ 1048576) :
    EvP (fun k => spec_FrmOk.f k kd sq ak po fi sy sg ln d) (· = frok kd sq ak po fi sy sg ln d) := by
  have E : ∀ b : Bool, (b = true ↔ frok kd sq ak po fi sy sg ln d = true) → b = frok kd sq ak po fi sy sg ln d := fun b h => Bool.eq_iff_iff.2 h
  have hs := l2Seg_ok kd sq ak po fi sy sg ln d (by omega)
  unfold spec_FrmOk.f
  simp only [l1In_val2, Option.bind_some, decide_eq_true_eq]
  refine EvP.ite (fun h1 => ?_) (fun h1 => EvP.ite (fun h1b => ?_) (fun h1b => EvP.ite (fun h1c => ?_) (fun h1c => EvP.ite (fun h1d => ?_) (fun h1d => EvP.now _ (E _ (by simp [frok]; omega))))))
  · refine EvP.ite (fun h2 => EvP.ite (fun h3 => EvP.ite (fun h4 => EvP.now _ (E _ (by simp [frok, h4]; omega))) (fun h4 => EvP.ite (fun h5 => ?_) (fun h5 => EvP.now _ (E _ (by simp [frok]; omega))))) (fun h3 => EvP.now _ (E _ (by simp [frok]; omega)))) (fun h2 => EvP.now _ (E _ (by simp [frok]; omega)))
    refine EvP.eq_bind hs (EvP.now _ (E _ ?_))
    rw [Bool.not_eq_true] at h4
    simp [frok, h1, h2, h3, h4, h5]
  · refine EvP.ite (fun h2 => EvP.ite (fun h3 => ?_) (fun h3 => EvP.now _ (E _ (by simp [frok]; omega)))) (fun h2 => EvP.now _ (E _ (by simp [frok]; omega)))
    have fin : ¬ (po = true ∧ fi = true) → EvP (fun k => if 0 ≤ sy ∧ sy ≤ 2 then if sg = 0 then if ln = 0 then some ((d.length : Int) == 0) else some false else some false else some false) (· = frok kd sq ak po fi sy sg ln d) := by
      intro hpf
      refine EvP.ite (fun h5 => EvP.ite (fun h6 => EvP.ite (fun h7 => EvP.now _ (E _ ?_)) (fun h7 => EvP.now _ (E _ (by simp [frok]; omega)))) (fun h6 => EvP.now _ (E _ (by simp [frok]; omega)))) (fun h5 => EvP.now _ (E _ (by simp [frok]; omega)))
      rw [beq_iff_eq, frok, decide_eq_true_eq]
      constructor
      · intro h8
        exact .inr (.inl ⟨h1b, h2, h3, hpf, h5, h6, h7, by omega⟩)
      · rintro (h | h | h | h) <;> omega
    refine EvP.ite (fun h4 => EvP.ite (fun h5 => EvP.now _ (E _ ?_)) (fun h5 => fin (fun z => h5 z.2))) (fun h4 => fin (fun z => h4 z.1))
    simp [frok, h4, h5]
  · refine EvP.ite (fun h2 => EvP.ite (fun h3 => EvP.ite (fun h4 => EvP.now _ (E _ (by simp [frok, h4]; omega))) (fun h4 => EvP.ite (fun h5 => EvP.now _ (E _ (by simp [frok, h5]; omega))) (fun h5 => EvP.ite (fun h6 => ?_) (fun h6 => EvP.now _ (E _ (by simp [frok]; omega)))))) (fun h3 => EvP.now _ (E _ (by simp [frok]; omega)))) (fun h2 => EvP.now _ (E _ (by simp [frok]; omega)))
    refine EvP.eq_bind hs (EvP.now _ (E _ ?_))
    rw [Bool.not_eq_true] at h4 h5
    simp [frok, h1c, h2, h3, h4, h5, h6]
  · refine EvP.ite (fun h2 => EvP.ite (fun h3 => EvP.ite (fun h4 => EvP.now _ (E _ (by simp [frok, h4]; omega))) (fun h4 => EvP.ite (fun h5 => EvP.now _ (E _ (by simp [frok, h5]; omega))) (fun h5 => EvP.ite (fun h6 => EvP.ite (fun h7 => EvP.ite (fun h8 => EvP.now _ (E _ ?_)) (fun h8 => EvP.now _ (E _ (by simp [frok]; omega)))) (fun h7 => EvP.now _ (E _ (by simp [frok]; omega)))) (fun h6 => EvP.now _ (E _ (by simp [frok]; omega)))))) (fun h3 => EvP.now _ (E _ (by simp [frok]; omega)))) (fun h2 => EvP.now _ (E _ (by simp [frok]; omega)))
    rw [Bool.not_eq_true] at h4 h5
    rw [beq_iff_eq, frok, decide_eq_true_eq]
    constructor
    · intro h9
      exact .inr (.inr (.inr ⟨h1d, h2, h3, h4, h5, h6, h7, h8, by omega⟩))
    · rintro (h | h | h | h) <;> omega
theorem equal_loop (l : List Int) (hl : l.length ≤ 1048576) (d : Nat) : ∀ i : Nat, i ≤ l.length → l.length - i = d → EvP (fun k => slices_Equal_byte_byte.l0 k l l (l.length : Int) (i : Int)) (· = true) := by
  induction d with
  | zero =>
    intro i h0 hd
    refine EvP.up ?_
    simp only [slices_Equal_byte_byte.l0]
    exact EvP.neg (by omega) (EvP.now _ rfl)
  | succ d ih =>
    intro i h0 hd
    refine EvP.up ?_
    simp only [slices_Equal_byte_byte.l0]
    refine EvP.pos (by omega) (EvP.pos (by omega) (EvP.pos (by omega) (EvP.pos (by omega) (EvP.pos trivial ?_))))
    have hw : wrap64 ((i : Int) + 1) = ((i + 1 : Nat) : Int) := by rw [wrap64_id (by omega) (by omega)]; omega
    rw [hw]
    exact ih (i + 1) (by omega) (by omega)
theorem equal_ok (l : List Int) (hl : l.length ≤ 1048576) : EvP (fun k => slices_Equal_byte_byte.f k l l) (· = true) := by
  unfold slices_Equal_byte_byte.f
  exact EvP.pos rfl (equal_loop l hl l.length 0 (by omega) (by omega))
theorem equal_nil (l : List Int) (hl : l.length ≤ 1048576) : EvP (fun k => slices_Equal_byte_byte.f k [] l) (· = decide (l.length = 0)) := by
  by_cases h : l.length = 0
  · obtain rfl := List.eq_nil_of_length_eq_zero h
    rw [decide_eq_true (by rfl)]
    exact equal_ok [] (by simp)
  · rw [decide_eq_false h]
    unfold slices_Equal_byte_byte.f
    exact EvP.neg (by simp; omega) (EvP.now _ rfl)
theorem same_ok (a b c : Int) (p q : Bool) (e f g : Int) (d : List Int) (a' b' c' : Int) (p' q' : Bool) (e' f' g' : Int) (d' : List Int) (v : Bool) (hv : EvP (fun k => slices_Equal_byte_byte.f k d d') (· = v)) :
    EvP (fun k => impl_FrmFrame_same.f k a b c p q e f g d a' b' c' p' q' e' f' g' d') (· = (decide (a = a' ∧ b = b' ∧ c = c' ∧ p = p' ∧ q = q' ∧ e = e' ∧ f = f' ∧ g = g') && v)) := by
  unfold impl_FrmFrame_same.f
  have N : ∀ h : ¬ (a = a' ∧ b = b' ∧ c = c' ∧ p = p' ∧ q = q' ∧ e = e' ∧ f = f' ∧ g = g'), false = (decide (a = a' ∧ b = b' ∧ c = c' ∧ p = p' ∧ q = q' ∧ e = e' ∧ f = f' ∧ g = g') && v) := fun h => by rw [decide_eq_false h]; rfl
  refine EvP.ite (fun h1 => ?_) (fun h => EvP.now _ (N (fun z => h z.1)))
  refine EvP.ite (fun h2 => ?_) (fun h => EvP.now _ (N (fun z => h z.2.1)))
  refine EvP.ite (fun h3 => ?_) (fun h => EvP.now _ (N (fun z => h z.2.2.1)))
  refine EvP.ite (fun h4 => ?_) (fun h => EvP.now _ (N (fun z => h (beq_iff_eq.2 z.2.2.2.1))))
  refine EvP.ite (fun h5 => ?_) (fun h => EvP.now _ (N (fun z => h (beq_iff_eq.2 z.2.2.2.2.1))))
  refine EvP.ite (fun h6 => ?_) (fun h => EvP.now _ (N (fun z => h z.2.2.2.2.2.1)))
  refine EvP.ite (fun h7 => ?_) (fun h => EvP.now _ (N (fun z => h z.2.2.2.2.2.2.1)))
  refine EvP.ite (fun h8 => ?_) (fun h => EvP.now _ (N (fun z => h z.2.2.2.2.2.2.2)))
  refine EvP.eq_bind hv (EvP.now _ ?_)
  rw [decide_eq_true ⟨h1, h2, h3, beq_iff_eq.1 h4, beq_iff_eq.1 h5, h6, h7, h8⟩, Bool.true_and]
theorem isNum_val (a : Int) : impl_isNumber.f a = some (decide (0 ≤ a ∧ a ≤ 7)) := by
  unfold impl_isNumber.f; rw [in_val2]; rfl
theorem implFrm_ok (kd sq ak : Int) (po fi : Bool) (sy sg ln : Int) (d : List Int) (hd : d.length ≤ 1048576) :
    EvP (fun k => impl_FrmOk.f k kd sq ak po fi sy sg ln d) (· = frok kd sq ak po fi sy sg ln d) := by
  have E : ∀ b : Bool, (b = true ↔ frok kd sq ak po fi sy sg ln d = true) → b = frok kd sq ak po fi sy sg ln d := fun b h => Bool.eq_iff_iff.2 h
  unfold impl_FrmOk.f
  rw [pieceOk_val _ _ _ (by omega)]
  simp only [isNum_val, in_val2, Option.bind_some, decide_eq_true_eq]
  refine EvP.ite (fun h1 => ?_) (fun h1 => EvP.ite (fun h1b => ?_) (fun h1b => EvP.ite (fun h1c => ?_) (fun h1c => EvP.ite (fun h1d => ?_) (fun h1d => EvP.now _ (E _ (by simp [frok]; omega))))))
  · refine EvP.ite (fun h2 => EvP.ite (fun h3 => EvP.ite (fun h4 => ?_) (fun h4 => EvP.now _ (E _ (by rw [Bool.not_eq_true] at h4; simp [frok, h4]; omega)))) (fun h3 => EvP.now _ (E _ (by simp [frok]; omega)))) (fun h2 => EvP.now _ (E _ (by simp [frok]; omega)))
    refine EvP.eq_bind (same_ok _ _ _ _ _ _ _ _ _ _ _ _ _ _ _ _ _ _ true (equal_ok d hd)) (EvP.now _ (E _ ?_))
    simp only [Bool.and_true, decide_eq_true_eq, frok]
    constructor
    · rintro ⟨_, _, _, hp, _, hs, _, _⟩
      exact .inl ⟨h1, h2, h3, hp.symm, hs.symm, h4⟩
    · rintro (h | h | h | h)
      · exact ⟨trivial, trivial, trivial, h.2.2.2.1.symm, trivial, h.2.2.2.2.1.symm, trivial, trivial⟩
      all_goals omega
  · have fin : ¬ (po = true ∧ fi = true) → (0 ≤ ak ∧ ak ≤ 7) → EvP (fun k => if 0 ≤ sy ∧ sy ≤ 2 then (impl_FrmFrame_same.f k kd 0 ak po fi sy 0 0 [] kd sq ak po fi sy sg ln d).bind fun t => some t else some false) (· = frok kd sq ak po fi sy sg ln d) := by
      intro hpf hak
      refine EvP.ite (fun h5 => ?_) (fun h5 => EvP.now _ (E _ (by simp [frok]; omega)))
      refine EvP.eq_bind (same_ok _ _ _ _ _ _ _ _ _ _ _ _ _ _ _ _ _ _ _ (equal_nil d hd)) (EvP.now _ (E _ ?_))
      simp only [Bool.and_eq_true, decide_eq_true_eq, frok]
      constructor
      · rintro ⟨⟨_, hq, _, _, _, _, hf, hg⟩, hz⟩
        exact .inr (.inl ⟨h1b, hq.symm, hak, hpf, h5, hf.symm, hg.symm, hz⟩)
      · rintro (h | h | h | h)
        · omega
        · exact ⟨⟨trivial, h.2.1.symm, trivial, trivial, trivial, trivial, h.2.2.2.2.2.1.symm, h.2.2.2.2.2.2.1.symm⟩, h.2.2.2.2.2.2.2⟩
        all_goals omega
    refine EvP.ite (fun h2 => ?_) (fun h2 => EvP.now _ (E _ (by simp [frok]; omega)))
    refine EvP.ite (fun h4 => EvP.ite (fun h5 => EvP.now _ (E _ ?_)) (fun h5 => fin (fun z => h5 z.2) h2)) (fun h4 => fin (fun z => h4 z.1) h2)
    simp [frok, h4, h5]
    try omega
  · refine EvP.ite (fun h4 => ?_) (fun h4 => EvP.now _ (E _ (by rw [Bool.not_eq_true] at h4; simp [frok, h4]; omega)))
    refine EvP.eq_bind (same_ok _ _ _ _ _ _ _ _ _ _ _ _ _ _ _ _ _ _ true (equal_ok d hd)) (EvP.now _ (E _ ?_))
    simp only [Bool.and_true, decide_eq_true_eq, frok]
    constructor
    · rintro ⟨_, hb, hc, hp, hq, hs, _, _⟩
      exact .inr (.inr (.inl ⟨h1c, hb.symm, hc.symm, hp.symm, hq.symm, hs.symm, h4⟩))
    · rintro (h | h | h | h)
      · omega
      · omega
      · exact ⟨trivial, h.2.1.symm, h.2.2.1.symm, h.2.2.2.1.symm, h.2.2.2.2.1.symm, h.2.2.2.2.2.1.symm, trivial, trivial⟩
      · omega
  · refine EvP.ite (fun h4 => ?_) (fun h4 => EvP.now _ (E _ (by simp [frok]; omega)))
    refine EvP.eq_bind (same_ok _ _ _ _ _ _ _ _ _ _ _ _ _ _ _ _ _ _ _ (equal_nil d hd)) (EvP.now _ (E _ ?_))
    simp only [Bool.and_eq_true, decide_eq_true_eq, frok]
    constructor
    · rintro ⟨⟨_, hb, hc, hp, hq, hs, hf, _⟩, hz⟩
      exact .inr (.inr (.inr ⟨h1d, hb.symm, hc.symm, hp.symm, hq.symm, hs.symm, hf.symm, h4, hz⟩))
    · rintro (h | h | h | h)
      · omega
      · omega
      · omega
      · exact ⟨⟨trivial, h.2.1.symm, h.2.2.1.symm, h.2.2.2.1.symm, h.2.2.2.2.1.symm, h.2.2.2.2.2.1.symm, h.2.2.2.2.2.2.1.symm, trivial⟩, h.2.2.2.2.2.2.2.2⟩
theorem liOk_true : laws_liOk.f = some true := by
  unfold laws_liOk.f impl_CfgOk.f impl_in.f
  decide
theorem frame_j0 {s : List Int} (hs : RdOk s) {p : Int} (hp : 0 ≤ p ∧ p ≤ 10000) (kd sq ak : Int) (po fi : Bool) (sy sg ln : Int) (d : List Int) (hd : d.length ≤ 50) :
    EvP (fun k => spec_l20Frame.j0 k 2 s p kd sq ak po fi sy sg ln d) (fun r => r.2.2.2.2.2.2.2.2.1.length ≤ 100) := by
  refine EvP.up ?_
  simp only [spec_l20Frame.j0]
  refine EvP.bind (odd_ok hs (by omega) 2 (by omega)) ?_
  rintro ⟨b, p1⟩ ⟨h1, h2, _⟩
  simp only at h1 h2 ⊢
  refine EvP.ite (fun _ => ?_) (fun _ => EvP.now _ (by simp only; omega))
  refine EvP.bind (pick_ok hs (by omega) 8) ?_
  rintro ⟨v, p2⟩ ⟨h3, h4, h5⟩
  simp only at h3 h4 h5 ⊢
  have arr : ∀ (n : Int) (hn : 0 < n) (hn2 : n ≤ 100) (y : List Int) (hy : (y.length : Int) = n) (f : Int → Int → Int × Int × Int × Bool × Bool × Int × Int × Int × List Int × Int) (hf : ∀ a b, (f a b).2.2.2.2.2.2.2.2.1.length ≤ 100),
      EvP (fun k => (some y).bind fun y1 => ((spec_l20Rd_pick.f k s p2 n).bind fun bt => (if 0 ≤ bt.1 then (if bt.1 < (y1.length : Int) then some (f (rd y1 bt.1) bt.2) else none) else none))) (fun r => r.2.2.2.2.2.2.2.2.1.length ≤ 100) := by
    intro n hn hn2 y hy f hf
    refine EvP.some_bind (EvP.bind (pick_ok hs (by omega) n) ?_)
    rintro ⟨u, p3⟩ ⟨h6, h7, h8⟩
    simp only at h6 h7 h8 ⊢
    exact EvP.pos h7 (EvP.pos (by omega) (EvP.now _ (hf _ _)))
  refine EvP.ite (fun _ => arr 2 (by omega) (by omega) _ (by simp) (fun a b => (a, sq, ak, po, fi, sy, sg, ln, d, b)) (fun _ _ => by simp only; omega)) (fun _ => ?_)
  refine EvP.ite (fun _ => arr 3 (by omega) (by omega) _ (by simp) (fun a b => (kd, a, ak, po, fi, sy, sg, ln, d, b)) (fun _ _ => by simp only; omega)) (fun _ => ?_)
  refine EvP.ite (fun _ => arr 3 (by omega) (by omega) _ (by simp) (fun a b => (kd, sq, a, po, fi, sy, sg, ln, d, b)) (fun _ _ => by simp only; omega)) (fun _ => ?_)
  refine EvP.ite (fun _ => EvP.now _ (by simp only; omega)) (fun _ => ?_)
  refine EvP.ite (fun _ => arr 3 (by omega) (by omega) _ (by simp) (fun a b => (kd, sq, ak, po, fi, a, sg, ln, d, b)) (fun _ _ => by simp only; omega)) (fun _ => ?_)
  refine EvP.ite (fun _ => arr 4 (by omega) (by omega) _ (by simp) (fun a b => (kd, sq, ak, po, fi, sy, sg, a, d, b)) (fun _ _ => by simp only; omega)) (fun _ => ?_)
  refine EvP.ite (fun _ => EvP.some_bind (EvP.pos (by simp only [List.length_cons, List.length_nil]; omega) (EvP.now _ (by simp only [List.length_append, List.length_cons, List.length_nil]; omega)))) (fun _ => ?_)
  exact arr 3 (by omega) (by omega) _ (by simp) (fun a b => (kd, sq, ak, po, fi, sy, a, ln, d, b)) (fun _ _ => by simp only; omega)
theorem frame_ok {s : List Int} (hs : RdOk s) : EvP (fun k => spec_l20Frame.f k s 0 2) (fun r => r.2.2.2.2.2.2.2.2.1.length ≤ 100) := by
  unfold spec_l20Frame.f
  refine EvP.bind (pick_ok hs (by omega) 4) ?_
  rintro ⟨v, p⟩ ⟨h1, h2, h3⟩
  simp only at h1 h2 h3 ⊢
  refine EvP.ite (fun _ => ?_) (fun _ => EvP.ite (fun _ => ?_) (fun _ => EvP.ite (fun _ => ?_) (fun _ => ?_)))
  · refine EvP.bind (part_ok hs (by omega)) ?_
    rintro ⟨sg, ln, d, q⟩ ⟨g1, g2, _, _, g3, _, _⟩
    simp only at g1 g2 g3 ⊢
    refine EvP.bind (pick_ok hs (by omega) 8) ?_
    rintro ⟨a, q1⟩ ⟨e1, e2, e3⟩
    simp only at e1 e2 e3 ⊢
    refine EvP.bind (pick_ok hs (by omega) 8) ?_
    rintro ⟨b, q2⟩ ⟨f1, f2, f3⟩
    simp only at f1 f2 f3 ⊢
    refine EvP.bind (pick_ok hs (by omega) 9) ?_
    rintro ⟨c, q3⟩ ⟨i1, i2, i3⟩
    simp only at i1 i2 i3 ⊢
    exact frame_j0 hs (by omega) _ _ _ _ _ _ _ _ _ (by omega)
  · refine EvP.bind (pick_ok hs (by omega) 8) ?_
    rintro ⟨a, q1⟩ ⟨e1, e2, e3⟩
    simp only at e1 e2 e3 ⊢
    refine EvP.bind (pick_ok hs (by omega) 3) ?_
    rintro ⟨b, q2⟩ ⟨f1, f2, f3⟩
    simp only at f1 f2 f3 ⊢
    refine EvP.ite (fun _ => ?_) (fun _ => ?_)
    · refine EvP.bind (pick_ok hs (by omega) 3) ?_
      rintro ⟨c, q3⟩ ⟨i1, i2, i3⟩
      simp only at i1 i2 i3 ⊢
      exact frame_j0 hs (by omega) _ _ _ _ _ _ _ _ _ (by simp)
    · refine EvP.bind (pick_ok hs (by omega) 3) ?_
      rintro ⟨c, q3⟩ ⟨i1, i2, i3⟩
      simp only at i1 i2 i3 ⊢
      refine EvP.bind (pick_ok hs (by omega) 3) ?_
      rintro ⟨e, q4⟩ ⟨j1, j2, j3⟩
      simp only at j1 j2 j3 ⊢
      exact frame_j0 hs (by omega) _ _ _ _ _ _ _ _ _ (by simp)
  · refine EvP.bind (part_ok hs (by omega)) ?_
    rintro ⟨sg, ln, d, q⟩ ⟨g1, g2, _, _, g3, _, _⟩
    simp only at g1 g2 g3 ⊢
    exact frame_j0 hs (by omega) _ _ _ _ _ _ _ _ _ (by omega)
  · refine EvP.bind (pick_ok hs (by omega) 9) ?_
    rintro ⟨a, q1⟩ ⟨e1, e2, e3⟩
    simp only at e1 e2 e3 ⊢
    refine EvP.some_bind (EvP.bind (pick_ok hs (by omega) 2) ?_)
    rintro ⟨b, q2⟩ ⟨f1, f2, f3⟩
    simp only at f1 f2 f3 ⊢
    exact EvP.pos f2 (EvP.pos (by simp only [List.length_cons, List.length_nil]; omega) (frame_j0 hs (by omega) _ _ _ _ _ _ _ _ _ (by simp)))
theorem drawFrm_ok (l0 : List Int) (hw : ∀ x ∈ l0, (Lit.int .u8 x).wf = true) : EvP (fun k => spec_DrawFrmOk.f k l0) (fun r => r.2.2.2.2.2.2.2.2.length ≤ 100) := by
  unfold spec_DrawFrmOk.f
  obtain ⟨s, e, hs⟩ := open_ok l0 hw
  refine EvP.val_bind e (EvP.bind (frame_ok hs) ?_)
  intro r hr
  exact EvP.now _ hr
theorem FnFrmOk : laws_FnFrmOk.Pure := by
  intro l0 _ _ hw
  refine EvP.rounds ?_
  unfold laws_FnFrmOk.f
  refine EvP.ite (fun _ => EvP.now _ rfl) (fun _ => ?_)
  refine EvP.bind (drawFrm_ok l0 hw) ?_
  rintro ⟨kd, sq, ak, po, fi, sy, sg, ln, d⟩ hd
  simp only at hd ⊢
  refine EvP.eq_bind (implFrm_ok kd sq ak po fi sy sg ln d (by omega)) (EvP.eq_bind (specFrm_ok kd sq ak po fi sy sg ln d (by omega)) (EvP.neg (by simp) (EvP.pos (by omega) ?_)))
  have h9 : frok kd sq ak po fi sy sg ln (List.replicate 9 0) = false := by
    unfold frok pok
    simp only [List.length_replicate, decide_eq_true_eq, decide_eq_false_iff_not]
    omega
  have i9 := implFrm_ok kd sq ak po fi sy sg ln (List.replicate 9 0) (by simp)
  rw [h9] at i9
  refine EvP.eq_bind i9 (EvP.neg (by simp) ?_)
  rw [liOk_true]
  refine EvP.ite (fun hk => ?_) (fun _ => EvP.now _ rfl)
  unfold frok at hk
  rw [decide_eq_true_eq] at hk
  have hr : kd ≤ 4 ∧ 1 ≤ kd := by omega
  have fin : EvP (fun k => if kd ≥ 1 then some (decide (kd ≤ 4)) else some false) (· = true) := EvP.pos (by omega) (EvP.now _ (decide_eq_true hr.1))
  have tail : EvP (fun k => if po = true then (if fi = true then some false else (if kd = 2 then (if kd ≥ 1 then some (decide (kd ≤ 4)) else some false) else some false)) else (if kd ≥ 1 then some (decide (kd ≤ 4)) else some false)) (· = true) := by
    refine EvP.ite (fun hp => ?_) (fun _ => fin)
    rw [hp] at hk
    simp only [Bool.true_eq_false, false_and, and_false, false_or, or_false, true_and] at hk
    exact EvP.neg (fun z => hk.2.2.2.1 z) (EvP.pos hk.1 fin)
  refine EvP.ite (fun h3 => ?_) (fun _ => tail)
  have hz : wrap64 ((wrap64 (sq + ak)) + sy) = 0 := by
    have : sq = 0 ∧ ak = 0 ∧ sy = 0 := by omega
    have w0 : wrap64 0 = 0 := wrap64_id (by omega) (by omega)
    rw [this.1, this.2.1, this.2.2]
    simp [w0]
  exact EvP.pos hz tail

end Go.Proofs.Ytoigmeiollfklaa.Pure
