/- The law FnSegCut: pieces are a message, one behind the other. No condition. -/
import Derived.Test.YteknaofnageihaaQFnSegCutx6
namespace Go.Proofs.Yteknaofnageihaa.Pure
open Go.RowKit Go.Proofs.Yteknaofnageihaa.QFnSegCut Go.Proofs.YteknaofnageihaaW.PrintWords Go.Proofs.YteknaofnageihaaW.PrintLast Go.Proofs.YteknaofnageihaaW.PrintMore
set_option linter.unusedVariables false
set_option linter.unusedSimpArgs false

/-! A small calculus: with enough rounds g comes to something of which Q holds. -/
def EvP {α : Type} (g : Nat → Option α) (Q : α → Prop) : Prop := ∃ r, Ev g r ∧ Q r
theorem EvP.now {α : Type} {Q : α → Prop} (r : α) (h : Q r) : EvP (fun _ => some r) Q := ⟨r, Ev.now r, h⟩
theorem EvP.here {α : Type} {o : Option α} {Q : α → Prop} (r : α) (e : o = some r) (h : Q r) : EvP (fun _ => o) Q := by subst e; exact EvP.now r h
theorem EvP.of {α : Type} {g : Nat → Option α} {Q : α → Prop} (K : Nat) (h : ∃ r, (∀ k, K ≤ k → g k = some r) ∧ Q r) : EvP g Q := by
  obtain ⟨r, h1, h2⟩ := h
  exact ⟨r, ⟨K, h1⟩, h2⟩
theorem EvP.bind {α β : Type} {g : Nat → Option α} {f : Nat → α → Option β} {P : α → Prop} {Q : β → Prop} (h : EvP g P) (k : ∀ a, P a → EvP (fun n => f n a) Q) : EvP (fun n => (g n).bind (f n)) Q := by
  obtain ⟨a, ha, hp⟩ := h
  obtain ⟨r, hr, hq⟩ := k a hp
  exact ⟨r, Ev.bind ha hr, hq⟩
theorem EvP.some_bind {α β : Type} {a : α} {f : Nat → α → Option β} {Q : β → Prop} (k : EvP (fun n => f n a) Q) : EvP (fun n => (some a).bind (f n)) Q := k
theorem EvP.step {α : Type} {g f : Nat → Option α} {Q : α → Prop} (h : ∀ k, g (k + 1) = f k) (k : EvP f Q) : EvP g Q := by
  obtain ⟨r, hr, hq⟩ := k
  exact ⟨r, Ev.step h hr, hq⟩
theorem EvP.congr {α : Type} {g f : Nat → Option α} {Q : α → Prop} (h : ∀ k, g k = f k) (k : EvP f Q) : EvP g Q := by
  obtain ⟨r, hr, hq⟩ := k
  exact ⟨r, Ev.congr h hr, hq⟩
theorem EvP.mono {α : Type} {g : Nat → Option α} {P Q : α → Prop} (h : EvP g P) (k : ∀ a, P a → Q a) : EvP g Q := by
  obtain ⟨r, hr, hp⟩ := h
  exact ⟨r, hr, k r hp⟩
theorem EvP.ite {α : Type} {c : Prop} [Decidable c] {f g : Nat → Option α} {Q : α → Prop} (h1 : c → EvP f Q) (h2 : ¬ c → EvP g Q) : EvP (fun k => if c then f k else g k) Q := by
  by_cases hc : c
  · simp only [if_pos hc]; exact h1 hc
  · simp only [if_neg hc]; exact h2 hc
theorem EvP.pos {α : Type} {c : Prop} [Decidable c] {f g : Nat → Option α} {Q : α → Prop} (hc : c) (h : EvP f Q) : EvP (fun k => if c then f k else g k) Q := by
  simp only [if_pos hc]; exact h
theorem EvP.neg {α : Type} {c : Prop} [Decidable c] {f g : Nat → Option α} {Q : α → Prop} (hc : ¬ c) (h : EvP g Q) : EvP (fun k => if c then f k else g k) Q := by
  simp only [if_neg hc]; exact h
theorem EvP.rounds {α : Type} {g : Nat → Option α} {r : α} (h : EvP g (· = r)) : ∃ k, g k = some r := by
  obtain ⟨q, hq, rfl⟩ := h
  exact hq.rounds
theorem EvP.up {α : Type} {g : Nat → Option α} {Q : α → Prop} (h : EvP (fun k => g (k + 1)) Q) : EvP g Q := EvP.step (fun _ => rfl) h
theorem EvP.val_bind {α β : Type} {o : Option α} {a : α} {f : Nat → α → Option β} {Q : β → Prop} (e : o = some a) (k : EvP (fun n => f n a) Q) : EvP (fun n => o.bind (f n)) Q := by subst e; exact k
theorem EvP.eq_bind {α β : Type} {g : Nat → Option α} {f : Nat → α → Option β} {a : α} {Q : β → Prop} (h : EvP g (· = a)) (k : EvP (fun n => f n a) Q) : EvP (fun n => (g n).bind (f n)) Q := EvP.bind h (fun _ e => by subst e; exact k)
/-! The reader of a code: whatever it picks lies in bounds. -/
def RdOk (s : List Int) : Prop := s.length ≤ 2000 ∧ ∀ x ∈ s, 0 ≤ x ∧ x ≤ 255
theorem rd_range {s : List Int} (h : RdOk s) (i : Int) : 0 ≤ rd s i ∧ rd s i ≤ 255 := by
  unfold rd
  rw [List.getD_eq_getElem?_getD]
  cases e : s[i.toNat]? with
  | none => simp
  | some x => exact h.2 x (List.mem_of_getElem? e)
theorem wrap64_id {x : Int} (h : -9223372036854775808 ≤ x) (h2 : x ≤ 9223372036854775807) : wrap64 x = x := by unfold wrap64; omega
theorem xor_nonneg (a b : Int) (ha : 0 ≤ a) (ha2 : a < 9223372036854775808) (hb : 0 ≤ b) (hb2 : b < 9223372036854775808) : 0 ≤ Go.bits .xor .i64 a b := by
  obtain ⟨m, rfl⟩ := Int.eq_ofNat_of_zero_le ha
  obtain ⟨n, rfl⟩ := Int.eq_ofNat_of_zero_le hb
  have hm : m < 2 ^ 63 := by omega
  have hn : n < 2 ^ 63 := by omega
  have hx := Nat.xor_lt_two_pow hm hn
  have h1 : m % 2 ^ 64 = m := Nat.mod_eq_of_lt (by omega)
  have h2 : n % 2 ^ 64 = n := Nat.mod_eq_of_lt (by omega)
  have h3 : (BitVec.ofNat 64 m ^^^ BitVec.ofNat 64 n).toNat = m ^^^ n := by rw [BitVec.toNat_xor, BitVec.toNat_ofNat, BitVec.toNat_ofNat, h1, h2]
  have h4 : Go.bits .xor .i64 (m : Int) (n : Int) = IntKind.i64.wrap ((BitVec.ofNat 64 m ^^^ BitVec.ofNat 64 n).toNat) := rfl
  rw [h4, h3, IntKind.wrap_i64]
  omega
theorem tmod_range (a n : Int) (ha : 0 ≤ a) (hn : 0 < n) : 0 ≤ Int.tmod a n ∧ Int.tmod a n < n := by
  rw [Int.tmod_eq_emod_of_nonneg ha]
  exact ⟨Int.emod_nonneg _ (by omega), Int.emod_lt_of_pos _ hn⟩
theorem tdiv_range (a n : Int) (ha : 0 ≤ a) (hn : 0 < n) : 0 ≤ Int.tdiv a n ∧ Int.tdiv a n ≤ a := by
  rw [Int.tdiv_eq_ediv_of_nonneg ha]
  exact ⟨Int.ediv_nonneg ha (by omega), Int.ediv_le_self _ ha⟩
theorem pick_rounds (s : List Int) (hs : RdOk s) (p n : Int) (hp : 0 ≤ p) (hp2 : p ≤ 1000000) : ∃ v, (∀ k, spec_l20Rd_pick.f (k + 1) s p n = some (v, p + 1)) ∧ 0 ≤ v ∧ (v < n ∨ v = 0 ∧ n < 1) := by
  have hw : wrap64 (p + 1) = p + 1 := wrap64_id (by omega) (by omega)
  by_cases h1 : n < 1
  · exact ⟨0, fun k => by unfold spec_l20Rd_pick.f; rw [if_pos h1, hw]; simp [spec_l20Rd_pick.j0], by omega, .inr ⟨rfl, h1⟩⟩
  · by_cases h2 : (s.length : Int) = 0
    · refine ⟨0, fun k => ?_, by omega, .inl (by omega)⟩
      unfold spec_l20Rd_pick.f
      rw [if_neg h1, hw, h2]
      simp [spec_l20Rd_pick.j0]
    · have hlen := hs.1
      have hb : ((s.length : Int) == 0) = false := beq_eq_false_iff_ne.mpr h2
      have hw2 : wrap64 (p + 1 - 1) = p := by rw [wrap64_id (by omega) (by omega)]; omega
      by_cases h3 : p < (s.length : Int)
      · have hr := rd_range hs p
        have hw3 : wrap64 (rd s p) = rd s p := wrap64_id (by omega) (by omega)
        have ht := tmod_range (rd s p) n hr.1 (by omega)
        refine ⟨Int.tmod (rd s p) n, fun k => ?_, ht.1, .inl ht.2⟩
        unfold spec_l20Rd_pick.f
        rw [if_neg h1, hw, hb]
        simp only [spec_l20Rd_pick.j0, hw2, hw3]
        rw [if_neg (by decide), if_pos h3, if_pos hp, if_neg (by omega)]
      · have t1 := tmod_range p s.length hp (by omega)
        have w1 : wrap64 (p * 7) = p * 7 := wrap64_id (by omega) (by omega)
        have w2 : wrap64 (p * 7 + 3) = p * 7 + 3 := wrap64_id (by omega) (by omega)
        have t2 := tmod_range (p * 7 + 3) s.length (by omega) (by omega)
        have r1 := rd_range hs (Int.tmod p s.length)
        have r2 := rd_range hs (Int.tmod (p * 7 + 3) s.length)
        have t3 := tdiv_range p s.length hp (by omega)
        generalize e1 : rd s (Int.tmod p s.length) = a at r1
        generalize e2 : rd s (Int.tmod (p * 7 + 3) s.length) = b at r2
        generalize e3 : Int.tdiv p s.length = q at t3
        have v1 : wrap64 (wrap64 (wrap64 (wrap64 (wrap64 a * 131) + wrap64 (wrap64 b * 1117)) + wrap64 (p * 29)) + wrap64 (wrap64 q * 53)) = a * 131 + b * 1117 + p * 29 + q * 53 := by
          rw [wrap64_id (x := a) (by omega) (by omega), wrap64_id (x := b) (by omega) (by omega), wrap64_id (x := q) (by omega) (by omega), wrap64_id (x := a * 131) (by omega) (by omega), wrap64_id (x := b * 1117) (by omega) (by omega), wrap64_id (x := p * 29) (by omega) (by omega), wrap64_id (x := q * 53) (by omega) (by omega), wrap64_id (x := a * 131 + b * 1117) (by omega) (by omega), wrap64_id (x := a * 131 + b * 1117 + p * 29) (by omega) (by omega), wrap64_id (by omega) (by omega)]
        generalize e4 : a * 131 + b * 1117 + p * 29 + q * 53 = z at v1
        have hz : 0 ≤ z ∧ z ≤ 1000000000 := by omega
        have t4 := tdiv_range z 64 hz.1 (by omega)
        have v2 : wrap64 (Int.tdiv z 64) = Int.tdiv z 64 := wrap64_id (by omega) (by omega)
        have hx := xor_nonneg z (Int.tdiv z 64) hz.1 (by omega) t4.1 (by omega)
        have ht := tmod_range _ n hx (by omega)
        refine ⟨_, fun k => ?_, ht.1, .inl ht.2⟩
        unfold spec_l20Rd_pick.f
        rw [if_neg h1, hw, hb]
        simp only [spec_l20Rd_pick.j0, hw2, w1, w2, e1, e2, e3, v1, v2]
        rw [if_neg (by decide), if_neg h3, if_neg h2, if_pos t1.1, if_pos t1.2, if_pos t2.1, if_pos t2.2, if_neg (by omega)]
theorem pick_ok {s : List Int} (hs : RdOk s) {p : Int} (hp : 0 ≤ p ∧ p ≤ 1000000) (n : Int) : EvP (fun k => spec_l20Rd_pick.f k s p n) fun r => r.2 = p + 1 ∧ 0 ≤ r.1 ∧ (r.1 < n ∨ r.1 = 0 ∧ n < 1) := by
  obtain ⟨v, h1, h2⟩ := pick_rounds s hs p n hp.1 hp.2
  exact ⟨(v, p + 1), ⟨1, fun k hk => by obtain ⟨m, rfl⟩ : ∃ m, k = m + 1 := ⟨k - 1, by omega⟩; exact h1 m⟩, rfl, h2⟩
theorem open_ok (l : List Int) (hw : ∀ x ∈ l, (Lit.int .u8 x).wf = true) : ∃ s, spec_l20Open.f l = some (s, 0) ∧ RdOk s := by
  have hb : ∀ x ∈ l, 0 ≤ x ∧ x ≤ 255 := fun x hx => by
    have h := hw x hx
    simp [Lit.wf, IntKind.min, IntKind.max, IntKind.signed, IntKind.bits] at h
    omega
  unfold spec_l20Open.f
  by_cases h : (l.length : Int) > 2000
  · rw [if_pos h, if_pos (by omega)]
    exact ⟨l.take 2000, rfl, List.length_take_le _ _, fun x hx => hb x (List.mem_of_mem_take hx)⟩
  · rw [if_neg h]
    exact ⟨l, rfl, by omega, hb⟩
theorem three {v : Int} (h : 0 ≤ v) (h2 : v < 3 ∨ v = 0 ∧ (3 : Int) < 1) : v = 0 ∨ v = 1 ∨ v = 2 := by omega
theorem two {v : Int} (h : 0 ≤ v) (h2 : v < 2 ∨ v = 0 ∧ (2 : Int) < 1) : v = 0 ∨ v = 1 := by omega
theorem rd0 (a : Int) (l : List Int) : rd (a :: l) 0 = a := rfl
theorem rd1 (a b : Int) (l : List Int) : rd (a :: b :: l) 1 = b := rfl
theorem rd2 (a b c : Int) (l : List Int) : rd (a :: b :: c :: l) 2 = c := rfl
def ByteL (l : List Int) : Prop := ∀ x ∈ l, 0 ≤ x ∧ x ≤ 255
theorem bytes_loop {s : List Int} (hs : RdOk s) (d : Nat) : ∀ (out : List Int) (p : Int), ByteL out → out.length + d ≤ 100000 → 0 ≤ p → p + 3 * d ≤ 900000 →
    EvP (fun k => spec_l20Bytes.l0 k out (d : Int) s p) fun r => r.2 = p + 3 * d ∧ ByteL r.1 ∧ r.1.length = out.length + d := by
  induction d with
  | zero =>
    intro out p hb hl hp hp2
    refine EvP.up ?_
    simp only [spec_l20Bytes.l0]
    exact EvP.neg (by omega) (EvP.now _ ⟨by simp, hb, by simp⟩)
  | succ d ih =>
    intro out p hb hl hp hp2
    refine EvP.up ?_
    simp only [spec_l20Bytes.l0]
    refine EvP.pos (by omega) ?_
    refine EvP.bind (pick_ok hs (by omega) 256) ?_
    rintro ⟨v1, p1⟩ ⟨h1, h2, h3⟩
    simp only at h1 h2 h3 ⊢; subst h1
    refine EvP.bind (pick_ok hs (by omega) 4) ?_
    rintro ⟨v2, p2⟩ ⟨g1, g2, g3⟩
    simp only at g1 g2 g3 ⊢; subst g1
    refine EvP.some_bind ?_
    refine EvP.bind (pick_ok hs (by omega) 3) ?_
    rintro ⟨v3, p3⟩ ⟨q1, q2, q3⟩
    simp only at q1 q2 q3 ⊢; subst q1
    refine EvP.pos q2 (EvP.pos (by simp; omega) (EvP.pos (by omega) ?_))
    have hw : wrap64 (((d + 1 : Nat) : Int) - 1) = (d : Int) := by rw [wrap64_id (by omega) (by omega)]; omega
    rw [hw]
    refine EvP.mono (ih (out ++ [rd [v1, v2, 255] v3 % 256]) (p + 1 + 1 + 1) ?_ (by simp; omega) (by omega) (by omega)) ?_
    · intro x hx
      rcases List.mem_append.1 hx with h | h
      · exact hb x h
      · rw [List.mem_singleton] at h; omega
    · rintro ⟨r1, r2⟩ ⟨h1, h2, h3⟩
      simp only at h1 h2 h3 ⊢
      refine ⟨by omega, h2, ?_⟩
      rw [h3, List.length_append, List.length_singleton]; omega
theorem bytes_ok {s : List Int} (hs : RdOk s) {p : Int} (n : Int) (hn : 0 ≤ n) (hn2 : n ≤ 10000) (hp : 0 ≤ p ∧ p ≤ 500000) :
    EvP (fun k => spec_l20Bytes.f k s p n) fun r => p + 1 ≤ r.2 ∧ r.2 ≤ p + 1 + 3 * n ∧ ByteL r.1 ∧ (r.1.length : Int) ≤ n := by
  unfold spec_l20Bytes.f
  rw [wrap64_id (x := n + 1) (by omega) (by omega)]
  refine EvP.bind (pick_ok hs (by omega) (n + 1)) ?_
  rintro ⟨v, q⟩ ⟨h1, h2, h3⟩
  simp only at h1 h2 h3 ⊢; subst h1
  obtain ⟨d, rfl⟩ := Int.eq_ofNat_of_zero_le h2
  refine EvP.mono (bytes_loop hs d [] (p + 1) (fun x hx => by simp at hx) (by simp; omega) (by omega) (by omega)) ?_
  rintro ⟨r1, r2⟩ ⟨h1, h2, h3⟩
  simp only at h1 h2 h3 ⊢
  simp only [List.length_nil, Nat.zero_add] at h3
  exact ⟨by omega, by omega, h2, by omega⟩
theorem drawCut_ok (l0 : List Int) (hw : ∀ x ∈ l0, (Lit.int .u8 x).wf = true) : EvP (fun k => spec_DrawSegCut.f k l0) fun r => (r.1.length : Int) ≤ 26 ∧ 0 ≤ r.2 ∧ r.2 ≤ 9 ∧ ByteL r.1 := by
  unfold spec_DrawSegCut.f
  obtain ⟨s, e, hs⟩ := open_ok l0 hw
  refine EvP.val_bind e ?_
  refine EvP.bind (bytes_ok hs 26 (by omega) (by omega) (by omega)) ?_
  rintro ⟨d, p⟩ ⟨h1, h2, h3, h4⟩
  simp only at h1 h2 h3 h4 ⊢
  refine EvP.bind (pick_ok hs (by omega) 8) ?_
  rintro ⟨v, q⟩ ⟨h5, h6, h7⟩
  simp only at h5 h6 h7 ⊢
  rw [wrap64_id (x := 1 + v) (by omega) (by omega)]
  refine EvP.some_bind (EvP.some_bind (EvP.bind (pick_ok hs (by omega) 6) ?_))
  rintro ⟨u, q2⟩ ⟨h8, h9, h10⟩
  simp only at h8 h9 h10 ⊢
  have hu : u = 0 ∨ u = 1 ∨ u = 2 ∨ u = 3 ∨ u = 4 ∨ u = 5 := by omega
  have fin : ∀ x : Int, 0 ≤ x → x < 3 → 0 ≤ rd [1 + v, 0, 9] x ∧ rd [1 + v, 0, 9] x ≤ 9 := by
    intro x hx hx2
    have : x = 0 ∨ x = 1 ∨ x = 2 := by omega
    rcases this with rfl | rfl | rfl
    · rw [rd0]; omega
    · rw [rd1]; omega
    · rw [rd2]; omega
  have rr : 0 ≤ rd [0, 0, 0, 0, 1, 2] u ∧ rd [0, 0, 0, 0, 1, 2] u < 3 := by
    rcases hu with rfl | rfl | rfl | rfl | rfl | rfl <;> decide
  refine EvP.pos h9 (EvP.pos (by simp only [List.length_cons, List.length_nil]; omega) (EvP.pos rr.1 (EvP.pos (by simp only [List.length_cons, List.length_nil]; omega) (EvP.now _ ⟨h4, ?_, ?_, h3⟩))))
  · exact (fin _ rr.1 rr.2).1
  · exact (fin _ rr.1 rr.2).2
def jok (len : Int) (got : List Int) : Bool := if len = 0 ∧ got.length = 0 then true else decide (2 ≤ len ∧ len ≤ 24 ∧ 1 ≤ (got.length : Int) ∧ (got.length : Int) ≤ len - 1)
theorem joinOk_val (len : Int) (got : List Int) : impl_JoinOk.f len got = some (jok len got) := by
  unfold impl_JoinOk.f impl_in.f jok
  by_cases h0 : len = 0
  · subst h0
    by_cases h1 : (got.length : Int) = 0
    · have : got.length = 0 := by omega
      simp [this]
    · have : ¬ got.length = 0 := by omega
      simp [this]
  · rw [if_neg h0, if_neg (fun h : len = 0 ∧ got.length = 0 => h0 h.1)]
    by_cases h1 : len ≥ 2
    · by_cases h2 : len ≤ 24
      · have hw : wrap64 (len - 1) = len - 1 := by unfold wrap64; omega
        rw [if_pos h1, decide_eq_true h2, hw]
        simp only [Option.bind_some, if_true]
        by_cases h3 : (got.length : Int) ≥ 1
        · rw [if_pos h3]
          simp only [Option.bind_some, Option.some.injEq, decide_eq_decide]
          omega
        · rw [if_neg h3]
          simp only [Option.bind_some, Option.some.injEq]
          exact (decide_eq_false (by omega)).symm
      · rw [if_pos h1, decide_eq_false h2]
        simp only [Option.bind_some, Option.some.injEq, Bool.false_eq_true, if_false]
        exact (decide_eq_false (by omega)).symm
    · rw [if_neg h1]
      simp only [Option.bind_some, Option.some.injEq, Bool.false_eq_true, if_false]
      exact (decide_eq_false (by omega)).symm
/-! A piece is ok. -/
def pok (seg len : Int) (l : List Int) : Bool := decide ((seg = 0 ∧ (l.length : Int) ≤ 8 ∧ len = (l.length : Int)) ∨ (seg = 1 ∧ 1 ≤ (l.length : Int) ∧ (l.length : Int) ≤ 8 ∧ (l.length : Int) + 1 ≤ len ∧ len ≤ 24) ∨ ((seg = 2 ∨ seg = 3) ∧ 1 ≤ (l.length : Int) ∧ (l.length : Int) ≤ 8 ∧ len = 0))
theorem in_val2 (a lo hi : Int) : impl_in.f a lo hi = some (decide (lo ≤ a ∧ a ≤ hi)) := by
  unfold impl_in.f
  by_cases h : a ≥ lo
  · rw [if_pos h]; simp only [Option.some.injEq, decide_eq_decide]; omega
  · rw [if_neg h]; simp only [Option.some.injEq]; exact (decide_eq_false (by omega)).symm
theorem pieceOk_val (seg len : Int) (l : List Int) (hl : l.length ≤ 281474976710656) : impl_pieceOk.f seg len l = some (pok seg len l) := by
  unfold impl_pieceOk.f pok
  simp only [in_val2, Option.bind_some, decide_eq_true_eq]
  rw [wrap64_id (x := (l.length : Int) + 1) (by omega) (by omega)]
  by_cases h0 : seg = 0
  · rw [if_pos h0]
    by_cases h1 : (l.length : Int) ≤ 8
    · rw [if_pos h1]
      rw [Option.some.injEq, Bool.eq_iff_iff, beq_iff_eq, decide_eq_true_eq]; omega
    · rw [if_neg h1, Option.some.injEq]; exact (decide_eq_false (by omega)).symm
  · rw [if_neg h0]
    by_cases h1 : seg = 1
    · rw [if_pos h1]
      by_cases h2 : 1 ≤ (l.length : Int) ∧ (l.length : Int) ≤ 8
      · rw [if_pos h2, Option.some.injEq, decide_eq_decide]; omega
      · rw [if_neg h2, Option.some.injEq]; exact (decide_eq_false (by omega)).symm
    · rw [if_neg h1]
      by_cases h3 : seg = 2
      · rw [if_pos h3]
        by_cases h2 : 1 ≤ (l.length : Int) ∧ (l.length : Int) ≤ 8
        · rw [if_pos h2, Option.some.injEq, Bool.eq_iff_iff, beq_iff_eq, decide_eq_true_eq]; omega
        · rw [if_neg h2, Option.some.injEq]; exact (decide_eq_false (by omega)).symm
      · rw [if_neg h3]
        by_cases h4 : seg = 3
        · rw [if_pos h4]
          by_cases h2 : 1 ≤ (l.length : Int) ∧ (l.length : Int) ≤ 8
          · rw [if_pos h2, Option.some.injEq, Bool.eq_iff_iff, beq_iff_eq, decide_eq_true_eq]; omega
          · rw [if_neg h2, Option.some.injEq]; exact (decide_eq_false (by omega)).symm
        · rw [if_neg h4, Option.some.injEq]; exact (decide_eq_false (by omega)).symm
theorem partOk_val (seg len : Int) (l : List Int) (hl : l.length ≤ 281474976710656) : impl_PartOk.f seg len l = some (pok seg len l) := by
  unfold impl_PartOk.f
  rw [pieceOk_val seg len l hl]
  rfl
def putV (len : Int) (got : List Int) (seg plen : Int) (data : List Int) : Int × List Int × List Int × Int :=
  if seg = 0 ∧ len = 0 then (0, [], got ++ data, 2) else if seg = 1 ∧ len = 0 then (plen, got ++ data, [], 1) else if seg = 2 ∧ len > 0 ∧ ((got ++ data).length : Int) < len then (len, got ++ data, [], 1) else if seg = 3 ∧ len > 0 ∧ ((got ++ data).length : Int) = len then (0, [], got ++ data, 2) else (0, [], [], 3)
def segPutV (len : Int) (got : List Int) (seg plen : Int) (data : List Int) : Int × List Int × List Int × Int :=
  if jok len got = true ∧ pok seg plen data = true then putV len got seg plen data else (0, [], [], 0)
theorem cloneb_val (l : List Int) (h : l.length ≤ 1000000) : impl_clone_byte.f l = some l := by
  unfold impl_clone_byte.f
  rw [if_pos (by omega)]
theorem put_j2 (all : List Int) (b : Bool) (len : Int) (got : List Int) (seg plen : Int) (data : List Int) :
    EvP (fun k => impl_SegJoin_put.j2 k all b len got seg plen data) (· = if b = true then (len, all, [], 1) else if seg = 3 ∧ len > 0 ∧ (all.length : Int) = len then (0, [], all, 2) else (0, [], [], 3)) := by
  refine EvP.up ?_
  simp only [impl_SegJoin_put.j2]
  refine EvP.ite (fun h => EvP.now _ (by rw [if_pos h])) (fun h => ?_)
  rw [if_neg h]
  refine EvP.ite (fun h1 => ?_) (fun h1 => EvP.now _ (by rw [if_neg (fun z => h1 z.1)]))
  refine EvP.ite (fun h2 => ?_) (fun h2 => EvP.now _ (by rw [if_neg (fun z => h2 z.2.1)]))
  exact EvP.ite (fun h3 => EvP.now _ (by rw [if_pos ⟨h1, h2, h3⟩])) (fun h3 => EvP.now _ (by rw [if_neg (fun z => h3 z.2.2)]))
theorem put_j1 (all : List Int) (b : Bool) (len : Int) (got : List Int) (seg plen : Int) (data : List Int) :
    EvP (fun k => impl_SegJoin_put.j1 k all b len got seg plen data) (· = if b = true then (plen, all, [], 1) else if seg = 2 ∧ len > 0 ∧ (all.length : Int) < len then (len, all, [], 1) else if seg = 3 ∧ len > 0 ∧ (all.length : Int) = len then (0, [], all, 2) else (0, [], [], 3)) := by
  refine EvP.up ?_
  simp only [impl_SegJoin_put.j1]
  refine EvP.ite (fun h => EvP.now _ (by rw [if_pos h])) (fun h => ?_)
  rw [if_neg h]
  refine EvP.ite (fun h1 => ?_) (fun h1 => (put_j2 _ _ _ _ _ _ _).mono (fun r hr => by rw [hr, if_neg (by simp), if_neg (c := seg = 2 ∧ _) (fun z => h1 z.1)]))
  refine EvP.ite (fun h2 => ?_) (fun h2 => (put_j2 _ _ _ _ _ _ _).mono (fun r hr => by rw [hr, if_neg (by simp), if_neg (c := seg = 2 ∧ _) (fun z => h2 z.2.1)]))
  refine (put_j2 _ _ _ _ _ _ _).mono (fun r hr => ?_)
  rw [hr]
  by_cases h3 : (all.length : Int) < len
  · rw [if_pos (decide_eq_true h3), if_pos ⟨h1, h2, h3⟩]
  · rw [if_neg (by rw [decide_eq_false h3]; simp), if_neg (c := seg = 2 ∧ _) (fun z => h3 z.2.2)]
theorem put_j0 (all : List Int) (b : Bool) (len : Int) (got : List Int) (seg plen : Int) (data : List Int) :
    EvP (fun k => impl_SegJoin_put.j0 k all b len got seg plen data) (· = if b = true then (0, [], all, 2) else if seg = 1 ∧ len = 0 then (plen, all, [], 1) else if seg = 2 ∧ len > 0 ∧ (all.length : Int) < len then (len, all, [], 1) else if seg = 3 ∧ len > 0 ∧ (all.length : Int) = len then (0, [], all, 2) else (0, [], [], 3)) := by
  refine EvP.up ?_
  simp only [impl_SegJoin_put.j0]
  refine EvP.ite (fun h => EvP.now _ (by rw [if_pos h])) (fun h => ?_)
  rw [if_neg h]
  refine EvP.ite (fun h1 => ?_) (fun h1 => (put_j1 _ _ _ _ _ _ _).mono (fun r hr => by rw [hr, if_neg (by simp), if_neg (c := seg = 1 ∧ _) (fun z => h1 z.1)]))
  refine (put_j1 _ _ _ _ _ _ _).mono (fun r hr => ?_)
  rw [hr]
  by_cases h3 : len = 0
  · rw [if_pos (beq_iff_eq.2 h3), if_pos ⟨h1, h3⟩]
  · rw [if_neg (by rw [beq_eq_false_iff_ne.2 h3]; simp), if_neg (c := seg = 1 ∧ _) (fun z => h3 z.2)]
theorem put_ok (len : Int) (got : List Int) (seg plen : Int) (data : List Int) (hg : got.length ≤ 500000) (hd : data.length ≤ 500000) :
    EvP (fun k => impl_SegJoin_put.f k len got seg plen data) (· = putV len got seg plen data) := by
  unfold impl_SegJoin_put.f putV
  rw [cloneb_val got (by omega)]
  refine EvP.some_bind (EvP.pos (by omega) ?_)
  rw [cloneb_val _ (by rw [List.length_append]; omega)]
  refine EvP.some_bind (EvP.ite (fun h1 => ?_) (fun h1 => (put_j0 _ _ _ _ _ _ _).mono (fun r hr => by rw [hr, if_neg (by simp), if_neg (c := seg = 0 ∧ _) (fun z => h1 z.1)])))
  refine (put_j0 _ _ _ _ _ _ _).mono (fun r hr => ?_)
  rw [hr]
  by_cases h3 : len = 0
  · rw [if_pos (beq_iff_eq.2 h3), if_pos ⟨h1, h3⟩]
  · rw [if_neg (by rw [beq_eq_false_iff_ne.2 h3]; simp), if_neg (c := seg = 0 ∧ _) (fun z => h3 z.2)]
theorem segPut_ok (len : Int) (got : List Int) (seg plen : Int) (data : List Int) (hg : got.length ≤ 500000) (hd : data.length ≤ 500000) :
    EvP (fun k => impl_SegPut.f k len got seg plen data) (· = segPutV len got seg plen data) := by
  unfold impl_SegPut.f segPutV
  rw [joinOk_val]
  refine EvP.some_bind (EvP.ite (fun h1 => ?_) (fun h1 => EvP.now _ (by rw [if_neg (fun z => h1 z.1)])))
  rw [partOk_val _ _ _ (by omega)]
  refine EvP.some_bind (EvP.ite (fun h2 => ?_) (fun h2 => EvP.now _ (by rw [if_neg (fun z => h2 z.2)])))
  rw [if_pos ⟨h1, h2⟩]
  exact EvP.eq_bind (put_ok len got seg plen data hg hd) (EvP.now _ rfl)
theorem segPutV_bound (len : Int) (got : List Int) (seg plen : Int) (data : List Int) : (segPutV len got seg plen data).2.1.length ≤ got.length + data.length := by
  unfold segPutV putV
  repeat' split
  all_goals simp only [List.length_append, List.length_nil]; omega
def pieceAt (s : List Int) (m j : Nat) : S39 := ⟨if j = 0 then 1 else if (j + 1) * m ≥ s.length then 3 else 2, if j = 0 then (s.length : Int) else 0, (s.take (min s.length (j * m + m))).drop (j * m)⟩
def pieceN (n m : Nat) : Nat := (n + m - 1) / m
def segL (s : List Int) (m : Nat) : List S39 := if s.length ≤ m then [⟨0, s.length, s⟩] else (List.range (pieceN s.length m)).map (pieceAt s m)
def segB (n a : Int) : Bool := decide (n ≤ 24) && decide (1 ≤ a ∧ a ≤ 8)
theorem pieceN_lt (n m j : Nat) (hm : 1 ≤ m) (hn : 1 ≤ n) : j < pieceN n m ↔ j * m < n := by
  unfold pieceN
  rw [Nat.lt_iff_add_one_le, Nat.le_div_iff_mul_le (by omega), Nat.succ_mul]
  omega
theorem mn_nat (n b : Nat) : mn (n : Int) (b : Int) = ((min n b : Nat) : Int) := by
  unfold mn
  split <;> omega
theorem clone_val (l : List Int) (h : l.length ≤ 1000000) : impl_clone_byte.f l = some l := by
  unfold impl_clone_byte.f
  rw [if_pos (by omega)]
theorem clones_val (l : List S39) (h : l.length ≤ 1000000) : impl_SegPart.f l = some l := by
  unfold impl_SegPart.f
  rw [if_pos (by omega)]
theorem range_snoc (s : List Int) (m j : Nat) : (List.range (j + 1)).map (pieceAt s m) = (List.range j).map (pieceAt s m) ++ [pieceAt s m j] := by
  rw [List.range_succ, List.map_append]; rfl
theorem implCut_loop (s : List Int) (m : Nat) (hn : s.length ≤ 24) (hm : 1 ≤ m ∧ m ≤ 8) (hlt : m < s.length) (d : Nat) : ∀ j : Nat, j ≤ pieceN s.length m → pieceN s.length m - j = d →
    EvP (fun k => impl_SegCut.l0 k s (m : Int) (s.length : Int) ((List.range j).map (pieceAt s m)) ((j * m : Nat) : Int)) (· = (List.range (pieceN s.length m)).map (pieceAt s m)) := by
  have hc : ∀ j, j < pieceN s.length m ↔ j * m < s.length := fun j => pieceN_lt _ _ _ (by omega) (by omega)
  have hcb : pieceN s.length m ≤ 100 := by unfold pieceN; exact Nat.le_trans (Nat.div_le_self _ _) (by omega)
  induction d with
  | zero =>
    intro j h0 hd
    have hj : j = pieceN s.length m := by omega
    subst hj
    have h1 := mt (hc (pieceN s.length m)).2 (by omega)
    refine EvP.up ?_
    simp only [impl_SegCut.l0]
    refine EvP.neg (by omega) ?_
    rw [clones_val _ (by simp only [List.length_map, List.length_range]; omega)]
    exact EvP.now _ rfl
  | succ d ih =>
    intro j h0 hd
    have hj : j < pieceN s.length m := by omega
    have ha := (hc j).1 hj
    have hs := Nat.succ_mul j m
    have h0m : j * m = 0 ↔ j = 0 := by
      rw [Nat.mul_eq_zero]; omega
    have ih1 := ih (j + 1) (by omega) (by omega)
    rw [range_snoc] at ih1
    have hp : pieceAt s m j = ⟨if j = 0 then 1 else if (j + 1) * m ≥ s.length then 3 else 2, if j = 0 then (s.length : Int) else 0, (s.take (min s.length (j * m + m))).drop (j * m)⟩ := rfl
    simp only [Nat.add_eq, Nat.succ_eq_add_one] at hs
    rw [hs] at hp ih1
    generalize hA : j * m = a at *
    refine EvP.up ?_
    simp only [impl_SegCut.l0]
    have hw : wrap64 ((a : Int) + (m : Int)) = ((a + m : Nat) : Int) := by rw [wrap64_id (by omega) (by omega)]; omega
    rw [hw, mn_nat]
    refine EvP.pos (by omega) (EvP.pos (by omega) (EvP.pos (by omega) (EvP.pos (by omega) ?_)))
    rw [Int.toNat_natCast, Int.toNat_natCast, clone_val _ (by simp only [List.length_drop, List.length_take]; omega)]
    refine EvP.some_bind ?_
    have hl : ((List.range j).map (pieceAt s m)).length < 3518437208883 := by simp only [List.length_map, List.length_range]; omega
    by_cases hz : j = 0
    · rw [hp, if_pos hz, if_pos hz] at ih1
      exact EvP.pos (by omega) (EvP.pos hl ih1)
    · rw [hp, if_neg hz, if_neg hz] at ih1
      refine EvP.neg (by omega) (EvP.ite (fun h2 => ?_) (fun h2 => ?_))
      · rw [if_pos (by omega)] at ih1
        exact EvP.pos hl ih1
      · rw [if_neg (by omega)] at ih1
        exact EvP.pos hl ih1
theorem specCut_loop (s : List Int) (m : Nat) (hn : s.length ≤ 24) (hm : 1 ≤ m ∧ m ≤ 8) (hlt : m < s.length) (d : Nat) : ∀ j : Nat, j ≤ pieceN s.length m → pieceN s.length m - j = d →
    EvP (fun k => spec_SegCut.l0 k s (m : Int) ((List.range j).map (pieceAt s m)) ((j * m : Nat) : Int)) (· = (List.range (pieceN s.length m)).map (pieceAt s m)) := by
  have hc : ∀ j, j < pieceN s.length m ↔ j * m < s.length := fun j => pieceN_lt _ _ _ (by omega) (by omega)
  have hcb : pieceN s.length m ≤ 100 := by unfold pieceN; exact Nat.le_trans (Nat.div_le_self _ _) (by omega)
  induction d with
  | zero =>
    intro j h0 hd
    have hj : j = pieceN s.length m := by omega
    subst hj
    have h1 := mt (hc (pieceN s.length m)).2 (by omega)
    refine EvP.up ?_
    simp only [spec_SegCut.l0]
    exact EvP.neg (by omega) (EvP.now _ rfl)
  | succ d ih =>
    intro j h0 hd
    have hj : j < pieceN s.length m := by omega
    have ha := (hc j).1 hj
    have hs := Nat.succ_mul j m
    have h0m : j * m = 0 ↔ j = 0 := by
      rw [Nat.mul_eq_zero]; omega
    have ih1 := ih (j + 1) (by omega) (by omega)
    rw [range_snoc] at ih1
    have hp : pieceAt s m j = ⟨if j = 0 then 1 else if (j + 1) * m ≥ s.length then 3 else 2, if j = 0 then (s.length : Int) else 0, (s.take (min s.length (j * m + m))).drop (j * m)⟩ := rfl
    simp only [Nat.add_eq, Nat.succ_eq_add_one] at hs
    rw [hs] at hp ih1
    generalize hA : j * m = a at *
    refine EvP.up ?_
    simp only [spec_SegCut.l0]
    have hw : wrap64 ((a : Int) + (m : Int)) = ((a + m : Nat) : Int) := by rw [wrap64_id (by omega) (by omega)]; omega
    rw [hw, mn_nat]
    refine EvP.pos (by omega) (EvP.some_bind (EvP.pos (by omega) (EvP.pos (by omega) (EvP.pos (by omega) ?_))))
    rw [Int.toNat_natCast, Int.toNat_natCast]
    refine EvP.pos (by simp only [List.length_drop, List.length_take, List.length_nil]; omega) (EvP.some_bind ?_)
    have hl : ((List.range j).map (pieceAt s m)).length < 3518437208883 := by simp only [List.length_map, List.length_range]; omega
    rw [List.nil_append]
    by_cases hz : j = 0
    · rw [hp, if_pos hz, if_pos hz] at ih1
      exact EvP.pos (by omega) (EvP.neg (by omega) (EvP.pos hl ih1))
    · rw [hp, if_neg hz, if_neg hz] at ih1
      refine EvP.neg (by omega) (EvP.pos (by omega) (EvP.ite (fun h2 => ?_) (fun h2 => ?_)))
      · rw [if_pos (by omega)] at ih1
        exact EvP.pos hl ih1
      · rw [if_neg (by omega)] at ih1
        exact EvP.pos hl ih1
theorem in_valC (a lo hi : Int) : impl_in.f a lo hi = some (decide (lo ≤ a ∧ a ≤ hi)) := by
  unfold impl_in.f
  by_cases h : a ≥ lo
  · rw [if_pos h]; congr 1; by_cases h2 : a ≤ hi
    · rw [decide_eq_true h2, decide_eq_true ⟨h, h2⟩]
    · rw [decide_eq_false h2, decide_eq_false (fun z => h2 z.2)]
  · rw [if_neg h, decide_eq_false (fun z => h z.1)]
theorem implCut_ok (s : List Int) (a : Int) (hs : s.length ≤ 1000000) : EvP (fun k => impl_SegCut.f k s a) (· = if segB s.length a then segL s a.toNat else []) := by
  unfold impl_SegCut.f segB
  refine EvP.ite (fun h => ?_) (fun h => ?_)
  · refine EvP.up ?_
    simp only [impl_SegCut.j0]
    rw [decide_eq_false (by omega)]
    exact EvP.pos trivial (EvP.now _ rfl)
  · rw [in_valC, decide_eq_true (show (s.length : Int) ≤ 24 by omega), Bool.true_and]
    refine EvP.some_bind (EvP.up ?_)
    simp only [impl_SegCut.j0]
    by_cases h2 : 1 ≤ a ∧ a ≤ 8
    · rw [decide_eq_true h2]
      refine EvP.neg (by simp) ?_
      obtain ⟨m, rfl⟩ := Int.eq_ofNat_of_zero_le (by omega : 0 ≤ a)
      unfold segL
      rw [Int.toNat_natCast, if_pos rfl]
      refine EvP.ite (fun h3 => ?_) (fun h3 => ?_)
      · rw [if_pos (by omega), clone_val _ hs]
        exact EvP.now _ rfl
      · rw [if_neg (by omega)]
        have := implCut_loop s m (by omega) (by omega) (by omega) (pieceN s.length m) 0 (by omega) (by omega)
        simpa using this
    · rw [decide_eq_false h2]
      exact EvP.pos (by simp) (EvP.now _ rfl)
theorem specCut_ok (s : List Int) (a : Int) (hs : s.length ≤ 1000000) : EvP (fun k => spec_SegCut.f k s a) (· = if segB s.length a then segL s a.toNat else []) := by
  unfold spec_SegCut.f segB
  refine EvP.some_bind (EvP.ite (fun h => ?_) (fun h => ?_))
  · refine EvP.up ?_
    simp only [spec_SegCut.j0]
    rw [decide_eq_false (by omega)]
    exact EvP.pos trivial (EvP.now _ rfl)
  · rw [show spec_l1In.f a 1 8 = some (decide (1 ≤ a ∧ a ≤ 8)) from in_valC a 1 8, decide_eq_true (show (s.length : Int) ≤ 24 by omega), Bool.true_and]
    refine EvP.some_bind (EvP.up ?_)
    simp only [spec_SegCut.j0]
    by_cases h2 : 1 ≤ a ∧ a ≤ 8
    · rw [decide_eq_true h2]
      refine EvP.neg (by simp) ?_
      obtain ⟨m, rfl⟩ := Int.eq_ofNat_of_zero_le (by omega : 0 ≤ a)
      unfold segL
      rw [Int.toNat_natCast, if_pos rfl]
      refine EvP.ite (fun h3 => ?_) (fun h3 => ?_)
      · rw [if_pos (by omega)]
        refine EvP.some_bind (EvP.pos (by simp only [List.length_nil]; omega) (EvP.pos (by simp only [List.length_nil]; omega) (EvP.now _ rfl)))
      · rw [if_neg (by omega)]
        have := specCut_loop s m (by omega) (by omega) (by omega) (pieceN s.length m) 0 (by omega) (by omega)
        simpa using this
    · rw [decide_eq_false h2]
      exact EvP.pos (by simp) (EvP.now _ rfl)
theorem pieceAt_len (s : List Int) (m j : Nat) (h : j * m + m ≤ s.length) : (pieceAt s m j).f2.length = m := by
  simp only [pieceAt, List.length_drop, List.length_take]
  omega
theorem pieceAt_le (s : List Int) (m j : Nat) : (pieceAt s m j).f2.length ≤ m := by
  simp only [pieceAt, List.length_drop, List.length_take]
  omega
theorem segL_len (s : List Int) (m : Nat) (hm : 1 ≤ m) : (segL s m).length = if s.length ≤ m then 1 else pieceN s.length m := by
  unfold segL
  split
  · rfl
  · rw [List.length_map, List.length_range]
theorem segL_bound (s : List Int) (m : Nat) (hm : 1 ≤ m) (hn : s.length ≤ 24) : (segL s m).length ≤ 1048576 ∧ ∀ x ∈ segL s m, x.f2.length ≤ 1048576 := by
  refine ⟨?_, ?_⟩
  · rw [segL_len s m hm]
    split
    · omega
    · exact Nat.le_trans (Nat.div_le_self _ _) (by omega)
  · unfold segL
    split
    · intro x hx
      simp only [List.mem_singleton] at hx
      subst hx
      show s.length ≤ _
      omega
    · intro x hx
      obtain ⟨j, _, rfl⟩ := List.mem_map.1 hx
      simp only [pieceAt, List.length_drop, List.length_take]
      omega
theorem rdB (xs : List S39) (i : Nat) (h : i < xs.length) : rd_T39 xs (i : Int) = xs[i] := by
  unfold rd_T39
  rw [Int.toNat_natCast, List.getD_eq_getElem?_getD, List.getElem?_eq_getElem h]; rfl
def feedS : Int → List Int → List S39 → List (List Int)
  | _, _, [] => []
  | len, got, p :: L => (if (segPutV len got p.f0 p.f1 p.f2).2.2.2 = 2 then [(segPutV len got p.f0 p.f1 p.f2).2.2.1] else []) ++ feedS (segPutV len got p.f0 p.f1 p.f2).1 (segPutV len got p.f0 p.f1 p.f2).2.1 L
theorem segPut_free (seg plen : Int) (data : List Int) (h : seg = 2 ∨ seg = 3) : (segPutV 0 [] seg plen data).1 = 0 ∧ (segPutV 0 [] seg plen data).2.1 = [] ∧ (segPutV 0 [] seg plen data).2.2.2 ≠ 2 := by
  unfold segPutV putV
  split
  · rw [if_neg (by omega), if_neg (by omega), if_neg (by omega), if_neg (by omega)]
    exact ⟨rfl, rfl, by simp⟩
  · exact ⟨rfl, rfl, by simp⟩
theorem feed_free (L : List S39) (h : ∀ p ∈ L, p.f0 = 2 ∨ p.f0 = 3) : feedS 0 [] L = [] := by
  induction L with
  | nil => rfl
  | cons p L ih =>
    obtain ⟨h1, h2, h3⟩ := segPut_free p.f0 p.f1 p.f2 (h p (by simp))
    rw [feedS, h1, h2, if_neg h3, List.nil_append]
    exact ih (fun q hq => h q (by simp [hq]))
def totL (L : List S39) : Nat := (L.map (fun p => p.f2.length)).sum
theorem feed_none (n : Int) (L : List S39) : ∀ (got : List Int), (∀ p ∈ L, p.f0 = 2 ∨ p.f0 = 3) → (∀ M p R, L = M ++ p :: R → p.f0 = 3 → R = []) → (((got.length + totL L : Nat) : Int) ≠ n ∨ ∀ p ∈ L, p.f0 = 2) → feedS n got L = [] := by
  induction L with
  | nil => intro got _ _ _; rfl
  | cons p L ih =>
    intro got h h3 ht
    rw [feedS]
    have hf := fun q hq => h q (List.mem_cons_of_mem p hq)
    have key : (segPutV n got p.f0 p.f1 p.f2 = (n, got ++ p.f2, [], 1) ∧ p.f0 = 2) ∨ ((segPutV n got p.f0 p.f1 p.f2).1 = 0 ∧ (segPutV n got p.f0 p.f1 p.f2).2.1 = [] ∧ (segPutV n got p.f0 p.f1 p.f2).2.2.2 ≠ 2) := by
      unfold segPutV
      by_cases hj : jok n got = true ∧ pok p.f0 p.f1 p.f2 = true
      · rw [if_pos hj]
        unfold putV
        rcases h p (by simp) with h2 | h2
        · rw [if_neg (by omega), if_neg (by omega)]
          by_cases hc : p.f0 = 2 ∧ n > 0 ∧ ((got ++ p.f2).length : Int) < n
          · rw [if_pos hc]; exact .inl ⟨rfl, h2⟩
          · rw [if_neg hc, if_neg (by omega)]; exact .inr ⟨rfl, rfl, by simp⟩
        · rw [if_neg (by omega), if_neg (by omega), if_neg (by omega)]
          have hR := h3 [] p L rfl h2
          subst hR
          rw [if_neg]
          · exact .inr ⟨rfl, rfl, by simp⟩
          · rintro ⟨_, _, hc⟩
            rcases ht with ht | ht
            · apply ht
              rw [← hc]
              simp [totL]
            · have := ht p (by simp)
              omega
      · rw [if_neg hj]; exact .inr ⟨rfl, rfl, by simp⟩
    rcases key with ⟨hk, h2⟩ | ⟨k1, k2, k3⟩
    · rw [hk]
      simp only
      rw [if_neg (by simp), List.nil_append]
      refine ih (got ++ p.f2) hf (fun M q R hL hq => h3 (p :: M) q R (by rw [hL]; rfl) hq) ?_
      rcases ht with ht | ht
      · refine .inl (fun hc => ht ?_)
        rw [← hc]
        simp only [totL, List.map_cons, List.sum_cons, List.length_append]
        omega
      · exact .inr (fun q hq => ht q (by simp [hq]))
    · rw [k1, k2, if_neg k3, List.nil_append]
      exact feed_free L hf
theorem totL_range (s : List Int) (m : Nat) : ∀ j, totL ((List.range j).map (pieceAt s m)) = min s.length (j * m) := by
  intro j
  induction j with
  | zero => simp [totL]
  | succ j ih =>
    rw [range_snoc]
    unfold totL at *
    rw [List.map_append, List.sum_append, ih, Nat.succ_mul]
    simp only [List.map_cons, List.map_nil, List.sum_cons, List.sum_nil, pieceAt, List.length_drop, List.length_take]
    omega
theorem totL_cons (p : S39) (L : List S39) : totL (p :: L) = p.f2.length + totL L := by simp [totL]
theorem totL_append (A B : List S39) : totL (A ++ B) = totL A + totL B := by simp [totL]
theorem segL_shape (s : List Int) (m : Nat) (hm : 1 ≤ m) (h : m < s.length) : ∃ p0 mids q, segL s m = p0 :: (mids ++ [q]) ∧ p0.f0 = 1 ∧ p0.f1 = (s.length : Int) ∧ p0.f2.length = m ∧ (∀ x ∈ mids, x.f0 = 2 ∧ x.f2.length = m) ∧ q.f0 = 3 ∧ m + totL mids + q.f2.length = s.length := by
  have hc : ∀ j, j < pieceN s.length m ↔ j * m < s.length := fun j => pieceN_lt _ _ _ hm (by omega)
  have h2 : 1 < pieceN s.length m := (hc 1).2 (by omega)
  obtain ⟨c, hcc⟩ : ∃ c, pieceN s.length m = c + 2 := ⟨pieceN s.length m - 2, by omega⟩
  have hL : segL s m = pieceAt s m 0 :: (((List.range c).map (fun j => pieceAt s m (j + 1))) ++ [pieceAt s m (c + 1)]) := by
    unfold segL
    rw [if_neg (by omega), hcc, range_snoc, List.range_succ_eq_map]
    simp only [List.map_cons, List.map_map, List.cons_append]
    rfl
  have hp0 : (pieceAt s m 0).f2.length = m := pieceAt_len s m 0 (by omega)
  refine ⟨_, _, _, hL, by simp [pieceAt], by simp [pieceAt], hp0, ?_, ?_, ?_⟩
  · intro x hx
    obtain ⟨j, hj, rfl⟩ := List.mem_map.1 hx
    have hj' := List.mem_range.1 hj
    have h3 := (hc (j + 1 + 1)).1 (by omega)
    have e1 := Nat.succ_mul (j + 1) m
    simp only [Nat.succ_eq_add_one] at e1
    refine ⟨?_, pieceAt_len s m (j + 1) (by omega)⟩
    simp only [pieceAt]
    rw [if_neg (by omega), if_neg (by omega)]
  · have h3 := mt (hc (c + 1 + 1)).2 (by omega)
    simp only [pieceAt]
    rw [if_neg (by omega), if_pos (by omega)]
  · have ht := totL_range s m (pieceN s.length m)
    have h3 := mt (hc (pieceN s.length m)).2 (by omega)
    have hL2 : segL s m = (List.range (pieceN s.length m)).map (pieceAt s m) := by
      unfold segL
      rw [if_neg (by omega)]
    rw [← hL2, hL, totL_cons, totL_append, totL_cons, hp0] at ht
    simp only [totL, List.map_nil, List.sum_nil] at ht ⊢
    omega
theorem last3 (M : List S39) (q : S39) (hM : ∀ p ∈ M, p.f0 = 2) : ∀ M' p R, M ++ [q] = M' ++ p :: R → p.f0 = 3 → R = [] := by
  intro M' p R he h3
  rcases List.eq_nil_or_concat R with h | ⟨R', z, h⟩
  · exact h
  · exfalso
    subst h
    have he2 : M ++ [q] = (M' ++ p :: R') ++ [z] := by rw [he]; simp
    have := (List.append_inj' he2 rfl).1
    have hp := hM p (by rw [this]; simp)
    omega
theorem last2 (M : List S39) (hM : ∀ p ∈ M, p.f0 = 2) : ∀ M' p R, M = M' ++ p :: R → p.f0 = 3 → R = [] := by
  intro M' p R he h3
  have hp := hM p (by rw [he]; simp)
  omega
theorem segPut_first (n : Nat) (p : S39) (m : Nat) (hn : n ≤ 24) (hm : 1 ≤ m ∧ m ≤ 8) (hlt : m < n) (h0 : p.f0 = 1) (h1 : p.f1 = (n : Int)) (h2 : p.f2.length = m) : segPutV 0 [] p.f0 p.f1 p.f2 = ((n : Int), p.f2, [], 1) := by
  unfold segPutV
  rw [if_pos]
  · unfold putV
    rw [if_neg (by omega), if_pos (by omega), h1, List.nil_append]
  · constructor
    · simp [jok]
    · unfold pok
      rw [decide_eq_true_eq]
      omega
theorem segPut_again (n : Nat) (got : List Int) (p : S39) (hn : 0 < n) (h0 : p.f0 = 1) : (segPutV (n : Int) got p.f0 p.f1 p.f2).1 = 0 ∧ (segPutV (n : Int) got p.f0 p.f1 p.f2).2.1 = [] ∧ (segPutV (n : Int) got p.f0 p.f1 p.f2).2.2.2 ≠ 2 := by
  unfold segPutV
  split
  · unfold putV
    rw [if_neg (by omega), if_neg (by omega), if_neg (by omega), if_neg (by omega)]
    exact ⟨rfl, rfl, by simp⟩
  · exact ⟨rfl, rfl, by simp⟩
theorem feed_cons1 (n : Nat) (p : S39) (m : Nat) (hn : n ≤ 24) (hm : 1 ≤ m ∧ m ≤ 8) (hlt : m < n) (h0 : p.f0 = 1) (h1 : p.f1 = (n : Int)) (h2 : p.f2.length = m) (L : List S39) : feedS 0 [] (p :: L) = feedS (n : Int) p.f2 L := by
  rw [feedS, segPut_first n p m hn hm hlt h0 h1 h2]
  simp only
  rw [if_neg (by simp), List.nil_append]
theorem seg_less (s : List Int) (m : Nat) (hn : s.length ≤ 24) (hm : 1 ≤ m ∧ m ≤ 8) (i : Nat) (hi : i < (segL s m).length) : feedS 0 [] ((segL s m).take i ++ (segL s m).drop (i + 1)) = [] := by
  by_cases hle : s.length ≤ m
  · have hL : segL s m = [⟨0, s.length, s⟩] := by unfold segL; rw [if_pos hle]
    rw [hL] at hi ⊢
    simp only [List.length_cons, List.length_nil] at hi
    have : i = 0 := by omega
    subst this
    rfl
  · obtain ⟨p0, mids, q, hL, a1, a2, a3, a4, a5, a6⟩ := segL_shape s m hm.1 (by omega)
    rw [hL] at hi ⊢
    rcases i with _ | i
    · show feedS 0 [] (mids ++ [q]) = []
      refine feed_free _ (fun p hp => ?_)
      rcases List.mem_append.1 hp with h | h
      · exact .inl (a4 p h).1
      · rw [List.mem_singleton.1 h]; exact .inr a5
    · rw [List.take_succ_cons, List.drop_succ_cons, List.cons_append, feed_cons1 s.length p0 m hn hm (by omega) a1 a2 a3]
      simp only [List.length_cons, List.length_append, List.length_nil] at hi
      by_cases hlast : i = mids.length
      · subst hlast
        have e : (mids ++ [q]).take mids.length ++ (mids ++ [q]).drop (mids.length + 1) = mids := by simp
        rw [e]
        exact feed_none _ _ _ (fun p hp => .inl (a4 p hp).1) (last2 mids (fun p hp => (a4 p hp).1)) (.inr (fun p hp => (a4 p hp).1))
      · have hi' : i < mids.length := by omega
        have hsplit : mids = mids.take i ++ mids[i] :: mids.drop (i + 1) := by
          rw [← List.drop_eq_getElem_cons hi', List.take_append_drop]
        have e : (mids ++ [q]).take i ++ (mids ++ [q]).drop (i + 1) = (mids.take i ++ mids.drop (i + 1)) ++ [q] := by
          rw [List.take_append_of_le_length (by omega), List.drop_append_of_le_length (by omega), List.append_assoc]
        rw [e]
        have hin : ∀ p ∈ mids.take i ++ mids.drop (i + 1), p.f0 = 2 := by
          intro p hp
          rcases List.mem_append.1 hp with h | h
          · exact (a4 p (List.mem_of_mem_take h)).1
          · exact (a4 p (List.mem_of_mem_drop h)).1
        refine feed_none _ _ _ (fun p hp => ?_) (last3 _ q hin) (.inl ?_)
        · rcases List.mem_append.1 hp with h | h
          · exact .inl (hin p h)
          · rw [List.mem_singleton.1 h]; exact .inr a5
        · have hx := (a4 mids[i] (List.getElem_mem hi')).2
          have ht : totL mids = totL (mids.take i) + (mids[i].f2.length + totL (mids.drop (i + 1))) := by
            rw [← totL_cons, ← totL_append, ← hsplit]
          rw [totL_append, totL_append, totL_cons]
          simp only [totL, List.map_nil, List.sum_nil] at ht a6 ⊢
          omega
theorem seg_twice (s : List Int) (m : Nat) (hn : s.length ≤ 24) (hm : 1 ≤ m ∧ m ≤ 8) (i : Nat) (hi : i < (segL s m).length) (hk : (segL s m)[i].f0 = 1 ∨ (segL s m)[i].f0 = 2) : feedS 0 [] ((segL s m).take (i + 1) ++ (segL s m).drop i) = [] := by
  by_cases hle : s.length ≤ m
  · exfalso
    have hL : segL s m = [⟨0, s.length, s⟩] := by unfold segL; rw [if_pos hle]
    simp only [hL, List.length_cons, List.length_nil] at hi hk
    have : i = 0 := by omega
    subst this
    simp at hk
  · obtain ⟨p0, mids, q, hL, a1, a2, a3, a4, a5, a6⟩ := segL_shape s m hm.1 (by omega)
    simp only [hL] at hi hk ⊢
    rcases i with _ | i
    · show feedS 0 [] (p0 :: p0 :: (mids ++ [q])) = []
      rw [feed_cons1 s.length p0 m hn hm (by omega) a1 a2 a3, feedS]
      obtain ⟨k1, k2, k3⟩ := segPut_again s.length p0.f2 p0 (by omega) a1
      rw [k1, k2, if_neg k3, List.nil_append]
      refine feed_free _ (fun p hp => ?_)
      rcases List.mem_append.1 hp with h | h
      · exact .inl (a4 p h).1
      · rw [List.mem_singleton.1 h]; exact .inr a5
    · rw [List.take_succ_cons, List.drop_succ_cons, List.cons_append, feed_cons1 s.length p0 m hn hm (by omega) a1 a2 a3]
      simp only [List.length_cons, List.length_append, List.length_nil] at hi
      simp only [List.getElem_cons_succ] at hk
      by_cases hlast : i = mids.length
      · exfalso
        subst hlast
        simp only [List.getElem_concat_length] at hk
        omega
      · have hi' : i < mids.length := by omega
        have hsplit : mids = mids.take i ++ mids[i] :: mids.drop (i + 1) := by
          rw [← List.drop_eq_getElem_cons hi', List.take_append_drop]
        have e : (mids ++ [q]).take (i + 1) ++ (mids ++ [q]).drop i = (mids.take (i + 1) ++ mids.drop i) ++ [q] := by
          rw [List.take_append_of_le_length (by omega), List.drop_append_of_le_length (by omega), List.append_assoc]
        rw [e]
        have hin : ∀ p ∈ mids.take (i + 1) ++ mids.drop i, p.f0 = 2 := by
          intro p hp
          rcases List.mem_append.1 hp with h | h
          · exact (a4 p (List.mem_of_mem_take h)).1
          · exact (a4 p (List.mem_of_mem_drop h)).1
        refine feed_none _ _ _ (fun p hp => ?_) (last3 _ q hin) (.inl ?_)
        · rcases List.mem_append.1 hp with h | h
          · exact .inl (hin p h)
          · rw [List.mem_singleton.1 h]; exact .inr a5
        · have hx := (a4 mids[i] (List.getElem_mem hi')).2
          have ht : totL mids = totL (mids.take (i + 1)) + totL (mids.drop (i + 1)) := by
            rw [← totL_append, List.take_append_drop]
          have hd : totL (mids.drop i) = mids[i].f2.length + totL (mids.drop (i + 1)) := by
            rw [← totL_cons, ← List.drop_eq_getElem_cons hi']
          rw [totL_append, totL_append, totL_cons]
          simp only [totL, List.map_nil, List.sum_nil] at ht hd a6 ⊢
          omega
theorem take_drop_mid (s : List Int) (a b : Nat) (h : a ≤ b) : s.take a ++ (s.take b).drop a = s.take b := by
  have e : s.take a = (s.take b).take a := by rw [List.take_take, Nat.min_eq_left h]
  rw [e, List.take_append_drop]
theorem segPut_mid (n : Nat) (got data : List Int) (hn : n ≤ 24) (hg : 1 ≤ got.length) (hd : 1 ≤ data.length ∧ data.length ≤ 8) (hlt : got.length + data.length < n) : segPutV (n : Int) got 2 0 data = ((n : Int), got ++ data, [], 1) := by
  unfold segPutV
  rw [if_pos]
  · unfold putV
    rw [if_neg (by omega), if_neg (by omega), if_pos (by rw [List.length_append]; omega)]
  · constructor
    · unfold jok
      rw [if_neg (by omega), decide_eq_true_eq]
      omega
    · unfold pok
      rw [decide_eq_true_eq]
      omega
theorem segPut_last (n : Nat) (got data : List Int) (hn : n ≤ 24) (hg : 1 ≤ got.length) (hd : 1 ≤ data.length ∧ data.length ≤ 8) (hlt : got.length + data.length = n) : segPutV (n : Int) got 3 0 data = (0, [], got ++ data, 2) := by
  unfold segPutV
  rw [if_pos]
  · unfold putV
    rw [if_neg (by omega), if_neg (by omega), if_neg (by omega), if_pos (by rw [List.length_append]; omega)]
  · constructor
    · unfold jok
      rw [if_neg (by omega), decide_eq_true_eq]
      omega
    · unfold pok
      rw [decide_eq_true_eq]
      omega
theorem segPut_all (s : List Int) (hn : s.length ≤ 8) : segPutV 0 [] 0 (s.length : Int) s = (0, [], s, 2) := by
  unfold segPutV
  rw [if_pos]
  · unfold putV
    rw [if_pos ⟨rfl, rfl⟩, List.nil_append]
  · constructor
    · simp [jok]
    · unfold pok
      rw [decide_eq_true_eq]
      omega
/-- How the piece j of a message changes what has come of it: all but the last leave more to come, the last leaves nothing. -/
theorem segPut_piece (s : List Int) (m : Nat) (hn : s.length ≤ 24) (hm : 1 ≤ m ∧ m ≤ 8) (hlt : m < s.length) (j : Nat) (hj : j < pieceN s.length m) :
    segPutV (if j = 0 then 0 else (s.length : Int)) (s.take (j * m)) (pieceAt s m j).f0 (pieceAt s m j).f1 (pieceAt s m j).f2 = if j + 1 < pieceN s.length m then ((s.length : Int), s.take ((j + 1) * m), [], 1) else (0, [], s, 2) := by
  have hc : ∀ j, j < pieceN s.length m ↔ j * m < s.length := fun j => pieceN_lt _ _ _ hm.1 (by omega)
  have ha := (hc j).1 hj
  have hs : (j + 1) * m = j * m + m := Nat.succ_mul j m
  have hdl : ((s.take (min s.length (j * m + m))).drop (j * m)).length = min s.length (j * m + m) - j * m := by
    rw [List.length_drop, List.length_take]; omega
  have hgl : (s.take (j * m)).length = j * m := by rw [List.length_take]; omega
  have hall : s.take (j * m) ++ (s.take (min s.length (j * m + m))).drop (j * m) = s.take (min s.length (j * m + m)) := take_drop_mid _ _ _ (by omega)
  by_cases h0 : j = 0
  · subst h0
    have h1 := (hc 1).2 (by omega)
    rw [if_pos rfl, if_pos (by omega)]
    have := segPut_first s.length (pieceAt s m 0) m hn hm hlt (by simp [pieceAt]) (by simp [pieceAt]) (pieceAt_len s m 0 (by omega))
    rw [show s.take (0 * m) = [] by simp, this]
    have e : (pieceAt s m 0).f2 = s.take ((0 + 1) * m) := by
      simp only [pieceAt]
      rw [show min s.length (0 * m + m) = (0 + 1) * m by omega, Nat.zero_mul]; rfl
    rw [e]
  · have h0m : 1 ≤ j * m := Nat.le_trans (by omega) (Nat.mul_le_mul (by omega : 1 ≤ j) hm.1)
    rw [if_neg h0]
    by_cases h1 : j + 1 < pieceN s.length m
    · have hb := (hc (j + 1)).1 h1
      rw [if_pos h1]
      have e : pieceAt s m j = ⟨2, 0, (s.take (min s.length (j * m + m))).drop (j * m)⟩ := by
        simp only [pieceAt]
        rw [if_neg h0, if_neg h0, if_neg (by omega)]
      rw [e]
      show segPutV (s.length : Int) (s.take (j * m)) 2 0 ((s.take (min s.length (j * m + m))).drop (j * m)) = _
      rw [segPut_mid s.length _ _ hn (by omega) (by omega) (by omega), hall, show min s.length (j * m + m) = (j + 1) * m by omega]
    · have hb := mt (hc (j + 1)).2 h1
      rw [if_neg h1]
      have e : pieceAt s m j = ⟨3, 0, (s.take (min s.length (j * m + m))).drop (j * m)⟩ := by
        simp only [pieceAt]
        rw [if_neg h0, if_neg h0, if_pos (by omega)]
      rw [e]
      show segPutV (s.length : Int) (s.take (j * m)) 3 0 ((s.take (min s.length (j * m + m))).drop (j * m)) = _
      rw [segPut_last s.length _ _ hn (by omega) (by omega) (by omega), hall, show min s.length (j * m + m) = s.length by omega, List.take_length]
theorem feed_from (s : List Int) (m : Nat) (hn : s.length ≤ 24) (hm : 1 ≤ m ∧ m ≤ 8) (hlt : m < s.length) (R : List S39) (d : Nat) : ∀ j, j < pieceN s.length m → pieceN s.length m - j = d + 1 →
    feedS (if j = 0 then 0 else (s.length : Int)) (s.take (j * m)) (((List.range (pieceN s.length m)).map (pieceAt s m)).drop j ++ R) = s :: feedS 0 [] R := by
  induction d with
  | zero =>
    intro j hj hd
    have hl : j < ((List.range (pieceN s.length m)).map (pieceAt s m)).length := by simpa using hj
    rw [List.drop_eq_getElem_cons hl, List.cons_append, feedS]
    simp only [List.getElem_map, List.getElem_range]
    have hk := segPut_piece s m hn hm hlt j hj
    rw [if_neg (show ¬ j + 1 < pieceN s.length m by omega)] at hk
    rw [hk, List.drop_eq_nil_of_le (by simp; omega)]
    simp
  | succ d ih =>
    intro j hj hd
    have hl : j < ((List.range (pieceN s.length m)).map (pieceAt s m)).length := by simpa using hj
    rw [List.drop_eq_getElem_cons hl, List.cons_append, feedS]
    simp only [List.getElem_map, List.getElem_range]
    have hk := segPut_piece s m hn hm hlt j hj
    rw [if_pos (show j + 1 < pieceN s.length m by omega)] at hk
    rw [hk]
    have := ih (j + 1) (by omega) (by omega)
    rw [if_neg (by omega)] at this
    simpa using this
theorem feed_seg (s : List Int) (m : Nat) (hn : s.length ≤ 24) (hm : 1 ≤ m ∧ m ≤ 8) (R : List S39) : feedS 0 [] (segL s m ++ R) = s :: feedS 0 [] R := by
  by_cases hle : s.length ≤ m
  · have hL : segL s m = [⟨0, s.length, s⟩] := by unfold segL; rw [if_pos hle]
    rw [hL, List.cons_append, feedS, segPut_all s (by omega)]
    simp
  · have hL : segL s m = (List.range (pieceN s.length m)).map (pieceAt s m) := by unfold segL; rw [if_neg hle]
    have h0 : 0 < pieceN s.length m := (pieceN_lt _ _ _ hm.1 (by omega)).2 (by omega)
    have := feed_from s m hn hm (by omega) R (pieceN s.length m - 1) 0 h0 (by omega)
    rw [hL]
    simpa using this
theorem segL_small (s : List Int) (m : Nat) (hm : 1 ≤ m) (hn : s.length ≤ 24) : (segL s m).length ≤ 100 ∧ ∀ x ∈ segL s m, x.f2.length ≤ 100 := by
  refine ⟨?_, ?_⟩
  · rw [segL_len s m hm]
    split
    · omega
    · exact Nat.le_trans (Nat.div_le_self _ _) (by
        rename_i h
        omega)
  · unfold segL
    split
    · intro x hx
      simp only [List.mem_singleton] at hx
      subst hx
      show s.length ≤ _
      omega
    · intro x hx
      obtain ⟨j, _, rfl⟩ := List.mem_map.1 hx
      simp only [pieceAt, List.length_drop, List.length_take]
      omega
theorem liBytes_loop (l : List Int) (hl : l.length ≤ 1048576) (d : Nat) : ∀ i : Nat, i ≤ l.length → l.length - i = d → EvP (fun k => laws_liBytes.l0 k l l (i : Int)) (· = true) := by
  induction d with
  | zero =>
    intro i h0 hd
    refine EvP.up ?_
    simp only [laws_liBytes.l0]
    exact EvP.neg (by omega) (EvP.now _ rfl)
  | succ d ih =>
    intro i h0 hd
    refine EvP.up ?_
    simp only [laws_liBytes.l0]
    refine EvP.pos (by omega) (EvP.pos (by omega) (EvP.pos (by omega) (EvP.pos trivial ?_)))
    have hw : wrap64 ((i : Int) + 1) = ((i + 1 : Nat) : Int) := by rw [wrap64_id (by omega) (by omega)]; omega
    rw [hw]
    exact ih (i + 1) (by omega) (by omega)
theorem liBytes_ok (l : List Int) (hl : l.length ≤ 1048576) : EvP (fun k => laws_liBytes.f k l l) (· = true) := by
  unfold laws_liBytes.f
  exact EvP.pos rfl (liBytes_loop l hl l.length 0 (by omega) (by omega))
theorem liPart_ok (a b : Int) (l : List Int) (hl : l.length ≤ 1048576) : EvP (fun k => laws_liPart.f k a b l a b l) (· = true) := by
  unfold laws_liPart.f
  exact EvP.pos rfl (EvP.pos rfl (EvP.eq_bind (liBytes_ok l hl) (EvP.now _ rfl)))
theorem liParts_loop (l : List S39) (hl : l.length ≤ 1048576) (hb : ∀ x ∈ l, x.f2.length ≤ 1048576) (d : Nat) : ∀ i : Nat, i ≤ l.length → l.length - i = d → EvP (fun k => laws_liParts.l0 k l l (i : Int)) (· = true) := by
  induction d with
  | zero =>
    intro i h0 hd
    refine EvP.up ?_
    simp only [laws_liParts.l0]
    exact EvP.neg (by omega) (EvP.now _ rfl)
  | succ d ih =>
    intro i h0 hd
    have hi : i < l.length := by omega
    refine EvP.up ?_
    simp only [laws_liParts.l0]
    refine EvP.pos (by omega) (EvP.pos (by omega) (EvP.pos (by omega) ?_))
    rw [rdB l i hi]
    have hw : wrap64 ((i : Int) + 1) = ((i + 1 : Nat) : Int) := by rw [wrap64_id (by omega) (by omega)]; omega
    rw [hw]
    exact EvP.eq_bind (liPart_ok _ _ _ (hb _ (List.getElem_mem hi))) (EvP.pos rfl (ih (i + 1) (by omega) (by omega)))
theorem liParts_ok (l : List S39) (hl : l.length ≤ 1048576) (hb : ∀ x ∈ l, x.f2.length ≤ 1048576) : EvP (fun k => laws_liParts.f k l l) (· = true) := by
  unfold laws_liParts.f
  exact EvP.pos rfl (liParts_loop l hl hb l.length 0 (by omega) (by omega))
theorem liOk_true : laws_liOk.f = some true := by
  unfold laws_liOk.f impl_CfgOk.f impl_in.f
  decide
theorem liJoin_ok (a : Int) (l : List Int) (hl : l.length ≤ 1048576) : EvP (fun k => laws_liJoin.f k a l a l) (· = true) := by
  unfold laws_liJoin.f
  exact EvP.pos rfl (EvP.eq_bind (liBytes_ok l hl) (EvP.now _ rfl))
theorem segPutV_ok {len : Int} {got : List Int} {seg plen : Int} {data : List Int} (h : (segPutV len got seg plen data).2.2.2 ≠ 0) : pok seg plen data = true := by
  unfold segPutV at h
  by_cases hc : jok len got = true ∧ pok seg plen data = true
  · exact hc.2
  · rw [if_neg hc] at h
    exact absurd rfl h
theorem segCut_loop (s : List Int) (m : Nat) (L : List S39) (a : Nat → Int) (g : Nat → List Int) (hs : s.length ≤ 24) (hl : 0 < L.length ∧ L.length ≤ 100) (hb : ∀ x ∈ L, x.f2.length ≤ 100) (hbm : ∀ x ∈ L, x.f2.length ≤ m) (hg : ∀ j, (g j).length ≤ 24) (hend : a L.length = 0 ∧ g L.length = [])
    (hp : ∀ (j : Nat) (h : j < L.length), segPutV (a j) (g j) L[j].f0 L[j].f1 L[j].f2 = if j + 1 < L.length then (a (j + 1), g (j + 1), [], 1) else (0, [], s, 2)) (d : Nat) : ∀ j : Nat, j ≤ L.length → L.length - j = d →
    EvP (fun k => laws_FnSegCut.l0 k s (m : Int) L (j : Int) (a j) (g j)) (· = true) := by
  induction d with
  | zero =>
    intro j h0 hd
    have hj : j = L.length := by omega
    subst hj
    rw [hend.1, hend.2]
    refine EvP.up ?_
    simp only [laws_FnSegCut.l0]
    exact EvP.neg (by omega) (EvP.pos (by omega) (EvP.eq_bind (liJoin_ok 0 [] (by simp)) (EvP.now _ rfl)))
  | succ d ih =>
    intro j h0 hd
    have hj : j < L.length := by omega
    have hx := hb _ (List.getElem_mem hj)
    have hxm := hbm _ (List.getElem_mem hj)
    have hk := hp j hj
    have next := ih (j + 1) (by omega) (by omega)
    have hw : wrap64 ((j : Int) + 1) = ((j + 1 : Nat) : Int) := by rw [wrap64_id (by omega) (by omega)]; omega
    have hw2 : wrap64 ((L.length : Int) - 1) = (L.length : Int) - 1 := wrap64_id (by omega) (by omega)
    have hpk : pok L[j].f0 L[j].f1 L[j].f2 = true := by
      refine segPutV_ok (len := a j) (got := g j) ?_
      rw [hk]
      split <;> simp
    refine EvP.up ?_
    simp only [laws_FnSegCut.l0]
    refine EvP.pos (by omega) (EvP.pos (by omega) ?_)
    rw [rdB L j hj]
    refine EvP.eq_bind (segPut_ok (a j) (g j) _ _ _ (by have := hg j; omega) (by omega)) ?_
    rw [partOk_val _ _ _ (by omega), hk, hpk, decide_eq_false (show ¬ ((L[j].f2.length : Int) > (m : Int)) by omega)]
    refine EvP.some_bind (EvP.pos rfl (EvP.up ?_))
    simp only [laws_FnSegCut.j2]
    rw [hw2, hw]
    refine EvP.neg (by simp) ?_
    by_cases hlast : j + 1 < L.length
    · rw [if_pos hlast]
      exact EvP.pos (by omega) (EvP.pos rfl (EvP.neg (by omega) next))
    · rw [if_neg hlast]
      have he : j + 1 = L.length := by omega
      have n2 := next
      rw [he, hend.1, hend.2, ← he] at n2
      exact EvP.neg (by omega) (EvP.pos (by omega) (EvP.pos rfl (EvP.eq_bind (liBytes_ok s (by omega)) (EvP.pos rfl n2))))
theorem segCut_all (s : List Int) (m : Nat) (hn : s.length ≤ 24) (hm : 1 ≤ m ∧ m ≤ 8) : EvP (fun k => laws_FnSegCut.l0 k s (m : Int) (segL s m) 0 0 []) (· = true) := by
  have hb := segL_small s m hm.1 hn
  by_cases hle : s.length ≤ m
  · have hL : segL s m = [⟨0, s.length, s⟩] := by unfold segL; rw [if_pos hle]
    rw [hL] at hb ⊢
    have := segCut_loop s m [⟨0, s.length, s⟩] (fun _ => 0) (fun _ => []) hn (by simp) hb.2 (by simpa using hle) (by simp) ⟨rfl, rfl⟩ (fun j h => by
      simp only [List.length_cons, List.length_nil] at h
      have : j = 0 := by omega
      subst this
      simp only [List.getElem_cons_zero, List.length_cons, List.length_nil]
      rw [if_neg (by omega)]
      exact segPut_all s (by omega)) 1 0 (by simp) (by simp)
    exact this
  · have hL : segL s m = (List.range (pieceN s.length m)).map (pieceAt s m) := by unfold segL; rw [if_neg hle]
    have h0 : 0 < pieceN s.length m := (pieceN_lt _ _ _ hm.1 (by omega)).2 (by omega)
    have hlen : (segL s m).length = pieceN s.length m := by rw [hL, List.length_map, List.length_range]
    have := segCut_loop s m (segL s m) (fun j => if j = 0 then 0 else if j = pieceN s.length m then 0 else (s.length : Int)) (fun j => if j = pieceN s.length m then [] else s.take (j * m)) hn (by omega) hb.2 (fun x hx => by
        rw [hL] at hx
        obtain ⟨j, _, rfl⟩ := List.mem_map.1 hx
        exact pieceAt_le s m j) (fun j => by
        split
        · simp
        · rw [List.length_take]; omega) (by
        rw [hlen]
        constructor
        · rw [if_neg (by omega), if_pos rfl]
        · rw [if_pos rfl]) (fun j h => by
        rw [hlen] at h
        have hx : (segL s m)[j]'(by rw [hlen]; exact h) = pieceAt s m j := by simp only [hL, List.getElem_map, List.getElem_range]
        have hk := segPut_piece s m hn hm (by omega) j h
        rw [hx, hlen]
        rw [if_neg (show ¬ j = pieceN s.length m by omega), if_neg (show ¬ j = pieceN s.length m by omega), hk]
        by_cases hc : j + 1 < pieceN s.length m
        · rw [if_pos hc, if_pos hc, if_neg (by omega), if_neg (by omega), if_neg (by omega)]
        · rw [if_neg hc, if_neg hc]) (segL s m).length 0 (by omega) (by omega)
    simpa [Nat.ne_of_lt h0] using this
theorem FnSegCut : laws_FnSegCut.Pure := by
  intro l0 _ _ hw
  refine EvP.rounds ?_
  unfold laws_FnSegCut.f
  refine EvP.ite (fun _ => EvP.now _ rfl) (fun _ => ?_)
  refine EvP.bind (drawCut_ok l0 hw) ?_
  rintro ⟨s, a⟩ ⟨h1, h2, h3, h4⟩
  simp only at h1 h2 h3 h4 ⊢
  refine EvP.eq_bind (implCut_ok s a (by omega)) (EvP.eq_bind (specCut_ok s a (by omega)) ?_)
  by_cases hB : segB s.length a = true
  rotate_left
  · rw [if_neg hB]
    refine EvP.eq_bind (liParts_ok _ (by simp) (by simp)) (EvP.pos rfl ?_)
    have stop : EvP (fun k => laws_FnSegCut.j0 k s a ([] : List S39) true) (· = true) := by
      refine EvP.up ?_
      simp only [laws_FnSegCut.j0]
      refine EvP.pos trivial (EvP.pos rfl ?_)
      rw [liOk_true]
      exact EvP.now _ rfl
    refine EvP.ite (fun _ => stop) (fun h5 => EvP.ite (fun _ => stop) (fun h6 => ?_))
    unfold segB at hB
    rw [decide_eq_true (show (s.length : Int) ≤ 24 by omega), Bool.true_and, decide_eq_true_eq] at hB
    rw [decide_eq_true (show a > 8 by omega)]
    exact stop
  · rw [if_pos hB]
    unfold segB at hB
    rw [Bool.and_eq_true, decide_eq_true_eq, decide_eq_true_eq] at hB
    obtain ⟨m, rfl⟩ := Int.eq_ofNat_of_zero_le (by omega : 0 ≤ a)
    rw [Int.toNat_natCast]
    have hb := segL_bound s m (by omega) (by omega)
    refine EvP.eq_bind (liParts_ok _ hb.1 hb.2) (EvP.pos rfl (EvP.neg (by omega) (EvP.neg (by omega) ?_)))
    rw [decide_eq_false (show ¬ (m : Int) > 8 by omega)]
    refine EvP.up ?_
    simp only [laws_FnSegCut.j0]
    exact EvP.neg (by simp) (segCut_all s m (by omega) (by omega))

end Go.Proofs.Yteknaofnageihaa.Pure
