/- The law FnExactCrcOf: CrcOf of the program is that of the reference, for all bytes. No condition. -/
import Derived.Test.YtmfpcmkkldfekaaPFnExactCrcOfx1
namespace Go.Proofs.Ytmfpcmkkldfekaa.Pure
open Go.RowKit Go.Proofs.Ytmfpcmkkldfekaa.PFnExactCrcOf Go.Proofs.YtmfpcmkkldfekaaW.PrintWords Go.Proofs.YtmfpcmkkldfekaaW.PrintLast Go.Proofs.YtmfpcmkkldfekaaW.PrintMore

/-! A small calculus: with enough rounds g comes to something of which Q holds. -/
def EvP {α : Type} (g : Nat → Option α) (Q : α → Prop) : Prop := ∃ r, Ev g r ∧ Q r
theorem EvP.now {α : Type} {Q : α → Prop} (r : α) (h : Q r) : EvP (fun _ => some r) Q := ⟨r, Ev.now r, h⟩
theorem EvP.here {α : Type} {o : Option α} {Q : α → Prop} (r : α) (e : o = some r) (h : Q r) : EvP (fun _ => o) Q := by subst e; exact EvP.now r h
theorem EvP.of {α : Type} {g : Nat → Option α} {Q : α → Prop} (K : Nat) (h : ∃ r, (∀ k, K ≤ k → g k = some r) ∧ Q r) : EvP g Q := by
  obtain ⟨r, h1, h2⟩ := h
  exact ⟨r, ⟨K, h1⟩, h2⟩
theorem EvP.bind {α β : Type} {g : Nat → Option α} {f : Nat → α → Option β} {P : α → Prop} {Q : β → Prop} (h : EvP g P) (k : ∀ a, P a → EvP (fun n => f n a) Q) : EvP (fun n => (g n).bind (f n)) Q := by
  obtain ⟨a, ha, hp⟩ := h
  obtain ⟨r, hr, hq⟩ := k a hp
  exact ⟨r, Ev.bind ha hr, hq⟩
theorem EvP.some_bind {α β : Type} {a : α} {f : Nat → α → Option β} {Q : β → Prop} (k : EvP (fun n => f n a) Q) : EvP (fun n => (some a).bind (f n)) Q := k
theorem EvP.step {α : Type} {g f : Nat → Option α} {Q : α → Prop} (h : ∀ k, g (k + 1) = f k) (k : EvP f Q) : EvP g Q := by
  obtain ⟨r, hr, hq⟩ := k
  exact ⟨r, Ev.step h hr, hq⟩
theorem EvP.congr {α : Type} {g f : Nat → Option α} {Q : α → Prop} (h : ∀ k, g k = f k) (k : EvP f Q) : EvP g Q := by
  obtain ⟨r, hr, hq⟩ := k
  exact ⟨r, Ev.congr h hr, hq⟩
theorem EvP.mono {α : Type} {g : Nat → Option α} {P Q : α → Prop} (h : EvP g P) (k : ∀ a, P a → Q a) : EvP g Q := by
  obtain ⟨r, hr, hp⟩ := h
  exact ⟨r, hr, k r hp⟩
theorem EvP.ite {α : Type} {c : Prop} [Decidable c] {f g : Nat → Option α} {Q : α → Prop} (h1 : c → EvP f Q) (h2 : ¬ c → EvP g Q) : EvP (fun k => if c then f k else g k) Q := by
  by_cases hc : c
  · simp only [if_pos hc]; exact h1 hc
  · simp only [if_neg hc]; exact h2 hc
theorem EvP.pos {α : Type} {c : Prop} [Decidable c] {f g : Nat → Option α} {Q : α → Prop} (hc : c) (h : EvP f Q) : EvP (fun k => if c then f k else g k) Q := by
  simp only [if_pos hc]; exact h
theorem EvP.neg {α : Type} {c : Prop} [Decidable c] {f g : Nat → Option α} {Q : α → Prop} (hc : ¬ c) (h : EvP g Q) : EvP (fun k => if c then f k else g k) Q := by
  simp only [if_neg hc]; exact h
theorem EvP.rounds {α : Type} {g : Nat → Option α} {r : α} (h : EvP g (· = r)) : ∃ k, g k = some r := by
  obtain ⟨q, hq, rfl⟩ := h
  exact hq.rounds
theorem EvP.up {α : Type} {g : Nat → Option α} {Q : α → Prop} (h : EvP (fun k => g (k + 1)) Q) : EvP g Q := EvP.step (fun _ => rfl) h
theorem EvP.val_bind {α β : Type} {o : Option α} {a : α} {f : Nat → α → Option β} {Q : β → Prop} (e : o = some a) (k : EvP (fun n => f n a) Q) : EvP (fun n => o.bind (f n)) Q := by subst e; exact k
theorem wrap64_id {x : Int} (h : -9223372036854775808 ≤ x) (h2 : x ≤ 9223372036854775807) : wrap64 x = x := by unfold wrap64; omega
theorem toByteS_loop (l : List Int) (hl : l.length ≤ 281474976710656) (d : Nat) : ∀ i : Nat, i ≤ l.length → l.length - i = d → EvP (fun k => laws_toByteS.l0 k l (l.take i ++ List.replicate (l.length - i) 0) (i : Int)) (· = l) := by
  induction d with
  | zero =>
    intro i h0 hd
    have hi : i = l.length := by omega
    subst hi
    refine EvP.up ?_
    simp only [laws_toByteS.l0]
    exact EvP.neg (by omega) (EvP.now _ (by simp))
  | succ d ih =>
    intro i h0 hd
    refine EvP.up ?_
    simp only [laws_toByteS.l0]
    refine EvP.pos (by omega) (EvP.pos (by omega) (EvP.pos (by simp; omega) ?_))
    have hw : wrap64 ((i : Int) + 1) = ((i + 1 : Nat) : Int) := by rw [wrap64_id (by omega) (by omega)]; omega
    have hs : (l.take i ++ List.replicate (l.length - i) (0 : Int)).set ((i : Int)).toNat (rd l i) = l.take (i + 1) ++ List.replicate (l.length - (i + 1)) 0 := by
      have hlt : i < l.length := by omega
      have hr : rd l (i : Int) = l[i] := by
        unfold rd
        rw [Int.toNat_natCast, List.getD_eq_getElem?_getD, List.getElem?_eq_getElem hlt]; rfl
      rw [hr, Int.toNat_natCast, List.set_append_right _ _ (by rw [List.length_take]; omega), List.length_take, Nat.min_eq_left (by omega), Nat.sub_self, show l.length - i = (l.length - (i + 1)) + 1 by omega, List.replicate_succ, List.set_cons_zero]
      have e := List.take_succ_eq_append_getElem hlt
      rw [e, List.append_assoc]
      rfl
    rw [hw, hs]
    exact ih (i + 1) (by omega) (by omega)
theorem toByteS_ok (l : List Int) (hl : l.length ≤ 281474976710656) : EvP (fun k => laws_toByteS.f k l) (· = l) := by
  unfold laws_toByteS.f
  refine EvP.pos (by omega) (EvP.pos (by omega) ?_)
  have h := toByteS_loop l hl l.length 0 (by omega) (by omega)
  simpa using h
theorem eqByteS_loop (a b : List Int) (hab : a.length = b.length) (hl : a.length ≤ 281474976710656) (d : Nat) : ∀ i : Nat, i ≤ a.length → a.length - i = d → a.take i = b.take i → EvP (fun k => laws_eqByteS.l0 k a b (i : Int)) (· = decide (a = b)) := by
  induction d with
  | zero =>
    intro i h0 hd ht
    refine EvP.up ?_
    simp only [laws_eqByteS.l0]
    refine EvP.neg (by omega) (EvP.now _ ?_)
    rw [List.take_of_length_le (by omega), List.take_of_length_le (by omega)] at ht
    exact (decide_eq_true ht).symm
  | succ d ih =>
    intro i h0 hd ht
    have hi : i < a.length := by omega
    have hi2 : i < b.length := by omega
    refine EvP.up ?_
    simp only [laws_eqByteS.l0]
    refine EvP.pos (by omega) (EvP.pos (by omega) (EvP.pos (by omega) ?_))
    have ha : rd a (i : Int) = a[i] := by unfold rd; rw [Int.toNat_natCast, List.getD_eq_getElem?_getD, List.getElem?_eq_getElem hi]; rfl
    have hb : rd b (i : Int) = b[i] := by unfold rd; rw [Int.toNat_natCast, List.getD_eq_getElem?_getD, List.getElem?_eq_getElem hi2]; rfl
    rw [ha, hb]
    have hw : wrap64 ((i : Int) + 1) = ((i + 1 : Nat) : Int) := by rw [wrap64_id (by omega) (by omega)]; omega
    rw [hw]
    refine EvP.ite (fun h => ih (i + 1) (by omega) (by omega) ?_) (fun h => EvP.now _ ?_)
    · rw [List.take_succ_eq_append_getElem hi, List.take_succ_eq_append_getElem hi2, ht, h]
    · refine (decide_eq_false (fun e => h ?_)).symm
      subst e; rfl
theorem eqByteS_ok (a b : List Int) (hl : a.length ≤ 281474976710656) : EvP (fun k => laws_eqByteS.f k a b) (· = decide (a = b)) := by
  unfold laws_eqByteS.f
  refine EvP.ite (fun h => eqByteS_loop a b (by omega) hl a.length 0 (by omega) (by omega) (by simp)) (fun h => EvP.now _ ?_)
  exact (decide_eq_false (fun e => h (by rw [e]))).symm
theorem EvP.eq_bind {α β : Type} {g : Nat → Option α} {f : Nat → α → Option β} {a : α} {Q : β → Prop} (h : EvP g (· = a)) (k : EvP (fun n => f n a) Q) : EvP (fun n => (g n).bind (f n)) Q := EvP.bind h (fun _ e => by subst e; exact k)
theorem xor16 (a b : Int) (ha : 0 ≤ a ∧ a < 65536) (hb : 0 ≤ b ∧ b < 65536) : 0 ≤ Go.bits .xor .i64 a b ∧ Go.bits .xor .i64 a b < 65536 := by
  obtain ⟨m, rfl⟩ := Int.eq_ofNat_of_zero_le ha.1
  obtain ⟨n, rfl⟩ := Int.eq_ofNat_of_zero_le hb.1
  have hm : m < 2 ^ 16 := by omega
  have hn : n < 2 ^ 16 := by omega
  have hx := Nat.xor_lt_two_pow hm hn
  have h1 : m % 2 ^ 64 = m := Nat.mod_eq_of_lt (by omega)
  have h2 : n % 2 ^ 64 = n := Nat.mod_eq_of_lt (by omega)
  have h3 : (BitVec.ofNat 64 m ^^^ BitVec.ofNat 64 n).toNat = m ^^^ n := by rw [BitVec.toNat_xor, BitVec.toNat_ofNat, BitVec.toNat_ofNat, h1, h2]
  have h4 : Go.bits .xor .i64 (m : Int) (n : Int) = IntKind.i64.wrap ((BitVec.ofNat 64 m ^^^ BitVec.ofNat 64 n).toNat) := rfl
  rw [h4, h3, IntKind.wrap_i64]
  omega
theorem and1 (a : Int) (ha : 0 ≤ a ∧ a < 65536) : Go.bits .and .i64 a 1 = a % 2 := by
  have h := bits_mask .i64 16 (by decide) (fun n h0 h1 => by rw [IntKind.wrap_i64]; omega) 1 (by decide) a ha.1 (by omega)
  simpa using h
theorem step_round (k : Nat) : ∀ (x i : Int), 0 ≤ x ∧ x < 65536 → spec_CrcStep.l0 k x i = impl_step.l0 k x i := by
  induction k with
  | zero => intro x i _; rfl
  | succ k ih =>
    intro x i hx
    simp only [spec_CrcStep.l0, impl_step.l0]
    have h1 : Int.tmod x 2 = x % 2 := Int.tmod_eq_emod_of_nonneg hx.1
    have h2 : Int.tdiv x 2 = x / 2 := Int.tdiv_eq_ediv_of_nonneg hx.1
    rw [and1 x hx, h1, h2, wrap64_id (x := x / 2) (by omega) (by omega)]
    rw [ih (x / 2) _ (by omega), ih _ _ (xor16 (x / 2) 40961 (by omega) (by omega))]
theorem step_ends (d : Nat) : ∀ (x i : Int), (0 ≤ x ∧ x < 65536) → 0 ≤ i → i ≤ 8 → 8 - i = d → EvP (fun k => impl_step.l0 k x i) (fun r => 0 ≤ r ∧ r < 65536) := by
  induction d with
  | zero =>
    intro x i hx h0 h1 hd
    refine EvP.up ?_
    simp only [impl_step.l0]
    exact EvP.neg (by omega) (EvP.now _ hx)
  | succ d ih =>
    intro x i hx h0 h1 hd
    refine EvP.up ?_
    simp only [impl_step.l0]
    refine EvP.pos (by omega) ?_
    rw [wrap64_id (x := i + 1) (by omega) (by omega)]
    refine EvP.ite (fun _ => ih _ (i + 1) (xor16 (x / 2) 40961 (by omega) (by omega)) (by omega) (by omega) (by omega)) (fun _ => ih _ (i + 1) (by omega) (by omega) (by omega) (by omega))
theorem u8_range {b : Int} (h : (Lit.int .u8 b).wf = true) : 0 ≤ b ∧ b ≤ 255 := by
  simp [Lit.wf, IntKind.min, IntKind.max, IntKind.signed, IntKind.bits] at h
  omega
theorem step_ok (x b : Int) (hx : 0 ≤ x ∧ x < 65536) (hb : 0 ≤ b ∧ b ≤ 255) : EvP (fun k => impl_step.f k x b) (fun r => 0 ≤ r ∧ r < 65536) := by
  unfold impl_step.f
  rw [wrap64_id (x := b) (by omega) (by omega)]
  exact step_ends 8 _ 0 (xor16 x b hx (by omega)) (by omega) (by omega) (by omega)
theorem step_same (k : Nat) (x b : Int) (hx : 0 ≤ x ∧ x < 65536) (hb : 0 ≤ b ∧ b ≤ 255) : spec_CrcStep.f k x b = impl_step.f k x b := by
  unfold impl_step.f spec_CrcStep.f spec_l1In.f
  rw [if_pos hx.1, decide_eq_true (show x ≤ 65535 by omega), Option.bind_some, if_pos rfl, wrap64_id (x := b) (by omega) (by omega)]
  exact step_round k _ 0 (xor16 x b hx (by omega))
theorem spec_step (x b : Int) (hx : 0 ≤ x ∧ x < 65536) (hb : 0 ≤ b ∧ b ≤ 255) : ∃ r, Ev (fun k => spec_CrcStep.f k x b) r ∧ Ev (fun k => impl_step.f k x b) r ∧ 0 ≤ r ∧ r < 65536 := by
  obtain ⟨r, hr, h⟩ := step_ok x b hx hb
  exact ⟨r, Ev.congr (fun k => step_same k x b hx hb) hr, hr, h⟩
theorem crcOf_loop (l : List Int) (hl : l.length ≤ 281474976710656) (hb : ∀ x ∈ l, 0 ≤ x ∧ x ≤ 255) (d : Nat) : ∀ (i : Nat) (x : Int), i ≤ l.length → l.length - i = d → 0 ≤ x ∧ x < 65536 →
    ∃ r, Ev (fun k => spec_CrcOf.l0 k l x (i : Int)) r ∧ Ev (fun k => impl_CrcOf.l0 k x l (l.length : Int) (i : Int)) r := by
  induction d with
  | zero =>
    intro i x h0 hd hx
    refine ⟨x, Ev.step (f := fun _ => some x) (fun k => ?_) (Ev.now x), Ev.step (f := fun _ => some x) (fun k => ?_) (Ev.now x)⟩
    · simp only [spec_CrcOf.l0]; rw [if_neg (by omega)]
    · simp only [impl_CrcOf.l0]; rw [if_neg (by omega)]
  | succ d ih =>
    intro i x h0 hd hx
    have hi : i < l.length := by omega
    have hr : rd l (i : Int) = l[i] := by unfold rd; rw [Int.toNat_natCast, List.getD_eq_getElem?_getD, List.getElem?_eq_getElem hi]; rfl
    obtain ⟨r, h1, h2, h3⟩ := spec_step x l[i] hx (hb _ (List.getElem_mem hi))
    have hw : wrap64 ((i : Int) + 1) = ((i + 1 : Nat) : Int) := by rw [wrap64_id (by omega) (by omega)]; omega
    obtain ⟨q, g1, g2⟩ := ih (i + 1) r (by omega) (by omega) h3
    refine ⟨q, ?_, ?_⟩
    · refine Ev.step (f := fun k => (spec_CrcStep.f k x l[i]).bind fun t => spec_CrcOf.l0 k l t ((i + 1 : Nat) : Int)) (fun k => ?_) (Ev.bind h1 g1)
      simp only [spec_CrcOf.l0]
      rw [if_pos (by omega), if_pos (by omega), hr, hw]
    · refine Ev.step (f := fun k => (impl_step.f k x l[i]).bind fun t => impl_CrcOf.l0 k t l (l.length : Int) ((i + 1 : Nat) : Int)) (fun k => ?_) (Ev.bind h2 g2)
      simp only [impl_CrcOf.l0]
      rw [if_pos (by omega), if_pos (by omega), if_pos (by omega), hr, hw]
theorem FnExactCrcOf : laws_FnExactCrcOf.Pure := by
  intro l hl _ hw
  have hb : ∀ x ∈ l, 0 ≤ x ∧ x ≤ 255 := fun x hx => u8_range (hw x hx)
  refine EvP.rounds ?_
  unfold laws_FnExactCrcOf.f
  refine EvP.ite (fun _ => EvP.now _ rfl) (fun hn => ?_)
  have hl : l.length ≤ 281474976710656 := by omega
  obtain ⟨r, h1, h2⟩ := crcOf_loop l hl hb l.length 0 0 (by omega) (by omega) (by omega)
  have g1 : EvP (fun k => spec_CrcOf.f k l) (· = r) := ⟨r, h1, rfl⟩
  have g2 : EvP (fun k => impl_CrcOf.f k l) (· = r) := ⟨r, h2, rfl⟩
  refine EvP.eq_bind (toByteS_ok l hl) (EvP.eq_bind g1 (EvP.eq_bind (toByteS_ok l hl) (EvP.eq_bind g2 (EvP.pos rfl (EvP.eq_bind (toByteS_ok l hl) (EvP.eq_bind (eqByteS_ok l l hl) ?_))))))
  rw [decide_eq_true rfl]
  exact EvP.now _ rfl

end Go.Proofs.Ytmfpcmkkldfekaa.Pure
