/- The law FnExactRxOk: RxOk of the program is that of the reference, for every RxState. No condition. -/
import Derived.Test.YtiilmbpknngpfaaOpenFnExactRxOk
namespace Go.Proofs.Ytiilmbpknngpfaa.Pure
open Go.RowKit Go.Proofs.Ytiilmbpknngpfaa.PFnExactRxOk Go.Proofs.YtiilmbpknngpfaaW.PrintWords Go.Proofs.YtiilmbpknngpfaaW.PrintLast Go.Proofs.YtiilmbpknngpfaaW.PrintMore

/-! A small calculus: with enough rounds g comes to something of which Q holds. -/
def EvP {α : Type} (g : Nat → Option α) (Q : α → Prop) : Prop := ∃ r, Ev g r ∧ Q r
theorem EvP.now {α : Type} {Q : α → Prop} (r : α) (h : Q r) : EvP (fun _ => some r) Q := ⟨r, Ev.now r, h⟩
theorem EvP.here {α : Type} {o : Option α} {Q : α → Prop} (r : α) (e : o = some r) (h : Q r) : EvP (fun _ => o) Q := by subst e; exact EvP.now r h
theorem EvP.of {α : Type} {g : Nat → Option α} {Q : α → Prop} (K : Nat) (h : ∃ r, (∀ k, K ≤ k → g k = some r) ∧ Q r) : EvP g Q := by
  obtain ⟨r, h1, h2⟩ := h
  exact ⟨r, ⟨K, h1⟩, h2⟩
theorem EvP.bind {α β : Type} {g : Nat → Option α} {f : Nat → α → Option β} {P : α → Prop} {Q : β → Prop} (h : EvP g P) (k : ∀ a, P a → EvP (fun n => f n a) Q) : EvP (fun n => (g n).bind (f n)) Q := by
  obtain ⟨a, ha, hp⟩ := h
  obtain ⟨r, hr, hq⟩ := k a hp
  exact ⟨r, Ev.bind ha hr, hq⟩
theorem EvP.some_bind {α β : Type} {a : α} {f : Nat → α → Option β} {Q : β → Prop} (k : EvP (fun n => f n a) Q) : EvP (fun n => (some a).bind (f n)) Q := k
theorem EvP.step {α : Type} {g f : Nat → Option α} {Q : α → Prop} (h : ∀ k, g (k + 1) = f k) (k : EvP f Q) : EvP g Q := by
  obtain ⟨r, hr, hq⟩ := k
  exact ⟨r, Ev.step h hr, hq⟩
theorem EvP.congr {α : Type} {g f : Nat → Option α} {Q : α → Prop} (h : ∀ k, g k = f k) (k : EvP f Q) : EvP g Q := by
  obtain ⟨r, hr, hq⟩ := k
  exact ⟨r, Ev.congr h hr, hq⟩
theorem EvP.mono {α : Type} {g : Nat → Option α} {P Q : α → Prop} (h : EvP g P) (k : ∀ a, P a → Q a) : EvP g Q := by
  obtain ⟨r, hr, hp⟩ := h
  exact ⟨r, hr, k r hp⟩
theorem EvP.ite {α : Type} {c : Prop} [Decidable c] {f g : Nat → Option α} {Q : α → Prop} (h1 : c → EvP f Q) (h2 : ¬ c → EvP g Q) : EvP (fun k => if c then f k else g k) Q := by
  by_cases hc : c
  · simp only [if_pos hc]; exact h1 hc
  · simp only [if_neg hc]; exact h2 hc
theorem EvP.pos {α : Type} {c : Prop} [Decidable c] {f g : Nat → Option α} {Q : α → Prop} (hc : c) (h : EvP f Q) : EvP (fun k => if c then f k else g k) Q := by
  simp only [if_pos hc]; exact h
theorem EvP.neg {α : Type} {c : Prop} [Decidable c] {f g : Nat → Option α} {Q : α → Prop} (hc : ¬ c) (h : EvP g Q) : EvP (fun k => if c then f k else g k) Q := by
  simp only [if_neg hc]; exact h
theorem EvP.rounds {α : Type} {g : Nat → Option α} {r : α} (h : EvP g (· = r)) : ∃ k, g k = some r := by
  obtain ⟨q, hq, rfl⟩ := h
  exact hq.rounds
theorem EvP.up {α : Type} {g : Nat → Option α} {Q : α → Prop} (h : EvP (fun k => g (k + 1)) Q) : EvP g Q := EvP.step (fun _ => rfl) h
theorem EvP.val_bind {α β : Type} {o : Option α} {a : α} {f : Nat → α → Option β} {Q : β → Prop} (e : o = some a) (k : EvP (fun n => f n a) Q) : EvP (fun n => o.bind (f n)) Q := by subst e; exact k
theorem wrap64_id {x : Int} (h : -9223372036854775808 ≤ x) (h2 : x ≤ 9223372036854775807) : wrap64 x = x := by unfold wrap64; omega
theorem toByteS_loop (l : List Int) (hl : l.length ≤ 281474976710656) (d : Nat) : ∀ i : Nat, i ≤ l.length → l.length - i = d → EvP (fun k => laws_toByteS.l0 k l (l.take i ++ List.replicate (l.length - i) 0) (i : Int)) (· = l) := by
  induction d with
  | zero =>
    intro i h0 hd
    have hi : i = l.length := by omega
    subst hi
    refine EvP.up ?_
    simp only [laws_toByteS.l0]
    exact EvP.neg (by omega) (EvP.now _ (by simp))
  | succ d ih =>
    intro i h0 hd
    refine EvP.up ?_
    simp only [laws_toByteS.l0]
    refine EvP.pos (by omega) (EvP.pos (by omega) (EvP.pos (by simp; omega) ?_))
    have hw : wrap64 ((i : Int) + 1) = ((i + 1 : Nat) : Int) := by rw [wrap64_id (by omega) (by omega)]; omega
    have hs : (l.take i ++ List.replicate (l.length - i) (0 : Int)).set ((i : Int)).toNat (rd l i) = l.take (i + 1) ++ List.replicate (l.length - (i + 1)) 0 := by
      have hlt : i < l.length := by omega
      have hr : rd l (i : Int) = l[i] := by
        unfold rd
        rw [Int.toNat_natCast, List.getD_eq_getElem?_getD, List.getElem?_eq_getElem hlt]; rfl
      rw [hr, Int.toNat_natCast, List.set_append_right _ _ (by rw [List.length_take]; omega), List.length_take, Nat.min_eq_left (by omega), Nat.sub_self, show l.length - i = (l.length - (i + 1)) + 1 by omega, List.replicate_succ, List.set_cons_zero]
      have e := List.take_succ_eq_append_getElem hlt
      rw [e, List.append_assoc]
      rfl
    rw [hw, hs]
    exact ih (i + 1) (by omega) (by omega)
theorem toByteS_ok (l : List Int) (hl : l.length ≤ 281474976710656) : EvP (fun k => laws_toByteS.f k l) (· = l) := by
  unfold laws_toByteS.f
  refine EvP.pos (by omega) (EvP.pos (by omega) ?_)
  have h := toByteS_loop l hl l.length 0 (by omega) (by omega)
  simpa using h
theorem eqByteS_loop (a b : List Int) (hab : a.length = b.length) (hl : a.length ≤ 281474976710656) (d : Nat) : ∀ i : Nat, i ≤ a.length → a.length - i = d → a.take i = b.take i → EvP (fun k => laws_eqByteS.l0 k a b (i : Int)) (· = decide (a = b)) := by
  induction d with
  | zero =>
    intro i h0 hd ht
    refine EvP.up ?_
    simp only [laws_eqByteS.l0]
    refine EvP.neg (by omega) (EvP.now _ ?_)
    rw [List.take_of_length_le (by omega), List.take_of_length_le (by omega)] at ht
    exact (decide_eq_true ht).symm
  | succ d ih =>
    intro i h0 hd ht
    have hi : i < a.length := by omega
    have hi2 : i < b.length := by omega
    refine EvP.up ?_
    simp only [laws_eqByteS.l0]
    refine EvP.pos (by omega) (EvP.pos (by omega) (EvP.pos (by omega) ?_))
    have ha : rd a (i : Int) = a[i] := by unfold rd; rw [Int.toNat_natCast, List.getD_eq_getElem?_getD, List.getElem?_eq_getElem hi]; rfl
    have hb : rd b (i : Int) = b[i] := by unfold rd; rw [Int.toNat_natCast, List.getD_eq_getElem?_getD, List.getElem?_eq_getElem hi2]; rfl
    rw [ha, hb]
    have hw : wrap64 ((i : Int) + 1) = ((i + 1 : Nat) : Int) := by rw [wrap64_id (by omega) (by omega)]; omega
    rw [hw]
    refine EvP.ite (fun h => ih (i + 1) (by omega) (by omega) ?_) (fun h => EvP.now _ ?_)
    · rw [List.take_succ_eq_append_getElem hi, List.take_succ_eq_append_getElem hi2, ht, h]
    · refine (decide_eq_false (fun e => h ?_)).symm
      subst e; rfl
theorem eqByteS_ok (a b : List Int) (hl : a.length ≤ 281474976710656) : EvP (fun k => laws_eqByteS.f k a b) (· = decide (a = b)) := by
  unfold laws_eqByteS.f
  refine EvP.ite (fun h => eqByteS_loop a b (by omega) hl a.length 0 (by omega) (by omega) (by simp)) (fun h => EvP.now _ ?_)
  exact (decide_eq_false (fun e => h (by rw [e]))).symm
theorem EvP.eq_bind {α β : Type} {g : Nat → Option α} {f : Nat → α → Option β} {a : α} {Q : β → Prop} (h : EvP g (· = a)) (k : EvP (fun n => f n a) Q) : EvP (fun n => (g n).bind (f n)) Q := EvP.bind h (fun _ e => by subst e; exact k)
theorem szByteS_ok (l : List Int) (hl : l.length ≤ maxLen) (n : Int) (hn : 0 ≤ n ∧ n ≤ 1048576) : ∃ m, laws_szByteS.f l n = some m ∧ m ≤ n ∧ (0 ≤ m → (l.length : Int) ≤ n) := by
  unfold maxLen at hl
  unfold laws_szByteS.f
  rw [wrap64_id (by omega) (by omega)]
  by_cases h : n - (l.length : Int) < 0
  · exact ⟨-1, by rw [if_pos h], by omega, by omega⟩
  · exact ⟨_, by rw [if_neg h], by omega, by omega⟩
theorem toJoin_ok (a : Int) (l : List Int) (hl : l.length ≤ 281474976710656) : EvP (fun k => laws_toSegJoin.f k a l) (· = (a, l)) := by
  unfold laws_toSegJoin.f
  exact EvP.eq_bind (toByteS_ok l hl) (EvP.now _ rfl)
theorem eqJoin_ok (a : Int) (l : List Int) (hl : l.length ≤ 281474976710656) : EvP (fun k => laws_eqSegJoin.f k a l a l) (· = true) := by
  unfold laws_eqSegJoin.f
  refine EvP.pos rfl (EvP.eq_bind (eqByteS_ok l l hl) ?_)
  rw [decide_eq_true rfl]
  exact EvP.now _ rfl
theorem szJoin_ok (a : Int) (l : List Int) (hl : l.length ≤ maxLen) (n : Int) (hn : 0 ≤ n ∧ n ≤ 1048576) : ∃ m, laws_szSegJoin.f a l n = some m ∧ m ≤ n ∧ (0 ≤ m → (l.length : Int) ≤ n) := by
  obtain ⟨m, h1, h2, h3⟩ := szByteS_ok l hl n hn
  unfold laws_szSegJoin.f
  rw [h1]
  by_cases h : m < 0
  · exact ⟨-1, by simp only [Option.bind_some]; rw [if_pos h], by omega, by omega⟩
  · exact ⟨m, by simp only [Option.bind_some]; rw [if_neg h], h2, h3⟩
def jok (len : Int) (got : List Int) : Bool := if len = 0 ∧ got.length = 0 then true else decide (2 ≤ len ∧ len ≤ 24 ∧ 1 ≤ (got.length : Int) ∧ (got.length : Int) ≤ len - 1)
theorem joinOk_val (len : Int) (got : List Int) : impl_JoinOk.f len got = some (jok len got) := by
  unfold impl_JoinOk.f impl_in.f jok
  by_cases h0 : len = 0
  · subst h0
    by_cases h1 : (got.length : Int) = 0
    · have : got.length = 0 := by omega
      simp [this]
    · have : ¬ got.length = 0 := by omega
      simp [this]
  · rw [if_neg h0, if_neg (fun h : len = 0 ∧ got.length = 0 => h0 h.1)]
    by_cases h1 : len ≥ 2
    · by_cases h2 : len ≤ 24
      · have hw : wrap64 (len - 1) = len - 1 := by unfold wrap64; omega
        rw [if_pos h1, decide_eq_true h2, hw]
        simp only [Option.bind_some, if_true]
        by_cases h3 : (got.length : Int) ≥ 1
        · rw [if_pos h3]
          simp only [Option.bind_some, Option.some.injEq, decide_eq_decide]
          omega
        · rw [if_neg h3]
          simp only [Option.bind_some, Option.some.injEq]
          exact (decide_eq_false (by omega)).symm
      · rw [if_pos h1, decide_eq_false h2]
        simp only [Option.bind_some, Option.some.injEq, Bool.false_eq_true, if_false]
        exact (decide_eq_false (by omega)).symm
    · rw [if_neg h1]
      simp only [Option.bind_some, Option.some.injEq, Bool.false_eq_true, if_false]
      exact (decide_eq_false (by omega)).symm
theorem joinOk_same (len : Int) (got : List Int) : spec_JoinOk.f len got = some (jok len got) := joinOk_val len got
def xok (exp count len : Int) (got : List Int) : Bool := decide ((0 ≤ exp ∧ exp ≤ 7) ∧ (0 ≤ count ∧ count ≤ 9999) ∧ count % 8 = exp) && jok len got
theorem rxOk_val (exp count len : Int) (got : List Int) (a b c : Bool) : impl_RxOk.f exp count len got a b c = some (xok exp count len got) := by
  have iv : ∀ a lo hi : Int, impl_in.f a lo hi = some (decide (lo ≤ a ∧ a ≤ hi)) := by
    intro a lo hi
    unfold impl_in.f
    by_cases h : a ≥ lo
    · rw [if_pos h]; simp only [Option.some.injEq, decide_eq_decide]; omega
    · rw [if_neg h]; simp only [Option.some.injEq]; exact (decide_eq_false (by omega)).symm
  unfold impl_RxOk.f impl_isNumber.f xok
  simp only [iv, joinOk_val, Option.bind_some, decide_eq_true_eq]
  by_cases h1 : 0 ≤ exp ∧ exp ≤ 7
  · rw [if_pos h1]
    by_cases h2 : 0 ≤ count ∧ count ≤ 9999
    · rw [if_pos h2]
      have hn : impl_NumOf.f count = some (count % 8) := by
        unfold impl_NumOf.f
        rw [if_neg (by omega), Int.tmod_eq_emod_of_nonneg h2.1]
      rw [hn]
      simp only [Option.bind_some]
      by_cases h3 : count % 8 = exp
      · rw [if_pos h3, decide_eq_true ⟨h1, h2, h3⟩]; simp
      · rw [if_neg h3, decide_eq_false (fun h => h3 h.2.2)]; simp
    · rw [if_neg h2, decide_eq_false (fun h => h2 h.2.1)]; simp
  · rw [if_neg h1, decide_eq_false (fun h => h1 h.1)]; simp
theorem rxOk_same (exp count len : Int) (got : List Int) (a b c : Bool) : spec_RxOk.f exp count len got a b c = some (xok exp count len got) := by
  have h : spec_RxOk.f exp count len got a b c = impl_RxOk.f exp count len got a b c := by
    unfold spec_RxOk.f impl_RxOk.f impl_isNumber.f
    have e2 : impl_in.f = spec_l1In.f := rfl
    have e3 : impl_NumOf.f = spec_NumOf.f := rfl
    have e4 : impl_JoinOk.f = spec_JoinOk.f := rfl
    rw [e2, e3, e4]
    simp only [Option.bind_assoc, Option.bind_some]
  rw [h, rxOk_val]
theorem FnExactRxOk : ∀ (a0_0 : Int) (a0_1 : Int) (a0_2 : Int) (l0_3 : List Int) (a0_4 : Bool) (a0_5 : Bool) (a0_6 : Bool), (Lit.int .i64 a0_0).wf = true → (Lit.int .i64 a0_1).wf = true → (Lit.int .i64 a0_2).wf = true → l0_3.length ≤ maxLen → (∀ y ∈ l0_3, (Lit.int .u8 y).wf = true) → ∃ k, laws_FnExactRxOk.f k a0_0 a0_1 a0_2 l0_3 a0_4 a0_5 a0_6 = some true := by
  intro a b c l x y z _ _ _ hl _
  refine EvP.rounds ?_
  unfold laws_FnExactRxOk.f
  obtain ⟨m, hm, _, hb⟩ := szJoin_ok c l hl 1048576 (by omega)
  have hz : ∃ m, laws_szRxState.f a b c l x y z 1048576 = some m ∧ (0 ≤ m → (l.length : Int) ≤ 1048576) := by
    unfold laws_szRxState.f
    rw [hm]
    by_cases h : m < 0
    · exact ⟨-1, by simp only [Option.bind_some]; rw [if_pos h], by omega⟩
    · exact ⟨m, by simp only [Option.bind_some]; rw [if_neg h], hb⟩
  obtain ⟨m, hm, hb⟩ := hz
  refine EvP.val_bind hm ?_
  refine EvP.ite (fun _ => EvP.now _ rfl) (fun hn => ?_)
  have hl : l.length ≤ 281474976710656 := by omega
  have tp : EvP (fun k => laws_toRxState.f k a b c l x y z) (· = (a, b, c, l, x, y, z)) := by
    unfold laws_toRxState.f
    exact EvP.eq_bind (toJoin_ok c l hl) (EvP.now _ rfl)
  have ep : EvP (fun k => laws_eqRxState.f k a b c l x y z a b c l x y z) (· = true) := by
    unfold laws_eqRxState.f
    refine EvP.pos rfl (EvP.pos rfl (EvP.eq_bind (eqJoin_ok c l hl) (EvP.pos rfl (EvP.neg (by simp) (EvP.neg (by simp) (EvP.neg (by simp) (EvP.now _ rfl)))))))
  exact EvP.eq_bind tp (EvP.val_bind (rxOk_same ..) (EvP.eq_bind tp (EvP.val_bind (rxOk_val ..) (EvP.neg (by simp) (EvP.eq_bind tp (EvP.eq_bind ep (EvP.pos rfl (EvP.now _ rfl))))))))

end Go.Proofs.Ytiilmbpknngpfaa.Pure
