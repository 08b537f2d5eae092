/- The law FnExactSegPut: SegPut of the program is that of the reference, for every SegJoin and SegPart, leaves what it is handed, and hands back memory of its own. No condition. -/
import Derived.Test.YteknaofnageihaaOpenFnExactSegPut
namespace Go.Proofs.Yteknaofnageihaa.Pure
open Go.RowKit Go.Proofs.Yteknaofnageihaa.QFnExactSegPut Go.Proofs.YteknaofnageihaaW.PrintWords Go.Proofs.YteknaofnageihaaW.PrintLast Go.Proofs.YteknaofnageihaaW.PrintMore
set_option linter.unusedVariables false
set_option linter.unusedSimpArgs false

/-! A small calculus: with enough rounds g comes to something of which Q holds. -/
def EvP {α : Type} (g : Nat → Option α) (Q : α → Prop) : Prop := ∃ r, Ev g r ∧ Q r
theorem EvP.now {α : Type} {Q : α → Prop} (r : α) (h : Q r) : EvP (fun _ => some r) Q := ⟨r, Ev.now r, h⟩
theorem EvP.here {α : Type} {o : Option α} {Q : α → Prop} (r : α) (e : o = some r) (h : Q r) : EvP (fun _ => o) Q := by subst e; exact EvP.now r h
theorem EvP.of {α : Type} {g : Nat → Option α} {Q : α → Prop} (K : Nat) (h : ∃ r, (∀ k, K ≤ k → g k = some r) ∧ Q r) : EvP g Q := by
  obtain ⟨r, h1, h2⟩ := h
  exact ⟨r, ⟨K, h1⟩, h2⟩
theorem EvP.bind {α β : Type} {g : Nat → Option α} {f : Nat → α → Option β} {P : α → Prop} {Q : β → Prop} (h : EvP g P) (k : ∀ a, P a → EvP (fun n => f n a) Q) : EvP (fun n => (g n).bind (f n)) Q := by
  obtain ⟨a, ha, hp⟩ := h
  obtain ⟨r, hr, hq⟩ := k a hp
  exact ⟨r, Ev.bind ha hr, hq⟩
theorem EvP.some_bind {α β : Type} {a : α} {f : Nat → α → Option β} {Q : β → Prop} (k : EvP (fun n => f n a) Q) : EvP (fun n => (some a).bind (f n)) Q := k
theorem EvP.step {α : Type} {g f : Nat → Option α} {Q : α → Prop} (h : ∀ k, g (k + 1) = f k) (k : EvP f Q) : EvP g Q := by
  obtain ⟨r, hr, hq⟩ := k
  exact ⟨r, Ev.step h hr, hq⟩
theorem EvP.congr {α : Type} {g f : Nat → Option α} {Q : α → Prop} (h : ∀ k, g k = f k) (k : EvP f Q) : EvP g Q := by
  obtain ⟨r, hr, hq⟩ := k
  exact ⟨r, Ev.congr h hr, hq⟩
theorem EvP.mono {α : Type} {g : Nat → Option α} {P Q : α → Prop} (h : EvP g P) (k : ∀ a, P a → Q a) : EvP g Q := by
  obtain ⟨r, hr, hp⟩ := h
  exact ⟨r, hr, k r hp⟩
theorem EvP.ite {α : Type} {c : Prop} [Decidable c] {f g : Nat → Option α} {Q : α → Prop} (h1 : c → EvP f Q) (h2 : ¬ c → EvP g Q) : EvP (fun k => if c then f k else g k) Q := by
  by_cases hc : c
  · simp only [if_pos hc]; exact h1 hc
  · simp only [if_neg hc]; exact h2 hc
theorem EvP.pos {α : Type} {c : Prop} [Decidable c] {f g : Nat → Option α} {Q : α → Prop} (hc : c) (h : EvP f Q) : EvP (fun k => if c then f k else g k) Q := by
  simp only [if_pos hc]; exact h
theorem EvP.neg {α : Type} {c : Prop} [Decidable c] {f g : Nat → Option α} {Q : α → Prop} (hc : ¬ c) (h : EvP g Q) : EvP (fun k => if c then f k else g k) Q := by
  simp only [if_neg hc]; exact h
theorem EvP.rounds {α : Type} {g : Nat → Option α} {r : α} (h : EvP g (· = r)) : ∃ k, g k = some r := by
  obtain ⟨q, hq, rfl⟩ := h
  exact hq.rounds
theorem EvP.up {α : Type} {g : Nat → Option α} {Q : α → Prop} (h : EvP (fun k => g (k + 1)) Q) : EvP g Q := EvP.step (fun _ => rfl) h
theorem EvP.val_bind {α β : Type} {o : Option α} {a : α} {f : Nat → α → Option β} {Q : β → Prop} (e : o = some a) (k : EvP (fun n => f n a) Q) : EvP (fun n => o.bind (f n)) Q := by subst e; exact k
theorem EvP.eq_bind {α β : Type} {g : Nat → Option α} {f : Nat → α → Option β} {a : α} {Q : β → Prop} (h : EvP g (· = a)) (k : EvP (fun n => f n a) Q) : EvP (fun n => (g n).bind (f n)) Q := EvP.bind h (fun _ e => by subst e; exact k)
theorem wrap64_id {x : Int} (h : -9223372036854775808 ≤ x) (h2 : x ≤ 9223372036854775807) : wrap64 x = x := by unfold wrap64; omega
theorem toByteS_loop (l : List Int) (hl : l.length ≤ 281474976710656) (d : Nat) : ∀ i : Nat, i ≤ l.length → l.length - i = d → EvP (fun k => laws_toByteS.l0 k l (l.take i ++ List.replicate (l.length - i) 0) (i : Int)) (· = l) := by
  induction d with
  | zero =>
    intro i h0 hd
    have hi : i = l.length := by omega
    subst hi
    refine EvP.up ?_
    simp only [laws_toByteS.l0]
    exact EvP.neg (by omega) (EvP.now _ (by simp))
  | succ d ih =>
    intro i h0 hd
    refine EvP.up ?_
    simp only [laws_toByteS.l0]
    refine EvP.pos (by omega) (EvP.pos (by omega) (EvP.pos (by simp; omega) ?_))
    have hw : wrap64 ((i : Int) + 1) = ((i + 1 : Nat) : Int) := by rw [wrap64_id (by omega) (by omega)]; omega
    have hs : (l.take i ++ List.replicate (l.length - i) (0 : Int)).set ((i : Int)).toNat (rd l i) = l.take (i + 1) ++ List.replicate (l.length - (i + 1)) 0 := by
      have hlt : i < l.length := by omega
      have hr : rd l (i : Int) = l[i] := by
        unfold rd
        rw [Int.toNat_natCast, List.getD_eq_getElem?_getD, List.getElem?_eq_getElem hlt]; rfl
      rw [hr, Int.toNat_natCast, List.set_append_right _ _ (by rw [List.length_take]; omega), List.length_take, Nat.min_eq_left (by omega), Nat.sub_self, show l.length - i = (l.length - (i + 1)) + 1 by omega, List.replicate_succ, List.set_cons_zero]
      have e := List.take_succ_eq_append_getElem hlt
      rw [e, List.append_assoc]
      rfl
    rw [hw, hs]
    exact ih (i + 1) (by omega) (by omega)
theorem toByteS_ok (l : List Int) (hl : l.length ≤ 281474976710656) : EvP (fun k => laws_toByteS.f k l) (· = l) := by
  unfold laws_toByteS.f
  refine EvP.pos (by omega) (EvP.pos (by omega) ?_)
  have h := toByteS_loop l hl l.length 0 (by omega) (by omega)
  simpa using h
theorem eqByteS_loop (a b : List Int) (hab : a.length = b.length) (hl : a.length ≤ 281474976710656) (d : Nat) : ∀ i : Nat, i ≤ a.length → a.length - i = d → a.take i = b.take i → EvP (fun k => laws_eqByteS.l0 k a b (i : Int)) (· = decide (a = b)) := by
  induction d with
  | zero =>
    intro i h0 hd ht
    refine EvP.up ?_
    simp only [laws_eqByteS.l0]
    refine EvP.neg (by omega) (EvP.now _ ?_)
    rw [List.take_of_length_le (by omega), List.take_of_length_le (by omega)] at ht
    exact (decide_eq_true ht).symm
  | succ d ih =>
    intro i h0 hd ht
    have hi : i < a.length := by omega
    have hi2 : i < b.length := by omega
    refine EvP.up ?_
    simp only [laws_eqByteS.l0]
    refine EvP.pos (by omega) (EvP.pos (by omega) (EvP.pos (by omega) ?_))
    have ha : rd a (i : Int) = a[i] := by unfold rd; rw [Int.toNat_natCast, List.getD_eq_getElem?_getD, List.getElem?_eq_getElem hi]; rfl
    have hb : rd b (i : Int) = b[i] := by unfold rd; rw [Int.toNat_natCast, List.getD_eq_getElem?_getD, List.getElem?_eq_getElem hi2]; rfl
    rw [ha, hb]
    have hw : wrap64 ((i : Int) + 1) = ((i + 1 : Nat) : Int) := by rw [wrap64_id (by omega) (by omega)]; omega
    rw [hw]
    refine EvP.ite (fun h => ih (i + 1) (by omega) (by omega) ?_) (fun h => EvP.now _ ?_)
    · rw [List.take_succ_eq_append_getElem hi, List.take_succ_eq_append_getElem hi2, ht, h]
    · refine (decide_eq_false (fun e => h ?_)).symm
      subst e; rfl
theorem eqByteS_ok (a b : List Int) (hl : a.length ≤ 281474976710656) : EvP (fun k => laws_eqByteS.f k a b) (· = decide (a = b)) := by
  unfold laws_eqByteS.f
  refine EvP.ite (fun h => eqByteS_loop a b (by omega) hl a.length 0 (by omega) (by omega) (by simp)) (fun h => EvP.now _ ?_)
  exact (decide_eq_false (fun e => h (by rw [e]))).symm
theorem szByteS_ok (l : List Int) (hl : l.length ≤ maxLen) (n : Int) (hn : 0 ≤ n ∧ n ≤ 1048576) : ∃ m, laws_szByteS.f l n = some m ∧ m ≤ n ∧ (0 ≤ m → (l.length : Int) ≤ n) := by
  unfold maxLen at hl
  unfold laws_szByteS.f
  rw [wrap64_id (by omega) (by omega)]
  by_cases h : n - (l.length : Int) < 0
  · exact ⟨-1, by rw [if_pos h], by omega, by omega⟩
  · exact ⟨_, by rw [if_neg h], by omega, by omega⟩
theorem toJoin_ok (a : Int) (l : List Int) (hl : l.length ≤ 281474976710656) : EvP (fun k => laws_toSegJoin.f k a l) (· = (a, l)) := by
  unfold laws_toSegJoin.f
  exact EvP.eq_bind (toByteS_ok l hl) (EvP.now _ rfl)
theorem eqJoin_ok (a : Int) (l : List Int) (hl : l.length ≤ 281474976710656) : EvP (fun k => laws_eqSegJoin.f k a l a l) (· = true) := by
  unfold laws_eqSegJoin.f
  refine EvP.pos rfl (EvP.eq_bind (eqByteS_ok l l hl) ?_)
  rw [decide_eq_true rfl]
  exact EvP.now _ rfl
theorem szJoin_ok (a : Int) (l : List Int) (hl : l.length ≤ maxLen) (n : Int) (hn : 0 ≤ n ∧ n ≤ 1048576) : ∃ m, laws_szSegJoin.f a l n = some m ∧ m ≤ n ∧ (0 ≤ m → (l.length : Int) ≤ n) := by
  obtain ⟨m, h1, h2, h3⟩ := szByteS_ok l hl n hn
  unfold laws_szSegJoin.f
  rw [h1]
  by_cases h : m < 0
  · exact ⟨-1, by simp only [Option.bind_some]; rw [if_pos h], by omega, by omega⟩
  · exact ⟨m, by simp only [Option.bind_some]; rw [if_neg h], h2, h3⟩
def jok (len : Int) (got : List Int) : Bool := if len = 0 ∧ got.length = 0 then true else decide (2 ≤ len ∧ len ≤ 24 ∧ 1 ≤ (got.length : Int) ∧ (got.length : Int) ≤ len - 1)
theorem joinOk_val (len : Int) (got : List Int) : impl_JoinOk.f len got = some (jok len got) := by
  unfold impl_JoinOk.f impl_in.f jok
  by_cases h0 : len = 0
  · subst h0
    by_cases h1 : (got.length : Int) = 0
    · have : got.length = 0 := by omega
      simp [this]
    · have : ¬ got.length = 0 := by omega
      simp [this]
  · rw [if_neg h0, if_neg (fun h : len = 0 ∧ got.length = 0 => h0 h.1)]
    by_cases h1 : len ≥ 2
    · by_cases h2 : len ≤ 24
      · have hw : wrap64 (len - 1) = len - 1 := by unfold wrap64; omega
        rw [if_pos h1, decide_eq_true h2, hw]
        simp only [Option.bind_some, if_true]
        by_cases h3 : (got.length : Int) ≥ 1
        · rw [if_pos h3]
          simp only [Option.bind_some, Option.some.injEq, decide_eq_decide]
          omega
        · rw [if_neg h3]
          simp only [Option.bind_some, Option.some.injEq]
          exact (decide_eq_false (by omega)).symm
      · rw [if_pos h1, decide_eq_false h2]
        simp only [Option.bind_some, Option.some.injEq, Bool.false_eq_true, if_false]
        exact (decide_eq_false (by omega)).symm
    · rw [if_neg h1]
      simp only [Option.bind_some, Option.some.injEq, Bool.false_eq_true, if_false]
      exact (decide_eq_false (by omega)).symm
/-! A piece is ok. -/
def pok (seg len : Int) (l : List Int) : Bool := decide ((seg = 0 ∧ (l.length : Int) ≤ 8 ∧ len = (l.length : Int)) ∨ (seg = 1 ∧ 1 ≤ (l.length : Int) ∧ (l.length : Int) ≤ 8 ∧ (l.length : Int) + 1 ≤ len ∧ len ≤ 24) ∨ ((seg = 2 ∨ seg = 3) ∧ 1 ≤ (l.length : Int) ∧ (l.length : Int) ≤ 8 ∧ len = 0))
theorem in_val2 (a lo hi : Int) : impl_in.f a lo hi = some (decide (lo ≤ a ∧ a ≤ hi)) := by
  unfold impl_in.f
  by_cases h : a ≥ lo
  · rw [if_pos h]; simp only [Option.some.injEq, decide_eq_decide]; omega
  · rw [if_neg h]; simp only [Option.some.injEq]; exact (decide_eq_false (by omega)).symm
theorem pieceOk_val (seg len : Int) (l : List Int) (hl : l.length ≤ 281474976710656) : impl_pieceOk.f seg len l = some (pok seg len l) := by
  unfold impl_pieceOk.f pok
  simp only [in_val2, Option.bind_some, decide_eq_true_eq]
  rw [wrap64_id (x := (l.length : Int) + 1) (by omega) (by omega)]
  by_cases h0 : seg = 0
  · rw [if_pos h0]
    by_cases h1 : (l.length : Int) ≤ 8
    · rw [if_pos h1]
      rw [Option.some.injEq, Bool.eq_iff_iff, beq_iff_eq, decide_eq_true_eq]; omega
    · rw [if_neg h1, Option.some.injEq]; exact (decide_eq_false (by omega)).symm
  · rw [if_neg h0]
    by_cases h1 : seg = 1
    · rw [if_pos h1]
      by_cases h2 : 1 ≤ (l.length : Int) ∧ (l.length : Int) ≤ 8
      · rw [if_pos h2, Option.some.injEq, decide_eq_decide]; omega
      · rw [if_neg h2, Option.some.injEq]; exact (decide_eq_false (by omega)).symm
    · rw [if_neg h1]
      by_cases h3 : seg = 2
      · rw [if_pos h3]
        by_cases h2 : 1 ≤ (l.length : Int) ∧ (l.length : Int) ≤ 8
        · rw [if_pos h2, Option.some.injEq, Bool.eq_iff_iff, beq_iff_eq, decide_eq_true_eq]; omega
        · rw [if_neg h2, Option.some.injEq]; exact (decide_eq_false (by omega)).symm
      · rw [if_neg h3]
        by_cases h4 : seg = 3
        · rw [if_pos h4]
          by_cases h2 : 1 ≤ (l.length : Int) ∧ (l.length : Int) ≤ 8
          · rw [if_pos h2, Option.some.injEq, Bool.eq_iff_iff, beq_iff_eq, decide_eq_true_eq]; omega
          · rw [if_neg h2, Option.some.injEq]; exact (decide_eq_false (by omega)).symm
        · rw [if_neg h4, Option.some.injEq]; exact (decide_eq_false (by omega)).symm
theorem partOk_val (seg len : Int) (l : List Int) (hl : l.length ≤ 281474976710656) : impl_PartOk.f seg len l = some (pok seg len l) := by
  unfold impl_PartOk.f
  rw [pieceOk_val seg len l hl]
  rfl
def putV (len : Int) (got : List Int) (seg plen : Int) (data : List Int) : Int × List Int × List Int × Int :=
  if seg = 0 ∧ len = 0 then (0, [], got ++ data, 2) else if seg = 1 ∧ len = 0 then (plen, got ++ data, [], 1) else if seg = 2 ∧ len > 0 ∧ ((got ++ data).length : Int) < len then (len, got ++ data, [], 1) else if seg = 3 ∧ len > 0 ∧ ((got ++ data).length : Int) = len then (0, [], got ++ data, 2) else (0, [], [], 3)
def segPutV (len : Int) (got : List Int) (seg plen : Int) (data : List Int) : Int × List Int × List Int × Int :=
  if jok len got = true ∧ pok seg plen data = true then putV len got seg plen data else (0, [], [], 0)
theorem cloneb_val (l : List Int) (h : l.length ≤ 10000000) : impl_clone_byte.f l = some l := by
  unfold impl_clone_byte.f
  rw [if_pos (by omega)]
theorem put_j2 (all : List Int) (b : Bool) (len : Int) (got : List Int) (seg plen : Int) (data : List Int) :
    EvP (fun k => impl_SegJoin_put.j2 k all b len got seg plen data) (· = if b = true then (len, all, [], 1) else if seg = 3 ∧ len > 0 ∧ (all.length : Int) = len then (0, [], all, 2) else (0, [], [], 3)) := by
  refine EvP.up ?_
  simp only [impl_SegJoin_put.j2]
  refine EvP.ite (fun h => EvP.now _ (by rw [if_pos h])) (fun h => ?_)
  rw [if_neg h]
  refine EvP.ite (fun h1 => ?_) (fun h1 => EvP.now _ (by rw [if_neg (fun z => h1 z.1)]))
  refine EvP.ite (fun h2 => ?_) (fun h2 => EvP.now _ (by rw [if_neg (fun z => h2 z.2.1)]))
  exact EvP.ite (fun h3 => EvP.now _ (by rw [if_pos ⟨h1, h2, h3⟩])) (fun h3 => EvP.now _ (by rw [if_neg (fun z => h3 z.2.2)]))
theorem put_j1 (all : List Int) (b : Bool) (len : Int) (got : List Int) (seg plen : Int) (data : List Int) :
    EvP (fun k => impl_SegJoin_put.j1 k all b len got seg plen data) (· = if b = true then (plen, all, [], 1) else if seg = 2 ∧ len > 0 ∧ (all.length : Int) < len then (len, all, [], 1) else if seg = 3 ∧ len > 0 ∧ (all.length : Int) = len then (0, [], all, 2) else (0, [], [], 3)) := by
  refine EvP.up ?_
  simp only [impl_SegJoin_put.j1]
  refine EvP.ite (fun h => EvP.now _ (by rw [if_pos h])) (fun h => ?_)
  rw [if_neg h]
  refine EvP.ite (fun h1 => ?_) (fun h1 => (put_j2 _ _ _ _ _ _ _).mono (fun r hr => by rw [hr, if_neg (by simp), if_neg (c := seg = 2 ∧ _) (fun z => h1 z.1)]))
  refine EvP.ite (fun h2 => ?_) (fun h2 => (put_j2 _ _ _ _ _ _ _).mono (fun r hr => by rw [hr, if_neg (by simp), if_neg (c := seg = 2 ∧ _) (fun z => h2 z.2.1)]))
  refine (put_j2 _ _ _ _ _ _ _).mono (fun r hr => ?_)
  rw [hr]
  by_cases h3 : (all.length : Int) < len
  · rw [if_pos (decide_eq_true h3), if_pos ⟨h1, h2, h3⟩]
  · rw [if_neg (by rw [decide_eq_false h3]; simp), if_neg (c := seg = 2 ∧ _) (fun z => h3 z.2.2)]
theorem put_j0 (all : List Int) (b : Bool) (len : Int) (got : List Int) (seg plen : Int) (data : List Int) :
    EvP (fun k => impl_SegJoin_put.j0 k all b len got seg plen data) (· = if b = true then (0, [], all, 2) else if seg = 1 ∧ len = 0 then (plen, all, [], 1) else if seg = 2 ∧ len > 0 ∧ (all.length : Int) < len then (len, all, [], 1) else if seg = 3 ∧ len > 0 ∧ (all.length : Int) = len then (0, [], all, 2) else (0, [], [], 3)) := by
  refine EvP.up ?_
  simp only [impl_SegJoin_put.j0]
  refine EvP.ite (fun h => EvP.now _ (by rw [if_pos h])) (fun h => ?_)
  rw [if_neg h]
  refine EvP.ite (fun h1 => ?_) (fun h1 => (put_j1 _ _ _ _ _ _ _).mono (fun r hr => by rw [hr, if_neg (by simp), if_neg (c := seg = 1 ∧ _) (fun z => h1 z.1)]))
  refine (put_j1 _ _ _ _ _ _ _).mono (fun r hr => ?_)
  rw [hr]
  by_cases h3 : len = 0
  · rw [if_pos (beq_iff_eq.2 h3), if_pos ⟨h1, h3⟩]
  · rw [if_neg (by rw [beq_eq_false_iff_ne.2 h3]; simp), if_neg (c := seg = 1 ∧ _) (fun z => h3 z.2)]
theorem put_ok (len : Int) (got : List Int) (seg plen : Int) (data : List Int) (hg : got.length ≤ 5000000) (hd : data.length ≤ 5000000) :
    EvP (fun k => impl_SegJoin_put.f k len got seg plen data) (· = putV len got seg plen data) := by
  unfold impl_SegJoin_put.f putV
  rw [cloneb_val got (by omega)]
  refine EvP.some_bind (EvP.pos (by omega) ?_)
  rw [cloneb_val _ (by rw [List.length_append]; omega)]
  refine EvP.some_bind (EvP.ite (fun h1 => ?_) (fun h1 => (put_j0 _ _ _ _ _ _ _).mono (fun r hr => by rw [hr, if_neg (by simp), if_neg (c := seg = 0 ∧ _) (fun z => h1 z.1)])))
  refine (put_j0 _ _ _ _ _ _ _).mono (fun r hr => ?_)
  rw [hr]
  by_cases h3 : len = 0
  · rw [if_pos (beq_iff_eq.2 h3), if_pos ⟨h1, h3⟩]
  · rw [if_neg (by rw [beq_eq_false_iff_ne.2 h3]; simp), if_neg (c := seg = 0 ∧ _) (fun z => h3 z.2)]
theorem segPut_ok (len : Int) (got : List Int) (seg plen : Int) (data : List Int) (hg : got.length ≤ 5000000) (hd : data.length ≤ 5000000) :
    EvP (fun k => impl_SegPut.f k len got seg plen data) (· = segPutV len got seg plen data) := by
  unfold impl_SegPut.f segPutV
  rw [joinOk_val]
  refine EvP.some_bind (EvP.ite (fun h1 => ?_) (fun h1 => EvP.now _ (by rw [if_neg (fun z => h1 z.1)])))
  rw [partOk_val _ _ _ (by omega)]
  refine EvP.some_bind (EvP.ite (fun h2 => ?_) (fun h2 => EvP.now _ (by rw [if_neg (fun z => h2 z.2)])))
  rw [if_pos ⟨h1, h2⟩]
  exact EvP.eq_bind (put_ok len got seg plen data hg hd) (EvP.now _ rfl)
theorem segPutV_bound (len : Int) (got : List Int) (seg plen : Int) (data : List Int) : (segPutV len got seg plen data).2.1.length ≤ got.length + data.length := by
  unfold segPutV putV
  repeat' split
  all_goals simp only [List.length_append, List.length_nil]; omega
theorem joinOk_same (len : Int) (got : List Int) : spec_JoinOk.f len got = some (jok len got) := joinOk_val len got
theorem l2Seg_ok (a b c : Int) (d e : Bool) (f seg len : Int) (l : List Int) (hl : l.length ≤ 281474976710656) : EvP (fun k => spec_l2Seg.f k a b c d e f seg len l) (· = pok seg len l) := by
  have in_val3 : ∀ a lo hi : Int, spec_l1In.f a lo hi = some (decide (lo ≤ a ∧ a ≤ hi)) := by
    intro a lo hi
    unfold spec_l1In.f
    by_cases h : a ≥ lo
    · rw [if_pos h]; simp only [Option.some.injEq, decide_eq_decide]; omega
    · rw [if_neg h]; simp only [Option.some.injEq]; exact (decide_eq_false (by omega)).symm
  have tail : ∀ x : Bool, (x = true → pok seg len l = false) → (x = false → (0 ≤ seg ∧ seg ≤ 3) ∧ (l.length : Int) ≤ 8 ∧ ((l.length : Int) = 0 → len = 0)) → EvP (fun k => spec_l2Seg.j0 k x a b c d e f seg len l) (· = pok seg len l) := by
    intro x hx hx2
    refine EvP.up ?_
    simp only [spec_l2Seg.j0, in_val3, Option.bind_some, decide_eq_true_eq]
    refine EvP.ite (fun h => EvP.now _ (hx h).symm) (fun h => ?_)
    obtain ⟨h1, h2, h3⟩ := hx2 (Bool.eq_false_iff.mpr h)
    rw [wrap64_id (x := (l.length : Int) + 1) (by omega) (by omega)]
    unfold pok
    refine EvP.ite (fun h0 => EvP.now _ ?_) (fun h0 => EvP.ite (fun h4 => EvP.ite (fun h5 => EvP.now _ ?_) (fun h5 => EvP.now _ ?_)) (fun h4 => EvP.ite (fun h5 => EvP.now _ ?_) (fun h5 => EvP.now _ ?_)))
    · rw [Bool.eq_iff_iff, beq_iff_eq, decide_eq_true_eq]; omega
    · rw [decide_eq_decide]; omega
    · exact (decide_eq_false (by omega)).symm
    · rw [decide_eq_decide]; omega
    · exact (decide_eq_false (by omega)).symm
  unfold spec_l2Seg.f
  simp only [in_val3, Option.bind_some, decide_eq_true_eq]
  refine EvP.ite (fun h1 => EvP.ite (fun h2 => EvP.ite (fun h3 => tail _ ?_ ?_) (fun h3 => tail _ ?_ ?_)) (fun h2 => tail _ ?_ ?_)) (fun h1 => tail _ ?_ ?_)
  · intro h; rw [decide_eq_true_eq] at h; omega
  · intro h; rw [decide_eq_false_iff_not] at h; omega
  · intro _; unfold pok; exact decide_eq_false (by omega)
  · intro h; cases h
  · intro h; rw [decide_eq_true_eq] at h; unfold pok; exact decide_eq_false (by omega)
  · intro h; rw [decide_eq_false_iff_not] at h; omega
  · intro _; unfold pok; exact decide_eq_false (by omega)
  · intro h; cases h
theorem specPart_ok (seg len : Int) (l : List Int) (hl : l.length ≤ 281474976710656) : EvP (fun k => spec_PartOk.f k seg len l) (· = pok seg len l) := by
  unfold spec_PartOk.f
  refine EvP.bind (l2Seg_ok 0 0 0 false false 0 seg len l hl) ?_
  rintro _ rfl
  exact EvP.now _ rfl
theorem jok_cases {len : Int} {got : List Int} (h : jok len got = true) : (len = 0 ∧ got = []) ∨ (2 ≤ len ∧ len ≤ 24 ∧ 1 ≤ (got.length : Int) ∧ (got.length : Int) ≤ len - 1) := by
  unfold jok at h
  by_cases h0 : len = 0 ∧ got.length = 0
  · exact .inl ⟨h0.1, List.eq_nil_of_length_eq_zero h0.2⟩
  · rw [if_neg h0, decide_eq_true_eq] at h
    exact .inr h
theorem l4Bad_val : spec_l4Bad.f = some (0, [], [], 3) := rfl
theorem l4put_j0 (all : List Int) (b : Bool) (len : Int) (got : List Int) : EvP (fun k => spec_l4Put.j0 k all b len got) (· = if b = true then (0, [], [], 3) else (len, all, [], 1)) := by
  refine EvP.up ?_
  simp only [spec_l4Put.j0]
  refine EvP.ite (fun h => ?_) (fun h => EvP.now _ (by rw [if_neg h]))
  rw [if_pos h, l4Bad_val]
  exact EvP.now _ rfl
theorem l4put_ok (len : Int) (got : List Int) (seg plen : Int) (data : List Int) (hg : got.length ≤ 5000000) (hd : data.length ≤ 5000000) (hj : jok len got = true) (hp : pok seg plen data = true) :
    EvP (fun k => spec_l4Put.f k len got seg plen data) (· = putV len got seg plen data) := by
  have hl : len = 0 ∨ len > 0 := by rcases jok_cases hj with h | h <;> omega
  have hs : seg = 0 ∨ seg = 1 ∨ seg = 2 ∨ seg = 3 := by
    unfold pok at hp
    rw [decide_eq_true_eq] at hp
    omega
  unfold spec_l4Put.f putV
  refine EvP.some_bind (EvP.pos (by simp; omega) (EvP.some_bind ?_))
  rw [List.nil_append]
  refine EvP.pos (by omega) (EvP.some_bind ?_)
  rw [l4Bad_val]
  refine EvP.ite (fun h1 => EvP.ite (fun h2 => EvP.now _ ?_) (fun h2 => EvP.now _ ?_)) (fun h1 => EvP.ite (fun h2 => EvP.ite (fun h3 => EvP.now _ ?_) (fun h3 => EvP.now _ ?_)) (fun h2 => EvP.ite (fun h3 => EvP.ite (fun h4 => (l4put_j0 _ _ _ _).mono (fun r hr => ?_)) (fun h4 => (l4put_j0 _ _ _ _).mono (fun r hr => ?_))) (fun h3 => EvP.ite (fun h4 => EvP.ite (fun h5 => EvP.now _ ?_) (fun h5 => EvP.now _ ?_)) (fun h4 => EvP.now _ ?_))))
  · rw [if_neg (by omega), if_neg (by omega), if_neg (by omega), if_neg (by omega)]
  · rw [if_pos (by omega)]
  · rw [if_neg (by omega), if_neg (by omega), if_neg (by omega), if_neg (by omega)]
  · rw [if_neg (by omega), if_pos (by omega)]
  · rw [hr, if_neg (c := seg = 0 ∧ _) (by omega), if_neg (c := seg = 1 ∧ _) (by omega)]
    by_cases hc : ((got ++ data).length : Int) < len
    · rw [if_neg (by rw [decide_eq_false (by omega)]; simp), if_pos ⟨h3, h4, hc⟩]
    · rw [if_pos (decide_eq_true (by omega)), if_neg (c := seg = 2 ∧ _) (fun z => hc z.2.2), if_neg (c := seg = 3 ∧ _) (by omega)]
  · rw [hr, if_pos rfl, if_neg (by omega), if_neg (by omega), if_neg (by omega), if_neg (by omega)]
  · rw [if_neg (by omega), if_neg (by omega), if_neg (by omega), if_pos ⟨by omega, h4, h5⟩]
  · rw [if_neg (by omega), if_neg (by omega), if_neg (by omega), if_neg (fun z => h5 z.2.2)]
  · rw [if_neg (by omega), if_neg (by omega), if_neg (by omega), if_neg (by omega)]
theorem specSegPut_ok (len : Int) (got : List Int) (seg plen : Int) (data : List Int) (hg : got.length ≤ 5000000) (hd : data.length ≤ 5000000) :
    EvP (fun k => spec_SegPut.f k len got seg plen data) (· = segPutV len got seg plen data) := by
  unfold spec_SegPut.f segPutV
  rw [joinOk_same]
  refine EvP.some_bind (EvP.ite (fun h1 => ?_) (fun h1 => EvP.now _ (by rw [if_neg (fun z => h1 z.1)])))
  refine EvP.eq_bind (specPart_ok _ _ _ (by omega)) (EvP.ite (fun h2 => ?_) (fun h2 => EvP.now _ (by rw [if_neg (fun z => h2 z.2)])))
  rw [if_pos ⟨h1, h2⟩]
  exact EvP.eq_bind (l4put_ok len got seg plen data hg hd h1 h2) (EvP.now _ rfl)
def markL (n : Nat) (K : Int) : List Int := (List.range n).map fun (j : Nat) => (K + (j : Int)) % 256
theorem markL_len (n : Nat) (K : Int) : (markL n K).length = n := by simp [markL]
theorem markL_succ (n : Nat) (K : Int) : markL (n + 1) K = markL n K ++ [(K + (n : Int)) % 256] := by simp [markL, List.range_succ]
theorem mark_loop (l : List Int) (K : Int) (hK : 0 ≤ K ∧ K ≤ 100000000) (hl : l.length ≤ 10000000) (d : Nat) : ∀ i : Nat, i ≤ l.length → l.length - i = d →
    EvP (fun k => laws_markByteS.l0 k (markL i K ++ l.drop i) (K + (i : Int)) (i : Int)) (· = (K + (l.length : Int), markL l.length K)) := by
  induction d with
  | zero =>
    intro i h0 hd
    have hi : i = l.length := by omega
    subst hi
    refine EvP.up ?_
    simp only [laws_markByteS.l0]
    refine EvP.neg (by simp only [List.length_append, markL_len, List.length_drop]; omega) (EvP.now _ (by simp))
  | succ d ih =>
    intro i h0 hd
    refine EvP.up ?_
    simp only [laws_markByteS.l0]
    refine EvP.pos (by simp only [List.length_append, markL_len, List.length_drop]; omega) (EvP.pos (by omega) ?_)
    have hw : wrap64 ((i : Int) + 1) = ((i + 1 : Nat) : Int) := by rw [wrap64_id (by omega) (by omega)]; omega
    have hw2 : wrap64 (K + (i : Int) + 1) = K + ((i + 1 : Nat) : Int) := by rw [wrap64_id (by omega) (by omega)]; omega
    have hs : (markL i K ++ l.drop i).set ((i : Int)).toNat ((K + (i : Int)) % 256) = markL (i + 1) K ++ l.drop (i + 1) := by
      have hlt : i < l.length := by omega
      rw [Int.toNat_natCast, List.set_append_right _ _ (by rw [markL_len]; omega), markL_len, Nat.sub_self, List.drop_eq_getElem_cons hlt, List.set_cons_zero, markL_succ, List.append_assoc]
      rfl
    rw [hw, hw2, hs]
    exact ih (i + 1) (by omega) (by omega)
theorem markBytes_ok (l : List Int) (K : Int) (hK : 0 ≤ K ∧ K ≤ 100000000) (hl : l.length ≤ 10000000) : EvP (fun k => laws_markByteS.f k l K) (· = (K + (l.length : Int), markL l.length K)) := by
  unfold laws_markByteS.f
  have h := mark_loop l K hK hl l.length 0 (by omega) (by omega)
  simpa [markL] using h
theorem held_loop (n : Nat) (K : Int) (hK : 0 ≤ K ∧ K ≤ 100000000) (hl : n ≤ 10000000) (d : Nat) : ∀ i : Nat, i ≤ n → n - i = d →
    EvP (fun k => laws_heldByteS.l0 k (markL n K) (K + (i : Int)) (i : Int)) (· = K + (n : Int)) := by
  induction d with
  | zero =>
    intro i h0 hd
    have hi : i = n := by omega
    subst hi
    refine EvP.up ?_
    simp only [laws_heldByteS.l0]
    exact EvP.neg (by rw [markL_len]; omega) (EvP.now _ rfl)
  | succ d ih =>
    intro i h0 hd
    refine EvP.up ?_
    simp only [laws_heldByteS.l0]
    have hw : wrap64 ((i : Int) + 1) = ((i + 1 : Nat) : Int) := by rw [wrap64_id (by omega) (by omega)]; omega
    have hw2 : wrap64 (K + (i : Int) + 1) = K + ((i + 1 : Nat) : Int) := by rw [wrap64_id (by omega) (by omega)]; omega
    have hr : rd (markL n K) (i : Int) = (K + (i : Int)) % 256 := by
      have hlt : i < (markL n K).length := by rw [markL_len]; omega
      unfold rd
      rw [Int.toNat_natCast, List.getD_eq_getElem?_getD, List.getElem?_eq_getElem hlt]
      simp [markL]
    refine EvP.pos (by rw [markL_len]; omega) (EvP.pos (by omega) (EvP.pos hr ?_))
    rw [hw, hw2]
    exact ih (i + 1) (by omega) (by omega)
theorem heldBytes_ok (n : Nat) (K : Int) (hK : 0 ≤ K ∧ K ≤ 100000000) (hl : n ≤ 10000000) : EvP (fun k => laws_heldByteS.f k (markL n K) K) (· = K + (n : Int)) := by
  unfold laws_heldByteS.f
  have h := held_loop n K hK hl n 0 (by omega) (by omega)
  simpa using h
theorem szPart1 (a b : Int) (l : List Int) (hl : l.length ≤ maxLen) (n : Int) (hn : 0 ≤ n ∧ n ≤ 1048576) : ∃ m, laws_szSegPart.f a b l n = some m ∧ m ≤ n ∧ (0 ≤ m → (l.length : Int) ≤ n) := by
  obtain ⟨m, hm, h1, hb⟩ := szByteS_ok l hl n hn
  unfold laws_szSegPart.f
  rw [hm]
  by_cases h : m < 0
  · exact ⟨-1, by simp only [Option.bind_some]; rw [if_pos h], by omega, by omega⟩
  · exact ⟨m, by simp only [Option.bind_some]; rw [if_neg h], h1, hb⟩
theorem toPart1 (a b : Int) (l : List Int) (hl : l.length ≤ 1048576) : EvP (fun k => laws_toSegPart.f k a b l) (· = (a, b, l)) := by
  unfold laws_toSegPart.f
  exact EvP.eq_bind (toByteS_ok l (by omega)) (EvP.now _ rfl)
theorem eqPart1 (a b : Int) (l : List Int) (hl : l.length ≤ 1048576) : EvP (fun k => laws_eqSegPart.f k a b l a b l) (· = true) := by
  unfold laws_eqSegPart.f
  refine EvP.pos rfl (EvP.pos rfl (EvP.eq_bind (eqByteS_ok l l (by omega)) ?_))
  rw [decide_eq_true rfl]
  exact EvP.now _ rfl
theorem markJoin_ok (a : Int) (l : List Int) (K : Int) (hK : 0 ≤ K ∧ K ≤ 100000000) (hl : l.length ≤ 10000000) : EvP (fun k => laws_markSegJoin.f k a l K) (· = (K + (l.length : Int), markL l.length K)) := by
  unfold laws_markSegJoin.f
  exact EvP.eq_bind (markBytes_ok l K hK hl) (EvP.now _ rfl)
theorem markPart_ok (a b : Int) (l : List Int) (K : Int) (hK : 0 ≤ K ∧ K ≤ 100000000) (hl : l.length ≤ 10000000) : EvP (fun k => laws_markSegPart.f k a b l K) (· = (K + (l.length : Int), markL l.length K)) := by
  unfold laws_markSegPart.f
  exact EvP.eq_bind (markBytes_ok l K hK hl) (EvP.now _ rfl)
theorem heldJoin_ok (a : Int) (n : Nat) (K : Int) (hK : 0 ≤ K ∧ K ≤ 100000000) (hl : n ≤ 10000000) : EvP (fun k => laws_heldSegJoin.f k a (markL n K) K) (· = K + (n : Int)) := by
  unfold laws_heldSegJoin.f
  exact EvP.eq_bind (heldBytes_ok n K hK hl) (EvP.neg (by omega) (EvP.now _ rfl))
theorem segPutV_bound2 (len : Int) (got : List Int) (seg plen : Int) (data : List Int) : (segPutV len got seg plen data).2.2.1.length ≤ got.length + data.length := by
  unfold segPutV
  split
  · unfold putV
    repeat' split
    all_goals simp
  · simp
theorem j2_ok (a : Int) (n1 n2 : Nat) (h1 : n1 ≤ 10000000) (h2 : n2 ≤ 10000000) : EvP (fun k => laws_FnExactSegPut.j2 k (markL n2 (1 + (n1 : Int))) (1 + (n1 : Int) + (n2 : Int)) false a (markL n1 1)) (· = true) := by
  refine EvP.up ?_
  simp only [laws_FnExactSegPut.j2]
  exact EvP.neg (by simp) (EvP.eq_bind (heldJoin_ok a n1 1 (by omega) h1) (EvP.neg (by omega) (EvP.eq_bind (heldBytes_ok n2 _ (by omega) h2) (EvP.neg (by omega) (EvP.pos rfl (EvP.now _ rfl))))))
theorem FnExactSegPut : ∀ (a0_0 : Int) (l0_1 : List Int) (a1_0 : Int) (a1_1 : Int) (l1_2 : List Int), (Lit.int .i64 a0_0).wf = true → l0_1.length ≤ maxLen → (∀ y ∈ l0_1, (Lit.int .u8 y).wf = true) → (Lit.int .i64 a1_0).wf = true → (Lit.int .i64 a1_1).wf = true → l1_2.length ≤ maxLen → (∀ y ∈ l1_2, (Lit.int .u8 y).wf = true) → ∃ k, laws_FnExactSegPut.f k a0_0 l0_1 a1_0 a1_1 l1_2 = some true := by
  intro a l b c m _ hl _ _ _ hm _
  refine EvP.rounds ?_
  unfold laws_FnExactSegPut.f
  obtain ⟨n1, e1, e2, e3⟩ := szJoin_ok a l hl 1048576 (by omega)
  refine EvP.val_bind e1 (EvP.ite (fun _ => EvP.now _ rfl) (fun hn => ?_))
  obtain ⟨n2, e4, e5, e6⟩ := szPart1 b c m hm n1 (by omega)
  refine EvP.val_bind e4 (EvP.ite (fun _ => EvP.now _ rfl) (fun hn2 => ?_))
  have g1 : l.length ≤ 1048576 := by omega
  have g2 : m.length ≤ 1048576 := by omega
  have tj := toJoin_ok a l (by omega)
  have tp := toPart1 b c m g2
  have sp := specSegPut_ok a l b c m (by omega) (by omega)
  have ip := segPut_ok a l b c m (by omega) (by omega)
  have k1 := segPutV_bound a l b c m
  have k2 := segPutV_bound2 a l b c m
  generalize segPutV a l b c m = V at sp ip k1 k2
  obtain ⟨x, G, D, s⟩ := V
  simp only at k1 k2
  have ej := eqJoin_ok x G (by omega)
  have eb : EvP (fun k => laws_eqByteS.f k D D) (· = true) := by
    have := eqByteS_ok D D (by omega)
    rwa [decide_eq_true rfl] at this
  refine EvP.eq_bind tj (EvP.eq_bind tp (EvP.eq_bind sp (EvP.eq_bind tj (EvP.eq_bind tp (EvP.eq_bind ip (EvP.eq_bind ej (EvP.pos rfl (EvP.eq_bind eb (EvP.pos rfl ?_)))))))))
  have hss : (s != s) = false := by simp
  simp only [hss]
  refine EvP.up ?_
  simp only [laws_FnExactSegPut.j0]
  refine EvP.neg (by simp) (EvP.eq_bind tj (EvP.eq_bind (eqJoin_ok a l (by omega)) (EvP.pos rfl (EvP.eq_bind tp (EvP.eq_bind (eqPart1 b c m g2) (EvP.pos rfl ?_))))))
  refine EvP.eq_bind (markJoin_ok a l 1 (by omega) (by omega)) (EvP.eq_bind (markPart_ok b c m _ (by simp only; omega) (by omega)) (EvP.neg (by simp only; omega) ?_))
  refine EvP.eq_bind ej (EvP.pos rfl (EvP.eq_bind eb (EvP.pos rfl ?_)))
  simp only [hss]
  refine EvP.up ?_
  simp only [laws_FnExactSegPut.j1]
  refine EvP.neg (by simp) (EvP.eq_bind (markJoin_ok x G 1 (by omega) (by omega)) (EvP.eq_bind (markBytes_ok D _ (by simp only; omega) (by omega)) ?_))
  refine EvP.eq_bind (heldJoin_ok x G.length 1 (by omega) (by omega)) (EvP.neg (by omega) (EvP.eq_bind (heldBytes_ok D.length _ (by omega) (by omega)) (EvP.neg (by omega) (EvP.pos rfl ?_))))
  refine EvP.eq_bind tj (EvP.eq_bind tp (EvP.eq_bind ip (EvP.eq_bind ej (EvP.pos rfl (EvP.eq_bind eb (EvP.pos rfl ?_))))))
  simp only [hss]
  exact j2_ok x G.length D.length (by omega) (by omega)

end Go.Proofs.Yteknaofnageihaa.Pure
