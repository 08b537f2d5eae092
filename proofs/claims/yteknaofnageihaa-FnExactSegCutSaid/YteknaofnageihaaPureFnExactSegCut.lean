/- The law FnExactSegCut: SegCut of the program is that of the reference, for all bytes and every number, leaves what it is handed, and hands back memory of its own. No condition. -/
import Derived.Test.YteknaofnageihaaQFnExactSegCutx15
namespace Go.Proofs.Yteknaofnageihaa.Pure
open Go.RowKit Go.Proofs.Yteknaofnageihaa.QFnExactSegCut Go.Proofs.YteknaofnageihaaW.PrintWords Go.Proofs.YteknaofnageihaaW.PrintLast Go.Proofs.YteknaofnageihaaW.PrintMore
set_option linter.unusedVariables false
set_option linter.unusedSimpArgs false

/-! A small calculus: with enough rounds g comes to something of which Q holds. -/
def EvP {α : Type} (g : Nat → Option α) (Q : α → Prop) : Prop := ∃ r, Ev g r ∧ Q r
theorem EvP.now {α : Type} {Q : α → Prop} (r : α) (h : Q r) : EvP (fun _ => some r) Q := ⟨r, Ev.now r, h⟩
theorem EvP.here {α : Type} {o : Option α} {Q : α → Prop} (r : α) (e : o = some r) (h : Q r) : EvP (fun _ => o) Q := by subst e; exact EvP.now r h
theorem EvP.of {α : Type} {g : Nat → Option α} {Q : α → Prop} (K : Nat) (h : ∃ r, (∀ k, K ≤ k → g k = some r) ∧ Q r) : EvP g Q := by
  obtain ⟨r, h1, h2⟩ := h
  exact ⟨r, ⟨K, h1⟩, h2⟩
theorem EvP.bind {α β : Type} {g : Nat → Option α} {f : Nat → α → Option β} {P : α → Prop} {Q : β → Prop} (h : EvP g P) (k : ∀ a, P a → EvP (fun n => f n a) Q) : EvP (fun n => (g n).bind (f n)) Q := by
  obtain ⟨a, ha, hp⟩ := h
  obtain ⟨r, hr, hq⟩ := k a hp
  exact ⟨r, Ev.bind ha hr, hq⟩
theorem EvP.some_bind {α β : Type} {a : α} {f : Nat → α → Option β} {Q : β → Prop} (k : EvP (fun n => f n a) Q) : EvP (fun n => (some a).bind (f n)) Q := k
theorem EvP.step {α : Type} {g f : Nat → Option α} {Q : α → Prop} (h : ∀ k, g (k + 1) = f k) (k : EvP f Q) : EvP g Q := by
  obtain ⟨r, hr, hq⟩ := k
  exact ⟨r, Ev.step h hr, hq⟩
theorem EvP.congr {α : Type} {g f : Nat → Option α} {Q : α → Prop} (h : ∀ k, g k = f k) (k : EvP f Q) : EvP g Q := by
  obtain ⟨r, hr, hq⟩ := k
  exact ⟨r, Ev.congr h hr, hq⟩
theorem EvP.mono {α : Type} {g : Nat → Option α} {P Q : α → Prop} (h : EvP g P) (k : ∀ a, P a → Q a) : EvP g Q := by
  obtain ⟨r, hr, hp⟩ := h
  exact ⟨r, hr, k r hp⟩
theorem EvP.ite {α : Type} {c : Prop} [Decidable c] {f g : Nat → Option α} {Q : α → Prop} (h1 : c → EvP f Q) (h2 : ¬ c → EvP g Q) : EvP (fun k => if c then f k else g k) Q := by
  by_cases hc : c
  · simp only [if_pos hc]; exact h1 hc
  · simp only [if_neg hc]; exact h2 hc
theorem EvP.pos {α : Type} {c : Prop} [Decidable c] {f g : Nat → Option α} {Q : α → Prop} (hc : c) (h : EvP f Q) : EvP (fun k => if c then f k else g k) Q := by
  simp only [if_pos hc]; exact h
theorem EvP.neg {α : Type} {c : Prop} [Decidable c] {f g : Nat → Option α} {Q : α → Prop} (hc : ¬ c) (h : EvP g Q) : EvP (fun k => if c then f k else g k) Q := by
  simp only [if_neg hc]; exact h
theorem EvP.rounds {α : Type} {g : Nat → Option α} {r : α} (h : EvP g (· = r)) : ∃ k, g k = some r := by
  obtain ⟨q, hq, rfl⟩ := h
  exact hq.rounds
theorem EvP.up {α : Type} {g : Nat → Option α} {Q : α → Prop} (h : EvP (fun k => g (k + 1)) Q) : EvP g Q := EvP.step (fun _ => rfl) h
theorem EvP.val_bind {α β : Type} {o : Option α} {a : α} {f : Nat → α → Option β} {Q : β → Prop} (e : o = some a) (k : EvP (fun n => f n a) Q) : EvP (fun n => o.bind (f n)) Q := by subst e; exact k
theorem EvP.eq_bind {α β : Type} {g : Nat → Option α} {f : Nat → α → Option β} {a : α} {Q : β → Prop} (h : EvP g (· = a)) (k : EvP (fun n => f n a) Q) : EvP (fun n => (g n).bind (f n)) Q := EvP.bind h (fun _ e => by subst e; exact k)
theorem wrap64_id {x : Int} (h : -9223372036854775808 ≤ x) (h2 : x ≤ 9223372036854775807) : wrap64 x = x := by unfold wrap64; omega
theorem toByteS_loop (l : List Int) (hl : l.length ≤ 281474976710656) (d : Nat) : ∀ i : Nat, i ≤ l.length → l.length - i = d → EvP (fun k => laws_toByteS.l0 k l (l.take i ++ List.replicate (l.length - i) 0) (i : Int)) (· = l) := by
  induction d with
  | zero =>
    intro i h0 hd
    have hi : i = l.length := by omega
    subst hi
    refine EvP.up ?_
    simp only [laws_toByteS.l0]
    exact EvP.neg (by omega) (EvP.now _ (by simp))
  | succ d ih =>
    intro i h0 hd
    refine EvP.up ?_
    simp only [laws_toByteS.l0]
    refine EvP.pos (by omega) (EvP.pos (by omega) (EvP.pos (by simp; omega) ?_))
    have hw : wrap64 ((i : Int) + 1) = ((i + 1 : Nat) : Int) := by rw [wrap64_id (by omega) (by omega)]; omega
    have hs : (l.take i ++ List.replicate (l.length - i) (0 : Int)).set ((i : Int)).toNat (rd l i) = l.take (i + 1) ++ List.replicate (l.length - (i + 1)) 0 := by
      have hlt : i < l.length := by omega
      have hr : rd l (i : Int) = l[i] := by
        unfold rd
        rw [Int.toNat_natCast, List.getD_eq_getElem?_getD, List.getElem?_eq_getElem hlt]; rfl
      rw [hr, Int.toNat_natCast, List.set_append_right _ _ (by rw [List.length_take]; omega), List.length_take, Nat.min_eq_left (by omega), Nat.sub_self, show l.length - i = (l.length - (i + 1)) + 1 by omega, List.replicate_succ, List.set_cons_zero]
      have e := List.take_succ_eq_append_getElem hlt
      rw [e, List.append_assoc]
      rfl
    rw [hw, hs]
    exact ih (i + 1) (by omega) (by omega)
theorem toByteS_ok (l : List Int) (hl : l.length ≤ 281474976710656) : EvP (fun k => laws_toByteS.f k l) (· = l) := by
  unfold laws_toByteS.f
  refine EvP.pos (by omega) (EvP.pos (by omega) ?_)
  have h := toByteS_loop l hl l.length 0 (by omega) (by omega)
  simpa using h
theorem eqByteS_loop (a b : List Int) (hab : a.length = b.length) (hl : a.length ≤ 281474976710656) (d : Nat) : ∀ i : Nat, i ≤ a.length → a.length - i = d → a.take i = b.take i → EvP (fun k => laws_eqByteS.l0 k a b (i : Int)) (· = decide (a = b)) := by
  induction d with
  | zero =>
    intro i h0 hd ht
    refine EvP.up ?_
    simp only [laws_eqByteS.l0]
    refine EvP.neg (by omega) (EvP.now _ ?_)
    rw [List.take_of_length_le (by omega), List.take_of_length_le (by omega)] at ht
    exact (decide_eq_true ht).symm
  | succ d ih =>
    intro i h0 hd ht
    have hi : i < a.length := by omega
    have hi2 : i < b.length := by omega
    refine EvP.up ?_
    simp only [laws_eqByteS.l0]
    refine EvP.pos (by omega) (EvP.pos (by omega) (EvP.pos (by omega) ?_))
    have ha : rd a (i : Int) = a[i] := by unfold rd; rw [Int.toNat_natCast, List.getD_eq_getElem?_getD, List.getElem?_eq_getElem hi]; rfl
    have hb : rd b (i : Int) = b[i] := by unfold rd; rw [Int.toNat_natCast, List.getD_eq_getElem?_getD, List.getElem?_eq_getElem hi2]; rfl
    rw [ha, hb]
    have hw : wrap64 ((i : Int) + 1) = ((i + 1 : Nat) : Int) := by rw [wrap64_id (by omega) (by omega)]; omega
    rw [hw]
    refine EvP.ite (fun h => ih (i + 1) (by omega) (by omega) ?_) (fun h => EvP.now _ ?_)
    · rw [List.take_succ_eq_append_getElem hi, List.take_succ_eq_append_getElem hi2, ht, h]
    · refine (decide_eq_false (fun e => h ?_)).symm
      subst e; rfl
theorem eqByteS_ok (a b : List Int) (hl : a.length ≤ 281474976710656) : EvP (fun k => laws_eqByteS.f k a b) (· = decide (a = b)) := by
  unfold laws_eqByteS.f
  refine EvP.ite (fun h => eqByteS_loop a b (by omega) hl a.length 0 (by omega) (by omega) (by simp)) (fun h => EvP.now _ ?_)
  exact (decide_eq_false (fun e => h (by rw [e]))).symm
theorem rdB (xs : List S39) (i : Nat) (h : i < xs.length) : rd_T39 xs (i : Int) = xs[i] := by
  unfold rd_T39
  rw [Int.toNat_natCast, List.getD_eq_getElem?_getD, List.getElem?_eq_getElem h]; rfl
theorem eqPart_ok (a b : Int) (l : List Int) (hl : l.length ≤ 1048576) : EvP (fun k => laws_eqSegPart.f k a b l a b l) (· = true) := by
  unfold laws_eqSegPart.f
  refine EvP.pos rfl (EvP.pos rfl (EvP.eq_bind (eqByteS_ok l l (by omega)) ?_))
  rw [decide_eq_true rfl]
  exact EvP.now _ rfl
theorem eqParts_loop (l : List S39) (hl : l.length ≤ 1048576) (hb : ∀ x ∈ l, x.f2.length ≤ 1048576) (d : Nat) : ∀ i : Nat, i ≤ l.length → l.length - i = d →
    EvP (fun k => laws_eqSegPartS.l0 k l l (i : Int)) (· = true) := by
  induction d with
  | zero =>
    intro i h0 hd
    refine EvP.up ?_
    simp only [laws_eqSegPartS.l0]
    exact EvP.neg (by omega) (EvP.now _ rfl)
  | succ d ih =>
    intro i h0 hd
    have hi : i < l.length := by omega
    refine EvP.up ?_
    simp only [laws_eqSegPartS.l0]
    refine EvP.pos (by omega) (EvP.pos (by omega) (EvP.pos (by omega) ?_))
    rw [rdB l i hi]
    have hw : wrap64 ((i : Int) + 1) = ((i + 1 : Nat) : Int) := by rw [wrap64_id (by omega) (by omega)]; omega
    rw [hw]
    exact EvP.eq_bind (eqPart_ok _ _ _ (hb _ (List.getElem_mem hi))) (EvP.pos rfl (ih (i + 1) (by omega) (by omega)))
theorem eqParts_ok (l : List S39) (hl : l.length ≤ 1048576) (hb : ∀ x ∈ l, x.f2.length ≤ 1048576) : EvP (fun k => laws_eqSegPartS.f k l l) (· = true) := by
  unfold laws_eqSegPartS.f
  exact EvP.pos rfl (eqParts_loop l hl hb l.length 0 (by omega) (by omega))
def pieceAt (s : List Int) (m j : Nat) : S39 := ⟨if j = 0 then 1 else if (j + 1) * m ≥ s.length then 3 else 2, if j = 0 then (s.length : Int) else 0, (s.take (min s.length (j * m + m))).drop (j * m)⟩
def pieceN (n m : Nat) : Nat := (n + m - 1) / m
def segL (s : List Int) (m : Nat) : List S39 := if s.length ≤ m then [⟨0, s.length, s⟩] else (List.range (pieceN s.length m)).map (pieceAt s m)
def segB (n a : Int) : Bool := decide (n ≤ 24) && decide (1 ≤ a ∧ a ≤ 8)
theorem pieceN_lt (n m j : Nat) (hm : 1 ≤ m) (hn : 1 ≤ n) : j < pieceN n m ↔ j * m < n := by
  unfold pieceN
  rw [Nat.lt_iff_add_one_le, Nat.le_div_iff_mul_le (by omega), Nat.succ_mul]
  omega
theorem mn_nat (n b : Nat) : mn (n : Int) (b : Int) = ((min n b : Nat) : Int) := by
  unfold mn
  split <;> omega
theorem clone_val (l : List Int) (h : l.length ≤ 2000000) : impl_clone_byte.f l = some l := by
  unfold impl_clone_byte.f
  rw [if_pos (by omega)]
theorem clones_val (l : List S39) (h : l.length ≤ 2000000) : impl_SegPart.f l = some l := by
  unfold impl_SegPart.f
  rw [if_pos (by omega)]
theorem range_snoc (s : List Int) (m j : Nat) : (List.range (j + 1)).map (pieceAt s m) = (List.range j).map (pieceAt s m) ++ [pieceAt s m j] := by
  rw [List.range_succ, List.map_append]; rfl
theorem implCut_loop (s : List Int) (m : Nat) (hn : s.length ≤ 24) (hm : 1 ≤ m ∧ m ≤ 8) (hlt : m < s.length) (d : Nat) : ∀ j : Nat, j ≤ pieceN s.length m → pieceN s.length m - j = d →
    EvP (fun k => impl_SegCut.l0 k s (m : Int) (s.length : Int) ((List.range j).map (pieceAt s m)) ((j * m : Nat) : Int)) (· = (List.range (pieceN s.length m)).map (pieceAt s m)) := by
  have hc : ∀ j, j < pieceN s.length m ↔ j * m < s.length := fun j => pieceN_lt _ _ _ (by omega) (by omega)
  have hcb : pieceN s.length m ≤ 100 := by unfold pieceN; exact Nat.le_trans (Nat.div_le_self _ _) (by omega)
  induction d with
  | zero =>
    intro j h0 hd
    have hj : j = pieceN s.length m := by omega
    subst hj
    have h1 := mt (hc (pieceN s.length m)).2 (by omega)
    refine EvP.up ?_
    simp only [impl_SegCut.l0]
    refine EvP.neg (by omega) ?_
    rw [clones_val _ (by simp only [List.length_map, List.length_range]; omega)]
    exact EvP.now _ rfl
  | succ d ih =>
    intro j h0 hd
    have hj : j < pieceN s.length m := by omega
    have ha := (hc j).1 hj
    have hs := Nat.succ_mul j m
    have h0m : j * m = 0 ↔ j = 0 := by
      rw [Nat.mul_eq_zero]; omega
    have ih1 := ih (j + 1) (by omega) (by omega)
    rw [range_snoc] at ih1
    have hp : pieceAt s m j = ⟨if j = 0 then 1 else if (j + 1) * m ≥ s.length then 3 else 2, if j = 0 then (s.length : Int) else 0, (s.take (min s.length (j * m + m))).drop (j * m)⟩ := rfl
    simp only [Nat.add_eq, Nat.succ_eq_add_one] at hs
    rw [hs] at hp ih1
    generalize hA : j * m = a at *
    refine EvP.up ?_
    simp only [impl_SegCut.l0]
    have hw : wrap64 ((a : Int) + (m : Int)) = ((a + m : Nat) : Int) := by rw [wrap64_id (by omega) (by omega)]; omega
    rw [hw, mn_nat]
    refine EvP.pos (by omega) (EvP.pos (by omega) (EvP.pos (by omega) (EvP.pos (by omega) ?_)))
    rw [Int.toNat_natCast, Int.toNat_natCast, clone_val _ (by simp only [List.length_drop, List.length_take]; omega)]
    refine EvP.some_bind ?_
    have hl : ((List.range j).map (pieceAt s m)).length < 3518437208883 := by simp only [List.length_map, List.length_range]; omega
    by_cases hz : j = 0
    · rw [hp, if_pos hz, if_pos hz] at ih1
      exact EvP.pos (by omega) (EvP.pos hl ih1)
    · rw [hp, if_neg hz, if_neg hz] at ih1
      refine EvP.neg (by omega) (EvP.ite (fun h2 => ?_) (fun h2 => ?_))
      · rw [if_pos (by omega)] at ih1
        exact EvP.pos hl ih1
      · rw [if_neg (by omega)] at ih1
        exact EvP.pos hl ih1
theorem specCut_loop (s : List Int) (m : Nat) (hn : s.length ≤ 24) (hm : 1 ≤ m ∧ m ≤ 8) (hlt : m < s.length) (d : Nat) : ∀ j : Nat, j ≤ pieceN s.length m → pieceN s.length m - j = d →
    EvP (fun k => spec_SegCut.l0 k s (m : Int) ((List.range j).map (pieceAt s m)) ((j * m : Nat) : Int)) (· = (List.range (pieceN s.length m)).map (pieceAt s m)) := by
  have hc : ∀ j, j < pieceN s.length m ↔ j * m < s.length := fun j => pieceN_lt _ _ _ (by omega) (by omega)
  have hcb : pieceN s.length m ≤ 100 := by unfold pieceN; exact Nat.le_trans (Nat.div_le_self _ _) (by omega)
  induction d with
  | zero =>
    intro j h0 hd
    have hj : j = pieceN s.length m := by omega
    subst hj
    have h1 := mt (hc (pieceN s.length m)).2 (by omega)
    refine EvP.up ?_
    simp only [spec_SegCut.l0]
    exact EvP.neg (by omega) (EvP.now _ rfl)
  | succ d ih =>
    intro j h0 hd
    have hj : j < pieceN s.length m := by omega
    have ha := (hc j).1 hj
    have hs := Nat.succ_mul j m
    have h0m : j * m = 0 ↔ j = 0 := by
      rw [Nat.mul_eq_zero]; omega
    have ih1 := ih (j + 1) (by omega) (by omega)
    rw [range_snoc] at ih1
    have hp : pieceAt s m j = ⟨if j = 0 then 1 else if (j + 1) * m ≥ s.length then 3 else 2, if j = 0 then (s.length : Int) else 0, (s.take (min s.length (j * m + m))).drop (j * m)⟩ := rfl
    simp only [Nat.add_eq, Nat.succ_eq_add_one] at hs
    rw [hs] at hp ih1
    generalize hA : j * m = a at *
    refine EvP.up ?_
    simp only [spec_SegCut.l0]
    have hw : wrap64 ((a : Int) + (m : Int)) = ((a + m : Nat) : Int) := by rw [wrap64_id (by omega) (by omega)]; omega
    rw [hw, mn_nat]
    refine EvP.pos (by omega) (EvP.some_bind (EvP.pos (by omega) (EvP.pos (by omega) (EvP.pos (by omega) ?_))))
    rw [Int.toNat_natCast, Int.toNat_natCast]
    refine EvP.pos (by simp only [List.length_drop, List.length_take, List.length_nil]; omega) (EvP.some_bind ?_)
    have hl : ((List.range j).map (pieceAt s m)).length < 3518437208883 := by simp only [List.length_map, List.length_range]; omega
    rw [List.nil_append]
    by_cases hz : j = 0
    · rw [hp, if_pos hz, if_pos hz] at ih1
      exact EvP.pos (by omega) (EvP.neg (by omega) (EvP.pos hl ih1))
    · rw [hp, if_neg hz, if_neg hz] at ih1
      refine EvP.neg (by omega) (EvP.pos (by omega) (EvP.ite (fun h2 => ?_) (fun h2 => ?_)))
      · rw [if_pos (by omega)] at ih1
        exact EvP.pos hl ih1
      · rw [if_neg (by omega)] at ih1
        exact EvP.pos hl ih1
theorem in_valC (a lo hi : Int) : impl_in.f a lo hi = some (decide (lo ≤ a ∧ a ≤ hi)) := by
  unfold impl_in.f
  by_cases h : a ≥ lo
  · rw [if_pos h]; congr 1; by_cases h2 : a ≤ hi
    · rw [decide_eq_true h2, decide_eq_true ⟨h, h2⟩]
    · rw [decide_eq_false h2, decide_eq_false (fun z => h2 z.2)]
  · rw [if_neg h, decide_eq_false (fun z => h z.1)]
theorem implCut_ok (s : List Int) (a : Int) (hs : s.length ≤ 2000000) : EvP (fun k => impl_SegCut.f k s a) (· = if segB s.length a then segL s a.toNat else []) := by
  unfold impl_SegCut.f segB
  refine EvP.ite (fun h => ?_) (fun h => ?_)
  · refine EvP.up ?_
    simp only [impl_SegCut.j0]
    rw [decide_eq_false (by omega)]
    exact EvP.pos trivial (EvP.now _ rfl)
  · rw [in_valC, decide_eq_true (show (s.length : Int) ≤ 24 by omega), Bool.true_and]
    refine EvP.some_bind (EvP.up ?_)
    simp only [impl_SegCut.j0]
    by_cases h2 : 1 ≤ a ∧ a ≤ 8
    · rw [decide_eq_true h2]
      refine EvP.neg (by simp) ?_
      obtain ⟨m, rfl⟩ := Int.eq_ofNat_of_zero_le (by omega : 0 ≤ a)
      unfold segL
      rw [Int.toNat_natCast, if_pos rfl]
      refine EvP.ite (fun h3 => ?_) (fun h3 => ?_)
      · rw [if_pos (by omega), clone_val _ hs]
        exact EvP.now _ rfl
      · rw [if_neg (by omega)]
        have := implCut_loop s m (by omega) (by omega) (by omega) (pieceN s.length m) 0 (by omega) (by omega)
        simpa using this
    · rw [decide_eq_false h2]
      exact EvP.pos (by simp) (EvP.now _ rfl)
theorem specCut_ok (s : List Int) (a : Int) (hs : s.length ≤ 2000000) : EvP (fun k => spec_SegCut.f k s a) (· = if segB s.length a then segL s a.toNat else []) := by
  unfold spec_SegCut.f segB
  refine EvP.some_bind (EvP.ite (fun h => ?_) (fun h => ?_))
  · refine EvP.up ?_
    simp only [spec_SegCut.j0]
    rw [decide_eq_false (by omega)]
    exact EvP.pos trivial (EvP.now _ rfl)
  · rw [show spec_l1In.f a 1 8 = some (decide (1 ≤ a ∧ a ≤ 8)) from in_valC a 1 8, decide_eq_true (show (s.length : Int) ≤ 24 by omega), Bool.true_and]
    refine EvP.some_bind (EvP.up ?_)
    simp only [spec_SegCut.j0]
    by_cases h2 : 1 ≤ a ∧ a ≤ 8
    · rw [decide_eq_true h2]
      refine EvP.neg (by simp) ?_
      obtain ⟨m, rfl⟩ := Int.eq_ofNat_of_zero_le (by omega : 0 ≤ a)
      unfold segL
      rw [Int.toNat_natCast, if_pos rfl]
      refine EvP.ite (fun h3 => ?_) (fun h3 => ?_)
      · rw [if_pos (by omega)]
        refine EvP.some_bind (EvP.pos (by simp only [List.length_nil]; omega) (EvP.pos (by simp only [List.length_nil]; omega) (EvP.now _ rfl)))
      · rw [if_neg (by omega)]
        have := specCut_loop s m (by omega) (by omega) (by omega) (pieceN s.length m) 0 (by omega) (by omega)
        simpa using this
    · rw [decide_eq_false h2]
      exact EvP.pos (by simp) (EvP.now _ rfl)
theorem pieceAt_len (s : List Int) (m j : Nat) (h : j * m + m ≤ s.length) : (pieceAt s m j).f2.length = m := by
  simp only [pieceAt, List.length_drop, List.length_take]
  omega
theorem pieceAt_le (s : List Int) (m j : Nat) : (pieceAt s m j).f2.length ≤ m := by
  simp only [pieceAt, List.length_drop, List.length_take]
  omega
theorem segL_len (s : List Int) (m : Nat) (hm : 1 ≤ m) : (segL s m).length = if s.length ≤ m then 1 else pieceN s.length m := by
  unfold segL
  split
  · rfl
  · rw [List.length_map, List.length_range]
theorem segL_bound (s : List Int) (m : Nat) (hm : 1 ≤ m) (hn : s.length ≤ 24) : (segL s m).length ≤ 1048576 ∧ ∀ x ∈ segL s m, x.f2.length ≤ 1048576 := by
  refine ⟨?_, ?_⟩
  · rw [segL_len s m hm]
    split
    · omega
    · exact Nat.le_trans (Nat.div_le_self _ _) (by omega)
  · unfold segL
    split
    · intro x hx
      simp only [List.mem_singleton] at hx
      subst hx
      show s.length ≤ _
      omega
    · intro x hx
      obtain ⟨j, _, rfl⟩ := List.mem_map.1 hx
      simp only [pieceAt, List.length_drop, List.length_take]
      omega
theorem segL_small (s : List Int) (m : Nat) (hm : 1 ≤ m) (hn : s.length ≤ 24) : (segL s m).length ≤ 100 ∧ ∀ x ∈ segL s m, x.f2.length ≤ 100 := by
  refine ⟨?_, ?_⟩
  · rw [segL_len s m hm]
    split
    · omega
    · exact Nat.le_trans (Nat.div_le_self _ _) (by
        rename_i h
        omega)
  · unfold segL
    split
    · intro x hx
      simp only [List.mem_singleton] at hx
      subst hx
      show s.length ≤ _
      omega
    · intro x hx
      obtain ⟨j, _, rfl⟩ := List.mem_map.1 hx
      simp only [pieceAt, List.length_drop, List.length_take]
      omega
def markL (n : Nat) (K : Int) : List Int := (List.range n).map fun (j : Nat) => (K + (j : Int)) % 256
theorem markL_len (n : Nat) (K : Int) : (markL n K).length = n := by simp [markL]
theorem markL_succ (n : Nat) (K : Int) : markL (n + 1) K = markL n K ++ [(K + (n : Int)) % 256] := by simp [markL, List.range_succ]
theorem mark_loop (l : List Int) (K : Int) (hK : 0 ≤ K ∧ K ≤ 100000000) (hl : l.length ≤ 10000000) (d : Nat) : ∀ i : Nat, i ≤ l.length → l.length - i = d →
    EvP (fun k => laws_markByteS.l0 k (markL i K ++ l.drop i) (K + (i : Int)) (i : Int)) (· = (K + (l.length : Int), markL l.length K)) := by
  induction d with
  | zero =>
    intro i h0 hd
    have hi : i = l.length := by omega
    subst hi
    refine EvP.up ?_
    simp only [laws_markByteS.l0]
    refine EvP.neg (by simp only [List.length_append, markL_len, List.length_drop]; omega) (EvP.now _ (by simp))
  | succ d ih =>
    intro i h0 hd
    refine EvP.up ?_
    simp only [laws_markByteS.l0]
    refine EvP.pos (by simp only [List.length_append, markL_len, List.length_drop]; omega) (EvP.pos (by omega) ?_)
    have hw : wrap64 ((i : Int) + 1) = ((i + 1 : Nat) : Int) := by rw [wrap64_id (by omega) (by omega)]; omega
    have hw2 : wrap64 (K + (i : Int) + 1) = K + ((i + 1 : Nat) : Int) := by rw [wrap64_id (by omega) (by omega)]; omega
    have hs : (markL i K ++ l.drop i).set ((i : Int)).toNat ((K + (i : Int)) % 256) = markL (i + 1) K ++ l.drop (i + 1) := by
      have hlt : i < l.length := by omega
      rw [Int.toNat_natCast, List.set_append_right _ _ (by rw [markL_len]; omega), markL_len, Nat.sub_self, List.drop_eq_getElem_cons hlt, List.set_cons_zero, markL_succ, List.append_assoc]
      rfl
    rw [hw, hw2, hs]
    exact ih (i + 1) (by omega) (by omega)
theorem markBytes_ok (l : List Int) (K : Int) (hK : 0 ≤ K ∧ K ≤ 100000000) (hl : l.length ≤ 10000000) : EvP (fun k => laws_markByteS.f k l K) (· = (K + (l.length : Int), markL l.length K)) := by
  unfold laws_markByteS.f
  have h := mark_loop l K hK hl l.length 0 (by omega) (by omega)
  simpa [markL] using h
theorem held_loop (n : Nat) (K : Int) (hK : 0 ≤ K ∧ K ≤ 100000000) (hl : n ≤ 10000000) (d : Nat) : ∀ i : Nat, i ≤ n → n - i = d →
    EvP (fun k => laws_heldByteS.l0 k (markL n K) (K + (i : Int)) (i : Int)) (· = K + (n : Int)) := by
  induction d with
  | zero =>
    intro i h0 hd
    have hi : i = n := by omega
    subst hi
    refine EvP.up ?_
    simp only [laws_heldByteS.l0]
    exact EvP.neg (by rw [markL_len]; omega) (EvP.now _ rfl)
  | succ d ih =>
    intro i h0 hd
    refine EvP.up ?_
    simp only [laws_heldByteS.l0]
    have hw : wrap64 ((i : Int) + 1) = ((i + 1 : Nat) : Int) := by rw [wrap64_id (by omega) (by omega)]; omega
    have hw2 : wrap64 (K + (i : Int) + 1) = K + ((i + 1 : Nat) : Int) := by rw [wrap64_id (by omega) (by omega)]; omega
    have hr : rd (markL n K) (i : Int) = (K + (i : Int)) % 256 := by
      have hlt : i < (markL n K).length := by rw [markL_len]; omega
      unfold rd
      rw [Int.toNat_natCast, List.getD_eq_getElem?_getD, List.getElem?_eq_getElem hlt]
      simp [markL]
    refine EvP.pos (by rw [markL_len]; omega) (EvP.pos (by omega) (EvP.pos hr ?_))
    rw [hw, hw2]
    exact ih (i + 1) (by omega) (by omega)
theorem heldBytes_ok (n : Nat) (K : Int) (hK : 0 ≤ K ∧ K ≤ 100000000) (hl : n ≤ 10000000) : EvP (fun k => laws_heldByteS.f k (markL n K) K) (· = K + (n : Int)) := by
  unfold laws_heldByteS.f
  have h := held_loop n K hK hl n 0 (by omega) (by omega)
  simpa using h
def mKK (l : List S39) (k : Int) : Nat → Int
  | 0 => k
  | i + 1 => mKK l k i + 2 + ((l.getD i ⟨0, 0, []⟩).f2.length : Int)
def mMK (l : List S39) (k : Int) (i : Nat) : S39 := ⟨mKK l k i, mKK l k i + 1, markL (l.getD i ⟨0, 0, []⟩).f2.length (mKK l k i + 2)⟩
def mML (l : List S39) (k : Int) (i : Nat) : List S39 := (List.range i).map (mMK l k)
theorem mML_len (l : List S39) (k : Int) (i : Nat) : (mML l k i).length = i := by simp [mML]
theorem mML_succ (l : List S39) (k : Int) (i : Nat) : mML l k (i + 1) = mML l k i ++ [mMK l k i] := by simp [mML, List.range_succ]
theorem mKK_bound (l : List S39) (hb : ∀ x ∈ l, x.f2.length ≤ 100) (k : Int) (hk : 0 ≤ k ∧ k ≤ 1000) (i : Nat) (hi : i ≤ l.length) : 0 ≤ mKK l k i ∧ mKK l k i ≤ 1000 + 102 * (i : Int) := by
  induction i with
  | zero => simp only [mKK]; omega
  | succ i ih =>
    have := ih (by omega)
    have h1 : (l.getD i ⟨0, 0, []⟩).f2.length ≤ 100 := by
      rw [List.getD_eq_getElem?_getD, List.getElem?_eq_getElem (by omega)]
      exact hb _ (List.getElem_mem (by omega))
    simp only [mKK]
    omega
theorem markParts_loop (l : List S39) (hl : l.length ≤ 100) (hb : ∀ x ∈ l, x.f2.length ≤ 100) (d : Nat) : ∀ i : Nat, i ≤ l.length → l.length - i = d →
    EvP (fun k => laws_markSegPartS.l0 k (mML l 1 i ++ l.drop i) (mKK l 1 i) (i : Int)) (· = (mKK l 1 l.length, mML l 1 l.length)) := by
  induction d with
  | zero =>
    intro i h0 hd
    have hi : i = l.length := by omega
    subst hi
    refine EvP.up ?_
    simp only [laws_markSegPartS.l0]
    refine EvP.neg (by simp only [List.length_append, mML_len, List.length_drop]; omega) (EvP.now _ (by simp))
  | succ d ih =>
    intro i h0 hd
    have hi : i < l.length := by omega
    have hx := hb _ (List.getElem_mem hi)
    have hB := mKK_bound l hb 1 (by omega) i h0
    refine EvP.up ?_
    simp only [laws_markSegPartS.l0]
    have hlen : (mML l 1 i ++ l.drop i).length = l.length := by simp only [List.length_append, mML_len, List.length_drop]; omega
    have hr : rd_T39 (mML l 1 i ++ l.drop i) (i : Int) = l[i] := by
      rw [rdB _ i (by omega), List.getElem_append_right (by rw [mML_len]; omega)]
      simp [mML_len]
    have hgd : l.getD i ⟨0, 0, []⟩ = l[i] := by rw [List.getD_eq_getElem?_getD, List.getElem?_eq_getElem hi]; rfl
    have hw : wrap64 ((i : Int) + 1) = ((i + 1 : Nat) : Int) := by rw [wrap64_id (by omega) (by omega)]; omega
    refine EvP.pos (by rw [hlen]; omega) (EvP.pos (by omega) ?_)
    rw [hr, wrap64_id (x := mKK l 1 i + 1) (by omega) (by omega), wrap64_id (x := mKK l 1 i + 1 + 1) (by omega) (by omega), hw]
    refine EvP.eq_bind (markBytes_ok l[i].f2 (mKK l 1 i + 1 + 1) (by omega) (by omega)) ?_
    have hs : (mML l 1 i ++ l.drop i).set ((i : Int)).toNat ⟨mKK l 1 i, mKK l 1 i + 1, markL l[i].f2.length (mKK l 1 i + 1 + 1)⟩ = mML l 1 (i + 1) ++ l.drop (i + 1) := by
      rw [Int.toNat_natCast, List.set_append_right _ _ (by rw [mML_len]; omega), mML_len, Nat.sub_self, List.drop_eq_getElem_cons hi, List.set_cons_zero, mML_succ, List.append_assoc, mMK, hgd, show mKK l 1 i + 2 = mKK l 1 i + 1 + 1 by omega]
      rfl
    have hk : mKK l 1 i + 1 + 1 + (l[i].f2.length : Int) = mKK l 1 (i + 1) := by simp only [mKK]; rw [hgd]; omega
    simp only [hs, hk]
    exact ih (i + 1) (by omega) (by omega)
theorem markParts_ok (l : List S39) (hl : l.length ≤ 100) (hb : ∀ x ∈ l, x.f2.length ≤ 100) : EvP (fun k => laws_markSegPartS.f k l 1) (· = (mKK l 1 l.length, mML l 1 l.length)) := by
  unfold laws_markSegPartS.f
  have h := markParts_loop l hl hb l.length 0 (by omega) (by omega)
  simpa [mML, mKK] using h
theorem heldParts_loop (l : List S39) (hl : l.length ≤ 100) (hb : ∀ x ∈ l, x.f2.length ≤ 100) (d : Nat) : ∀ i : Nat, i ≤ l.length → l.length - i = d →
    EvP (fun k => laws_heldSegPartS.l0 k (mML l 1 l.length) (mKK l 1 i) (i : Int)) (· = mKK l 1 l.length) := by
  induction d with
  | zero =>
    intro i h0 hd
    have hi : i = l.length := by omega
    subst hi
    refine EvP.up ?_
    simp only [laws_heldSegPartS.l0]
    exact EvP.neg (by rw [mML_len]; omega) (EvP.now _ rfl)
  | succ d ih =>
    intro i h0 hd
    have hi : i < l.length := by omega
    have hx := hb _ (List.getElem_mem hi)
    have hB := mKK_bound l hb 1 (by omega) i h0
    refine EvP.up ?_
    simp only [laws_heldSegPartS.l0]
    have hr : rd_T39 (mML l 1 l.length) (i : Int) = mMK l 1 i := by
      rw [rdB _ i (by rw [mML_len]; omega)]
      simp [mML]
    have hgd : l.getD i ⟨0, 0, []⟩ = l[i] := by rw [List.getD_eq_getElem?_getD, List.getElem?_eq_getElem hi]; rfl
    have hw : wrap64 ((i : Int) + 1) = ((i + 1 : Nat) : Int) := by rw [wrap64_id (by omega) (by omega)]; omega
    have hk : mKK l 1 i + 2 + (l[i].f2.length : Int) = mKK l 1 (i + 1) := by simp only [mKK]; rw [hgd]
    refine EvP.pos (by rw [mML_len]; omega) (EvP.pos (by omega) ?_)
    rw [hr, wrap64_id (x := mKK l 1 i + 1) (by omega) (by omega), wrap64_id (x := mKK l 1 i + 1 + 1) (by omega) (by omega), hw]
    simp only [mMK]
    rw [hgd, show mKK l 1 i + 1 + 1 = mKK l 1 i + 2 by omega]
    refine EvP.pos (by first | trivial | rfl) (EvP.pos (by first | trivial | rfl) (EvP.eq_bind (heldBytes_ok l[i].f2.length (mKK l 1 i + 2) (by omega) (by omega)) (EvP.neg (by omega) ?_)))
    rw [hk]
    exact ih (i + 1) (by omega) (by omega)
theorem heldParts_ok (l : List S39) (hl : l.length ≤ 100) (hb : ∀ x ∈ l, x.f2.length ≤ 100) : EvP (fun k => laws_heldSegPartS.f k (mML l 1 l.length) 1) (· = mKK l 1 l.length) := by
  unfold laws_heldSegPartS.f
  have h := heldParts_loop l hl hb l.length 0 (by omega) (by omega)
  simpa [mKK] using h
theorem cutQ (s : List Int) (a : Int) : (if segB s.length a then segL s a.toNat else []).length ≤ 100 ∧ ∀ x ∈ (if segB s.length a then segL s a.toNat else []), x.f2.length ≤ 100 := by
  split
  · rename_i hb
    unfold segB at hb
    simp only [Bool.and_eq_true, decide_eq_true_eq] at hb
    exact segL_small s a.toNat (by omega) (by omega)
  · exact ⟨by simp, by simp⟩
theorem FnExactSegCut : laws_FnExactSegCut.Pure := by
  intro l a _ _ _ _
  refine EvP.rounds ?_
  unfold laws_FnExactSegCut.f
  refine EvP.ite (fun _ => EvP.now _ rfl) (fun hn => ?_)
  have g1 : l.length ≤ 1048576 := by omega
  have tb := toByteS_ok l (by omega)
  have sp := specCut_ok l a (by omega)
  have ip := implCut_ok l a (by omega)
  obtain ⟨q1, q2⟩ := cutQ l a
  generalize (if segB l.length a then segL l a.toNat else []) = V at sp ip q1 q2
  have eq := eqParts_ok V (by omega) (fun x hx => Nat.le_trans (q2 x hx) (by omega))
  have eb : EvP (fun k => laws_eqByteS.f k l l) (· = true) := by
    have := eqByteS_ok l l (by omega)
    rwa [decide_eq_true rfl] at this
  have hp := heldParts_ok V q1 q2
  have hB := mKK_bound V q2 1 (by omega) V.length (by omega)
  refine EvP.eq_bind tb (EvP.eq_bind sp (EvP.eq_bind tb (EvP.eq_bind ip (EvP.eq_bind eq (EvP.pos rfl (EvP.eq_bind tb (EvP.eq_bind eb (EvP.pos rfl (EvP.eq_bind (markBytes_ok l 1 (by omega) (by omega)) (EvP.neg (by simp only; omega) (EvP.eq_bind eq ?_)))))))))))
  refine EvP.up ?_
  simp only [laws_FnExactSegCut.j0]
  refine EvP.neg (by simp) (EvP.eq_bind (markParts_ok V q1 q2) (EvP.eq_bind hp (EvP.neg (by omega) (EvP.pos rfl ?_))))
  exact EvP.eq_bind tb (EvP.eq_bind ip (EvP.eq_bind eq (EvP.pos rfl (EvP.eq_bind hp (EvP.neg (by omega) (EvP.pos rfl (EvP.now _ rfl)))))))

end Go.Proofs.Yteknaofnageihaa.Pure
