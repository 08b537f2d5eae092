/- The law FnExactTxLeft: TxLeft of the program is that of the reference, for every TxState. No condition. -/
import Derived.Test.YtjliccbkbpopkaaOpenFnExactTxLeft
namespace Go.Proofs.Ytjliccbkbpopkaa.Pure
open Go.RowKit Go.Proofs.Ytjliccbkbpopkaa.QFnExactTxLeft Go.Proofs.YtjliccbkbpopkaaW.PrintWords Go.Proofs.YtjliccbkbpopkaaW.PrintLast Go.Proofs.YtjliccbkbpopkaaW.PrintMore

/-! A small calculus: with enough rounds g comes to something of which Q holds. -/
def EvP {α : Type} (g : Nat → Option α) (Q : α → Prop) : Prop := ∃ r, Ev g r ∧ Q r
theorem EvP.now {α : Type} {Q : α → Prop} (r : α) (h : Q r) : EvP (fun _ => some r) Q := ⟨r, Ev.now r, h⟩
theorem EvP.here {α : Type} {o : Option α} {Q : α → Prop} (r : α) (e : o = some r) (h : Q r) : EvP (fun _ => o) Q := by subst e; exact EvP.now r h
theorem EvP.of {α : Type} {g : Nat → Option α} {Q : α → Prop} (K : Nat) (h : ∃ r, (∀ k, K ≤ k → g k = some r) ∧ Q r) : EvP g Q := by
  obtain ⟨r, h1, h2⟩ := h
  exact ⟨r, ⟨K, h1⟩, h2⟩
theorem EvP.bind {α β : Type} {g : Nat → Option α} {f : Nat → α → Option β} {P : α → Prop} {Q : β → Prop} (h : EvP g P) (k : ∀ a, P a → EvP (fun n => f n a) Q) : EvP (fun n => (g n).bind (f n)) Q := by
  obtain ⟨a, ha, hp⟩ := h
  obtain ⟨r, hr, hq⟩ := k a hp
  exact ⟨r, Ev.bind ha hr, hq⟩
theorem EvP.some_bind {α β : Type} {a : α} {f : Nat → α → Option β} {Q : β → Prop} (k : EvP (fun n => f n a) Q) : EvP (fun n => (some a).bind (f n)) Q := k
theorem EvP.step {α : Type} {g f : Nat → Option α} {Q : α → Prop} (h : ∀ k, g (k + 1) = f k) (k : EvP f Q) : EvP g Q := by
  obtain ⟨r, hr, hq⟩ := k
  exact ⟨r, Ev.step h hr, hq⟩
theorem EvP.congr {α : Type} {g f : Nat → Option α} {Q : α → Prop} (h : ∀ k, g k = f k) (k : EvP f Q) : EvP g Q := by
  obtain ⟨r, hr, hq⟩ := k
  exact ⟨r, Ev.congr h hr, hq⟩
theorem EvP.mono {α : Type} {g : Nat → Option α} {P Q : α → Prop} (h : EvP g P) (k : ∀ a, P a → Q a) : EvP g Q := by
  obtain ⟨r, hr, hp⟩ := h
  exact ⟨r, hr, k r hp⟩
theorem EvP.ite {α : Type} {c : Prop} [Decidable c] {f g : Nat → Option α} {Q : α → Prop} (h1 : c → EvP f Q) (h2 : ¬ c → EvP g Q) : EvP (fun k => if c then f k else g k) Q := by
  by_cases hc : c
  · simp only [if_pos hc]; exact h1 hc
  · simp only [if_neg hc]; exact h2 hc
theorem EvP.pos {α : Type} {c : Prop} [Decidable c] {f g : Nat → Option α} {Q : α → Prop} (hc : c) (h : EvP f Q) : EvP (fun k => if c then f k else g k) Q := by
  simp only [if_pos hc]; exact h
theorem EvP.neg {α : Type} {c : Prop} [Decidable c] {f g : Nat → Option α} {Q : α → Prop} (hc : ¬ c) (h : EvP g Q) : EvP (fun k => if c then f k else g k) Q := by
  simp only [if_neg hc]; exact h
theorem EvP.rounds {α : Type} {g : Nat → Option α} {r : α} (h : EvP g (· = r)) : ∃ k, g k = some r := by
  obtain ⟨q, hq, rfl⟩ := h
  exact hq.rounds
theorem EvP.up {α : Type} {g : Nat → Option α} {Q : α → Prop} (h : EvP (fun k => g (k + 1)) Q) : EvP g Q := EvP.step (fun _ => rfl) h
theorem EvP.val_bind {α β : Type} {o : Option α} {a : α} {f : Nat → α → Option β} {Q : β → Prop} (e : o = some a) (k : EvP (fun n => f n a) Q) : EvP (fun n => o.bind (f n)) Q := by subst e; exact k
theorem wrap64_id {x : Int} (h : -9223372036854775808 ≤ x) (h2 : x ≤ 9223372036854775807) : wrap64 x = x := by unfold wrap64; omega
theorem toByteS_loop (l : List Int) (hl : l.length ≤ 281474976710656) (d : Nat) : ∀ i : Nat, i ≤ l.length → l.length - i = d → EvP (fun k => laws_toByteS.l0 k l (l.take i ++ List.replicate (l.length - i) 0) (i : Int)) (· = l) := by
  induction d with
  | zero =>
    intro i h0 hd
    have hi : i = l.length := by omega
    subst hi
    refine EvP.up ?_
    simp only [laws_toByteS.l0]
    exact EvP.neg (by omega) (EvP.now _ (by simp))
  | succ d ih =>
    intro i h0 hd
    refine EvP.up ?_
    simp only [laws_toByteS.l0]
    refine EvP.pos (by omega) (EvP.pos (by omega) (EvP.pos (by simp; omega) ?_))
    have hw : wrap64 ((i : Int) + 1) = ((i + 1 : Nat) : Int) := by rw [wrap64_id (by omega) (by omega)]; omega
    have hs : (l.take i ++ List.replicate (l.length - i) (0 : Int)).set ((i : Int)).toNat (rd l i) = l.take (i + 1) ++ List.replicate (l.length - (i + 1)) 0 := by
      have hlt : i < l.length := by omega
      have hr : rd l (i : Int) = l[i] := by
        unfold rd
        rw [Int.toNat_natCast, List.getD_eq_getElem?_getD, List.getElem?_eq_getElem hlt]; rfl
      rw [hr, Int.toNat_natCast, List.set_append_right _ _ (by rw [List.length_take]; omega), List.length_take, Nat.min_eq_left (by omega), Nat.sub_self, show l.length - i = (l.length - (i + 1)) + 1 by omega, List.replicate_succ, List.set_cons_zero]
      have e := List.take_succ_eq_append_getElem hlt
      rw [e, List.append_assoc]
      rfl
    rw [hw, hs]
    exact ih (i + 1) (by omega) (by omega)
theorem toByteS_ok (l : List Int) (hl : l.length ≤ 281474976710656) : EvP (fun k => laws_toByteS.f k l) (· = l) := by
  unfold laws_toByteS.f
  refine EvP.pos (by omega) (EvP.pos (by omega) ?_)
  have h := toByteS_loop l hl l.length 0 (by omega) (by omega)
  simpa using h
theorem eqByteS_loop (a b : List Int) (hab : a.length = b.length) (hl : a.length ≤ 281474976710656) (d : Nat) : ∀ i : Nat, i ≤ a.length → a.length - i = d → a.take i = b.take i → EvP (fun k => laws_eqByteS.l0 k a b (i : Int)) (· = decide (a = b)) := by
  induction d with
  | zero =>
    intro i h0 hd ht
    refine EvP.up ?_
    simp only [laws_eqByteS.l0]
    refine EvP.neg (by omega) (EvP.now _ ?_)
    rw [List.take_of_length_le (by omega), List.take_of_length_le (by omega)] at ht
    exact (decide_eq_true ht).symm
  | succ d ih =>
    intro i h0 hd ht
    have hi : i < a.length := by omega
    have hi2 : i < b.length := by omega
    refine EvP.up ?_
    simp only [laws_eqByteS.l0]
    refine EvP.pos (by omega) (EvP.pos (by omega) (EvP.pos (by omega) ?_))
    have ha : rd a (i : Int) = a[i] := by unfold rd; rw [Int.toNat_natCast, List.getD_eq_getElem?_getD, List.getElem?_eq_getElem hi]; rfl
    have hb : rd b (i : Int) = b[i] := by unfold rd; rw [Int.toNat_natCast, List.getD_eq_getElem?_getD, List.getElem?_eq_getElem hi2]; rfl
    rw [ha, hb]
    have hw : wrap64 ((i : Int) + 1) = ((i + 1 : Nat) : Int) := by rw [wrap64_id (by omega) (by omega)]; omega
    rw [hw]
    refine EvP.ite (fun h => ih (i + 1) (by omega) (by omega) ?_) (fun h => EvP.now _ ?_)
    · rw [List.take_succ_eq_append_getElem hi, List.take_succ_eq_append_getElem hi2, ht, h]
    · refine (decide_eq_false (fun e => h ?_)).symm
      subst e; rfl
theorem eqByteS_ok (a b : List Int) (hl : a.length ≤ 281474976710656) : EvP (fun k => laws_eqByteS.f k a b) (· = decide (a = b)) := by
  unfold laws_eqByteS.f
  refine EvP.ite (fun h => eqByteS_loop a b (by omega) hl a.length 0 (by omega) (by omega) (by simp)) (fun h => EvP.now _ ?_)
  exact (decide_eq_false (fun e => h (by rw [e]))).symm
theorem EvP.eq_bind {α β : Type} {g : Nat → Option α} {f : Nat → α → Option β} {a : α} {Q : β → Prop} (h : EvP g (· = a)) (k : EvP (fun n => f n a) Q) : EvP (fun n => (g n).bind (f n)) Q := EvP.bind h (fun _ e => by subst e; exact k)
theorem szByteS_ok (l : List Int) (hl : l.length ≤ maxLen) (n : Int) (hn : 0 ≤ n ∧ n ≤ 1048576) : ∃ m, laws_szByteS.f l n = some m ∧ m ≤ n ∧ (0 ≤ m → (l.length : Int) ≤ n) := by
  unfold maxLen at hl
  unfold laws_szByteS.f
  rw [wrap64_id (by omega) (by omega)]
  by_cases h : n - (l.length : Int) < 0
  · exact ⟨-1, by rw [if_pos h], by omega, by omega⟩
  · exact ⟨_, by rw [if_neg h], by omega, by omega⟩
/-! Lists of pieces: their size, their copy, their comparison. -/
def conv (x : S94) : S72 := ⟨x.f0, x.f1, x.f2⟩
theorem szPart_ok (a b : Int) (l : List Int) (hl : l.length ≤ maxLen) (n : Int) (hn : 0 ≤ n ∧ n ≤ 1048576) : ∃ m, laws_szSegPart.f a b l n = some m ∧ m ≤ n ∧ (0 ≤ m → (l.length : Int) ≤ n) := by
  obtain ⟨m, h1, h2, h3⟩ := szByteS_ok l hl n hn
  unfold laws_szSegPart.f
  rw [h1]
  by_cases h : m < 0
  · exact ⟨-1, by simp only [Option.bind_some]; rw [if_pos h], by omega, by omega⟩
  · exact ⟨m, by simp only [Option.bind_some]; rw [if_neg h], h2, h3⟩
theorem rdA (xs : List S94) (i : Nat) (h : i < xs.length) : rd_T94 xs (i : Int) = xs[i] := by
  unfold rd_T94
  rw [Int.toNat_natCast, List.getD_eq_getElem?_getD, List.getElem?_eq_getElem h]; rfl
theorem rdB (xs : List S72) (i : Nat) (h : i < xs.length) : rd_T72 xs (i : Int) = xs[i] := by
  unfold rd_T72
  rw [Int.toNat_natCast, List.getD_eq_getElem?_getD, List.getElem?_eq_getElem h]; rfl
theorem szParts_loop (l : List S94) (hl : l.length ≤ 1048576) (hb : ∀ x ∈ l, x.f2.length ≤ maxLen) (d : Nat) : ∀ (i : Nat) (n : Int), i ≤ l.length → l.length - i = d → (0 ≤ n ∧ n ≤ 1048576) →
    EvP (fun k => laws_szSegPartS.l0 k l n (i : Int)) fun m => m ≤ n ∧ (0 ≤ m → ∀ j, i ≤ j → ∀ h : j < l.length, (l[j].f2.length : Int) ≤ 1048576) := by
  induction d with
  | zero =>
    intro i n h0 hd hn
    refine EvP.up ?_
    simp only [laws_szSegPartS.l0]
    exact EvP.neg (by omega) (EvP.now _ ⟨by omega, fun _ j h1 h2 => by omega⟩)
  | succ d ih =>
    intro i n h0 hd hn
    have hi : i < l.length := by omega
    refine EvP.up ?_
    simp only [laws_szSegPartS.l0]
    refine EvP.pos (by omega) (EvP.pos (by omega) ?_)
    rw [rdA l i hi]
    obtain ⟨m, h1, h2, h3⟩ := szPart_ok l[i].f0 l[i].f1 l[i].f2 (hb _ (List.getElem_mem hi)) n hn
    refine EvP.val_bind h1 (EvP.ite (fun h => EvP.now _ ⟨by omega, by omega⟩) (fun h => ?_))
    have hw : wrap64 ((i : Int) + 1) = ((i + 1 : Nat) : Int) := by rw [wrap64_id (by omega) (by omega)]; omega
    rw [hw]
    refine EvP.mono (ih (i + 1) m (by omega) (by omega) (by omega)) ?_
    rintro q ⟨q1, q2⟩
    refine ⟨by omega, fun hq j hj hjl => ?_⟩
    by_cases e : j = i
    · subst e; have := h3 (by omega); omega
    · exact q2 hq j (by omega) hjl
theorem szParts_ok (l : List S94) (hl : l.length ≤ maxLen) (hb : ∀ x ∈ l, x.f2.length ≤ maxLen) (n : Int) (hn : 0 ≤ n ∧ n ≤ 1048576) :
    EvP (fun k => laws_szSegPartS.f k l n) fun m => m ≤ n ∧ (0 ≤ m → l.length ≤ 1048576 ∧ ∀ x ∈ l, x.f2.length ≤ 1048576) := by
  unfold maxLen at hl
  unfold laws_szSegPartS.f
  rw [wrap64_id (x := n - (l.length : Int)) (by omega) (by omega)]
  refine EvP.ite (fun h => EvP.now _ ⟨by omega, by omega⟩) (fun h => ?_)
  refine EvP.mono (szParts_loop l (by omega) hb l.length 0 (n - (l.length : Int)) (by omega) (by omega) (by omega)) ?_
  rintro m ⟨h1, h2⟩
  refine ⟨by omega, fun h0 => ⟨by omega, fun x hx => ?_⟩⟩
  obtain ⟨j, hj, rfl⟩ := List.getElem_of_mem hx
  have := h2 h0 j (by omega) hj
  omega
theorem toPart_ok (a b : Int) (l : List Int) (hl : l.length ≤ 1048576) : EvP (fun k => laws_toSegPart.f k a b l) (· = (a, b, l)) := by
  unfold laws_toSegPart.f
  exact EvP.eq_bind (toByteS_ok l (by omega)) (EvP.now _ rfl)
theorem toParts_loop (l : List S94) (hl : l.length ≤ 1048576) (hb : ∀ x ∈ l, x.f2.length ≤ 1048576) (d : Nat) : ∀ i : Nat, i ≤ l.length → l.length - i = d →
    EvP (fun k => laws_toSegPartS.l0 k l ((l.take i).map conv ++ List.replicate (l.length - i) z72) (i : Int)) (· = l.map conv) := by
  induction d with
  | zero =>
    intro i h0 hd
    have hi : i = l.length := by omega
    subst hi
    refine EvP.up ?_
    simp only [laws_toSegPartS.l0]
    exact EvP.neg (by omega) (EvP.now _ (by simp))
  | succ d ih =>
    intro i h0 hd
    have hi : i < l.length := by omega
    refine EvP.up ?_
    simp only [laws_toSegPartS.l0]
    refine EvP.pos (by omega) (EvP.pos (by omega) ?_)
    rw [rdA l i hi]
    refine EvP.eq_bind (toPart_ok _ _ _ (hb _ (List.getElem_mem hi))) (EvP.pos (by simp; omega) ?_)
    have hw : wrap64 ((i : Int) + 1) = ((i + 1 : Nat) : Int) := by rw [wrap64_id (by omega) (by omega)]; omega
    have hs : ((l.take i).map conv ++ List.replicate (l.length - i) z72).set ((i : Int)).toNat (⟨l[i].f0, l[i].f1, l[i].f2⟩ : S72) = (l.take (i + 1)).map conv ++ List.replicate (l.length - (i + 1)) z72 := by
      have hm : ((l.take i).map conv).length = i := by rw [List.length_map, List.length_take]; omega
      rw [Int.toNat_natCast, List.set_append_right _ _ (by omega), hm, Nat.sub_self, show l.length - i = (l.length - (i + 1)) + 1 by omega, List.replicate_succ, List.set_cons_zero]
      have e := List.take_succ_eq_append_getElem hi
      rw [e, List.map_append, List.append_assoc]
      rfl
    rw [hw, hs]
    exact ih (i + 1) (by omega) (by omega)
theorem toParts_ok (l : List S94) (hl : l.length ≤ 1048576) (hb : ∀ x ∈ l, x.f2.length ≤ 1048576) : EvP (fun k => laws_toSegPartS.f k l) (· = l.map conv) := by
  unfold laws_toSegPartS.f
  refine EvP.pos (by omega) (EvP.pos (by omega) ?_)
  have h := toParts_loop l hl hb l.length 0 (by omega) (by omega)
  simpa using h
theorem eqPart_ok (a b : Int) (l : List Int) (hl : l.length ≤ 1048576) : EvP (fun k => laws_eqSegPart.f k a b l a b l) (· = true) := by
  unfold laws_eqSegPart.f
  refine EvP.pos rfl (EvP.pos rfl (EvP.eq_bind (eqByteS_ok l l (by omega)) ?_))
  rw [decide_eq_true rfl]
  exact EvP.now _ rfl
theorem eqParts_loop (l : List S72) (hl : l.length ≤ 1048576) (hb : ∀ x ∈ l, x.f2.length ≤ 1048576) (d : Nat) : ∀ i : Nat, i ≤ l.length → l.length - i = d →
    EvP (fun k => laws_eqSegPartS.l0 k l l (i : Int)) (· = true) := by
  induction d with
  | zero =>
    intro i h0 hd
    refine EvP.up ?_
    simp only [laws_eqSegPartS.l0]
    exact EvP.neg (by omega) (EvP.now _ rfl)
  | succ d ih =>
    intro i h0 hd
    have hi : i < l.length := by omega
    refine EvP.up ?_
    simp only [laws_eqSegPartS.l0]
    refine EvP.pos (by omega) (EvP.pos (by omega) (EvP.pos (by omega) ?_))
    rw [rdB l i hi]
    have hw : wrap64 ((i : Int) + 1) = ((i + 1 : Nat) : Int) := by rw [wrap64_id (by omega) (by omega)]; omega
    rw [hw]
    exact EvP.eq_bind (eqPart_ok _ _ _ (hb _ (List.getElem_mem hi))) (EvP.pos rfl (ih (i + 1) (by omega) (by omega)))
theorem eqParts_ok (l : List S72) (hl : l.length ≤ 1048576) (hb : ∀ x ∈ l, x.f2.length ≤ 1048576) : EvP (fun k => laws_eqSegPartS.f k l l) (· = true) := by
  unfold laws_eqSegPartS.f
  exact EvP.pos rfl (eqParts_loop l hl hb l.length 0 (by omega) (by omega))
theorem conv_bound {l : List S94} (hb : ∀ x ∈ l, x.f2.length ≤ 1048576) : ∀ x ∈ l.map conv, x.f2.length ≤ 1048576 := by
  intro x hx
  obtain ⟨y, hy, rfl⟩ := List.mem_map.1 hx
  exact hb y hy
theorem szTx_ok (a b : Int) (l : List S94) (c : Int) (q : List S94) (d : Bool) (e : Int) (f : Bool) (g : Int) (h : Bool) (hl : l.length ≤ maxLen) (hb : ∀ x ∈ l, x.f2.length ≤ maxLen) (hq : q.length ≤ maxLen) (hc : ∀ x ∈ q, x.f2.length ≤ maxLen) (n : Int) (hn : 0 ≤ n ∧ n ≤ 1048576) :
    EvP (fun k => laws_szTxState.f k a b l c q d e f g h n) fun m => 0 ≤ m → (l.length ≤ 1048576 ∧ ∀ x ∈ l, x.f2.length ≤ 1048576) ∧ (q.length ≤ 1048576 ∧ ∀ x ∈ q, x.f2.length ≤ 1048576) := by
  unfold laws_szTxState.f
  refine EvP.bind (szParts_ok l hl hb n hn) ?_
  rintro m ⟨h1, h2⟩
  refine EvP.ite (fun h => EvP.now _ (by omega)) (fun h3 => ?_)
  refine EvP.bind (szParts_ok q hq hc m (by omega)) ?_
  rintro m2 ⟨h4, h5⟩
  exact EvP.ite (fun h => EvP.now _ (by omega)) (fun h6 => EvP.now _ (fun _ => ⟨h2 (by omega), h5 (by omega)⟩))
theorem toTx_ok (a b : Int) (l : List S94) (c : Int) (q : List S94) (d : Bool) (e : Int) (f : Bool) (g : Int) (h : Bool) (hl : l.length ≤ 1048576) (hb : ∀ x ∈ l, x.f2.length ≤ 1048576) (hq : q.length ≤ 1048576) (hc : ∀ x ∈ q, x.f2.length ≤ 1048576) :
    EvP (fun k => laws_toTxState.f k a b l c q d e f g h) (· = (a, b, l.map conv, c, q.map conv, d, e, f, g, h)) := by
  unfold laws_toTxState.f
  exact EvP.eq_bind (toParts_ok l hl hb) (EvP.eq_bind (toParts_ok q hq hc) (EvP.now _ rfl))
theorem eqTx_ok (a b : Int) (l : List S72) (c : Int) (q : List S72) (d : Bool) (e : Int) (f : Bool) (g : Int) (h : Bool) (hl : l.length ≤ 1048576) (hb : ∀ x ∈ l, x.f2.length ≤ 1048576) (hq : q.length ≤ 1048576) (hc : ∀ x ∈ q, x.f2.length ≤ 1048576) :
    EvP (fun k => laws_eqTxState.f k a b l c q d e f g h a b l c q d e f g h) (· = true) := by
  unfold laws_eqTxState.f
  exact EvP.pos rfl (EvP.pos rfl (EvP.eq_bind (eqParts_ok l hl hb) (EvP.pos rfl (EvP.pos rfl (EvP.eq_bind (eqParts_ok q hq hc) (EvP.pos rfl (EvP.neg (by simp) (EvP.pos rfl (EvP.neg (by simp) (EvP.pos rfl (EvP.neg (by simp) (EvP.now _ rfl))))))))))))
open Go.Proofs.Ytjliccbkbpopkaa.OpenFnExactTxLeft in
theorem FnExactTxLeft : ∀ (a0_0 : Int) (a0_1 : Int) (l0_2 : List S94) (a0_3 : Int) (l0_4 : List S94) (a0_5 : Bool) (a0_6 : Int) (a0_7 : Bool) (a0_8 : Int) (a0_9 : Bool), (Lit.int .i64 a0_0).wf = true → (Lit.int .i64 a0_1).wf = true → l0_2.length ≤ maxLen → (∀ y ∈ l0_2, G94 y) → (Lit.int .i64 a0_3).wf = true → l0_4.length ≤ maxLen → (∀ y ∈ l0_4, G94 y) → (Lit.int .i64 a0_6).wf = true → (Lit.int .i64 a0_8).wf = true → ∃ k, laws_FnExactTxLeft.f k a0_0 a0_1 l0_2 a0_3 l0_4 a0_5 a0_6 a0_7 a0_8 a0_9 = some true := by
  intro a b l c q d e f g h _ _ hl hb _ hq hc _ _
  refine EvP.rounds ?_
  unfold laws_FnExactTxLeft.f
  refine EvP.bind (szTx_ok a b l c q d e f g h hl (fun x hx => (hb x hx).2.2.1) hq (fun x hx => (hc x hx).2.2.1) 1048576 (by omega)) ?_
  intro m hm
  refine EvP.ite (fun _ => EvP.now _ rfl) (fun hn => ?_)
  obtain ⟨⟨h1, h2⟩, h3, h4⟩ := hm (by omega)
  have tp := toTx_ok a b l c q d e f g h h1 h2 h3 h4
  refine EvP.eq_bind tp (EvP.val_bind rfl (EvP.eq_bind tp (EvP.val_bind rfl (EvP.pos rfl (EvP.eq_bind tp (EvP.eq_bind (eqTx_ok a b (l.map conv) c (q.map conv) d e f g h (by simpa using h1) (conv_bound h2) (by simpa using h3) (conv_bound h4)) (EvP.pos rfl (EvP.now _ rfl))))))))

end Go.Proofs.Ytjliccbkbpopkaa.Pure
