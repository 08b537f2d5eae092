/- The law FnExactTxOk: TxOk of the program is that of the reference, for every CfgOpts and every TxState. No condition. -/
import Derived.Test.YteknaofnageihaaOpenFnExactTxOk
namespace Go.Proofs.Yteknaofnageihaa.Pure
open Go.RowKit Go.Proofs.Yteknaofnageihaa.QFnExactTxOk Go.Proofs.YteknaofnageihaaW.PrintWords Go.Proofs.YteknaofnageihaaW.PrintLast Go.Proofs.YteknaofnageihaaW.PrintMore
set_option linter.unusedVariables false
set_option linter.unusedSimpArgs false

/-! A small calculus: with enough rounds g comes to something of which Q holds. -/
def EvP {α : Type} (g : Nat → Option α) (Q : α → Prop) : Prop := ∃ r, Ev g r ∧ Q r
theorem EvP.now {α : Type} {Q : α → Prop} (r : α) (h : Q r) : EvP (fun _ => some r) Q := ⟨r, Ev.now r, h⟩
theorem EvP.here {α : Type} {o : Option α} {Q : α → Prop} (r : α) (e : o = some r) (h : Q r) : EvP (fun _ => o) Q := by subst e; exact EvP.now r h
theorem EvP.of {α : Type} {g : Nat → Option α} {Q : α → Prop} (K : Nat) (h : ∃ r, (∀ k, K ≤ k → g k = some r) ∧ Q r) : EvP g Q := by
  obtain ⟨r, h1, h2⟩ := h
  exact ⟨r, ⟨K, h1⟩, h2⟩
theorem EvP.bind {α β : Type} {g : Nat → Option α} {f : Nat → α → Option β} {P : α → Prop} {Q : β → Prop} (h : EvP g P) (k : ∀ a, P a → EvP (fun n => f n a) Q) : EvP (fun n => (g n).bind (f n)) Q := by
  obtain ⟨a, ha, hp⟩ := h
  obtain ⟨r, hr, hq⟩ := k a hp
  exact ⟨r, Ev.bind ha hr, hq⟩
theorem EvP.some_bind {α β : Type} {a : α} {f : Nat → α → Option β} {Q : β → Prop} (k : EvP (fun n => f n a) Q) : EvP (fun n => (some a).bind (f n)) Q := k
theorem EvP.step {α : Type} {g f : Nat → Option α} {Q : α → Prop} (h : ∀ k, g (k + 1) = f k) (k : EvP f Q) : EvP g Q := by
  obtain ⟨r, hr, hq⟩ := k
  exact ⟨r, Ev.step h hr, hq⟩
theorem EvP.congr {α : Type} {g f : Nat → Option α} {Q : α → Prop} (h : ∀ k, g k = f k) (k : EvP f Q) : EvP g Q := by
  obtain ⟨r, hr, hq⟩ := k
  exact ⟨r, Ev.congr h hr, hq⟩
theorem EvP.mono {α : Type} {g : Nat → Option α} {P Q : α → Prop} (h : EvP g P) (k : ∀ a, P a → Q a) : EvP g Q := by
  obtain ⟨r, hr, hp⟩ := h
  exact ⟨r, hr, k r hp⟩
theorem EvP.ite {α : Type} {c : Prop} [Decidable c] {f g : Nat → Option α} {Q : α → Prop} (h1 : c → EvP f Q) (h2 : ¬ c → EvP g Q) : EvP (fun k => if c then f k else g k) Q := by
  by_cases hc : c
  · simp only [if_pos hc]; exact h1 hc
  · simp only [if_neg hc]; exact h2 hc
theorem EvP.pos {α : Type} {c : Prop} [Decidable c] {f g : Nat → Option α} {Q : α → Prop} (hc : c) (h : EvP f Q) : EvP (fun k => if c then f k else g k) Q := by
  simp only [if_pos hc]; exact h
theorem EvP.neg {α : Type} {c : Prop} [Decidable c] {f g : Nat → Option α} {Q : α → Prop} (hc : ¬ c) (h : EvP g Q) : EvP (fun k => if c then f k else g k) Q := by
  simp only [if_neg hc]; exact h
theorem EvP.rounds {α : Type} {g : Nat → Option α} {r : α} (h : EvP g (· = r)) : ∃ k, g k = some r := by
  obtain ⟨q, hq, rfl⟩ := h
  exact hq.rounds
theorem EvP.up {α : Type} {g : Nat → Option α} {Q : α → Prop} (h : EvP (fun k => g (k + 1)) Q) : EvP g Q := EvP.step (fun _ => rfl) h
theorem EvP.val_bind {α β : Type} {o : Option α} {a : α} {f : Nat → α → Option β} {Q : β → Prop} (e : o = some a) (k : EvP (fun n => f n a) Q) : EvP (fun n => o.bind (f n)) Q := by subst e; exact k
theorem wrap64_id {x : Int} (h : -9223372036854775808 ≤ x) (h2 : x ≤ 9223372036854775807) : wrap64 x = x := by unfold wrap64; omega
theorem toByteS_loop (l : List Int) (hl : l.length ≤ 281474976710656) (d : Nat) : ∀ i : Nat, i ≤ l.length → l.length - i = d → EvP (fun k => laws_toByteS.l0 k l (l.take i ++ List.replicate (l.length - i) 0) (i : Int)) (· = l) := by
  induction d with
  | zero =>
    intro i h0 hd
    have hi : i = l.length := by omega
    subst hi
    refine EvP.up ?_
    simp only [laws_toByteS.l0]
    exact EvP.neg (by omega) (EvP.now _ (by simp))
  | succ d ih =>
    intro i h0 hd
    refine EvP.up ?_
    simp only [laws_toByteS.l0]
    refine EvP.pos (by omega) (EvP.pos (by omega) (EvP.pos (by simp; omega) ?_))
    have hw : wrap64 ((i : Int) + 1) = ((i + 1 : Nat) : Int) := by rw [wrap64_id (by omega) (by omega)]; omega
    have hs : (l.take i ++ List.replicate (l.length - i) (0 : Int)).set ((i : Int)).toNat (rd l i) = l.take (i + 1) ++ List.replicate (l.length - (i + 1)) 0 := by
      have hlt : i < l.length := by omega
      have hr : rd l (i : Int) = l[i] := by
        unfold rd
        rw [Int.toNat_natCast, List.getD_eq_getElem?_getD, List.getElem?_eq_getElem hlt]; rfl
      rw [hr, Int.toNat_natCast, List.set_append_right _ _ (by rw [List.length_take]; omega), List.length_take, Nat.min_eq_left (by omega), Nat.sub_self, show l.length - i = (l.length - (i + 1)) + 1 by omega, List.replicate_succ, List.set_cons_zero]
      have e := List.take_succ_eq_append_getElem hlt
      rw [e, List.append_assoc]
      rfl
    rw [hw, hs]
    exact ih (i + 1) (by omega) (by omega)
theorem toByteS_ok (l : List Int) (hl : l.length ≤ 281474976710656) : EvP (fun k => laws_toByteS.f k l) (· = l) := by
  unfold laws_toByteS.f
  refine EvP.pos (by omega) (EvP.pos (by omega) ?_)
  have h := toByteS_loop l hl l.length 0 (by omega) (by omega)
  simpa using h
theorem eqByteS_loop (a b : List Int) (hab : a.length = b.length) (hl : a.length ≤ 281474976710656) (d : Nat) : ∀ i : Nat, i ≤ a.length → a.length - i = d → a.take i = b.take i → EvP (fun k => laws_eqByteS.l0 k a b (i : Int)) (· = decide (a = b)) := by
  induction d with
  | zero =>
    intro i h0 hd ht
    refine EvP.up ?_
    simp only [laws_eqByteS.l0]
    refine EvP.neg (by omega) (EvP.now _ ?_)
    rw [List.take_of_length_le (by omega), List.take_of_length_le (by omega)] at ht
    exact (decide_eq_true ht).symm
  | succ d ih =>
    intro i h0 hd ht
    have hi : i < a.length := by omega
    have hi2 : i < b.length := by omega
    refine EvP.up ?_
    simp only [laws_eqByteS.l0]
    refine EvP.pos (by omega) (EvP.pos (by omega) (EvP.pos (by omega) ?_))
    have ha : rd a (i : Int) = a[i] := by unfold rd; rw [Int.toNat_natCast, List.getD_eq_getElem?_getD, List.getElem?_eq_getElem hi]; rfl
    have hb : rd b (i : Int) = b[i] := by unfold rd; rw [Int.toNat_natCast, List.getD_eq_getElem?_getD, List.getElem?_eq_getElem hi2]; rfl
    rw [ha, hb]
    have hw : wrap64 ((i : Int) + 1) = ((i + 1 : Nat) : Int) := by rw [wrap64_id (by omega) (by omega)]; omega
    rw [hw]
    refine EvP.ite (fun h => ih (i + 1) (by omega) (by omega) ?_) (fun h => EvP.now _ ?_)
    · rw [List.take_succ_eq_append_getElem hi, List.take_succ_eq_append_getElem hi2, ht, h]
    · refine (decide_eq_false (fun e => h ?_)).symm
      subst e; rfl
theorem eqByteS_ok (a b : List Int) (hl : a.length ≤ 281474976710656) : EvP (fun k => laws_eqByteS.f k a b) (· = decide (a = b)) := by
  unfold laws_eqByteS.f
  refine EvP.ite (fun h => eqByteS_loop a b (by omega) hl a.length 0 (by omega) (by omega) (by simp)) (fun h => EvP.now _ ?_)
  exact (decide_eq_false (fun e => h (by rw [e]))).symm
theorem EvP.eq_bind {α β : Type} {g : Nat → Option α} {f : Nat → α → Option β} {a : α} {Q : β → Prop} (h : EvP g (· = a)) (k : EvP (fun n => f n a) Q) : EvP (fun n => (g n).bind (f n)) Q := EvP.bind h (fun _ e => by subst e; exact k)
theorem szByteS_ok (l : List Int) (hl : l.length ≤ maxLen) (n : Int) (hn : 0 ≤ n ∧ n ≤ 1048576) : ∃ m, laws_szByteS.f l n = some m ∧ m ≤ n ∧ (0 ≤ m → (l.length : Int) ≤ n) := by
  unfold maxLen at hl
  unfold laws_szByteS.f
  rw [wrap64_id (by omega) (by omega)]
  by_cases h : n - (l.length : Int) < 0
  · exact ⟨-1, by rw [if_pos h], by omega, by omega⟩
  · exact ⟨_, by rw [if_neg h], by omega, by omega⟩
/-! Lists of pieces: their size, their copy, their comparison. -/
def conv (x : S47) : S39 := ⟨x.f0, x.f1, x.f2⟩
theorem szPart_ok (a b : Int) (l : List Int) (hl : l.length ≤ maxLen) (n : Int) (hn : 0 ≤ n ∧ n ≤ 1048576) : ∃ m, laws_szSegPart.f a b l n = some m ∧ m ≤ n ∧ (0 ≤ m → (l.length : Int) ≤ n) := by
  obtain ⟨m, h1, h2, h3⟩ := szByteS_ok l hl n hn
  unfold laws_szSegPart.f
  rw [h1]
  by_cases h : m < 0
  · exact ⟨-1, by simp only [Option.bind_some]; rw [if_pos h], by omega, by omega⟩
  · exact ⟨m, by simp only [Option.bind_some]; rw [if_neg h], h2, h3⟩
theorem rdA (xs : List S47) (i : Nat) (h : i < xs.length) : rd_T47 xs (i : Int) = xs[i] := by
  unfold rd_T47
  rw [Int.toNat_natCast, List.getD_eq_getElem?_getD, List.getElem?_eq_getElem h]; rfl
theorem rdB (xs : List S39) (i : Nat) (h : i < xs.length) : rd_T39 xs (i : Int) = xs[i] := by
  unfold rd_T39
  rw [Int.toNat_natCast, List.getD_eq_getElem?_getD, List.getElem?_eq_getElem h]; rfl
theorem szParts_loop (l : List S47) (hl : l.length ≤ 1048576) (hb : ∀ x ∈ l, x.f2.length ≤ maxLen) (d : Nat) : ∀ (i : Nat) (n : Int), i ≤ l.length → l.length - i = d → (0 ≤ n ∧ n ≤ 1048576) →
    EvP (fun k => laws_szSegPartS.l0 k l n (i : Int)) fun m => m ≤ n ∧ (0 ≤ m → ∀ j, i ≤ j → ∀ h : j < l.length, (l[j].f2.length : Int) ≤ 1048576) := by
  induction d with
  | zero =>
    intro i n h0 hd hn
    refine EvP.up ?_
    simp only [laws_szSegPartS.l0]
    exact EvP.neg (by omega) (EvP.now _ ⟨by omega, fun _ j h1 h2 => by omega⟩)
  | succ d ih =>
    intro i n h0 hd hn
    have hi : i < l.length := by omega
    refine EvP.up ?_
    simp only [laws_szSegPartS.l0]
    refine EvP.pos (by omega) (EvP.pos (by omega) ?_)
    rw [rdA l i hi]
    obtain ⟨m, h1, h2, h3⟩ := szPart_ok l[i].f0 l[i].f1 l[i].f2 (hb _ (List.getElem_mem hi)) n hn
    refine EvP.val_bind h1 (EvP.ite (fun h => EvP.now _ ⟨by omega, by omega⟩) (fun h => ?_))
    have hw : wrap64 ((i : Int) + 1) = ((i + 1 : Nat) : Int) := by rw [wrap64_id (by omega) (by omega)]; omega
    rw [hw]
    refine EvP.mono (ih (i + 1) m (by omega) (by omega) (by omega)) ?_
    rintro q ⟨q1, q2⟩
    refine ⟨by omega, fun hq j hj hjl => ?_⟩
    by_cases e : j = i
    · subst e; have := h3 (by omega); omega
    · exact q2 hq j (by omega) hjl
theorem szParts_ok (l : List S47) (hl : l.length ≤ maxLen) (hb : ∀ x ∈ l, x.f2.length ≤ maxLen) (n : Int) (hn : 0 ≤ n ∧ n ≤ 1048576) :
    EvP (fun k => laws_szSegPartS.f k l n) fun m => m ≤ n ∧ (0 ≤ m → l.length ≤ 1048576 ∧ ∀ x ∈ l, x.f2.length ≤ 1048576) := by
  unfold maxLen at hl
  unfold laws_szSegPartS.f
  rw [wrap64_id (x := n - (l.length : Int)) (by omega) (by omega)]
  refine EvP.ite (fun h => EvP.now _ ⟨by omega, by omega⟩) (fun h => ?_)
  refine EvP.mono (szParts_loop l (by omega) hb l.length 0 (n - (l.length : Int)) (by omega) (by omega) (by omega)) ?_
  rintro m ⟨h1, h2⟩
  refine ⟨by omega, fun h0 => ⟨by omega, fun x hx => ?_⟩⟩
  obtain ⟨j, hj, rfl⟩ := List.getElem_of_mem hx
  have := h2 h0 j (by omega) hj
  omega
theorem toPart_ok (a b : Int) (l : List Int) (hl : l.length ≤ 1048576) : EvP (fun k => laws_toSegPart.f k a b l) (· = (a, b, l)) := by
  unfold laws_toSegPart.f
  exact EvP.eq_bind (toByteS_ok l (by omega)) (EvP.now _ rfl)
theorem toParts_loop (l : List S47) (hl : l.length ≤ 1048576) (hb : ∀ x ∈ l, x.f2.length ≤ 1048576) (d : Nat) : ∀ i : Nat, i ≤ l.length → l.length - i = d →
    EvP (fun k => laws_toSegPartS.l0 k l ((l.take i).map conv ++ List.replicate (l.length - i) z39) (i : Int)) (· = l.map conv) := by
  induction d with
  | zero =>
    intro i h0 hd
    have hi : i = l.length := by omega
    subst hi
    refine EvP.up ?_
    simp only [laws_toSegPartS.l0]
    exact EvP.neg (by omega) (EvP.now _ (by simp))
  | succ d ih =>
    intro i h0 hd
    have hi : i < l.length := by omega
    refine EvP.up ?_
    simp only [laws_toSegPartS.l0]
    refine EvP.pos (by omega) (EvP.pos (by omega) ?_)
    rw [rdA l i hi]
    refine EvP.eq_bind (toPart_ok _ _ _ (hb _ (List.getElem_mem hi))) (EvP.pos (by simp; omega) ?_)
    have hw : wrap64 ((i : Int) + 1) = ((i + 1 : Nat) : Int) := by rw [wrap64_id (by omega) (by omega)]; omega
    have hs : ((l.take i).map conv ++ List.replicate (l.length - i) z39).set ((i : Int)).toNat (⟨l[i].f0, l[i].f1, l[i].f2⟩ : S39) = (l.take (i + 1)).map conv ++ List.replicate (l.length - (i + 1)) z39 := by
      have hm : ((l.take i).map conv).length = i := by rw [List.length_map, List.length_take]; omega
      rw [Int.toNat_natCast, List.set_append_right _ _ (by omega), hm, Nat.sub_self, show l.length - i = (l.length - (i + 1)) + 1 by omega, List.replicate_succ, List.set_cons_zero]
      have e := List.take_succ_eq_append_getElem hi
      rw [e, List.map_append, List.append_assoc]
      rfl
    rw [hw, hs]
    exact ih (i + 1) (by omega) (by omega)
theorem toParts_ok (l : List S47) (hl : l.length ≤ 1048576) (hb : ∀ x ∈ l, x.f2.length ≤ 1048576) : EvP (fun k => laws_toSegPartS.f k l) (· = l.map conv) := by
  unfold laws_toSegPartS.f
  refine EvP.pos (by omega) (EvP.pos (by omega) ?_)
  have h := toParts_loop l hl hb l.length 0 (by omega) (by omega)
  simpa using h
theorem eqPart_ok (a b : Int) (l : List Int) (hl : l.length ≤ 1048576) : EvP (fun k => laws_eqSegPart.f k a b l a b l) (· = true) := by
  unfold laws_eqSegPart.f
  refine EvP.pos rfl (EvP.pos rfl (EvP.eq_bind (eqByteS_ok l l (by omega)) ?_))
  rw [decide_eq_true rfl]
  exact EvP.now _ rfl
theorem eqParts_loop (l : List S39) (hl : l.length ≤ 1048576) (hb : ∀ x ∈ l, x.f2.length ≤ 1048576) (d : Nat) : ∀ i : Nat, i ≤ l.length → l.length - i = d →
    EvP (fun k => laws_eqSegPartS.l0 k l l (i : Int)) (· = true) := by
  induction d with
  | zero =>
    intro i h0 hd
    refine EvP.up ?_
    simp only [laws_eqSegPartS.l0]
    exact EvP.neg (by omega) (EvP.now _ rfl)
  | succ d ih =>
    intro i h0 hd
    have hi : i < l.length := by omega
    refine EvP.up ?_
    simp only [laws_eqSegPartS.l0]
    refine EvP.pos (by omega) (EvP.pos (by omega) (EvP.pos (by omega) ?_))
    rw [rdB l i hi]
    have hw : wrap64 ((i : Int) + 1) = ((i + 1 : Nat) : Int) := by rw [wrap64_id (by omega) (by omega)]; omega
    rw [hw]
    exact EvP.eq_bind (eqPart_ok _ _ _ (hb _ (List.getElem_mem hi))) (EvP.pos rfl (ih (i + 1) (by omega) (by omega)))
theorem eqParts_ok (l : List S39) (hl : l.length ≤ 1048576) (hb : ∀ x ∈ l, x.f2.length ≤ 1048576) : EvP (fun k => laws_eqSegPartS.f k l l) (· = true) := by
  unfold laws_eqSegPartS.f
  exact EvP.pos rfl (eqParts_loop l hl hb l.length 0 (by omega) (by omega))
theorem conv_bound {l : List S47} (hb : ∀ x ∈ l, x.f2.length ≤ 1048576) : ∀ x ∈ l.map conv, x.f2.length ≤ 1048576 := by
  intro x hx
  obtain ⟨y, hy, rfl⟩ := List.mem_map.1 hx
  exact hb y hy
theorem szTx_ok (a b : Int) (l : List S47) (c : Int) (q : List S47) (d : Bool) (e : Int) (f : Bool) (g : Int) (h : Bool) (hl : l.length ≤ maxLen) (hb : ∀ x ∈ l, x.f2.length ≤ maxLen) (hq : q.length ≤ maxLen) (hc : ∀ x ∈ q, x.f2.length ≤ maxLen) (n : Int) (hn : 0 ≤ n ∧ n ≤ 1048576) :
    EvP (fun k => laws_szTxState.f k a b l c q d e f g h n) fun m => 0 ≤ m → (l.length ≤ 1048576 ∧ ∀ x ∈ l, x.f2.length ≤ 1048576) ∧ (q.length ≤ 1048576 ∧ ∀ x ∈ q, x.f2.length ≤ 1048576) := by
  unfold laws_szTxState.f
  refine EvP.bind (szParts_ok l hl hb n hn) ?_
  rintro m ⟨h1, h2⟩
  refine EvP.ite (fun h => EvP.now _ (by omega)) (fun h3 => ?_)
  refine EvP.bind (szParts_ok q hq hc m (by omega)) ?_
  rintro m2 ⟨h4, h5⟩
  exact EvP.ite (fun h => EvP.now _ (by omega)) (fun h6 => EvP.now _ (fun _ => ⟨h2 (by omega), h5 (by omega)⟩))
theorem toTx_ok (a b : Int) (l : List S47) (c : Int) (q : List S47) (d : Bool) (e : Int) (f : Bool) (g : Int) (h : Bool) (hl : l.length ≤ 1048576) (hb : ∀ x ∈ l, x.f2.length ≤ 1048576) (hq : q.length ≤ 1048576) (hc : ∀ x ∈ q, x.f2.length ≤ 1048576) :
    EvP (fun k => laws_toTxState.f k a b l c q d e f g h) (· = (a, b, l.map conv, c, q.map conv, d, e, f, g, h)) := by
  unfold laws_toTxState.f
  exact EvP.eq_bind (toParts_ok l hl hb) (EvP.eq_bind (toParts_ok q hq hc) (EvP.now _ rfl))
theorem eqTx_ok (a b : Int) (l : List S39) (c : Int) (q : List S39) (d : Bool) (e : Int) (f : Bool) (g : Int) (h : Bool) (hl : l.length ≤ 1048576) (hb : ∀ x ∈ l, x.f2.length ≤ 1048576) (hq : q.length ≤ 1048576) (hc : ∀ x ∈ q, x.f2.length ≤ 1048576) :
    EvP (fun k => laws_eqTxState.f k a b l c q d e f g h a b l c q d e f g h) (· = true) := by
  unfold laws_eqTxState.f
  exact EvP.pos rfl (EvP.pos rfl (EvP.eq_bind (eqParts_ok l hl hb) (EvP.pos rfl (EvP.pos rfl (EvP.eq_bind (eqParts_ok q hq hc) (EvP.pos rfl (EvP.neg (by simp) (EvP.pos rfl (EvP.neg (by simp) (EvP.pos rfl (EvP.neg (by simp) (EvP.now _ rfl))))))))))))
theorem in_val (a lo hi : Int) : impl_in.f a lo hi = some (decide (lo ≤ a ∧ a ≤ hi)) := by
  unfold impl_in.f
  by_cases h : a ≥ lo
  · rw [if_pos h]; simp only [Option.some.injEq, decide_eq_decide]; omega
  · rw [if_neg h]; simp only [Option.some.injEq]; exact (decide_eq_false (by omega)).symm
theorem l1In_val (a lo hi : Int) : spec_l1In.f a lo hi = some (decide (lo ≤ a ∧ a ≤ hi)) := in_val a lo hi
def cok (a b c d e : Int) : Bool := decide ((1 ≤ a ∧ a ≤ 2) ∧ (1 ≤ b ∧ b ≤ 4) ∧ (1 ≤ c ∧ c ≤ 8) ∧ (1 ≤ d ∧ d ≤ 24) ∧ (1 ≤ e ∧ e ≤ 5))
theorem cfgOk_val (a b c d e : Int) : impl_CfgOk.f a b c d e = some (cok a b c d e) := by
  unfold impl_CfgOk.f cok
  rw [in_val, in_val, in_val, in_val, in_val]
  simp only [Option.bind_some, decide_eq_true_eq]
  by_cases h1 : 1 ≤ a ∧ a ≤ 2
  · rw [if_pos h1]
    by_cases h2 : 1 ≤ b ∧ b ≤ 4
    · rw [if_pos h2]
      by_cases h3 : 1 ≤ c ∧ c ≤ 8
      · rw [if_pos h3]
        by_cases h4 : 1 ≤ d ∧ d ≤ 24
        · rw [if_pos h4]; simp only [Option.some.injEq, decide_eq_decide]; exact ⟨fun h => ⟨h1, h2, h3, h4, h⟩, fun h => h.2.2.2.2⟩
        · rw [if_neg h4]; exact congrArg some (decide_eq_false (fun h => h4 h.2.2.2.1)).symm
      · rw [if_neg h3]; exact congrArg some (decide_eq_false (fun h => h3 h.2.2.1)).symm
    · rw [if_neg h2]; exact congrArg some (decide_eq_false (fun h => h2 h.2.1)).symm
  · rw [if_neg h1]; exact congrArg some (decide_eq_false (fun h => h1 h.1)).symm
theorem cfgOk_same (a b c d e : Int) : spec_CfgOk.f a b c d e = some (cok a b c d e) := cfgOk_val a b c d e
/-! A piece is ok. -/
def pok (seg len : Int) (l : List Int) : Bool := decide ((seg = 0 ∧ (l.length : Int) ≤ 8 ∧ len = (l.length : Int)) ∨ (seg = 1 ∧ 1 ≤ (l.length : Int) ∧ (l.length : Int) ≤ 8 ∧ (l.length : Int) + 1 ≤ len ∧ len ≤ 24) ∨ ((seg = 2 ∨ seg = 3) ∧ 1 ≤ (l.length : Int) ∧ (l.length : Int) ≤ 8 ∧ len = 0))
theorem in_val2 (a lo hi : Int) : impl_in.f a lo hi = some (decide (lo ≤ a ∧ a ≤ hi)) := by
  unfold impl_in.f
  by_cases h : a ≥ lo
  · rw [if_pos h]; simp only [Option.some.injEq, decide_eq_decide]; omega
  · rw [if_neg h]; simp only [Option.some.injEq]; exact (decide_eq_false (by omega)).symm
theorem pieceOk_val (seg len : Int) (l : List Int) (hl : l.length ≤ 281474976710656) : impl_pieceOk.f seg len l = some (pok seg len l) := by
  unfold impl_pieceOk.f pok
  simp only [in_val2, Option.bind_some, decide_eq_true_eq]
  rw [wrap64_id (x := (l.length : Int) + 1) (by omega) (by omega)]
  by_cases h0 : seg = 0
  · rw [if_pos h0]
    by_cases h1 : (l.length : Int) ≤ 8
    · rw [if_pos h1]
      rw [Option.some.injEq, Bool.eq_iff_iff, beq_iff_eq, decide_eq_true_eq]; omega
    · rw [if_neg h1, Option.some.injEq]; exact (decide_eq_false (by omega)).symm
  · rw [if_neg h0]
    by_cases h1 : seg = 1
    · rw [if_pos h1]
      by_cases h2 : 1 ≤ (l.length : Int) ∧ (l.length : Int) ≤ 8
      · rw [if_pos h2, Option.some.injEq, decide_eq_decide]; omega
      · rw [if_neg h2, Option.some.injEq]; exact (decide_eq_false (by omega)).symm
    · rw [if_neg h1]
      by_cases h3 : seg = 2
      · rw [if_pos h3]
        by_cases h2 : 1 ≤ (l.length : Int) ∧ (l.length : Int) ≤ 8
        · rw [if_pos h2, Option.some.injEq, Bool.eq_iff_iff, beq_iff_eq, decide_eq_true_eq]; omega
        · rw [if_neg h2, Option.some.injEq]; exact (decide_eq_false (by omega)).symm
      · rw [if_neg h3]
        by_cases h4 : seg = 3
        · rw [if_pos h4]
          by_cases h2 : 1 ≤ (l.length : Int) ∧ (l.length : Int) ≤ 8
          · rw [if_pos h2, Option.some.injEq, Bool.eq_iff_iff, beq_iff_eq, decide_eq_true_eq]; omega
          · rw [if_neg h2, Option.some.injEq]; exact (decide_eq_false (by omega)).symm
        · rw [if_neg h4, Option.some.injEq]; exact (decide_eq_false (by omega)).symm
theorem partOk_val (seg len : Int) (l : List Int) (hl : l.length ≤ 281474976710656) : impl_PartOk.f seg len l = some (pok seg len l) := by
  unfold impl_PartOk.f
  rw [pieceOk_val seg len l hl]
  rfl
theorem l2Seg_ok (a b c : Int) (d e : Bool) (f seg len : Int) (l : List Int) (hl : l.length ≤ 281474976710656) : EvP (fun k => spec_l2Seg.f k a b c d e f seg len l) (· = pok seg len l) := by
  have in_val3 : ∀ a lo hi : Int, spec_l1In.f a lo hi = some (decide (lo ≤ a ∧ a ≤ hi)) := by
    intro a lo hi
    unfold spec_l1In.f
    by_cases h : a ≥ lo
    · rw [if_pos h]; simp only [Option.some.injEq, decide_eq_decide]; omega
    · rw [if_neg h]; simp only [Option.some.injEq]; exact (decide_eq_false (by omega)).symm
  have tail : ∀ x : Bool, (x = true → pok seg len l = false) → (x = false → (0 ≤ seg ∧ seg ≤ 3) ∧ (l.length : Int) ≤ 8 ∧ ((l.length : Int) = 0 → len = 0)) → EvP (fun k => spec_l2Seg.j0 k x a b c d e f seg len l) (· = pok seg len l) := by
    intro x hx hx2
    refine EvP.up ?_
    simp only [spec_l2Seg.j0, in_val3, Option.bind_some, decide_eq_true_eq]
    refine EvP.ite (fun h => EvP.now _ (hx h).symm) (fun h => ?_)
    obtain ⟨h1, h2, h3⟩ := hx2 (Bool.eq_false_iff.mpr h)
    rw [wrap64_id (x := (l.length : Int) + 1) (by omega) (by omega)]
    unfold pok
    refine EvP.ite (fun h0 => EvP.now _ ?_) (fun h0 => EvP.ite (fun h4 => EvP.ite (fun h5 => EvP.now _ ?_) (fun h5 => EvP.now _ ?_)) (fun h4 => EvP.ite (fun h5 => EvP.now _ ?_) (fun h5 => EvP.now _ ?_)))
    · rw [Bool.eq_iff_iff, beq_iff_eq, decide_eq_true_eq]; omega
    · rw [decide_eq_decide]; omega
    · exact (decide_eq_false (by omega)).symm
    · rw [decide_eq_decide]; omega
    · exact (decide_eq_false (by omega)).symm
  unfold spec_l2Seg.f
  simp only [in_val3, Option.bind_some, decide_eq_true_eq]
  refine EvP.ite (fun h1 => EvP.ite (fun h2 => EvP.ite (fun h3 => tail _ ?_ ?_) (fun h3 => tail _ ?_ ?_)) (fun h2 => tail _ ?_ ?_)) (fun h1 => tail _ ?_ ?_)
  · intro h; rw [decide_eq_true_eq] at h; omega
  · intro h; rw [decide_eq_false_iff_not] at h; omega
  · intro _; unfold pok; exact decide_eq_false (by omega)
  · intro h; cases h
  · intro h; rw [decide_eq_true_eq] at h; unfold pok; exact decide_eq_false (by omega)
  · intro h; rw [decide_eq_false_iff_not] at h; omega
  · intro _; unfold pok; exact decide_eq_false (by omega)
  · intro h; cases h
theorem specPart_ok (seg len : Int) (l : List Int) (hl : l.length ≤ 281474976710656) : EvP (fun k => spec_PartOk.f k seg len l) (· = pok seg len l) := by
  unfold spec_PartOk.f
  refine EvP.bind (l2Seg_ok 0 0 0 false false 0 seg len l hl) ?_
  rintro _ rfl
  exact EvP.now _ rfl
def partB (m : Int) (x : S39) : Bool := pok x.f0 x.f1 x.f2 && decide ((x.f2.length : Int) ≤ m)
theorem specParts_loop (m : Int) (l : List S39) (hl : l.length ≤ 1048576) (hb : ∀ x ∈ l, x.f2.length ≤ 1048576) (d : Nat) : ∀ i : Nat, i ≤ l.length → l.length - i = d →
    EvP (fun k => spec_l6Parts.l0 k l m (i : Int)) (· = (l.drop i).all (partB m)) := by
  induction d with
  | zero =>
    intro i h0 hd
    refine EvP.up ?_
    simp only [spec_l6Parts.l0]
    refine EvP.neg (by omega) (EvP.now _ ?_)
    rw [List.drop_eq_nil_of_le (by omega)]; rfl
  | succ d ih =>
    intro i h0 hd
    have hi : i < l.length := by omega
    refine EvP.up ?_
    simp only [spec_l6Parts.l0]
    refine EvP.pos (by omega) (EvP.pos (by omega) ?_)
    rw [rdB l i hi]
    have hw : wrap64 ((i : Int) + 1) = ((i + 1 : Nat) : Int) := by rw [wrap64_id (by omega) (by omega)]; omega
    rw [hw, List.drop_eq_getElem_cons hi, List.all_cons]
    have hx := hb _ (List.getElem_mem hi)
    refine EvP.eq_bind (specPart_ok _ _ _ (by omega)) ?_
    unfold partB
    refine EvP.ite (fun h1 => ?_) (fun h1 => EvP.now _ (by rw [Bool.not_eq_true] at h1; rw [h1]; rfl))
    rw [h1, Bool.true_and]
    refine EvP.ite (fun h2 => EvP.now _ (by rw [decide_eq_false (by omega)]; rfl)) (fun h2 => ?_)
    rw [decide_eq_true (by omega), Bool.true_and]
    exact ih (i + 1) (by omega) (by omega)
theorem specParts_ok (m : Int) (l : List S39) (hl : l.length ≤ 1048576) (hb : ∀ x ∈ l, x.f2.length ≤ 1048576) : EvP (fun k => spec_l6Parts.f k l m) (· = l.all (partB m)) := by
  unfold spec_l6Parts.f
  exact specParts_loop m l hl hb l.length 0 (by omega) (by omega)
theorem implParts_loop (m : Int) (l : List S39) (hl : l.length ≤ 1048576) (hb : ∀ x ∈ l, x.f2.length ≤ 1048576) (d : Nat) : ∀ i : Nat, i ≤ l.length → l.length - i = d →
    EvP (fun k => impl_CfgOpts_partsOk.l0 k l m (i : Int)) (fun r => (!decide (r ≥ 0)) = (l.drop i).all (partB m)) := by
  induction d with
  | zero =>
    intro i h0 hd
    refine EvP.up ?_
    simp only [impl_CfgOpts_partsOk.l0]
    refine EvP.neg (by omega) (EvP.now _ ?_)
    rw [List.drop_eq_nil_of_le (by omega)]; rfl
  | succ d ih =>
    intro i h0 hd
    have hi : i < l.length := by omega
    refine EvP.up ?_
    simp only [impl_CfgOpts_partsOk.l0, impl_CfgOpts_partsOk.p]
    refine EvP.pos (by omega) (EvP.pos (by omega) ?_)
    rw [rdB l i hi]
    have hw : wrap64 ((i : Int) + 1) = ((i + 1 : Nat) : Int) := by rw [wrap64_id (by omega) (by omega)]; omega
    rw [hw, List.drop_eq_getElem_cons hi, List.all_cons]
    have hx := hb _ (List.getElem_mem hi)
    rw [partOk_val _ _ _ (by omega)]
    unfold partB
    cases h1 : pok l[i].f0 l[i].f1 l[i].f2 with
    | false =>
      refine EvP.val_bind (a := true) (by simp) (EvP.pos rfl (EvP.now _ ?_))
      rw [decide_eq_true (by omega)]; rfl
    | true =>
      refine EvP.val_bind (a := decide ((l[i].f2.length : Int) > m)) (by simp) ?_
      refine EvP.ite (fun h2 => EvP.now _ ?_) (fun h2 => ?_)
      · rw [decide_eq_true (by omega), decide_eq_false (by have := of_decide_eq_true h2; omega)]; rfl
      · rw [decide_eq_true (by rw [decide_eq_true_eq] at h2; omega), Bool.true_and, Bool.true_and]
        exact ih (i + 1) (by omega) (by omega)
theorem implParts_ok (a b m c d : Int) (l : List S39) (hl : l.length ≤ 1048576) (hb : ∀ x ∈ l, x.f2.length ≤ 1048576) : EvP (fun k => impl_CfgOpts_partsOk.f k a b m c d l) (· = l.all (partB m)) := by
  unfold impl_CfgOpts_partsOk.f
  refine EvP.bind (implParts_loop m l hl hb l.length 0 (by omega) (by omega)) ?_
  intro r hr
  exact EvP.now _ hr
def farV (a b : Int) : Int := Int.tmod (wrap64 ((wrap64 (b - a)) + 8)) 8
def tokS (a b c d e nx ac : Int) (l : List S39) (se : Int) (q : List S39) (tr cn : Int) : Bool :=
  cok a b c d e && (decide (0 ≤ nx ∧ nx ≤ 7) && (decide (0 ≤ ac ∧ ac ≤ 7) && (decide ((l.length : Int) ≤ b) && (decide (farV ac nx = (l.length : Int)) && (decide (0 ≤ se ∧ se ≤ (l.length : Int)) && (decide ((q.length : Int) ≤ 24) && (decide (0 ≤ tr ∧ tr ≤ e) && (decide (0 ≤ cn ∧ cn ≤ 9999) && (decide (Int.tmod cn 8 = ac) && (l.all (partB c) && q.all (partB c)))))))))))
def tokI (a b c d e nx ac : Int) (l : List S39) (se : Int) (q : List S39) (tr cn : Int) : Bool :=
  cok a b c d e && (decide (0 ≤ ac ∧ ac ≤ 7) && (decide (0 ≤ nx ∧ nx ≤ 7) && (decide (farV ac nx = (l.length : Int)) && (decide ((l.length : Int) ≤ b) && (decide (0 ≤ se ∧ se ≤ (l.length : Int)) && (decide ((q.length : Int) ≤ 24) && (decide (0 ≤ tr ∧ tr ≤ e) && (decide (0 ≤ cn ∧ cn ≤ 9999) && (decide (Int.tmod cn 8 = ac) && (l.all (partB c) && q.all (partB c)))))))))))
theorem tok_same (a b c d e nx ac : Int) (l : List S39) (se : Int) (q : List S39) (tr cn : Int) : tokI a b c d e nx ac l se q tr cn = tokS a b c d e nx ac l se q tr cn := by
  unfold tokI tokS
  generalize cok a b c d e = b1
  generalize decide (0 ≤ nx ∧ nx ≤ 7) = b2
  generalize decide (0 ≤ ac ∧ ac ≤ 7) = b3
  generalize decide ((l.length : Int) ≤ b) = b4
  generalize decide (farV ac nx = (l.length : Int)) = b5
  cases b1 <;> cases b2 <;> cases b3 <;> cases b4 <;> cases b5 <;> rfl
theorem tok_j0 (a b c d e nx ac : Int) (l : List S39) (se : Int) (q : List S39) (f : Bool) (tr : Int) (g : Bool) (cn : Int) (h : Bool) : EvP (fun k => spec_TxOk.j0 k true a b c d e nx ac l se q f tr g cn h) (· = false) := by
  refine EvP.up ?_
  simp only [spec_TxOk.j0]
  exact EvP.pos trivial (EvP.now _ rfl)
theorem specTxOk_ok (a b c d e nx ac : Int) (l : List S39) (se : Int) (q : List S39) (f : Bool) (tr : Int) (g : Bool) (cn : Int) (h : Bool) (hl : l.length ≤ 1048576) (hb : ∀ x ∈ l, x.f2.length ≤ 1048576) (hq : q.length ≤ 1048576) (hc : ∀ x ∈ q, x.f2.length ≤ 1048576) :
    EvP (fun k => spec_TxOk.f k a b c d e nx ac l se q f tr g cn h) (· = tokS a b c d e nx ac l se q tr cn) := by
  have J := tok_j0 a b c d e nx ac l se q f tr g cn h
  unfold spec_TxOk.f tokS
  rw [cfgOk_same]
  refine EvP.some_bind ?_
  cases cok a b c d e with
  | false => exact EvP.neg (by simp) J
  | true =>
  rw [Bool.true_and, l1In_val]
  refine EvP.pos rfl (EvP.some_bind ?_)
  by_cases h2 : 0 ≤ nx ∧ nx ≤ 7
  rotate_left
  · rw [decide_eq_false h2]; exact EvP.neg (by simp) J
  rw [decide_eq_true h2, Bool.true_and]
  refine EvP.pos rfl ?_
  rw [l1In_val]
  refine EvP.some_bind ?_
  by_cases h3 : 0 ≤ ac ∧ ac ≤ 7
  rotate_left
  · rw [decide_eq_false h3]; exact EvP.neg (by simp) J
  rw [decide_eq_true h3, Bool.true_and]
  refine EvP.pos rfl ?_
  refine EvP.ite (fun h4 => by rw [decide_eq_false (by omega)]; exact J) (fun h4 => ?_)
  rw [decide_eq_true (by omega), Bool.true_and]
  have hf : spec_NumFar.f ac nx = some (farV ac nx) := by
    unfold spec_NumFar.f farV
    rw [l1In_val, decide_eq_true h3, Option.bind_some, if_pos rfl, l1In_val, decide_eq_true h2, Option.bind_some, if_pos rfl]
  rw [hf]
  refine EvP.some_bind (EvP.ite (fun h5 => ?_) (fun h5 => by rw [decide_eq_false h5]; exact J))
  rw [decide_eq_true h5, Bool.true_and, l1In_val]
  refine EvP.some_bind ?_
  cases decide (0 ≤ se ∧ se ≤ (l.length : Int)) with
  | false => exact EvP.neg (by simp) J
  | true =>
  rw [Bool.true_and]
  refine EvP.pos rfl (EvP.ite (fun h4 => by rw [decide_eq_false (by omega)]; exact J) (fun h4 => ?_))
  rw [decide_eq_true (by omega), Bool.true_and, l1In_val]
  refine EvP.some_bind ?_
  cases decide (0 ≤ tr ∧ tr ≤ e) with
  | false => exact EvP.neg (by simp) J
  | true =>
  rw [Bool.true_and]
  refine EvP.pos rfl ?_
  rw [l1In_val]
  refine EvP.some_bind ?_
  by_cases h9 : 0 ≤ cn ∧ cn ≤ 9999
  rotate_left
  · rw [decide_eq_false h9]; exact EvP.neg (by simp) J
  rw [decide_eq_true h9, Bool.true_and]
  refine EvP.pos rfl ?_
  have hn : spec_NumOf.f cn = some (Int.tmod cn 8) := by
    unfold spec_NumOf.f
    rw [if_neg (by omega)]
  rw [hn]
  refine EvP.some_bind ?_
  by_cases h10 : Int.tmod cn 8 = ac
  rotate_left
  · rw [decide_eq_false h10, bne_iff_ne.mpr h10]; exact J
  rw [decide_eq_true h10, bne_eq_false_iff_eq.mpr h10, Bool.true_and]
  refine EvP.up ?_
  simp only [spec_TxOk.j0]
  refine EvP.neg (by simp) (EvP.eq_bind (specParts_ok c l hl hb) ?_)
  cases l.all (partB c) with
  | false => exact EvP.neg (by simp) (EvP.now _ rfl)
  | true => exact EvP.pos rfl (EvP.eq_bind (specParts_ok c q hq hc) (EvP.now _ rfl))
theorem isNumber_val (a : Int) : impl_isNumber.f a = some (decide (0 ≤ a ∧ a ≤ 7)) := by
  unfold impl_isNumber.f; rw [in_val]; rfl
theorem implTxOk_ok (a b c d e nx ac : Int) (l : List S39) (se : Int) (q : List S39) (f : Bool) (tr : Int) (g : Bool) (cn : Int) (h : Bool) (hl : l.length ≤ 1048576) (hb : ∀ x ∈ l, x.f2.length ≤ 1048576) (hq : q.length ≤ 1048576) (hc : ∀ x ∈ q, x.f2.length ≤ 1048576) :
    EvP (fun k => impl_TxOk.f k a b c d e nx ac l se q f tr g cn h) (· = tokI a b c d e nx ac l se q tr cn) := by
  unfold impl_TxOk.f tokI
  rw [cfgOk_val]
  refine EvP.some_bind ?_
  cases cok a b c d e with
  | false => exact EvP.neg (by simp) (EvP.now _ rfl)
  | true =>
  rw [Bool.true_and, isNumber_val]
  refine EvP.pos rfl (EvP.some_bind ?_)
  cases decide (0 ≤ ac ∧ ac ≤ 7) with
  | false => exact EvP.neg (by simp) (EvP.now _ rfl)
  | true =>
  rw [Bool.true_and, isNumber_val]
  refine EvP.pos rfl (EvP.some_bind ?_)
  cases decide (0 ≤ nx ∧ nx ≤ 7) with
  | false => exact EvP.neg (by simp) (EvP.now _ rfl)
  | true =>
  rw [Bool.true_and, show impl_far.f ac nx = some (farV ac nx) from rfl]
  refine EvP.pos rfl (EvP.some_bind (EvP.ite (fun h5 => ?_) (fun h5 => EvP.now _ (by rw [decide_eq_false h5]; rfl))))
  rw [decide_eq_true h5, Bool.true_and]
  refine EvP.ite (fun h4 => ?_) (fun h4 => EvP.now _ (by rw [decide_eq_false h4]; rfl))
  rw [decide_eq_true h4, Bool.true_and, in_val]
  refine EvP.some_bind ?_
  cases decide (0 ≤ se ∧ se ≤ (l.length : Int)) with
  | false => exact EvP.neg (by simp) (EvP.now _ rfl)
  | true =>
  rw [Bool.true_and]
  refine EvP.pos rfl (EvP.ite (fun h4 => ?_) (fun h4 => EvP.now _ (by rw [decide_eq_false h4]; rfl)))
  rw [decide_eq_true h4, Bool.true_and, in_val]
  refine EvP.some_bind ?_
  cases decide (0 ≤ tr ∧ tr ≤ e) with
  | false => exact EvP.neg (by simp) (EvP.now _ rfl)
  | true =>
  rw [Bool.true_and]
  refine EvP.pos rfl ?_
  rw [in_val]
  refine EvP.some_bind ?_
  by_cases h9 : 0 ≤ cn ∧ cn ≤ 9999
  rotate_left
  · rw [decide_eq_false h9]; exact EvP.neg (by simp) (EvP.now _ rfl)
  rw [decide_eq_true h9, Bool.true_and]
  refine EvP.pos rfl ?_
  have hn : impl_NumOf.f cn = some (Int.tmod cn 8) := by
    unfold impl_NumOf.f
    rw [if_neg (by omega)]
  rw [hn]
  refine EvP.some_bind (EvP.ite (fun h5 => ?_) (fun h5 => EvP.now _ (by rw [decide_eq_false h5]; rfl)))
  rw [decide_eq_true h5, Bool.true_and]
  refine EvP.eq_bind (implParts_ok a b c d e l hl hb) ?_
  cases l.all (partB c) with
  | false => exact EvP.neg (by simp) (EvP.now _ rfl)
  | true => exact EvP.pos rfl (EvP.eq_bind (implParts_ok a b c d e q hq hc) (EvP.now _ rfl))
open Go.Proofs.Yteknaofnageihaa.OpenFnExactTxOk in
theorem FnExactTxOk : ∀ (a0_0 : Int) (a0_1 : Int) (a0_2 : Int) (a0_3 : Int) (a0_4 : Int) (a1_0 : Int) (a1_1 : Int) (l1_2 : List S47) (a1_3 : Int) (l1_4 : List S47) (a1_5 : Bool) (a1_6 : Int) (a1_7 : Bool) (a1_8 : Int) (a1_9 : Bool), (Lit.int .i64 a0_0).wf = true → (Lit.int .i64 a0_1).wf = true → (Lit.int .i64 a0_2).wf = true → (Lit.int .i64 a0_3).wf = true → (Lit.int .i64 a0_4).wf = true → (Lit.int .i64 a1_0).wf = true → (Lit.int .i64 a1_1).wf = true → l1_2.length ≤ maxLen → (∀ y ∈ l1_2, G47 y) → (Lit.int .i64 a1_3).wf = true → l1_4.length ≤ maxLen → (∀ y ∈ l1_4, G47 y) → (Lit.int .i64 a1_6).wf = true → (Lit.int .i64 a1_8).wf = true → ∃ k, laws_FnExactTxOk.f k a0_0 a0_1 a0_2 a0_3 a0_4 a1_0 a1_1 l1_2 a1_3 l1_4 a1_5 a1_6 a1_7 a1_8 a1_9 = some true := by
  intro a b c d e nx ac l se q f tr g cn h _ _ _ _ _ _ _ hl hb _ hq hc _ _
  refine EvP.rounds ?_
  unfold laws_FnExactTxOk.f
  refine EvP.bind (szTx_ok nx ac l se q f tr g cn h hl (fun x hx => (hb x hx).2.2.1) hq (fun x hx => (hc x hx).2.2.1) 1048576 (by omega)) ?_
  intro m hm
  refine EvP.ite (fun _ => EvP.now _ rfl) (fun hn => ?_)
  obtain ⟨⟨h1, h2⟩, h3, h4⟩ := hm (by omega)
  have tp := toTx_ok nx ac l se q f tr g cn h h1 h2 h3 h4
  have g1 : (l.map conv).length ≤ 1048576 := by simpa using h1
  have g2 := conv_bound h2
  have g3 : (q.map conv).length ≤ 1048576 := by simpa using h3
  have g4 := conv_bound h4
  have hi := implTxOk_ok a b c d e nx ac (l.map conv) se (q.map conv) f tr g cn h g1 g2 g3 g4
  rw [tok_same] at hi
  refine EvP.val_bind rfl (EvP.eq_bind tp (EvP.eq_bind (specTxOk_ok a b c d e nx ac (l.map conv) se (q.map conv) f tr g cn h g1 g2 g3 g4) (EvP.eq_bind tp (EvP.val_bind rfl (EvP.eq_bind hi (EvP.neg (by simp) (EvP.eq_bind tp (EvP.eq_bind (eqTx_ok nx ac (l.map conv) se (q.map conv) f tr g cn h g1 g2 g3 g4) (EvP.pos rfl (EvP.now _ rfl))))))))))

end Go.Proofs.Yteknaofnageihaa.Pure
