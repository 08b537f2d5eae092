/- What the Tx calls of FnTxLeft and FnTxOk need of the plain functions. -/
import Derived.Test.YteknaofnageihaaTko
namespace Go.Proofs.Yteknaofnageihaa.Pure
open Go.RowKit Go.Proofs.Yteknaofnageihaa.QFnTxOk Go.Proofs.YteknaofnageihaaW.PrintWords Go.Proofs.YteknaofnageihaaW.PrintLast Go.Proofs.YteknaofnageihaaW.PrintMore
set_option linter.unusedVariables false
set_option linter.unusedSimpArgs false

/-! A small calculus: with enough rounds g comes to something of which Q holds. -/
def EvP {α : Type} (g : Nat → Option α) (Q : α → Prop) : Prop := ∃ r, Ev g r ∧ Q r
theorem EvP.now {α : Type} {Q : α → Prop} (r : α) (h : Q r) : EvP (fun _ => some r) Q := ⟨r, Ev.now r, h⟩
theorem EvP.here {α : Type} {o : Option α} {Q : α → Prop} (r : α) (e : o = some r) (h : Q r) : EvP (fun _ => o) Q := by subst e; exact EvP.now r h
theorem EvP.of {α : Type} {g : Nat → Option α} {Q : α → Prop} (K : Nat) (h : ∃ r, (∀ k, K ≤ k → g k = some r) ∧ Q r) : EvP g Q := by
  obtain ⟨r, h1, h2⟩ := h
  exact ⟨r, ⟨K, h1⟩, h2⟩
theorem EvP.bind {α β : Type} {g : Nat → Option α} {f : Nat → α → Option β} {P : α → Prop} {Q : β → Prop} (h : EvP g P) (k : ∀ a, P a → EvP (fun n => f n a) Q) : EvP (fun n => (g n).bind (f n)) Q := by
  obtain ⟨a, ha, hp⟩ := h
  obtain ⟨r, hr, hq⟩ := k a hp
  exact ⟨r, Ev.bind ha hr, hq⟩
theorem EvP.some_bind {α β : Type} {a : α} {f : Nat → α → Option β} {Q : β → Prop} (k : EvP (fun n => f n a) Q) : EvP (fun n => (some a).bind (f n)) Q := k
theorem EvP.step {α : Type} {g f : Nat → Option α} {Q : α → Prop} (h : ∀ k, g (k + 1) = f k) (k : EvP f Q) : EvP g Q := by
  obtain ⟨r, hr, hq⟩ := k
  exact ⟨r, Ev.step h hr, hq⟩
theorem EvP.congr {α : Type} {g f : Nat → Option α} {Q : α → Prop} (h : ∀ k, g k = f k) (k : EvP f Q) : EvP g Q := by
  obtain ⟨r, hr, hq⟩ := k
  exact ⟨r, Ev.congr h hr, hq⟩
theorem EvP.mono {α : Type} {g : Nat → Option α} {P Q : α → Prop} (h : EvP g P) (k : ∀ a, P a → Q a) : EvP g Q := by
  obtain ⟨r, hr, hp⟩ := h
  exact ⟨r, hr, k r hp⟩
theorem EvP.ite {α : Type} {c : Prop} [Decidable c] {f g : Nat → Option α} {Q : α → Prop} (h1 : c → EvP f Q) (h2 : ¬ c → EvP g Q) : EvP (fun k => if c then f k else g k) Q := by
  by_cases hc : c
  · simp only [if_pos hc]; exact h1 hc
  · simp only [if_neg hc]; exact h2 hc
theorem EvP.pos {α : Type} {c : Prop} [Decidable c] {f g : Nat → Option α} {Q : α → Prop} (hc : c) (h : EvP f Q) : EvP (fun k => if c then f k else g k) Q := by
  simp only [if_pos hc]; exact h
theorem EvP.neg {α : Type} {c : Prop} [Decidable c] {f g : Nat → Option α} {Q : α → Prop} (hc : ¬ c) (h : EvP g Q) : EvP (fun k => if c then f k else g k) Q := by
  simp only [if_neg hc]; exact h
theorem EvP.rounds {α : Type} {g : Nat → Option α} {r : α} (h : EvP g (· = r)) : ∃ k, g k = some r := by
  obtain ⟨q, hq, rfl⟩ := h
  exact hq.rounds
theorem EvP.up {α : Type} {g : Nat → Option α} {Q : α → Prop} (h : EvP (fun k => g (k + 1)) Q) : EvP g Q := EvP.step (fun _ => rfl) h
theorem EvP.val_bind {α β : Type} {o : Option α} {a : α} {f : Nat → α → Option β} {Q : β → Prop} (e : o = some a) (k : EvP (fun n => f n a) Q) : EvP (fun n => o.bind (f n)) Q := by subst e; exact k
theorem EvP.eq_bind {α β : Type} {g : Nat → Option α} {f : Nat → α → Option β} {a : α} {Q : β → Prop} (h : EvP g (· = a)) (k : EvP (fun n => f n a) Q) : EvP (fun n => (g n).bind (f n)) Q := EvP.bind h (fun _ e => by subst e; exact k)
theorem wrap64_id {x : Int} (h : -9223372036854775808 ≤ x) (h2 : x ≤ 9223372036854775807) : wrap64 x = x := by unfold wrap64; omega
theorem rdB (xs : List S39) (i : Nat) (h : i < xs.length) : rd_T39 xs (i : Int) = xs[i] := by
  unfold rd_T39
  rw [Int.toNat_natCast, List.getD_eq_getElem?_getD, List.getElem?_eq_getElem h]; rfl
theorem l6List_loop (l : List S39) (hl : l.length ≤ 1048576) (hb : ∀ x ∈ l, x.f2.length ≤ 1048576) (d : Nat) : ∀ i : Nat, i ≤ l.length → l.length - i = d →
    EvP (fun k => spec_l6List.l0 k l (l.take i) (i : Int)) (· = l) := by
  induction d with
  | zero =>
    intro i h0 hd
    have hi : i = l.length := by omega
    subst hi
    refine EvP.up ?_
    simp only [spec_l6List.l0]
    exact EvP.neg (by omega) (EvP.now _ (by simp))
  | succ d ih =>
    intro i h0 hd
    have hi : i < l.length := by omega
    have hx := hb _ (List.getElem_mem hi)
    refine EvP.up ?_
    simp only [spec_l6List.l0]
    rw [rdB l i hi]
    have hw : wrap64 ((i : Int) + 1) = ((i + 1 : Nat) : Int) := by rw [wrap64_id (by omega) (by omega)]; omega
    rw [hw]
    refine EvP.pos (by omega) (EvP.pos (by omega) (EvP.some_bind (EvP.pos (by simp only [List.length_nil]; omega) (EvP.pos (by simp only [List.length_take]; omega) ?_))))
    have ih1 := ih (i + 1) (by omega) (by omega)
    rw [List.take_succ_eq_append_getElem hi] at ih1
    exact ih1
theorem l6List_ok (l : List S39) (hl : l.length ≤ 1048576) (hb : ∀ x ∈ l, x.f2.length ≤ 1048576) : EvP (fun k => spec_l6List.f k l) (· = l) := by
  unfold spec_l6List.f
  exact l6List_loop l hl hb l.length 0 (by omega) (by omega)
theorem in_val (a lo hi : Int) : impl_in.f a lo hi = some (decide (lo ≤ a ∧ a ≤ hi)) := by
  unfold impl_in.f
  by_cases h : a ≥ lo
  · rw [if_pos h]; simp only [Option.some.injEq, decide_eq_decide]; omega
  · rw [if_neg h]; simp only [Option.some.injEq]; exact (decide_eq_false (by omega)).symm
theorem l1In_val (a lo hi : Int) : spec_l1In.f a lo hi = some (decide (lo ≤ a ∧ a ≤ hi)) := in_val a lo hi
def cok (a b c d e : Int) : Bool := decide ((1 ≤ a ∧ a ≤ 2) ∧ (1 ≤ b ∧ b ≤ 4) ∧ (1 ≤ c ∧ c ≤ 8) ∧ (1 ≤ d ∧ d ≤ 24) ∧ (1 ≤ e ∧ e ≤ 5))
theorem cfgOk_val (a b c d e : Int) : impl_CfgOk.f a b c d e = some (cok a b c d e) := by
  unfold impl_CfgOk.f cok
  rw [in_val, in_val, in_val, in_val, in_val]
  simp only [Option.bind_some, decide_eq_true_eq]
  by_cases h1 : 1 ≤ a ∧ a ≤ 2
  · rw [if_pos h1]
    by_cases h2 : 1 ≤ b ∧ b ≤ 4
    · rw [if_pos h2]
      by_cases h3 : 1 ≤ c ∧ c ≤ 8
      · rw [if_pos h3]
        by_cases h4 : 1 ≤ d ∧ d ≤ 24
        · rw [if_pos h4]; simp only [Option.some.injEq, decide_eq_decide]; exact ⟨fun h => ⟨h1, h2, h3, h4, h⟩, fun h => h.2.2.2.2⟩
        · rw [if_neg h4]; exact congrArg some (decide_eq_false (fun h => h4 h.2.2.2.1)).symm
      · rw [if_neg h3]; exact congrArg some (decide_eq_false (fun h => h3 h.2.2.1)).symm
    · rw [if_neg h2]; exact congrArg some (decide_eq_false (fun h => h2 h.2.1)).symm
  · rw [if_neg h1]; exact congrArg some (decide_eq_false (fun h => h1 h.1)).symm
theorem cfgOk_same (a b c d e : Int) : spec_CfgOk.f a b c d e = some (cok a b c d e) := cfgOk_val a b c d e
/-! Lists of pieces: their size, their copy, their comparison. -/
/-! A piece is ok. -/
def pok (seg len : Int) (l : List Int) : Bool := decide ((seg = 0 ∧ (l.length : Int) ≤ 8 ∧ len = (l.length : Int)) ∨ (seg = 1 ∧ 1 ≤ (l.length : Int) ∧ (l.length : Int) ≤ 8 ∧ (l.length : Int) + 1 ≤ len ∧ len ≤ 24) ∨ ((seg = 2 ∨ seg = 3) ∧ 1 ≤ (l.length : Int) ∧ (l.length : Int) ≤ 8 ∧ len = 0))
theorem in_val2 (a lo hi : Int) : impl_in.f a lo hi = some (decide (lo ≤ a ∧ a ≤ hi)) := by
  unfold impl_in.f
  by_cases h : a ≥ lo
  · rw [if_pos h]; simp only [Option.some.injEq, decide_eq_decide]; omega
  · rw [if_neg h]; simp only [Option.some.injEq]; exact (decide_eq_false (by omega)).symm
theorem l2Seg_ok (a b c : Int) (d e : Bool) (f seg len : Int) (l : List Int) (hl : l.length ≤ 281474976710656) : EvP (fun k => spec_l2Seg.f k a b c d e f seg len l) (· = pok seg len l) := by
  have in_val3 : ∀ a lo hi : Int, spec_l1In.f a lo hi = some (decide (lo ≤ a ∧ a ≤ hi)) := by
    intro a lo hi
    unfold spec_l1In.f
    by_cases h : a ≥ lo
    · rw [if_pos h]; simp only [Option.some.injEq, decide_eq_decide]; omega
    · rw [if_neg h]; simp only [Option.some.injEq]; exact (decide_eq_false (by omega)).symm
  have tail : ∀ x : Bool, (x = true → pok seg len l = false) → (x = false → (0 ≤ seg ∧ seg ≤ 3) ∧ (l.length : Int) ≤ 8 ∧ ((l.length : Int) = 0 → len = 0)) → EvP (fun k => spec_l2Seg.j0 k x a b c d e f seg len l) (· = pok seg len l) := by
    intro x hx hx2
    refine EvP.up ?_
    simp only [spec_l2Seg.j0, in_val3, Option.bind_some, decide_eq_true_eq]
    refine EvP.ite (fun h => EvP.now _ (hx h).symm) (fun h => ?_)
    obtain ⟨h1, h2, h3⟩ := hx2 (Bool.eq_false_iff.mpr h)
    rw [wrap64_id (x := (l.length : Int) + 1) (by omega) (by omega)]
    unfold pok
    refine EvP.ite (fun h0 => EvP.now _ ?_) (fun h0 => EvP.ite (fun h4 => EvP.ite (fun h5 => EvP.now _ ?_) (fun h5 => EvP.now _ ?_)) (fun h4 => EvP.ite (fun h5 => EvP.now _ ?_) (fun h5 => EvP.now _ ?_)))
    · rw [Bool.eq_iff_iff, beq_iff_eq, decide_eq_true_eq]; omega
    · rw [decide_eq_decide]; omega
    · exact (decide_eq_false (by omega)).symm
    · rw [decide_eq_decide]; omega
    · exact (decide_eq_false (by omega)).symm
  unfold spec_l2Seg.f
  simp only [in_val3, Option.bind_some, decide_eq_true_eq]
  refine EvP.ite (fun h1 => EvP.ite (fun h2 => EvP.ite (fun h3 => tail _ ?_ ?_) (fun h3 => tail _ ?_ ?_)) (fun h2 => tail _ ?_ ?_)) (fun h1 => tail _ ?_ ?_)
  · intro h; rw [decide_eq_true_eq] at h; omega
  · intro h; rw [decide_eq_false_iff_not] at h; omega
  · intro _; unfold pok; exact decide_eq_false (by omega)
  · intro h; cases h
  · intro h; rw [decide_eq_true_eq] at h; unfold pok; exact decide_eq_false (by omega)
  · intro h; rw [decide_eq_false_iff_not] at h; omega
  · intro _; unfold pok; exact decide_eq_false (by omega)
  · intro h; cases h
theorem specPart_ok (seg len : Int) (l : List Int) (hl : l.length ≤ 281474976710656) : EvP (fun k => spec_PartOk.f k seg len l) (· = pok seg len l) := by
  unfold spec_PartOk.f
  refine EvP.bind (l2Seg_ok 0 0 0 false false 0 seg len l hl) ?_
  rintro _ rfl
  exact EvP.now _ rfl
def partB (m : Int) (x : S39) : Bool := pok x.f0 x.f1 x.f2 && decide ((x.f2.length : Int) ≤ m)
theorem specParts_loop (m : Int) (l : List S39) (hl : l.length ≤ 1048576) (hb : ∀ x ∈ l, x.f2.length ≤ 1048576) (d : Nat) : ∀ i : Nat, i ≤ l.length → l.length - i = d →
    EvP (fun k => spec_l6Parts.l0 k l m (i : Int)) (· = (l.drop i).all (partB m)) := by
  induction d with
  | zero =>
    intro i h0 hd
    refine EvP.up ?_
    simp only [spec_l6Parts.l0]
    refine EvP.neg (by omega) (EvP.now _ ?_)
    rw [List.drop_eq_nil_of_le (by omega)]; rfl
  | succ d ih =>
    intro i h0 hd
    have hi : i < l.length := by omega
    refine EvP.up ?_
    simp only [spec_l6Parts.l0]
    refine EvP.pos (by omega) (EvP.pos (by omega) ?_)
    rw [rdB l i hi]
    have hw : wrap64 ((i : Int) + 1) = ((i + 1 : Nat) : Int) := by rw [wrap64_id (by omega) (by omega)]; omega
    rw [hw, List.drop_eq_getElem_cons hi, List.all_cons]
    have hx := hb _ (List.getElem_mem hi)
    refine EvP.eq_bind (specPart_ok _ _ _ (by omega)) ?_
    unfold partB
    refine EvP.ite (fun h1 => ?_) (fun h1 => EvP.now _ (by rw [Bool.not_eq_true] at h1; rw [h1]; rfl))
    rw [h1, Bool.true_and]
    refine EvP.ite (fun h2 => EvP.now _ (by rw [decide_eq_false (by omega)]; rfl)) (fun h2 => ?_)
    rw [decide_eq_true (by omega), Bool.true_and]
    exact ih (i + 1) (by omega) (by omega)
theorem specParts_ok (m : Int) (l : List S39) (hl : l.length ≤ 1048576) (hb : ∀ x ∈ l, x.f2.length ≤ 1048576) : EvP (fun k => spec_l6Parts.f k l m) (· = l.all (partB m)) := by
  unfold spec_l6Parts.f
  exact specParts_loop m l hl hb l.length 0 (by omega) (by omega)
def farV (a b : Int) : Int := Int.tmod (wrap64 ((wrap64 (b - a)) + 8)) 8
def tokS (a b c d e nx ac : Int) (l : List S39) (se : Int) (q : List S39) (tr cn : Int) : Bool :=
  cok a b c d e && (decide (0 ≤ nx ∧ nx ≤ 7) && (decide (0 ≤ ac ∧ ac ≤ 7) && (decide ((l.length : Int) ≤ b) && (decide (farV ac nx = (l.length : Int)) && (decide (0 ≤ se ∧ se ≤ (l.length : Int)) && (decide ((q.length : Int) ≤ 24) && (decide (0 ≤ tr ∧ tr ≤ e) && (decide (0 ≤ cn ∧ cn ≤ 9999) && (decide (Int.tmod cn 8 = ac) && (l.all (partB c) && q.all (partB c)))))))))))
def tokI (a b c d e nx ac : Int) (l : List S39) (se : Int) (q : List S39) (tr cn : Int) : Bool :=
  cok a b c d e && (decide (0 ≤ ac ∧ ac ≤ 7) && (decide (0 ≤ nx ∧ nx ≤ 7) && (decide (farV ac nx = (l.length : Int)) && (decide ((l.length : Int) ≤ b) && (decide (0 ≤ se ∧ se ≤ (l.length : Int)) && (decide ((q.length : Int) ≤ 24) && (decide (0 ≤ tr ∧ tr ≤ e) && (decide (0 ≤ cn ∧ cn ≤ 9999) && (decide (Int.tmod cn 8 = ac) && (l.all (partB c) && q.all (partB c)))))))))))
theorem tok_same (a b c d e nx ac : Int) (l : List S39) (se : Int) (q : List S39) (tr cn : Int) : tokI a b c d e nx ac l se q tr cn = tokS a b c d e nx ac l se q tr cn := by
  unfold tokI tokS
  generalize cok a b c d e = b1
  generalize decide (0 ≤ nx ∧ nx ≤ 7) = b2
  generalize decide (0 ≤ ac ∧ ac ≤ 7) = b3
  generalize decide ((l.length : Int) ≤ b) = b4
  generalize decide (farV ac nx = (l.length : Int)) = b5
  cases b1 <;> cases b2 <;> cases b3 <;> cases b4 <;> cases b5 <;> rfl
theorem tok_j0 (a b c d e nx ac : Int) (l : List S39) (se : Int) (q : List S39) (f : Bool) (tr : Int) (g : Bool) (cn : Int) (h : Bool) : EvP (fun k => spec_TxOk.j0 k true a b c d e nx ac l se q f tr g cn h) (· = false) := by
  refine EvP.up ?_
  simp only [spec_TxOk.j0]
  exact EvP.pos trivial (EvP.now _ rfl)
theorem specTxOk_ok (a b c d e nx ac : Int) (l : List S39) (se : Int) (q : List S39) (f : Bool) (tr : Int) (g : Bool) (cn : Int) (h : Bool) (hl : l.length ≤ 1048576) (hb : ∀ x ∈ l, x.f2.length ≤ 1048576) (hq : q.length ≤ 1048576) (hc : ∀ x ∈ q, x.f2.length ≤ 1048576) :
    EvP (fun k => spec_TxOk.f k a b c d e nx ac l se q f tr g cn h) (· = tokS a b c d e nx ac l se q tr cn) := by
  have J := tok_j0 a b c d e nx ac l se q f tr g cn h
  unfold spec_TxOk.f tokS
  rw [cfgOk_same]
  refine EvP.some_bind ?_
  cases cok a b c d e with
  | false => exact EvP.neg (by simp) J
  | true =>
  rw [Bool.true_and, l1In_val]
  refine EvP.pos rfl (EvP.some_bind ?_)
  by_cases h2 : 0 ≤ nx ∧ nx ≤ 7
  rotate_left
  · rw [decide_eq_false h2]; exact EvP.neg (by simp) J
  rw [decide_eq_true h2, Bool.true_and]
  refine EvP.pos rfl ?_
  rw [l1In_val]
  refine EvP.some_bind ?_
  by_cases h3 : 0 ≤ ac ∧ ac ≤ 7
  rotate_left
  · rw [decide_eq_false h3]; exact EvP.neg (by simp) J
  rw [decide_eq_true h3, Bool.true_and]
  refine EvP.pos rfl ?_
  refine EvP.ite (fun h4 => by rw [decide_eq_false (by omega)]; exact J) (fun h4 => ?_)
  rw [decide_eq_true (by omega), Bool.true_and]
  have hf : spec_NumFar.f ac nx = some (farV ac nx) := by
    unfold spec_NumFar.f farV
    rw [l1In_val, decide_eq_true h3, Option.bind_some, if_pos rfl, l1In_val, decide_eq_true h2, Option.bind_some, if_pos rfl]
  rw [hf]
  refine EvP.some_bind (EvP.ite (fun h5 => ?_) (fun h5 => by rw [decide_eq_false h5]; exact J))
  rw [decide_eq_true h5, Bool.true_and, l1In_val]
  refine EvP.some_bind ?_
  cases decide (0 ≤ se ∧ se ≤ (l.length : Int)) with
  | false => exact EvP.neg (by simp) J
  | true =>
  rw [Bool.true_and]
  refine EvP.pos rfl (EvP.ite (fun h4 => by rw [decide_eq_false (by omega)]; exact J) (fun h4 => ?_))
  rw [decide_eq_true (by omega), Bool.true_and, l1In_val]
  refine EvP.some_bind ?_
  cases decide (0 ≤ tr ∧ tr ≤ e) with
  | false => exact EvP.neg (by simp) J
  | true =>
  rw [Bool.true_and]
  refine EvP.pos rfl ?_
  rw [l1In_val]
  refine EvP.some_bind ?_
  by_cases h9 : 0 ≤ cn ∧ cn ≤ 9999
  rotate_left
  · rw [decide_eq_false h9]; exact EvP.neg (by simp) J
  rw [decide_eq_true h9, Bool.true_and]
  refine EvP.pos rfl ?_
  have hn : spec_NumOf.f cn = some (Int.tmod cn 8) := by
    unfold spec_NumOf.f
    rw [if_neg (by omega)]
  rw [hn]
  refine EvP.some_bind ?_
  by_cases h10 : Int.tmod cn 8 = ac
  rotate_left
  · rw [decide_eq_false h10, bne_iff_ne.mpr h10]; exact J
  rw [decide_eq_true h10, bne_eq_false_iff_eq.mpr h10, Bool.true_and]
  refine EvP.up ?_
  simp only [spec_TxOk.j0]
  refine EvP.neg (by simp) (EvP.eq_bind (specParts_ok c l hl hb) ?_)
  cases l.all (partB c) with
  | false => exact EvP.neg (by simp) (EvP.now _ rfl)
  | true => exact EvP.pos rfl (EvP.eq_bind (specParts_ok c q hq hc) (EvP.now _ rfl))
def frok (kd sq ak : Int) (po fi : Bool) (sy sg ln : Int) (d : List Int) : Bool := decide ((kd = 1 ∧ (0 ≤ sq ∧ sq ≤ 7) ∧ (0 ≤ ak ∧ ak ≤ 7) ∧ po = false ∧ sy = 0 ∧ pok sg ln d = true) ∨ (kd = 2 ∧ sq = 0 ∧ (0 ≤ ak ∧ ak ≤ 7) ∧ ¬ (po = true ∧ fi = true) ∧ (0 ≤ sy ∧ sy ≤ 2) ∧ sg = 0 ∧ ln = 0 ∧ d.length = 0) ∨ (kd = 3 ∧ sq = 0 ∧ ak = 0 ∧ po = false ∧ fi = false ∧ sy = 0 ∧ pok sg ln d = true) ∨ (kd = 4 ∧ sq = 0 ∧ ak = 0 ∧ po = false ∧ fi = false ∧ sy = 0 ∧ sg = 0 ∧ (1 ≤ ln ∧ ln ≤ 255) ∧ d.length = 0))
theorem l1In_val2 (a lo hi : Int) : spec_l1In.f a lo hi = some (decide (lo ≤ a ∧ a ≤ hi)) := in_val2 a lo hi
theorem specFrm_ok (kd sq ak : Int) (po fi : Bool) (sy sg ln : Int) (d : List Int) (hd : d.length ≤ 1048576) :
    EvP (fun k => spec_FrmOk.f k kd sq ak po fi sy sg ln d) (· = frok kd sq ak po fi sy sg ln d) := by
  have E : ∀ b : Bool, (b = true ↔ frok kd sq ak po fi sy sg ln d = true) → b = frok kd sq ak po fi sy sg ln d := fun b h => Bool.eq_iff_iff.2 h
  have hs := l2Seg_ok kd sq ak po fi sy sg ln d (by omega)
  unfold spec_FrmOk.f
  simp only [l1In_val2, Option.bind_some, decide_eq_true_eq]
  refine EvP.ite (fun h1 => ?_) (fun h1 => EvP.ite (fun h1b => ?_) (fun h1b => EvP.ite (fun h1c => ?_) (fun h1c => EvP.ite (fun h1d => ?_) (fun h1d => EvP.now _ (E _ (by simp [frok]; omega))))))
  · refine EvP.ite (fun h2 => EvP.ite (fun h3 => EvP.ite (fun h4 => EvP.now _ (E _ (by simp [frok, h4]; omega))) (fun h4 => EvP.ite (fun h5 => ?_) (fun h5 => EvP.now _ (E _ (by simp [frok]; omega))))) (fun h3 => EvP.now _ (E _ (by simp [frok]; omega)))) (fun h2 => EvP.now _ (E _ (by simp [frok]; omega)))
    refine EvP.eq_bind hs (EvP.now _ (E _ ?_))
    rw [Bool.not_eq_true] at h4
    simp [frok, h1, h2, h3, h4, h5]
  · refine EvP.ite (fun h2 => EvP.ite (fun h3 => ?_) (fun h3 => EvP.now _ (E _ (by simp [frok]; omega)))) (fun h2 => EvP.now _ (E _ (by simp [frok]; omega)))
    have fin : ¬ (po = true ∧ fi = true) → EvP (fun k => if 0 ≤ sy ∧ sy ≤ 2 then if sg = 0 then if ln = 0 then some ((d.length : Int) == 0) else some false else some false else some false) (· = frok kd sq ak po fi sy sg ln d) := by
      intro hpf
      refine EvP.ite (fun h5 => EvP.ite (fun h6 => EvP.ite (fun h7 => EvP.now _ (E _ ?_)) (fun h7 => EvP.now _ (E _ (by simp [frok]; omega)))) (fun h6 => EvP.now _ (E _ (by simp [frok]; omega)))) (fun h5 => EvP.now _ (E _ (by simp [frok]; omega)))
      rw [beq_iff_eq, frok, decide_eq_true_eq]
      constructor
      · intro h8
        exact .inr (.inl ⟨h1b, h2, h3, hpf, h5, h6, h7, by omega⟩)
      · rintro (h | h | h | h) <;> omega
    refine EvP.ite (fun h4 => EvP.ite (fun h5 => EvP.now _ (E _ ?_)) (fun h5 => fin (fun z => h5 z.2))) (fun h4 => fin (fun z => h4 z.1))
    simp [frok, h4, h5]
  · refine EvP.ite (fun h2 => EvP.ite (fun h3 => EvP.ite (fun h4 => EvP.now _ (E _ (by simp [frok, h4]; omega))) (fun h4 => EvP.ite (fun h5 => EvP.now _ (E _ (by simp [frok, h5]; omega))) (fun h5 => EvP.ite (fun h6 => ?_) (fun h6 => EvP.now _ (E _ (by simp [frok]; omega)))))) (fun h3 => EvP.now _ (E _ (by simp [frok]; omega)))) (fun h2 => EvP.now _ (E _ (by simp [frok]; omega)))
    refine EvP.eq_bind hs (EvP.now _ (E _ ?_))
    rw [Bool.not_eq_true] at h4 h5
    simp [frok, h1c, h2, h3, h4, h5, h6]
  · refine EvP.ite (fun h2 => EvP.ite (fun h3 => EvP.ite (fun h4 => EvP.now _ (E _ (by simp [frok, h4]; omega))) (fun h4 => EvP.ite (fun h5 => EvP.now _ (E _ (by simp [frok, h5]; omega))) (fun h5 => EvP.ite (fun h6 => EvP.ite (fun h7 => EvP.ite (fun h8 => EvP.now _ (E _ ?_)) (fun h8 => EvP.now _ (E _ (by simp [frok]; omega)))) (fun h7 => EvP.now _ (E _ (by simp [frok]; omega)))) (fun h6 => EvP.now _ (E _ (by simp [frok]; omega)))))) (fun h3 => EvP.now _ (E _ (by simp [frok]; omega)))) (fun h2 => EvP.now _ (E _ (by simp [frok]; omega)))
    rw [Bool.not_eq_true] at h4 h5
    rw [beq_iff_eq, frok, decide_eq_true_eq]
    constructor
    · intro h9
      exact .inr (.inr (.inr ⟨h1d, h2, h3, h4, h5, h6, h7, h8, by omega⟩))
    · rintro (h | h | h | h) <;> omega
def pieceAt (s : List Int) (m j : Nat) : S39 := ⟨if j = 0 then 1 else if (j + 1) * m ≥ s.length then 3 else 2, if j = 0 then (s.length : Int) else 0, (s.take (min s.length (j * m + m))).drop (j * m)⟩
def pieceN (n m : Nat) : Nat := (n + m - 1) / m
def segL (s : List Int) (m : Nat) : List S39 := if s.length ≤ m then [⟨0, s.length, s⟩] else (List.range (pieceN s.length m)).map (pieceAt s m)
def segB (n a : Int) : Bool := decide (n ≤ 24) && decide (1 ≤ a ∧ a ≤ 8)
theorem pieceN_lt (n m j : Nat) (hm : 1 ≤ m) (hn : 1 ≤ n) : j < pieceN n m ↔ j * m < n := by
  unfold pieceN
  rw [Nat.lt_iff_add_one_le, Nat.le_div_iff_mul_le (by omega), Nat.succ_mul]
  omega
theorem mn_nat (n b : Nat) : mn (n : Int) (b : Int) = ((min n b : Nat) : Int) := by
  unfold mn
  split <;> omega
theorem range_snoc (s : List Int) (m j : Nat) : (List.range (j + 1)).map (pieceAt s m) = (List.range j).map (pieceAt s m) ++ [pieceAt s m j] := by
  rw [List.range_succ, List.map_append]; rfl
theorem specCut_loop (s : List Int) (m : Nat) (hn : s.length ≤ 24) (hm : 1 ≤ m ∧ m ≤ 8) (hlt : m < s.length) (d : Nat) : ∀ j : Nat, j ≤ pieceN s.length m → pieceN s.length m - j = d →
    EvP (fun k => spec_SegCut.l0 k s (m : Int) ((List.range j).map (pieceAt s m)) ((j * m : Nat) : Int)) (· = (List.range (pieceN s.length m)).map (pieceAt s m)) := by
  have hc : ∀ j, j < pieceN s.length m ↔ j * m < s.length := fun j => pieceN_lt _ _ _ (by omega) (by omega)
  have hcb : pieceN s.length m ≤ 100 := by unfold pieceN; exact Nat.le_trans (Nat.div_le_self _ _) (by omega)
  induction d with
  | zero =>
    intro j h0 hd
    have hj : j = pieceN s.length m := by omega
    subst hj
    have h1 := mt (hc (pieceN s.length m)).2 (by omega)
    refine EvP.up ?_
    simp only [spec_SegCut.l0]
    exact EvP.neg (by omega) (EvP.now _ rfl)
  | succ d ih =>
    intro j h0 hd
    have hj : j < pieceN s.length m := by omega
    have ha := (hc j).1 hj
    have hs := Nat.succ_mul j m
    have h0m : j * m = 0 ↔ j = 0 := by
      rw [Nat.mul_eq_zero]; omega
    have ih1 := ih (j + 1) (by omega) (by omega)
    rw [range_snoc] at ih1
    have hp : pieceAt s m j = ⟨if j = 0 then 1 else if (j + 1) * m ≥ s.length then 3 else 2, if j = 0 then (s.length : Int) else 0, (s.take (min s.length (j * m + m))).drop (j * m)⟩ := rfl
    simp only [Nat.add_eq, Nat.succ_eq_add_one] at hs
    rw [hs] at hp ih1
    generalize hA : j * m = a at *
    refine EvP.up ?_
    simp only [spec_SegCut.l0]
    have hw : wrap64 ((a : Int) + (m : Int)) = ((a + m : Nat) : Int) := by rw [wrap64_id (by omega) (by omega)]; omega
    rw [hw, mn_nat]
    refine EvP.pos (by omega) (EvP.some_bind (EvP.pos (by omega) (EvP.pos (by omega) (EvP.pos (by omega) ?_))))
    rw [Int.toNat_natCast, Int.toNat_natCast]
    refine EvP.pos (by simp only [List.length_drop, List.length_take, List.length_nil]; omega) (EvP.some_bind ?_)
    have hl : ((List.range j).map (pieceAt s m)).length < 3518437208883 := by simp only [List.length_map, List.length_range]; omega
    rw [List.nil_append]
    by_cases hz : j = 0
    · rw [hp, if_pos hz, if_pos hz] at ih1
      exact EvP.pos (by omega) (EvP.neg (by omega) (EvP.pos hl ih1))
    · rw [hp, if_neg hz, if_neg hz] at ih1
      refine EvP.neg (by omega) (EvP.pos (by omega) (EvP.ite (fun h2 => ?_) (fun h2 => ?_)))
      · rw [if_pos (by omega)] at ih1
        exact EvP.pos hl ih1
      · rw [if_neg (by omega)] at ih1
        exact EvP.pos hl ih1
theorem in_valC (a lo hi : Int) : impl_in.f a lo hi = some (decide (lo ≤ a ∧ a ≤ hi)) := by
  unfold impl_in.f
  by_cases h : a ≥ lo
  · rw [if_pos h]; congr 1; by_cases h2 : a ≤ hi
    · rw [decide_eq_true h2, decide_eq_true ⟨h, h2⟩]
    · rw [decide_eq_false h2, decide_eq_false (fun z => h2 z.2)]
  · rw [if_neg h, decide_eq_false (fun z => h z.1)]
theorem specCut_ok (s : List Int) (a : Int) (hs : s.length ≤ 1000000) : EvP (fun k => spec_SegCut.f k s a) (· = if segB s.length a then segL s a.toNat else []) := by
  unfold spec_SegCut.f segB
  refine EvP.some_bind (EvP.ite (fun h => ?_) (fun h => ?_))
  · refine EvP.up ?_
    simp only [spec_SegCut.j0]
    rw [decide_eq_false (by omega)]
    exact EvP.pos trivial (EvP.now _ rfl)
  · rw [show spec_l1In.f a 1 8 = some (decide (1 ≤ a ∧ a ≤ 8)) from in_valC a 1 8, decide_eq_true (show (s.length : Int) ≤ 24 by omega), Bool.true_and]
    refine EvP.some_bind (EvP.up ?_)
    simp only [spec_SegCut.j0]
    by_cases h2 : 1 ≤ a ∧ a ≤ 8
    · rw [decide_eq_true h2]
      refine EvP.neg (by simp) ?_
      obtain ⟨m, rfl⟩ := Int.eq_ofNat_of_zero_le (by omega : 0 ≤ a)
      unfold segL
      rw [Int.toNat_natCast, if_pos rfl]
      refine EvP.ite (fun h3 => ?_) (fun h3 => ?_)
      · rw [if_pos (by omega)]
        refine EvP.some_bind (EvP.pos (by simp only [List.length_nil]; omega) (EvP.pos (by simp only [List.length_nil]; omega) (EvP.now _ rfl)))
      · rw [if_neg (by omega)]
        have := specCut_loop s m (by omega) (by omega) (by omega) (pieceN s.length m) 0 (by omega) (by omega)
        simpa using this
    · rw [decide_eq_false h2]
      exact EvP.pos (by simp) (EvP.now _ rfl)
theorem pieceAt_len (s : List Int) (m j : Nat) (h : j * m + m ≤ s.length) : (pieceAt s m j).f2.length = m := by
  simp only [pieceAt, List.length_drop, List.length_take]
  omega
theorem pieceAt_le (s : List Int) (m j : Nat) : (pieceAt s m j).f2.length ≤ m := by
  simp only [pieceAt, List.length_drop, List.length_take]
  omega
theorem segL_len (s : List Int) (m : Nat) (hm : 1 ≤ m) : (segL s m).length = if s.length ≤ m then 1 else pieceN s.length m := by
  unfold segL
  split
  · rfl
  · rw [List.length_map, List.length_range]
theorem segL_bound (s : List Int) (m : Nat) (hm : 1 ≤ m) (hn : s.length ≤ 24) : (segL s m).length ≤ 1048576 ∧ ∀ x ∈ segL s m, x.f2.length ≤ 1048576 := by
  refine ⟨?_, ?_⟩
  · rw [segL_len s m hm]
    split
    · omega
    · exact Nat.le_trans (Nat.div_le_self _ _) (by omega)
  · unfold segL
    split
    · intro x hx
      simp only [List.mem_singleton] at hx
      subst hx
      show s.length ≤ _
      omega
    · intro x hx
      obtain ⟨j, _, rfl⟩ := List.mem_map.1 hx
      simp only [pieceAt, List.length_drop, List.length_take]
      omega
/-! The reader of a code: whatever it picks lies in bounds. -/
def RdOk (s : List Int) : Prop := s.length ≤ 2000 ∧ ∀ x ∈ s, 0 ≤ x ∧ x ≤ 255
theorem rd_range {s : List Int} (h : RdOk s) (i : Int) : 0 ≤ rd s i ∧ rd s i ≤ 255 := by
  unfold rd
  rw [List.getD_eq_getElem?_getD]
  cases e : s[i.toNat]? with
  | none => simp
  | some x => exact h.2 x (List.mem_of_getElem? e)
theorem xor_nonneg (a b : Int) (ha : 0 ≤ a) (ha2 : a < 9223372036854775808) (hb : 0 ≤ b) (hb2 : b < 9223372036854775808) : 0 ≤ Go.bits .xor .i64 a b := by
  obtain ⟨m, rfl⟩ := Int.eq_ofNat_of_zero_le ha
  obtain ⟨n, rfl⟩ := Int.eq_ofNat_of_zero_le hb
  have hm : m < 2 ^ 63 := by omega
  have hn : n < 2 ^ 63 := by omega
  have hx := Nat.xor_lt_two_pow hm hn
  have h1 : m % 2 ^ 64 = m := Nat.mod_eq_of_lt (by omega)
  have h2 : n % 2 ^ 64 = n := Nat.mod_eq_of_lt (by omega)
  have h3 : (BitVec.ofNat 64 m ^^^ BitVec.ofNat 64 n).toNat = m ^^^ n := by rw [BitVec.toNat_xor, BitVec.toNat_ofNat, BitVec.toNat_ofNat, h1, h2]
  have h4 : Go.bits .xor .i64 (m : Int) (n : Int) = IntKind.i64.wrap ((BitVec.ofNat 64 m ^^^ BitVec.ofNat 64 n).toNat) := rfl
  rw [h4, h3, IntKind.wrap_i64]
  omega
theorem tmod_range (a n : Int) (ha : 0 ≤ a) (hn : 0 < n) : 0 ≤ Int.tmod a n ∧ Int.tmod a n < n := by
  rw [Int.tmod_eq_emod_of_nonneg ha]
  exact ⟨Int.emod_nonneg _ (by omega), Int.emod_lt_of_pos _ hn⟩
theorem tdiv_range (a n : Int) (ha : 0 ≤ a) (hn : 0 < n) : 0 ≤ Int.tdiv a n ∧ Int.tdiv a n ≤ a := by
  rw [Int.tdiv_eq_ediv_of_nonneg ha]
  exact ⟨Int.ediv_nonneg ha (by omega), Int.ediv_le_self _ ha⟩
theorem pick_rounds (s : List Int) (hs : RdOk s) (p n : Int) (hp : 0 ≤ p) (hp2 : p ≤ 1000000) : ∃ v, (∀ k, spec_l20Rd_pick.f (k + 1) s p n = some (v, p + 1)) ∧ 0 ≤ v ∧ (v < n ∨ v = 0 ∧ n < 1) := by
  have hw : wrap64 (p + 1) = p + 1 := wrap64_id (by omega) (by omega)
  by_cases h1 : n < 1
  · exact ⟨0, fun k => by unfold spec_l20Rd_pick.f; rw [if_pos h1, hw]; simp [spec_l20Rd_pick.j0], by omega, .inr ⟨rfl, h1⟩⟩
  · by_cases h2 : (s.length : Int) = 0
    · refine ⟨0, fun k => ?_, by omega, .inl (by omega)⟩
      unfold spec_l20Rd_pick.f
      rw [if_neg h1, hw, h2]
      simp [spec_l20Rd_pick.j0]
    · have hlen := hs.1
      have hb : ((s.length : Int) == 0) = false := beq_eq_false_iff_ne.mpr h2
      have hw2 : wrap64 (p + 1 - 1) = p := by rw [wrap64_id (by omega) (by omega)]; omega
      by_cases h3 : p < (s.length : Int)
      · have hr := rd_range hs p
        have hw3 : wrap64 (rd s p) = rd s p := wrap64_id (by omega) (by omega)
        have ht := tmod_range (rd s p) n hr.1 (by omega)
        refine ⟨Int.tmod (rd s p) n, fun k => ?_, ht.1, .inl ht.2⟩
        unfold spec_l20Rd_pick.f
        rw [if_neg h1, hw, hb]
        simp only [spec_l20Rd_pick.j0, hw2, hw3]
        rw [if_neg (by decide), if_pos h3, if_pos hp, if_neg (by omega)]
      · have t1 := tmod_range p s.length hp (by omega)
        have w1 : wrap64 (p * 7) = p * 7 := wrap64_id (by omega) (by omega)
        have w2 : wrap64 (p * 7 + 3) = p * 7 + 3 := wrap64_id (by omega) (by omega)
        have t2 := tmod_range (p * 7 + 3) s.length (by omega) (by omega)
        have r1 := rd_range hs (Int.tmod p s.length)
        have r2 := rd_range hs (Int.tmod (p * 7 + 3) s.length)
        have t3 := tdiv_range p s.length hp (by omega)
        generalize e1 : rd s (Int.tmod p s.length) = a at r1
        generalize e2 : rd s (Int.tmod (p * 7 + 3) s.length) = b at r2
        generalize e3 : Int.tdiv p s.length = q at t3
        have v1 : wrap64 (wrap64 (wrap64 (wrap64 (wrap64 a * 131) + wrap64 (wrap64 b * 1117)) + wrap64 (p * 29)) + wrap64 (wrap64 q * 53)) = a * 131 + b * 1117 + p * 29 + q * 53 := by
          rw [wrap64_id (x := a) (by omega) (by omega), wrap64_id (x := b) (by omega) (by omega), wrap64_id (x := q) (by omega) (by omega), wrap64_id (x := a * 131) (by omega) (by omega), wrap64_id (x := b * 1117) (by omega) (by omega), wrap64_id (x := p * 29) (by omega) (by omega), wrap64_id (x := q * 53) (by omega) (by omega), wrap64_id (x := a * 131 + b * 1117) (by omega) (by omega), wrap64_id (x := a * 131 + b * 1117 + p * 29) (by omega) (by omega), wrap64_id (by omega) (by omega)]
        generalize e4 : a * 131 + b * 1117 + p * 29 + q * 53 = z at v1
        have hz : 0 ≤ z ∧ z ≤ 1000000000 := by omega
        have t4 := tdiv_range z 64 hz.1 (by omega)
        have v2 : wrap64 (Int.tdiv z 64) = Int.tdiv z 64 := wrap64_id (by omega) (by omega)
        have hx := xor_nonneg z (Int.tdiv z 64) hz.1 (by omega) t4.1 (by omega)
        have ht := tmod_range _ n hx (by omega)
        refine ⟨_, fun k => ?_, ht.1, .inl ht.2⟩
        unfold spec_l20Rd_pick.f
        rw [if_neg h1, hw, hb]
        simp only [spec_l20Rd_pick.j0, hw2, w1, w2, e1, e2, e3, v1, v2]
        rw [if_neg (by decide), if_neg h3, if_neg h2, if_pos t1.1, if_pos t1.2, if_pos t2.1, if_pos t2.2, if_neg (by omega)]
theorem pick_ok {s : List Int} (hs : RdOk s) {p : Int} (hp : 0 ≤ p ∧ p ≤ 1000000) (n : Int) : EvP (fun k => spec_l20Rd_pick.f k s p n) fun r => r.2 = p + 1 ∧ 0 ≤ r.1 ∧ (r.1 < n ∨ r.1 = 0 ∧ n < 1) := by
  obtain ⟨v, h1, h2⟩ := pick_rounds s hs p n hp.1 hp.2
  exact ⟨(v, p + 1), ⟨1, fun k hk => by obtain ⟨m, rfl⟩ : ∃ m, k = m + 1 := ⟨k - 1, by omega⟩; exact h1 m⟩, rfl, h2⟩
theorem open_ok (l : List Int) (hw : ∀ x ∈ l, (Lit.int .u8 x).wf = true) : ∃ s, spec_l20Open.f l = some (s, 0) ∧ RdOk s := by
  have hb : ∀ x ∈ l, 0 ≤ x ∧ x ≤ 255 := fun x hx => by
    have h := hw x hx
    simp [Lit.wf, IntKind.min, IntKind.max, IntKind.signed, IntKind.bits] at h
    omega
  unfold spec_l20Open.f
  by_cases h : (l.length : Int) > 2000
  · rw [if_pos h, if_pos (by omega)]
    exact ⟨l.take 2000, rfl, List.length_take_le _ _, fun x hx => hb x (List.mem_of_mem_take hx)⟩
  · rw [if_neg h]
    exact ⟨l, rfl, by omega, hb⟩
theorem three {v : Int} (h : 0 ≤ v) (h2 : v < 3 ∨ v = 0 ∧ (3 : Int) < 1) : v = 0 ∨ v = 1 ∨ v = 2 := by omega
theorem two {v : Int} (h : 0 ≤ v) (h2 : v < 2 ∨ v = 0 ∧ (2 : Int) < 1) : v = 0 ∨ v = 1 := by omega
theorem rd0 (a : Int) (l : List Int) : rd (a :: l) 0 = a := rfl
theorem rd1 (a b : Int) (l : List Int) : rd (a :: b :: l) 1 = b := rfl
theorem rd2 (a b c : Int) (l : List Int) : rd (a :: b :: c :: l) 2 = c := rfl
/-! Draws of the reader beyond pick. -/
theorem odd_ok {s : List Int} (hs : RdOk s) {p : Int} (hp : 0 ≤ p ∧ p ≤ 1000000) (n : Int) (hn : n ≤ 1000000) : EvP (fun k => spec_l20Rd_odd.f k s p n) fun r => p ≤ r.2 ∧ r.2 ≤ p + 1 ∧ (n ≤ 0 → r.1 = false) := by
  unfold spec_l20Rd_odd.f
  refine EvP.ite (fun h => ?_) (fun h => EvP.now _ ⟨by simp, by simp; omega, fun _ => rfl⟩)
  refine EvP.bind (pick_ok hs hp n) ?_
  rintro ⟨v, q⟩ ⟨h1, h2, h3⟩
  simp only at h1 h2 h3 ⊢
  refine EvP.now _ ⟨by simp only; omega, by simp only; omega, fun h => by omega⟩
def ByteL (l : List Int) : Prop := ∀ x ∈ l, 0 ≤ x ∧ x ≤ 255
theorem bytes_loop {s : List Int} (hs : RdOk s) (d : Nat) : ∀ (out : List Int) (p : Int), ByteL out → out.length + d ≤ 100000 → 0 ≤ p → p + 3 * d ≤ 900000 →
    EvP (fun k => spec_l20Bytes.l0 k out (d : Int) s p) fun r => r.2 = p + 3 * d ∧ ByteL r.1 ∧ r.1.length = out.length + d := by
  induction d with
  | zero =>
    intro out p hb hl hp hp2
    refine EvP.up ?_
    simp only [spec_l20Bytes.l0]
    exact EvP.neg (by omega) (EvP.now _ ⟨by simp, hb, by simp⟩)
  | succ d ih =>
    intro out p hb hl hp hp2
    refine EvP.up ?_
    simp only [spec_l20Bytes.l0]
    refine EvP.pos (by omega) ?_
    refine EvP.bind (pick_ok hs (by omega) 256) ?_
    rintro ⟨v1, p1⟩ ⟨h1, h2, h3⟩
    simp only at h1 h2 h3 ⊢; subst h1
    refine EvP.bind (pick_ok hs (by omega) 4) ?_
    rintro ⟨v2, p2⟩ ⟨g1, g2, g3⟩
    simp only at g1 g2 g3 ⊢; subst g1
    refine EvP.some_bind ?_
    refine EvP.bind (pick_ok hs (by omega) 3) ?_
    rintro ⟨v3, p3⟩ ⟨q1, q2, q3⟩
    simp only at q1 q2 q3 ⊢; subst q1
    refine EvP.pos q2 (EvP.pos (by simp; omega) (EvP.pos (by omega) ?_))
    have hw : wrap64 (((d + 1 : Nat) : Int) - 1) = (d : Int) := by rw [wrap64_id (by omega) (by omega)]; omega
    rw [hw]
    refine EvP.mono (ih (out ++ [rd [v1, v2, 255] v3 % 256]) (p + 1 + 1 + 1) ?_ (by simp; omega) (by omega) (by omega)) ?_
    · intro x hx
      rcases List.mem_append.1 hx with h | h
      · exact hb x h
      · rw [List.mem_singleton] at h; omega
    · rintro ⟨r1, r2⟩ ⟨h1, h2, h3⟩
      simp only at h1 h2 h3 ⊢
      refine ⟨by omega, h2, ?_⟩
      rw [h3, List.length_append, List.length_singleton]; omega
theorem bytes_ok {s : List Int} (hs : RdOk s) {p : Int} (n : Int) (hn : 0 ≤ n) (hn2 : n ≤ 10000) (hp : 0 ≤ p ∧ p ≤ 500000) :
    EvP (fun k => spec_l20Bytes.f k s p n) fun r => p + 1 ≤ r.2 ∧ r.2 ≤ p + 1 + 3 * n ∧ ByteL r.1 ∧ (r.1.length : Int) ≤ n := by
  unfold spec_l20Bytes.f
  rw [wrap64_id (x := n + 1) (by omega) (by omega)]
  refine EvP.bind (pick_ok hs (by omega) (n + 1)) ?_
  rintro ⟨v, q⟩ ⟨h1, h2, h3⟩
  simp only at h1 h2 h3 ⊢; subst h1
  obtain ⟨d, rfl⟩ := Int.eq_ofNat_of_zero_le h2
  refine EvP.mono (bytes_loop hs d [] (p + 1) (fun x hx => by simp at hx) (by simp; omega) (by omega) (by omega)) ?_
  rintro ⟨r1, r2⟩ ⟨h1, h2, h3⟩
  simp only at h1 h2 h3 ⊢
  simp only [List.length_nil, Nat.zero_add] at h3
  exact ⟨by omega, by omega, h2, by omega⟩
theorem part_tail {s : List Int} (hs : RdOk s) {p : Int} (hp : 0 ≤ p ∧ p ≤ 400000) (seg : Int) (l : List Int) (h0 : 0 ≤ seg ∧ seg ≤ 3) (hl : ByteL l) (hn : (l.length : Int) ≤ 8) (hn1 : seg ≠ 0 → 1 ≤ (l.length : Int)) :
    EvP (fun k => spec_l20Part.j1 k s p seg 0 l) fun r => p ≤ r.2.2.2 ∧ r.2.2.2 ≤ p + 1 ∧ pok r.1 r.2.1 r.2.2.1 = true ∧ ByteL r.2.2.1 ∧ (r.2.2.1.length : Int) ≤ 8 ∧ (0 ≤ r.1 ∧ r.1 ≤ 3) ∧ (0 ≤ r.2.1 ∧ r.2.1 ≤ 24) := by
  refine EvP.up ?_
  simp only [spec_l20Part.j1]
  refine EvP.ite (fun h => ?_) (fun h => ?_)
  · refine EvP.neg (by omega) (EvP.now _ ⟨by simp only; omega, by simp only; omega, ?_, hl, hn, h0, by simp only; omega⟩)
    unfold pok; rw [decide_eq_true_eq]; exact .inl ⟨h, hn, rfl⟩
  · refine EvP.ite (fun h1 => ?_) (fun h1 => EvP.now _ ⟨by simp only; omega, by simp only; omega, ?_, hl, hn, h0, by simp only; omega⟩)
    · have h2 := hn1 h
      rw [wrap64_id (x := 24 - (l.length : Int)) (by omega) (by omega)]
      refine EvP.bind (pick_ok hs (by omega) (24 - (l.length : Int))) ?_
      rintro ⟨v, q⟩ ⟨g1, g2, g3⟩
      simp only at g1 g2 g3 ⊢; subst g1
      rw [wrap64_id (x := (l.length : Int) + 1) (by omega) (by omega), wrap64_id (x := (l.length : Int) + 1 + v) (by omega) (by omega)]
      refine EvP.now _ ⟨by simp only; omega, by simp only; omega, ?_, hl, hn, h0, by simp only; omega⟩
      unfold pok; rw [decide_eq_true_eq]; simp only; omega
    · have h2 := hn1 h
      unfold pok; rw [decide_eq_true_eq]; exact .inr (.inr ⟨by simp only; omega, h2, hn, rfl⟩)
theorem part_ok {s : List Int} (hs : RdOk s) {p : Int} (hp : 0 ≤ p ∧ p ≤ 300000) :
    EvP (fun k => spec_l20Part.f k s p) fun r => p ≤ r.2.2.2 ∧ r.2.2.2 ≤ p + 40 ∧ pok r.1 r.2.1 r.2.2.1 = true ∧ ByteL r.2.2.1 ∧ (r.2.2.1.length : Int) ≤ 8 ∧ (0 ≤ r.1 ∧ r.1 ≤ 3) ∧ (0 ≤ r.2.1 ∧ r.2.1 ≤ 24) := by
  unfold spec_l20Part.f
  refine EvP.bind (pick_ok hs (by omega) 4) ?_
  rintro ⟨v, p1⟩ ⟨h1, h2, h3⟩
  simp only at h1 h2 h3 ⊢; subst h1
  refine EvP.bind (bytes_ok hs 8 (by omega) (by omega) (by omega)) ?_
  rintro ⟨b, p2⟩ ⟨b1, b2, b3, b4⟩
  simp only at b1 b2 b3 b4 ⊢
  have tail : ∀ x : Bool, (x = true → v ≠ 0) → (x = false → v ≠ 0 → 1 ≤ (b.length : Int)) → EvP (fun k => spec_l20Part.j0 k x s p2 v 0 b) fun r => p ≤ r.2.2.2 ∧ r.2.2.2 ≤ p + 40 ∧ pok r.1 r.2.1 r.2.2.1 = true ∧ ByteL r.2.2.1 ∧ (r.2.2.1.length : Int) ≤ 8 ∧ (0 ≤ r.1 ∧ r.1 ≤ 3) ∧ (0 ≤ r.2.1 ∧ r.2.1 ≤ 24) := by
    intro x _ hx
    refine EvP.up ?_
    simp only [spec_l20Part.j0]
    refine EvP.ite (fun h => ?_) (fun h => ?_)
    · refine EvP.mono (part_tail hs (by omega) v [7] (by omega) (fun y hy => by rw [List.mem_singleton] at hy; omega) (by simp) (fun _ => by simp)) ?_
      rintro r ⟨a1, a2, a3⟩; exact ⟨by omega, by omega, a3⟩
    · refine EvP.mono (part_tail hs (by omega) v b (by omega) b3 b4 (hx (Bool.eq_false_iff.mpr h))) ?_
      rintro r ⟨a1, a2, a3⟩; exact ⟨by omega, by omega, a3⟩
  refine EvP.ite (fun h => tail _ (fun h => by cases h) (fun _ h2 => absurd h h2)) (fun h => tail _ (fun _ => h) (fun h2 _ => ?_))
  rw [beq_eq_false_iff_ne] at h2
  omega
theorem partOr_ok {s : List Int} (hs : RdOk s) {p : Int} (hp : 0 ≤ p ∧ p ≤ 200000) (n : Int) (hn : n ≤ 1000) :
    EvP (fun k => spec_l20PartOr.f k s p n) fun r => p ≤ r.2.2.2 ∧ r.2.2.2 ≤ p + 50 ∧ ByteL r.2.2.1 ∧ (r.2.2.1.length : Int) ≤ 16 ∧ (-1 ≤ r.1 ∧ r.1 ≤ 4) ∧ (-1 ≤ r.2.1 ∧ r.2.1 ≤ 25) := by
  unfold spec_l20PartOr.f
  refine EvP.bind (part_ok hs (by omega)) ?_
  rintro ⟨seg, len, l, p1⟩ ⟨h1, h2, _, h3, h4, h5, h6⟩
  simp only at h1 h2 h3 h4 h5 h6 ⊢
  refine EvP.bind (odd_ok hs (by omega) n (by omega)) ?_
  rintro ⟨o, p2⟩ ⟨o1, o2, _⟩
  simp only at o1 o2 ⊢
  refine EvP.ite (fun _ => ?_) (fun _ => EvP.now _ ⟨by simp only; omega, by simp only; omega, h3, by simp only; omega, by simp only; omega, by simp only; omega⟩)
  refine EvP.bind (pick_ok hs (by omega) 3) ?_
  rintro ⟨v, p3⟩ ⟨q1, q2, q3⟩
  simp only at q1 q2 q3 ⊢; subst q1
  refine EvP.ite (fun _ => ?_) (fun _ => EvP.ite (fun _ => ?_) (fun _ => ?_))
  · refine EvP.some_bind (EvP.bind (pick_ok hs (by omega) 3) ?_)
    rintro ⟨v2, p4⟩ ⟨g1, g2, g3⟩
    simp only at g1 g2 g3 ⊢; subst g1
    refine EvP.pos g2 (EvP.pos (by simp; omega) ?_)
    rcases three g2 g3 with rfl | rfl | rfl <;> exact EvP.now _ ⟨by simp only; omega, by simp only; omega, h3, by simp only; omega, by simp only [rd0, rd1, rd2]; omega, by simp only; omega⟩
  · refine EvP.some_bind (EvP.bind (pick_ok hs (by omega) 3) ?_)
    rintro ⟨v2, p4⟩ ⟨g1, g2, g3⟩
    simp only at g1 g2 g3 ⊢; subst g1
    refine EvP.pos g2 (EvP.pos (by simp; omega) ?_)
    rcases three g2 g3 with rfl | rfl | rfl <;> exact EvP.now _ ⟨by simp only; omega, by simp only; omega, h3, by simp only; omega, by simp only; omega, by simp only [rd0, rd1, rd2]; omega⟩
  · refine EvP.some_bind (EvP.pos (by simp; omega) (EvP.now _ ⟨by simp only; omega, by simp only; omega, ?_, by simp; omega, by simp only; omega, by simp only; omega⟩))
    intro x hx
    rcases List.mem_append.1 hx with h | h
    · exact h3 x h
    · simp at h; omega
/-! What one wants, drawn. -/
def CfgR (a b c d e : Int) : Prop := (0 ≤ a ∧ a ≤ 3) ∧ (0 ≤ b ∧ b ≤ 5) ∧ (0 ≤ c ∧ c ≤ 9) ∧ (0 ≤ d ∧ d ≤ 25) ∧ (0 ≤ e ∧ e ≤ 6)
theorem cok_iff {a b c d e : Int} : cok a b c d e = true ↔ (1 ≤ a ∧ a ≤ 2) ∧ (1 ≤ b ∧ b ≤ 4) ∧ (1 ≤ c ∧ c ≤ 8) ∧ (1 ≤ d ∧ d ≤ 24) ∧ (1 ≤ e ∧ e ≤ 5) := by
  unfold cok; rw [decide_eq_true_eq]
theorem cfg_ok {s : List Int} (hs : RdOk s) {p : Int} (hp : 0 ≤ p ∧ p ≤ 500000) (n : Int) (hn : n ≤ 1000) :
    EvP (fun k => spec_l20Cfg.f k s p n) fun r => (p ≤ r.2.2.2.2.2 ∧ r.2.2.2.2.2 ≤ p + 20) ∧ CfgR r.1 r.2.1 r.2.2.1 r.2.2.2.1 r.2.2.2.2.1 ∧ (n ≤ 0 → cok r.1 r.2.1 r.2.2.1 r.2.2.2.1 r.2.2.2.2.1 = true) := by
  unfold spec_l20Cfg.f
  refine EvP.bind (pick_ok hs (by omega) 2) ?_
  rintro ⟨v1, p1⟩ ⟨h1, h2, h3⟩
  simp only at h1 h2 h3 ⊢; subst h1
  refine EvP.bind (pick_ok hs (by omega) 4) ?_
  rintro ⟨v2, p2⟩ ⟨i1, i2, i3⟩
  simp only at i1 i2 i3 ⊢; subst i1
  refine EvP.bind (pick_ok hs (by omega) 8) ?_
  rintro ⟨v3, p3⟩ ⟨j1, j2, j3⟩
  simp only at j1 j2 j3 ⊢; subst j1
  rw [wrap64_id (x := 1 + v1) (by omega) (by omega), wrap64_id (x := 1 + v2) (by omega) (by omega), wrap64_id (x := 1 + v3) (by omega) (by omega)]
  refine EvP.some_bind (EvP.bind (pick_ok hs (by omega) 3) ?_)
  rintro ⟨v4, p4⟩ ⟨k1, k2, k3⟩
  simp only at k1 k2 k3 ⊢; subst k1
  refine EvP.pos k2 (EvP.pos (by simp; omega) ?_)
  have hm : 1 ≤ rd [1 + v3, 3, 8] v4 ∧ rd [1 + v3, 3, 8] v4 ≤ 8 := by
    rcases three k2 k3 with rfl | rfl | rfl <;> simp only [rd0, rd1, rd2] <;> omega
  generalize rd [1 + v3, 3, 8] v4 = mps at hm
  refine EvP.bind (pick_ok hs (by omega) 24) ?_
  rintro ⟨v5, p5⟩ ⟨l1, l2, l3⟩
  simp only at l1 l2 l3 ⊢; subst l1
  rw [wrap64_id (x := 1 + v5) (by omega) (by omega)]
  refine EvP.some_bind (EvP.bind (pick_ok hs (by omega) 2) ?_)
  rintro ⟨v6, p6⟩ ⟨m1, m2, m3⟩
  simp only at m1 m2 m3 ⊢; subst m1
  refine EvP.pos m2 (EvP.pos (by simp; omega) ?_)
  have ht : 1 ≤ rd [24, 1 + v5] v6 ∧ rd [24, 1 + v5] v6 ≤ 24 := by
    rcases two m2 m3 with rfl | rfl <;> simp only [rd0, rd1] <;> omega
  generalize rd [24, 1 + v5] v6 = mtu at ht
  refine EvP.bind (pick_ok hs (by omega) 5) ?_
  rintro ⟨v7, p7⟩ ⟨n1, n2, n3⟩
  simp only at n1 n2 n3 ⊢; subst n1
  rw [wrap64_id (x := 1 + v7) (by omega) (by omega)]
  refine EvP.bind (odd_ok hs (by omega) n (by omega)) ?_
  rintro ⟨o, p8⟩ ⟨o1, o2, o3⟩
  simp only at o1 o2 o3 ⊢
  have ok : cok (1 + v1) (1 + v2) mps mtu (1 + v7) = true := by rw [cok_iff]; omega
  refine EvP.ite (fun ho => ?_) (fun _ => EvP.now _ ⟨by simp only; omega, by unfold CfgR; simp only; omega, fun _ => ok⟩)
  have hn0 : ¬ n ≤ 0 := fun h => by rw [o3 h] at ho; cases ho
  refine EvP.bind (pick_ok hs (by omega) 5) ?_
  rintro ⟨v8, p9⟩ ⟨q1, q2, q3⟩
  simp only at q1 q2 q3 ⊢; subst q1
  refine EvP.ite (fun _ => ?_) (fun _ => EvP.ite (fun _ => ?_) (fun _ => EvP.ite (fun _ => ?_) (fun _ => EvP.ite (fun _ => ?_) (fun _ => ?_))))
  all_goals
    refine EvP.some_bind (EvP.bind (pick_ok hs (by omega) 2) ?_)
    rintro ⟨v9, p10⟩ ⟨s1, s2, s3⟩
    simp only at s1 s2 s3 ⊢; subst s1
    refine EvP.pos s2 (EvP.pos (by simp; omega) ?_)
    rcases two s2 s3 with rfl | rfl <;> exact EvP.now _ ⟨by simp only; omega, by unfold CfgR; simp only [rd0, rd1]; omega, fun h => absurd h hn0⟩
theorem farS (a b : Int) (ha : 0 ≤ a ∧ a ≤ 7) (hb : 0 ≤ b ∧ b ≤ 7) : spec_NumFar.f a b = some ((b - a + 8) % 8) := by
  have e : Int.tmod (wrap64 (wrap64 (b - a) + 8)) 8 = (b - a + 8) % 8 := by
    rw [wrap64_id (x := b - a) (by omega) (by omega), wrap64_id (by omega) (by omega), Int.tmod_eq_emod_of_nonneg (by omega)]
  unfold spec_NumFar.f spec_l1In.f
  simp [ha.1, ha.2, hb.1, hb.2, e]
theorem EvP.got {α : Type} {g : Nat → Option α} {Q : α → Prop} (h : EvP g Q) : ∃ k r, g k = some r ∧ Q r := by
  obtain ⟨q, hq, h1⟩ := h
  obtain ⟨k, hk⟩ := hq.rounds
  exact ⟨k, q, hk, h1⟩
theorem p_list (l : List S39) (hs : Sl l) : ∃ k, spec_l6List.f k l = some l :=
  (l6List_ok l (by have := hs.1; omega) (fun x hx => by have := hs.2 x hx; omega)).rounds
theorem p_copy (t : Tx) (hs : Sm t) : ∃ k, spec_l6Copy.f k t.a0 t.a1 t.fl t.a3 t.q t.a5 t.a6 t.a7 t.a8 t.a9 = some (t.a0, t.a1, t.fl, t.a3, t.q, t.a5, t.a6, t.a7, t.a8, t.a9) := by
  refine EvP.rounds ?_
  unfold spec_l6Copy.f
  exact EvP.eq_bind (l6List_ok t.fl (by have := hs.1.1; omega) (fun x hx => by have := hs.1.2 x hx; omega)) (EvP.eq_bind (l6List_ok t.q (by have := hs.2.1; omega) (fun x hx => by have := hs.2.2 x hx; omega)) (EvP.now _ rfl))
def Good (c0 c1 c2 c3 c4 : Int) (t : Tx) : Prop := (1 ≤ c2 ∧ c2 ≤ 8) ∧ c1 ≤ 4 ∧ (t.fl.length : Int) ≤ c1 ∧ (0 ≤ t.a0 ∧ t.a0 ≤ 7) ∧ (0 ≤ t.a1 ∧ t.a1 ≤ 7) ∧ (0 ≤ t.a3 ∧ t.a3 ≤ (t.fl.length : Int)) ∧ t.q.length ≤ 24
theorem p_ok (c0 c1 c2 c3 c4 : Int) (t : Tx) (hs : Sm t) : ∃ k b, spec_TxOk.f k c0 c1 c2 c3 c4 t.a0 t.a1 t.fl t.a3 t.q t.a5 t.a6 t.a7 t.a8 t.a9 = some b ∧ (b = true → Good c0 c1 c2 c3 c4 t) := by
  obtain ⟨k, r, h, e⟩ := (specTxOk_ok c0 c1 c2 c3 c4 t.a0 t.a1 t.fl t.a3 t.q t.a5 t.a6 t.a7 t.a8 t.a9 (by have := hs.1.1; omega) (fun x hx => by have := hs.1.2 x hx; omega) (by have := hs.2.1; omega) (fun x hx => by have := hs.2.2 x hx; omega)).got
  refine ⟨k, r, h, fun hb => ?_⟩
  rw [e] at hb
  unfold tokS at hb
  simp only [Bool.and_eq_true, decide_eq_true_eq] at hb
  obtain ⟨h1, h2, h3, h4, h5, h6, h7, _⟩ := hb
  have h8 := cok_iff.1 h1
  exact ⟨h8.2.2.1, h8.2.1.2, h4, h2, h3, h6, by omega⟩
theorem p_acked (t : Tx) (ak : Int) (hs : Sm t) (h1 : 0 ≤ t.a1 ∧ t.a1 ≤ 7) (h2 : 0 ≤ ak ∧ ak ≤ 7) : ∃ k y, AckF k t ak = some y ∧ Sm y := by
  refine EvP.got ?_
  unfold AckF
  refine EvP.val_bind (farS t.a1 ak h1 h2) ?_
  refine EvP.ite (fun _ => EvP.now _ hs) (fun hn => EvP.pos (by omega) ?_)
  have hd : Sl (t.fl.drop (((ak - t.a1 + 8) % 8).toNat)) := ⟨by have := hs.1.1; rw [List.length_drop]; omega, fun x hx => hs.1.2 x (List.mem_of_mem_drop hx)⟩
  exact EvP.eq_bind (l6List_ok _ (by have := hd.1; omega) (fun x hx => by have := hd.2 x hx; omega)) (EvP.now _ ⟨hd, hs.2⟩)
theorem p_frm (f2 : Int) (f4 : Bool) (f5 : Int) : ∃ k b, spec_FrmOk.f k 2 0 f2 false f4 f5 0 0 [] = some b ∧ (b = true → 0 ≤ f2 ∧ f2 ≤ 7) := by
  obtain ⟨k, r, h, e⟩ := (specFrm_ok 2 0 f2 false f4 f5 0 0 [] (by simp)).got
  refine ⟨k, r, h, fun hb => ?_⟩
  rw [e] at hb
  unfold frok at hb
  simp only [decide_eq_true_eq] at hb
  omega
theorem p_put (c0 c1 c2 c3 c4 : Int) (t : Tx) (hs : Sm t) (hc : 1 ≤ c2 ∧ c2 ≤ 8) (sd : List Int) (hl : sd.length ≤ 1000) : ∃ k r rb, spec_l6Put.f k c0 c1 c2 c3 c4 t.a0 t.a1 t.fl t.a3 t.q t.a5 t.a6 t.a7 t.a8 t.a9 sd = some (r.a0, r.a1, r.fl, r.a3, r.q, r.a5, r.a6, r.a7, r.a8, r.a9, rb) ∧ Sm r := by
  obtain ⟨k, ps, h, e⟩ := (specCut_ok sd c2 (by omega)).got
  have hps : ps.length ≤ 1048576 ∧ ∀ x ∈ ps, x.f2.length ≤ 1000 := by
    rw [e]
    unfold segB
    by_cases h1 : (sd.length : Int) ≤ 24
    · have h2 : (decide ((sd.length : Int) ≤ 24) && decide (1 ≤ c2 ∧ c2 ≤ 8)) = true := by simp [h1, hc.1, hc.2]
      rw [if_pos h2]
      refine ⟨(segL_bound sd c2.toNat (by omega) (by omega)).1, fun x hx => ?_⟩
      unfold segL at hx
      by_cases h3 : sd.length ≤ c2.toNat
      · rw [if_pos h3] at hx
        rw [List.mem_singleton.1 hx]
        exact hl
      · rw [if_neg h3] at hx
        obtain ⟨j, _, rfl⟩ := List.mem_map.1 hx
        have := pieceAt_le sd c2.toNat j
        omega
    · have h2 : ¬ (decide ((sd.length : Int) ≤ 24) && decide (1 ≤ c2 ∧ c2 ≤ 8)) = true := by simp [h1]
      rw [if_neg h2]
      exact ⟨by simp, by simp⟩
  refine ⟨k, ?_⟩
  unfold spec_l6Put.f
  rw [h]
  simp only [Option.bind_some]
  by_cases a1 : t.a9 = true
  · rw [if_pos a1]; exact ⟨t, false, rfl, hs⟩
  rw [if_neg a1]
  by_cases a2 : (sd.length : Int) > c3
  · rw [if_pos a2]; exact ⟨t, false, rfl, hs⟩
  rw [if_neg a2]
  have hq := hs.2.1
  have hw : wrap64 ((t.q.length : Int) + (ps.length : Int)) = (t.q.length : Int) + (ps.length : Int) := wrap64_id (by omega) (by have := hps.1; omega)
  rw [hw]
  by_cases a3 : (t.q.length : Int) + (ps.length : Int) > 24
  · rw [if_pos a3]; exact ⟨t, false, rfl, hs⟩
  rw [if_neg a3, if_pos (by omega)]
  refine ⟨⟨t.a0, t.a1, t.fl, t.a3, t.q ++ ps, t.a5, t.a6, t.a7, t.a8, t.a9⟩, true, rfl, hs.1, by simp only [List.length_append]; omega, fun x hx => ?_⟩
  rcases List.mem_append.1 hx with hx | hx
  · exact hs.2.2 x hx
  · exact hps.2 x hx

end Go.Proofs.Yteknaofnageihaa.Pure
