/- What the law FnTxOk needs of the plain functions: the value of impl.TxOk, and what turns it false. -/
import Derived.Test.YteknaofnageihaaPureFnTxOkb
import Derived.Test.YteknaofnageihaaQFnTxOkx58
namespace Go.Proofs.Yteknaofnageihaa.Pure
open Go.RowKit Go.Proofs.Yteknaofnageihaa.QFnTxOk Go.Proofs.YteknaofnageihaaW.PrintWords Go.Proofs.YteknaofnageihaaW.PrintLast Go.Proofs.YteknaofnageihaaW.PrintMore
set_option linter.unusedVariables false
set_option linter.unusedSimpArgs false

theorem pieceOk_val (seg len : Int) (l : List Int) (hl : l.length ≤ 281474976710656) : impl_pieceOk.f seg len l = some (pok seg len l) := by
  unfold impl_pieceOk.f pok
  simp only [in_val2, Option.bind_some, decide_eq_true_eq]
  rw [wrap64_id (x := (l.length : Int) + 1) (by omega) (by omega)]
  by_cases h0 : seg = 0
  · rw [if_pos h0]
    by_cases h1 : (l.length : Int) ≤ 8
    · rw [if_pos h1]
      rw [Option.some.injEq, Bool.eq_iff_iff, beq_iff_eq, decide_eq_true_eq]; omega
    · rw [if_neg h1, Option.some.injEq]; exact (decide_eq_false (by omega)).symm
  · rw [if_neg h0]
    by_cases h1 : seg = 1
    · rw [if_pos h1]
      by_cases h2 : 1 ≤ (l.length : Int) ∧ (l.length : Int) ≤ 8
      · rw [if_pos h2, Option.some.injEq, decide_eq_decide]; omega
      · rw [if_neg h2, Option.some.injEq]; exact (decide_eq_false (by omega)).symm
    · rw [if_neg h1]
      by_cases h3 : seg = 2
      · rw [if_pos h3]
        by_cases h2 : 1 ≤ (l.length : Int) ∧ (l.length : Int) ≤ 8
        · rw [if_pos h2, Option.some.injEq, Bool.eq_iff_iff, beq_iff_eq, decide_eq_true_eq]; omega
        · rw [if_neg h2, Option.some.injEq]; exact (decide_eq_false (by omega)).symm
      · rw [if_neg h3]
        by_cases h4 : seg = 3
        · rw [if_pos h4]
          by_cases h2 : 1 ≤ (l.length : Int) ∧ (l.length : Int) ≤ 8
          · rw [if_pos h2, Option.some.injEq, Bool.eq_iff_iff, beq_iff_eq, decide_eq_true_eq]; omega
          · rw [if_neg h2, Option.some.injEq]; exact (decide_eq_false (by omega)).symm
        · rw [if_neg h4, Option.some.injEq]; exact (decide_eq_false (by omega)).symm
theorem partOk_val (seg len : Int) (l : List Int) (hl : l.length ≤ 281474976710656) : impl_PartOk.f seg len l = some (pok seg len l) := by
  unfold impl_PartOk.f
  rw [pieceOk_val seg len l hl]
  rfl
theorem implParts_loop (m : Int) (l : List S39) (hl : l.length ≤ 1048576) (hb : ∀ x ∈ l, x.f2.length ≤ 1048576) (d : Nat) : ∀ i : Nat, i ≤ l.length → l.length - i = d →
    EvP (fun k => impl_CfgOpts_partsOk.l0 k l m (i : Int)) (fun r => (!decide (r ≥ 0)) = (l.drop i).all (partB m)) := by
  induction d with
  | zero =>
    intro i h0 hd
    refine EvP.up ?_
    simp only [impl_CfgOpts_partsOk.l0]
    refine EvP.neg (by omega) (EvP.now _ ?_)
    rw [List.drop_eq_nil_of_le (by omega)]; rfl
  | succ d ih =>
    intro i h0 hd
    have hi : i < l.length := by omega
    refine EvP.up ?_
    simp only [impl_CfgOpts_partsOk.l0, impl_CfgOpts_partsOk.p]
    refine EvP.pos (by omega) (EvP.pos (by omega) ?_)
    rw [rdB l i hi]
    have hw : wrap64 ((i : Int) + 1) = ((i + 1 : Nat) : Int) := by rw [wrap64_id (by omega) (by omega)]; omega
    rw [hw, List.drop_eq_getElem_cons hi, List.all_cons]
    have hx := hb _ (List.getElem_mem hi)
    rw [partOk_val _ _ _ (by omega)]
    unfold partB
    cases h1 : pok l[i].f0 l[i].f1 l[i].f2 with
    | false =>
      refine EvP.val_bind (a := true) (by simp) (EvP.pos rfl (EvP.now _ ?_))
      rw [decide_eq_true (by omega)]; rfl
    | true =>
      refine EvP.val_bind (a := decide ((l[i].f2.length : Int) > m)) (by simp) ?_
      refine EvP.ite (fun h2 => EvP.now _ ?_) (fun h2 => ?_)
      · rw [decide_eq_true (by omega), decide_eq_false (by have := of_decide_eq_true h2; omega)]; rfl
      · rw [decide_eq_true (by rw [decide_eq_true_eq] at h2; omega), Bool.true_and, Bool.true_and]
        exact ih (i + 1) (by omega) (by omega)
theorem implParts_ok (a b m c d : Int) (l : List S39) (hl : l.length ≤ 1048576) (hb : ∀ x ∈ l, x.f2.length ≤ 1048576) : EvP (fun k => impl_CfgOpts_partsOk.f k a b m c d l) (· = l.all (partB m)) := by
  unfold impl_CfgOpts_partsOk.f
  refine EvP.bind (implParts_loop m l hl hb l.length 0 (by omega) (by omega)) ?_
  intro r hr
  exact EvP.now _ hr
theorem isNumber_val (a : Int) : impl_isNumber.f a = some (decide (0 ≤ a ∧ a ≤ 7)) := by
  unfold impl_isNumber.f; rw [in_val]; rfl
theorem implTxOk_ok (a b c d e nx ac : Int) (l : List S39) (se : Int) (q : List S39) (f : Bool) (tr : Int) (g : Bool) (cn : Int) (h : Bool) (hl : l.length ≤ 1048576) (hb : ∀ x ∈ l, x.f2.length ≤ 1048576) (hq : q.length ≤ 1048576) (hc : ∀ x ∈ q, x.f2.length ≤ 1048576) :
    EvP (fun k => impl_TxOk.f k a b c d e nx ac l se q f tr g cn h) (· = tokI a b c d e nx ac l se q tr cn) := by
  unfold impl_TxOk.f tokI
  rw [cfgOk_val]
  refine EvP.some_bind ?_
  cases cok a b c d e with
  | false => exact EvP.neg (by simp) (EvP.now _ rfl)
  | true =>
  rw [Bool.true_and, isNumber_val]
  refine EvP.pos rfl (EvP.some_bind ?_)
  cases decide (0 ≤ ac ∧ ac ≤ 7) with
  | false => exact EvP.neg (by simp) (EvP.now _ rfl)
  | true =>
  rw [Bool.true_and, isNumber_val]
  refine EvP.pos rfl (EvP.some_bind ?_)
  cases decide (0 ≤ nx ∧ nx ≤ 7) with
  | false => exact EvP.neg (by simp) (EvP.now _ rfl)
  | true =>
  rw [Bool.true_and, show impl_far.f ac nx = some (farV ac nx) from rfl]
  refine EvP.pos rfl (EvP.some_bind (EvP.ite (fun h5 => ?_) (fun h5 => EvP.now _ (by rw [decide_eq_false h5]; rfl))))
  rw [decide_eq_true h5, Bool.true_and]
  refine EvP.ite (fun h4 => ?_) (fun h4 => EvP.now _ (by rw [decide_eq_false h4]; rfl))
  rw [decide_eq_true h4, Bool.true_and, in_val]
  refine EvP.some_bind ?_
  cases decide (0 ≤ se ∧ se ≤ (l.length : Int)) with
  | false => exact EvP.neg (by simp) (EvP.now _ rfl)
  | true =>
  rw [Bool.true_and]
  refine EvP.pos rfl (EvP.ite (fun h4 => ?_) (fun h4 => EvP.now _ (by rw [decide_eq_false h4]; rfl)))
  rw [decide_eq_true h4, Bool.true_and, in_val]
  refine EvP.some_bind ?_
  cases decide (0 ≤ tr ∧ tr ≤ e) with
  | false => exact EvP.neg (by simp) (EvP.now _ rfl)
  | true =>
  rw [Bool.true_and]
  refine EvP.pos rfl ?_
  rw [in_val]
  refine EvP.some_bind ?_
  by_cases h9 : 0 ≤ cn ∧ cn ≤ 9999
  rotate_left
  · rw [decide_eq_false h9]; exact EvP.neg (by simp) (EvP.now _ rfl)
  rw [decide_eq_true h9, Bool.true_and]
  refine EvP.pos rfl ?_
  have hn : impl_NumOf.f cn = some (Int.tmod cn 8) := by
    unfold impl_NumOf.f
    rw [if_neg (by omega)]
  rw [hn]
  refine EvP.some_bind (EvP.ite (fun h5 => ?_) (fun h5 => EvP.now _ (by rw [decide_eq_false h5]; rfl)))
  rw [decide_eq_true h5, Bool.true_and]
  refine EvP.eq_bind (implParts_ok a b c d e l hl hb) ?_
  cases l.all (partB c) with
  | false => exact EvP.neg (by simp) (EvP.now _ rfl)
  | true => exact EvP.pos rfl (EvP.eq_bind (implParts_ok a b c d e q hq hc) (EvP.now _ rfl))

/-- impl.TxOk's value of a state. -/
def TI (c0 c1 c2 c3 c4 : Int) (t : Tx) : Bool := tokI c0 c1 c2 c3 c4 t.a0 t.a1 t.fl t.a3 t.q t.a6 t.a8
def Sx (t : Tx) : Prop := (t.fl.length ≤ 2000 ∧ ∀ x ∈ t.fl, x.f2.length ≤ 2000) ∧ t.q.length ≤ 2000 ∧ ∀ x ∈ t.q, x.f2.length ≤ 2000
theorem p_impl (c0 c1 c2 c3 c4 : Int) (t : Tx) (hs : Sx t) : ∃ k, impl_TxOk.f k c0 c1 c2 c3 c4 t.a0 t.a1 t.fl t.a3 t.q t.a5 t.a6 t.a7 t.a8 t.a9 = some (TI c0 c1 c2 c3 c4 t) := by
  obtain ⟨k, r, h, e⟩ := (implTxOk_ok c0 c1 c2 c3 c4 t.a0 t.a1 t.fl t.a3 t.q t.a5 t.a6 t.a7 t.a8 t.a9 (by have := hs.1.1; omega) (fun x hx => by have := hs.1.2 x hx; omega) (by have := hs.2.1; omega) (fun x hx => by have := hs.2.2 x hx; omega)).got
  exact ⟨k, by rw [h, e]; rfl⟩
theorem p_spec (c0 c1 c2 c3 c4 : Int) (t : Tx) (hs : Sx t) : ∃ k, spec_TxOk.f k c0 c1 c2 c3 c4 t.a0 t.a1 t.fl t.a3 t.q t.a5 t.a6 t.a7 t.a8 t.a9 = some (TI c0 c1 c2 c3 c4 t) := by
  obtain ⟨k, r, h, e⟩ := (specTxOk_ok c0 c1 c2 c3 c4 t.a0 t.a1 t.fl t.a3 t.q t.a5 t.a6 t.a7 t.a8 t.a9 (by have := hs.1.1; omega) (fun x hx => by have := hs.1.2 x hx; omega) (by have := hs.2.1; omega) (fun x hx => by have := hs.2.2 x hx; omega)).got
  exact ⟨k, by rw [h, e, ← tok_same]; rfl⟩
theorem farV_mod (a b : Int) (ha : 0 ≤ a ∧ a ≤ 7) (hb : 0 ≤ b ∧ b ≤ 7) : farV a b = (b - a + 8) % 8 := by
  unfold farV
  rw [wrap64_id (x := b - a) (by omega) (by omega), wrap64_id (by omega) (by omega), Int.tmod_eq_emod_of_nonneg (by omega)]
/-- What TI tells, as far as the law needs it. -/
theorem TI_get {c0 c1 c2 c3 c4 : Int} {t : Tx} (h : TI c0 c1 c2 c3 c4 t = true) : (0 ≤ t.a1 ∧ t.a1 ≤ 7) ∧ (0 ≤ t.a0 ∧ t.a0 ≤ 7) ∧ farV t.a1 t.a0 = (t.fl.length : Int) ∧ (t.fl.length : Int) ≤ c1 ∧ (0 ≤ t.a8 ∧ t.a8 ≤ 9999) ∧ Int.tmod t.a8 8 = t.a1 := by
  unfold TI tokI at h
  simp only [Bool.and_eq_true, decide_eq_true_eq] at h
  obtain ⟨_, h2, h3, h4, h5, _, _, _, h9, h10, _⟩ := h
  exact ⟨h2, h3, h4, h5, h9, h10⟩
theorem TI_not {c0 c1 c2 c3 c4 : Int} {t : Tx} (h : TI c0 c1 c2 c3 c4 t = true → False) : TI c0 c1 c2 c3 c4 t = false := by
  cases e : TI c0 c1 c2 c3 c4 t with
  | false => rfl
  | true => exact (h e).elim
theorem TI_next {c0 c1 c2 c3 c4 : Int} {t : Tx} (h : TI c0 c1 c2 c3 c4 t = true) : TI c0 c1 c2 c3 c4 ⟨Int.tmod (wrap64 (t.a0 + 1)) 8, t.a1, t.fl, t.a3, t.q, t.a5, t.a6, t.a7, t.a8, t.a9⟩ = false := by
  obtain ⟨h1, h2, h3, _⟩ := TI_get h
  refine TI_not fun h9 => ?_
  obtain ⟨_, h5, h6, _⟩ := TI_get h9
  dsimp only at h5 h6
  rw [farV_mod _ _ h1 h5] at h6
  rw [farV_mod _ _ h1 h2] at h3
  rw [wrap64_id (by omega) (by omega), Int.tmod_eq_emod_of_nonneg (by omega)] at h6
  omega
theorem TI_more {c0 c1 c2 c3 c4 : Int} {t : Tx} (p : S39) (h : TI c0 c1 c2 c3 c4 t = true) : TI c0 c1 c2 c3 c4 ⟨t.a0, t.a1, t.fl ++ [p], t.a3, t.q, t.a5, t.a6, t.a7, t.a8, t.a9⟩ = false := by
  obtain ⟨_, _, h3, _⟩ := TI_get h
  refine TI_not fun h9 => ?_
  obtain ⟨_, _, h6, _⟩ := TI_get h9
  dsimp only at h6
  rw [List.length_append, List.length_singleton] at h6
  omega
theorem TI_count {c0 c1 c2 c3 c4 : Int} {t : Tx} (h : TI c0 c1 c2 c3 c4 t = true) : TI c0 c1 c2 c3 c4 ⟨t.a0, t.a1, t.fl, t.a3, t.q, t.a5, t.a6, t.a7, wrap64 (t.a8 + 1), t.a9⟩ = false := by
  obtain ⟨_, _, _, _, h5, h6⟩ := TI_get h
  refine TI_not fun h9 => ?_
  obtain ⟨_, _, _, _, h7, h8⟩ := TI_get h9
  dsimp only at h7 h8
  rw [wrap64_id (by omega) (by omega), Int.tmod_eq_emod_of_nonneg (by omega)] at h8
  rw [Int.tmod_eq_emod_of_nonneg (by omega)] at h6
  omega

end Go.Proofs.Yteknaofnageihaa.Pure
