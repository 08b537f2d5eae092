/- The law FnExactNegHear: NegHear of the program is that of the reference, for every state and message. No condition. -/
import Derived.Test.YtpnnpcgamkojhaaOpenFnExactNegHear
namespace Go.Proofs.Ytpnnpcgamkojhaa.Pure
open Go.RowKit Go.Proofs.Ytpnnpcgamkojhaa.QFnExactNegHear Go.Proofs.YtpnnpcgamkojhaaW.PrintWords Go.Proofs.YtpnnpcgamkojhaaW.PrintLast Go.Proofs.YtpnnpcgamkojhaaW.PrintMore
set_option linter.unusedVariables false
set_option linter.unusedSimpArgs false

theorem in_val (a lo hi : Int) : impl_in.f a lo hi = some (decide (lo ≤ a ∧ a ≤ hi)) := by
  unfold impl_in.f
  by_cases h : a ≥ lo
  · rw [if_pos h]; simp only [Option.some.injEq, decide_eq_decide]; omega
  · rw [if_neg h]; simp only [Option.some.injEq]; exact (decide_eq_false (by omega)).symm
theorem l1In_val (a lo hi : Int) : spec_l1In.f a lo hi = some (decide (lo ≤ a ∧ a ≤ hi)) := in_val a lo hi
def cok (a b c d e : Int) : Bool := decide ((1 ≤ a ∧ a ≤ 2) ∧ (1 ≤ b ∧ b ≤ 4) ∧ (1 ≤ c ∧ c ≤ 8) ∧ (1 ≤ d ∧ d ≤ 24) ∧ (1 ≤ e ∧ e ≤ 5))
theorem cfgOk_val (a b c d e : Int) : impl_CfgOk.f a b c d e = some (cok a b c d e) := by
  unfold impl_CfgOk.f cok
  rw [in_val, in_val, in_val, in_val, in_val]
  simp only [Option.bind_some, decide_eq_true_eq]
  by_cases h1 : 1 ≤ a ∧ a ≤ 2
  · rw [if_pos h1]
    by_cases h2 : 1 ≤ b ∧ b ≤ 4
    · rw [if_pos h2]
      by_cases h3 : 1 ≤ c ∧ c ≤ 8
      · rw [if_pos h3]
        by_cases h4 : 1 ≤ d ∧ d ≤ 24
        · rw [if_pos h4]; simp only [Option.some.injEq, decide_eq_decide]; exact ⟨fun h => ⟨h1, h2, h3, h4, h⟩, fun h => h.2.2.2.2⟩
        · rw [if_neg h4]; exact congrArg some (decide_eq_false (fun h => h4 h.2.2.2.1)).symm
      · rw [if_neg h3]; exact congrArg some (decide_eq_false (fun h => h3 h.2.2.1)).symm
    · rw [if_neg h2]; exact congrArg some (decide_eq_false (fun h => h2 h.2.1)).symm
  · rw [if_neg h1]; exact congrArg some (decide_eq_false (fun h => h1 h.1)).symm
theorem cfgOk_same (a b c d e : Int) : spec_CfgOk.f a b c d e = some (cok a b c d e) := cfgOk_val a b c d e
/-! What two meet at. -/
def meetV (a b c d e a' b' c' d' e' : Int) : Int × Int × Int × Int × Int × Bool := if cok a b c d e = true ∧ cok a' b' c' d' e' = true ∧ a = a' then (a, mn b b', mn c c', mn d d', mn e e', true) else (0, 0, 0, 0, 0, false)
theorem mn_val (a b : Int) : mn a b = min a b := by unfold mn; omega
theorem cok_iff' {a b c d e : Int} : cok a b c d e = true ↔ (1 ≤ a ∧ a ≤ 2) ∧ (1 ≤ b ∧ b ≤ 4) ∧ (1 ≤ c ∧ c ≤ 8) ∧ (1 ≤ d ∧ d ≤ 24) ∧ (1 ≤ e ∧ e ≤ 5) := by
  unfold cok; rw [decide_eq_true_eq]
theorem meet_val (a b c d e a' b' c' d' e' : Int) : impl_CfgMeet.f a b c d e a' b' c' d' e' = some (meetV a b c d e a' b' c' d' e') := by
  unfold impl_CfgMeet.f meetV
  rw [cfgOk_val, cfgOk_val]
  simp only [Option.bind_some]
  by_cases h1 : cok a b c d e = true
  · rw [if_pos h1]
    by_cases h2 : cok a' b' c' d' e' = true
    · rw [if_pos h2]
      by_cases h3 : a = a'
      · rw [if_pos h3, if_pos ⟨h1, h2, h3⟩]
      · rw [if_neg h3, if_neg (fun h => h3 h.2.2)]
    · rw [if_neg h2, if_neg (fun h => h2 h.2.1)]
  · rw [if_neg h1, if_neg (fun h => h1 h.1)]
/-! Whether a state of agreeing is ok. -/
def none5 (a b c d e : Int) : Bool := a == 0 && (b == 0 && (c == 0 && (d == 0 && (e == 0))))
def mayV (a b c d e m : Int) : Bool := none5 a b c d e || (cok a b c d e && (m == a))
theorem beq_turn (a b : Int) : (a == b) = (b == a) := by by_cases h : a = b
                                                         · subst h; rfl
                                                         · rw [beq_eq_false_iff_ne.mpr h, beq_eq_false_iff_ne.mpr (fun e => h e.symm)]
theorem may_val (a b c d e m : Int) : impl_CfgOpts_may.f a b c d e m = some (mayV a b c d e m) := by
  have h : impl_CfgOpts_may.f a b c d e m = if none5 a b c d e = true then some true else ((impl_CfgOk.f a b c d e).bind fun t => if t = true then some (a == m) else some false) := rfl
  rw [h, cfgOk_val, beq_turn a m]
  unfold mayV
  simp only [Option.bind_some]
  cases none5 a b c d e <;> cases cok a b c d e <;> rfl
def negok (a0 a1 a2 a3 a4 a5 a6 a7 a8 a9 a10 a11 a12 a13 a14 a15 a16 a17 a18 a19 : Int) : Bool := cok a0 a1 a2 a3 a4 && ((cok a5 a6 a7 a8 a9 && (a0 == a5)) && (mayV a10 a11 a12 a13 a14 a0 && mayV a15 a16 a17 a18 a19 a0))
theorem negOk_val (a0 a1 a2 a3 a4 a5 a6 a7 a8 a9 a10 a11 a12 a13 a14 a15 a16 a17 a18 a19 : Int) (a20 : Bool) : impl_NegOk.f a0 a1 a2 a3 a4 a5 a6 a7 a8 a9 a10 a11 a12 a13 a14 a15 a16 a17 a18 a19 a20 = some (negok a0 a1 a2 a3 a4 a5 a6 a7 a8 a9 a10 a11 a12 a13 a14 a15 a16 a17 a18 a19) := by
  unfold impl_NegOk.f negok
  simp only [cfgOk_val, may_val, Option.bind_some]
  generalize cok a0 a1 a2 a3 a4 = p
  generalize cok a5 a6 a7 a8 a9 = q
  generalize mayV a10 a11 a12 a13 a14 a0 = x
  generalize mayV a15 a16 a17 a18 a19 a0 = y
  rw [beq_turn a0 a5]
  by_cases h : a5 = a0
  · rw [if_pos h, beq_iff_eq.mpr h]
    cases p <;> cases q <;> cases x <;> cases y <;> rfl
  · rw [if_neg h, beq_eq_false_iff_ne.mpr h]
    cases p <;> cases q <;> cases x <;> cases y <;> rfl
/-! What is heard. -/
def hcore (a0 a1 a2 a3 a4 a5 a6 a7 a8 a9 a10 a11 a12 a13 a14 a15 a16 a17 a18 a19 : Int) (a20 : Bool) (m0 m1 m2 m3 m4 m5 : Int) : Int × Int × Int × Int × Int × Int × Int × Int × Int × Int × Int × Int × Int × Int × Int × Int × Int × Int × Int × Int × Bool × Int × Int × Int × Int × Int × Int × Bool := if m1 = a0 then (if m0 = 1 then (if (!(a0 == m1) || (!((mn a1 m2) == m2) || (!((mn a2 m3) == m3) || (!((mn a3 m4) == m4) || (!((mn a4 m5) == m5)))))) = true then (a0, a1, a2, a3, a4, a5, a6, a7, a8, a9, a10, a11, a12, a13, a14, a15, a16, a17, a18, a19, a20, 3, a0, mn a1 m2, mn a2 m3, mn a3 m4, mn a4 m5, true) else (a0, a1, a2, a3, a4, a5, a6, a7, a8, a9, a10, a11, a12, a13, a14, m1, m2, m3, m4, m5, a20, 2, m1, m2, m3, m4, m5, true)) else (if m0 = 2 then (if (m1 == a5 && (m2 == a6 && (m3 == a7 && (m4 == a8 && (m5 == a9))))) = true then (a0, a1, a2, a3, a4, a5, a6, a7, a8, a9, m1, m2, m3, m4, m5, a15, a16, a17, a18, a19, a20, 0, 0, 0, 0, 0, 0, false) else (a0, a1, a2, a3, a4, a5, a6, a7, a8, a9, a10, a11, a12, a13, a14, a15, a16, a17, a18, a19, a20, 0, 0, 0, 0, 0, 0, false)) else (if none5 a10 a11 a12 a13 a14 = true then (a0, a1, a2, a3, a4, a5, mn a6 m2, mn a7 m3, mn a8 m4, mn a9 m5, a10, a11, a12, a13, a14, a15, a16, a17, a18, a19, a20, 0, 0, 0, 0, 0, 0, false) else (a0, a1, a2, a3, a4, a5, a6, a7, a8, a9, a10, a11, a12, a13, a14, a15, a16, a17, a18, a19, a20, 0, 0, 0, 0, 0, 0, false)))) else (a0, a1, a2, a3, a4, a5, a6, a7, a8, a9, a10, a11, a12, a13, a14, a15, a16, a17, a18, a19, true, 0, 0, 0, 0, 0, 0, false)
def hzero : Int × Int × Int × Int × Int × Int × Int × Int × Int × Int × Int × Int × Int × Int × Int × Int × Int × Int × Int × Int × Bool × Int × Int × Int × Int × Int × Int × Bool := (0, 0, 0, 0, 0, 0, 0, 0, 0, 0, 0, 0, 0, 0, 0, 0, 0, 0, 0, 0, false, 0, 0, 0, 0, 0, 0, false)
def hgood (a0 a1 a2 a3 a4 a5 a6 a7 a8 a9 a10 a11 a12 a13 a14 a15 a16 a17 a18 a19 : Int) (a20 : Bool) (m0 m1 m2 m3 m4 m5 : Int) : Bool := negok a0 a1 a2 a3 a4 a5 a6 a7 a8 a9 a10 a11 a12 a13 a14 a15 a16 a17 a18 a19 && (decide (1 ≤ m0 ∧ m0 ≤ 3) && cok m1 m2 m3 m4 m5)
def hearV (a0 a1 a2 a3 a4 a5 a6 a7 a8 a9 a10 a11 a12 a13 a14 a15 a16 a17 a18 a19 : Int) (a20 : Bool) (m0 m1 m2 m3 m4 m5 : Int) : Int × Int × Int × Int × Int × Int × Int × Int × Int × Int × Int × Int × Int × Int × Int × Int × Int × Int × Int × Int × Bool × Int × Int × Int × Int × Int × Int × Bool := if hgood a0 a1 a2 a3 a4 a5 a6 a7 a8 a9 a10 a11 a12 a13 a14 a15 a16 a17 a18 a19 a20 m0 m1 m2 m3 m4 m5 = true then hcore a0 a1 a2 a3 a4 a5 a6 a7 a8 a9 a10 a11 a12 a13 a14 a15 a16 a17 a18 a19 a20 m0 m1 m2 m3 m4 m5 else hzero
theorem negok_parts {a0 a1 a2 a3 a4 a5 a6 a7 a8 a9 a10 a11 a12 a13 a14 a15 a16 a17 a18 a19 : Int} (h : negok a0 a1 a2 a3 a4 a5 a6 a7 a8 a9 a10 a11 a12 a13 a14 a15 a16 a17 a18 a19 = true) : cok a0 a1 a2 a3 a4 = true ∧ cok a5 a6 a7 a8 a9 = true ∧ a0 = a5 ∧ mayV a10 a11 a12 a13 a14 a0 = true ∧ mayV a15 a16 a17 a18 a19 a0 = true := by
  unfold negok at h
  simp only [Bool.and_eq_true, beq_iff_eq] at h
  exact ⟨h.1, h.2.1.1, h.2.1.2, h.2.2.1, h.2.2.2⟩
theorem hear_val (a0 a1 a2 a3 a4 a5 a6 a7 a8 a9 a10 a11 a12 a13 a14 a15 a16 a17 a18 a19 : Int) (a20 : Bool) (m0 m1 m2 m3 m4 m5 : Int) : impl_NegHear.f a0 a1 a2 a3 a4 a5 a6 a7 a8 a9 a10 a11 a12 a13 a14 a15 a16 a17 a18 a19 a20 m0 m1 m2 m3 m4 m5 = some (hearV a0 a1 a2 a3 a4 a5 a6 a7 a8 a9 a10 a11 a12 a13 a14 a15 a16 a17 a18 a19 a20 m0 m1 m2 m3 m4 m5) := by
  unfold impl_NegHear.f hearV hgood
  rw [negOk_val, in_val, cfgOk_val, meet_val, meet_val]
  simp only [Option.bind_some]
  by_cases h1 : negok a0 a1 a2 a3 a4 a5 a6 a7 a8 a9 a10 a11 a12 a13 a14 a15 a16 a17 a18 a19 = true
  · by_cases h2 : 1 ≤ m0 ∧ m0 ≤ 3
    · by_cases h3 : cok m1 m2 m3 m4 m5 = true
      · obtain ⟨g1, g2, g3, _, _⟩ := negok_parts h1
        have hgd : (negok a0 a1 a2 a3 a4 a5 a6 a7 a8 a9 a10 a11 a12 a13 a14 a15 a16 a17 a18 a19 && (decide (1 ≤ m0 ∧ m0 ≤ 3) && cok m1 m2 m3 m4 m5)) = true := by rw [h1, h3, decide_eq_true h2]; rfl
        rw [if_pos hgd, if_pos h1, if_pos (decide_eq_true h2), if_pos h3]
        unfold hcore
        by_cases h4 : m1 = a0
        · have e1 : meetV a0 a1 a2 a3 a4 m1 m2 m3 m4 m5 = (a0, mn a1 m2, mn a2 m3, mn a3 m4, mn a4 m5, true) := by unfold meetV; rw [if_pos ⟨g1, h3, h4.symm⟩]
          have e2 : meetV a5 a6 a7 a8 a9 m1 m2 m3 m4 m5 = (a5, mn a6 m2, mn a7 m3, mn a8 m4, mn a9 m5, true) := by unfold meetV; rw [if_pos ⟨g2, h3, g3.symm.trans h4.symm⟩]
          rw [if_pos h4, if_pos h4, e1, e2]
          by_cases h5 : m0 = 1
          · rw [if_pos h5, if_pos h5]; simp only; split <;> rfl
          · rw [if_neg h5, if_neg h5]
            by_cases h6 : m0 = 2
            · rw [if_pos h6, if_pos h6]; split <;> rfl
            · rw [if_neg h6, if_neg h6, if_pos (by omega : m0 = 3)]
              unfold none5
              split <;> rfl
        · rw [if_neg h4, if_neg h4]
      · have hgd : ¬ (negok a0 a1 a2 a3 a4 a5 a6 a7 a8 a9 a10 a11 a12 a13 a14 a15 a16 a17 a18 a19 && (decide (1 ≤ m0 ∧ m0 ≤ 3) && cok m1 m2 m3 m4 m5)) = true := by rw [Bool.eq_false_iff.mpr h3]; simp
        rw [if_neg hgd, if_pos h1, if_pos (decide_eq_true h2), if_neg h3]; rfl
    · have hgd : ¬ (negok a0 a1 a2 a3 a4 a5 a6 a7 a8 a9 a10 a11 a12 a13 a14 a15 a16 a17 a18 a19 && (decide (1 ≤ m0 ∧ m0 ≤ 3) && cok m1 m2 m3 m4 m5)) = true := by rw [decide_eq_false h2]; simp
      rw [if_neg hgd, if_pos h1, decide_eq_false h2, if_neg Bool.false_ne_true]; rfl
  · have hgd : ¬ (negok a0 a1 a2 a3 a4 a5 a6 a7 a8 a9 a10 a11 a12 a13 a14 a15 a16 a17 a18 a19 && (decide (1 ≤ m0 ∧ m0 ≤ 3) && cok m1 m2 m3 m4 m5)) = true := by rw [Bool.eq_false_iff.mpr h1]; simp
    rw [if_neg hgd, if_neg h1]; rfl
theorem one_val (a b c d e a' b' c' d' e' : Int) : spec_l5One.f a b c d e a' b' c' d' e' = some (cok a' b' c' d' e' && (a == a')) := by
  unfold spec_l5One.f
  rw [cfgOk_same]
  simp only [Option.bind_some]
  cases cok a' b' c' d' e' <;> rfl
theorem none_val (a b c d e : Int) : spec_l5None.f a b c d e = some (none5 a b c d e) := rfl
theorem negOk_same (a0 a1 a2 a3 a4 a5 a6 a7 a8 a9 a10 a11 a12 a13 a14 a15 a16 a17 a18 a19 : Int) (a20 : Bool) : spec_NegOk.f a0 a1 a2 a3 a4 a5 a6 a7 a8 a9 a10 a11 a12 a13 a14 a15 a16 a17 a18 a19 a20 = some (negok a0 a1 a2 a3 a4 a5 a6 a7 a8 a9 a10 a11 a12 a13 a14 a15 a16 a17 a18 a19) := by
  unfold spec_NegOk.f negok mayV
  simp only [cfgOk_same, one_val, none_val, Option.bind_some]
  generalize cok a0 a1 a2 a3 a4 = p
  generalize (cok a5 a6 a7 a8 a9 && (a0 == a5)) = q
  generalize none5 a10 a11 a12 a13 a14 = n
  generalize none5 a15 a16 a17 a18 a19 = m
  generalize (cok a10 a11 a12 a13 a14 && (a0 == a10)) = x
  generalize (cok a15 a16 a17 a18 a19 && (a0 == a15)) = y
  cases p <;> cases q <;> cases n <;> cases m <;> cases x <;> cases y <;> rfl
theorem hear_same (a0 a1 a2 a3 a4 a5 a6 a7 a8 a9 a10 a11 a12 a13 a14 a15 a16 a17 a18 a19 : Int) (a20 : Bool) (m0 m1 m2 m3 m4 m5 : Int) : spec_NegHear.f a0 a1 a2 a3 a4 a5 a6 a7 a8 a9 a10 a11 a12 a13 a14 a15 a16 a17 a18 a19 a20 m0 m1 m2 m3 m4 m5 = some (hearV a0 a1 a2 a3 a4 a5 a6 a7 a8 a9 a10 a11 a12 a13 a14 a15 a16 a17 a18 a19 a20 m0 m1 m2 m3 m4 m5) := by
  unfold spec_NegHear.f hearV hgood
  rw [negOk_same, l1In_val, cfgOk_same]
  simp only [Option.bind_some]
  by_cases h1 : negok a0 a1 a2 a3 a4 a5 a6 a7 a8 a9 a10 a11 a12 a13 a14 a15 a16 a17 a18 a19 = true
  · by_cases h2 : 1 ≤ m0 ∧ m0 ≤ 3
    · by_cases h3 : cok m1 m2 m3 m4 m5 = true
      · have hgd : (negok a0 a1 a2 a3 a4 a5 a6 a7 a8 a9 a10 a11 a12 a13 a14 a15 a16 a17 a18 a19 && (decide (1 ≤ m0 ∧ m0 ≤ 3) && cok m1 m2 m3 m4 m5)) = true := by rw [h1, h3, decide_eq_true h2]; rfl
        rw [if_pos hgd, if_pos h1, if_pos (decide_eq_true h2), if_pos h3]
        have e : spec_l5Hear.f a0 a1 a2 a3 a4 a5 a6 a7 a8 a9 a10 a11 a12 a13 a14 a15 a16 a17 a18 a19 a20 m0 m1 m2 m3 m4 m5 = some (hcore a0 a1 a2 a3 a4 a5 a6 a7 a8 a9 a10 a11 a12 a13 a14 a15 a16 a17 a18 a19 a20 m0 m1 m2 m3 m4 m5) := by
          unfold spec_l5Hear.f hcore spec_l5Least.f
          rw [none_val]
          simp only [Option.bind_some]
          by_cases h4 : m1 = a0
          · rw [if_pos h4, if_pos h4]
            by_cases h5 : m0 = 1
            · rw [if_pos h5, if_pos h5]; split <;> rfl
            · rw [if_neg h5, if_neg h5]
              by_cases h6 : m0 = 2
              · rw [if_pos h6, if_pos h6]; split <;> rfl
              · rw [if_neg h6, if_neg h6]; split <;> rfl
          · rw [if_neg h4, if_neg h4]
        rw [e]
        rfl
      · have hgd : ¬ (negok a0 a1 a2 a3 a4 a5 a6 a7 a8 a9 a10 a11 a12 a13 a14 a15 a16 a17 a18 a19 && (decide (1 ≤ m0 ∧ m0 ≤ 3) && cok m1 m2 m3 m4 m5)) = true := by rw [Bool.eq_false_iff.mpr h3]; simp
        rw [if_neg hgd, if_pos h1, if_pos (decide_eq_true h2), if_neg h3]; rfl
    · have hgd : ¬ (negok a0 a1 a2 a3 a4 a5 a6 a7 a8 a9 a10 a11 a12 a13 a14 a15 a16 a17 a18 a19 && (decide (1 ≤ m0 ∧ m0 ≤ 3) && cok m1 m2 m3 m4 m5)) = true := by rw [decide_eq_false h2]; simp
      rw [if_neg hgd, if_pos h1, decide_eq_false h2, if_neg Bool.false_ne_true]; rfl
  · have hgd : ¬ (negok a0 a1 a2 a3 a4 a5 a6 a7 a8 a9 a10 a11 a12 a13 a14 a15 a16 a17 a18 a19 && (decide (1 ≤ m0 ∧ m0 ≤ 3) && cok m1 m2 m3 m4 m5)) = true := by rw [Bool.eq_false_iff.mpr h1]; simp
    rw [if_neg hgd, if_neg h1]; rfl
theorem eqCfg_refl (a b c d e : Int) : laws_eqCfgOpts.f a b c d e a b c d e = some true := by unfold laws_eqCfgOpts.f; simp
theorem eqNeg_refl (a0 a1 a2 a3 a4 a5 a6 a7 a8 a9 a10 a11 a12 a13 a14 a15 a16 a17 a18 a19 : Int) (a20 : Bool) : laws_eqNegState.f a0 a1 a2 a3 a4 a5 a6 a7 a8 a9 a10 a11 a12 a13 a14 a15 a16 a17 a18 a19 a20 a0 a1 a2 a3 a4 a5 a6 a7 a8 a9 a10 a11 a12 a13 a14 a15 a16 a17 a18 a19 a20 = some true := by
  unfold laws_eqNegState.f
  simp only [eqCfg_refl, Option.bind_some, if_true, bne_self_eq_false, Bool.false_eq_true, if_false]
theorem eqMsg_refl (a b c d e f : Int) : laws_eqNegMsg.f a b c d e f a b c d e f = some true := by unfold laws_eqNegMsg.f; rw [if_pos rfl, eqCfg_refl]; rfl
theorem toState_val (a0 a1 a2 a3 a4 a5 a6 a7 a8 a9 a10 a11 a12 a13 a14 a15 a16 a17 a18 a19 : Int) (a20 : Bool) : laws_toNegState.f a0 a1 a2 a3 a4 a5 a6 a7 a8 a9 a10 a11 a12 a13 a14 a15 a16 a17 a18 a19 a20 = some (a0, a1, a2, a3, a4, a5, a6, a7, a8, a9, a10, a11, a12, a13, a14, a15, a16, a17, a18, a19, a20) := by
  unfold laws_toNegState.f laws_toCfgOpts.f
  simp only [Option.bind_some]
theorem toMsg_val (m0 m1 m2 m3 m4 m5 : Int) : laws_toNegMsg.f m0 m1 m2 m3 m4 m5 = some (m0, m1, m2, m3, m4, m5) := by
  unfold laws_toNegMsg.f laws_toCfgOpts.f
  simp only [Option.bind_some]
theorem FnExactNegHear : ∀ (a0_0 : Int) (a0_1 : Int) (a0_2 : Int) (a0_3 : Int) (a0_4 : Int) (a0_5 : Int) (a0_6 : Int) (a0_7 : Int) (a0_8 : Int) (a0_9 : Int) (a0_10 : Int) (a0_11 : Int) (a0_12 : Int) (a0_13 : Int) (a0_14 : Int) (a0_15 : Int) (a0_16 : Int) (a0_17 : Int) (a0_18 : Int) (a0_19 : Int) (a0_20 : Bool) (a1_0 : Int) (a1_1 : Int) (a1_2 : Int) (a1_3 : Int) (a1_4 : Int) (a1_5 : Int), (Lit.int .i64 a0_0).wf = true → (Lit.int .i64 a0_1).wf = true → (Lit.int .i64 a0_2).wf = true → (Lit.int .i64 a0_3).wf = true → (Lit.int .i64 a0_4).wf = true → (Lit.int .i64 a0_5).wf = true → (Lit.int .i64 a0_6).wf = true → (Lit.int .i64 a0_7).wf = true → (Lit.int .i64 a0_8).wf = true → (Lit.int .i64 a0_9).wf = true → (Lit.int .i64 a0_10).wf = true → (Lit.int .i64 a0_11).wf = true → (Lit.int .i64 a0_12).wf = true → (Lit.int .i64 a0_13).wf = true → (Lit.int .i64 a0_14).wf = true → (Lit.int .i64 a0_15).wf = true → (Lit.int .i64 a0_16).wf = true → (Lit.int .i64 a0_17).wf = true → (Lit.int .i64 a0_18).wf = true → (Lit.int .i64 a0_19).wf = true → (Lit.int .i64 a1_0).wf = true → (Lit.int .i64 a1_1).wf = true → (Lit.int .i64 a1_2).wf = true → (Lit.int .i64 a1_3).wf = true → (Lit.int .i64 a1_4).wf = true → (Lit.int .i64 a1_5).wf = true → laws_FnExactNegHear.f a0_0 a0_1 a0_2 a0_3 a0_4 a0_5 a0_6 a0_7 a0_8 a0_9 a0_10 a0_11 a0_12 a0_13 a0_14 a0_15 a0_16 a0_17 a0_18 a0_19 a0_20 a1_0 a1_1 a1_2 a1_3 a1_4 a1_5 = some true := by
  intro a0_0 a0_1 a0_2 a0_3 a0_4 a0_5 a0_6 a0_7 a0_8 a0_9 a0_10 a0_11 a0_12 a0_13 a0_14 a0_15 a0_16 a0_17 a0_18 a0_19 a0_20 a1_0 a1_1 a1_2 a1_3 a1_4 a1_5 _ _ _ _ _ _ _ _ _ _ _ _ _ _ _ _ _ _ _ _ _ _ _ _ _ _
  unfold laws_FnExactNegHear.f
  simp only [toState_val, toMsg_val, Option.bind_some, hear_val, hear_same, eqNeg_refl, eqMsg_refl, if_true, bne_self_eq_false, Bool.false_eq_true, if_false]

end Go.Proofs.Ytpnnpcgamkojhaa.Pure
