/- The law FnExactNegSay: NegSay of the program is that of the reference, for every state. No condition. -/
import Derived.Test.YtommafidnphkcaaOpenFnExactNegSay
namespace Go.Proofs.Ytommafidnphkcaa.Pure
open Go.RowKit Go.Proofs.Ytommafidnphkcaa.QFnExactNegSay Go.Proofs.YtommafidnphkcaaW.PrintWords Go.Proofs.YtommafidnphkcaaW.PrintLast Go.Proofs.YtommafidnphkcaaW.PrintMore

theorem in_val (a lo hi : Int) : impl_in.f a lo hi = some (decide (lo ≤ a ∧ a ≤ hi)) := by
  unfold impl_in.f
  by_cases h : a ≥ lo
  · rw [if_pos h]; simp only [Option.some.injEq, decide_eq_decide]; omega
  · rw [if_neg h]; simp only [Option.some.injEq]; exact (decide_eq_false (by omega)).symm
theorem l1In_val (a lo hi : Int) : spec_l1In.f a lo hi = some (decide (lo ≤ a ∧ a ≤ hi)) := in_val a lo hi
def cok (a b c d e : Int) : Bool := decide ((1 ≤ a ∧ a ≤ 2) ∧ (1 ≤ b ∧ b ≤ 4) ∧ (1 ≤ c ∧ c ≤ 8) ∧ (1 ≤ d ∧ d ≤ 24) ∧ (1 ≤ e ∧ e ≤ 5))
theorem cfgOk_val (a b c d e : Int) : impl_CfgOk.f a b c d e = some (cok a b c d e) := by
  unfold impl_CfgOk.f cok
  rw [in_val, in_val, in_val, in_val, in_val]
  simp only [Option.bind_some, decide_eq_true_eq]
  by_cases h1 : 1 ≤ a ∧ a ≤ 2
  · rw [if_pos h1]
    by_cases h2 : 1 ≤ b ∧ b ≤ 4
    · rw [if_pos h2]
      by_cases h3 : 1 ≤ c ∧ c ≤ 8
      · rw [if_pos h3]
        by_cases h4 : 1 ≤ d ∧ d ≤ 24
        · rw [if_pos h4]; simp only [Option.some.injEq, decide_eq_decide]; exact ⟨fun h => ⟨h1, h2, h3, h4, h⟩, fun h => h.2.2.2.2⟩
        · rw [if_neg h4]; exact congrArg some (decide_eq_false (fun h => h4 h.2.2.2.1)).symm
      · rw [if_neg h3]; exact congrArg some (decide_eq_false (fun h => h3 h.2.2.1)).symm
    · rw [if_neg h2]; exact congrArg some (decide_eq_false (fun h => h2 h.2.1)).symm
  · rw [if_neg h1]; exact congrArg some (decide_eq_false (fun h => h1 h.1)).symm
theorem cfgOk_same (a b c d e : Int) : spec_CfgOk.f a b c d e = some (cok a b c d e) := cfgOk_val a b c d e
/-! Whether a state of agreeing is ok. -/
def none5 (a b c d e : Int) : Bool := a == 0 && (b == 0 && (c == 0 && (d == 0 && (e == 0))))
def mayV (a b c d e m : Int) : Bool := none5 a b c d e || (cok a b c d e && (m == a))
theorem beq_turn (a b : Int) : (a == b) = (b == a) := by by_cases h : a = b
                                                         · subst h; rfl
                                                         · rw [beq_eq_false_iff_ne.mpr h, beq_eq_false_iff_ne.mpr (fun e => h e.symm)]
theorem may_val (a b c d e m : Int) : impl_CfgOpts_may.f a b c d e m = some (mayV a b c d e m) := by
  have h : impl_CfgOpts_may.f a b c d e m = if none5 a b c d e = true then some true else ((impl_CfgOk.f a b c d e).bind fun t => if t = true then some (a == m) else some false) := rfl
  rw [h, cfgOk_val, beq_turn a m]
  unfold mayV
  simp only [Option.bind_some]
  cases none5 a b c d e <;> cases cok a b c d e <;> rfl
theorem one_val (a b c d e a' b' c' d' e' : Int) : spec_l5One.f a b c d e a' b' c' d' e' = some (cok a' b' c' d' e' && (a == a')) := by
  unfold spec_l5One.f
  rw [cfgOk_same]
  simp only [Option.bind_some]
  cases cok a' b' c' d' e' <;> rfl
theorem none_val (a b c d e : Int) : spec_l5None.f a b c d e = some (none5 a b c d e) := rfl
def negok (a0 a1 a2 a3 a4 a5 a6 a7 a8 a9 a10 a11 a12 a13 a14 a15 a16 a17 a18 a19 : Int) : Bool := cok a0 a1 a2 a3 a4 && ((cok a5 a6 a7 a8 a9 && (a0 == a5)) && (mayV a10 a11 a12 a13 a14 a0 && mayV a15 a16 a17 a18 a19 a0))
theorem negOk_val (a0 a1 a2 a3 a4 a5 a6 a7 a8 a9 a10 a11 a12 a13 a14 a15 a16 a17 a18 a19 : Int) (a20 : Bool) : impl_NegOk.f a0 a1 a2 a3 a4 a5 a6 a7 a8 a9 a10 a11 a12 a13 a14 a15 a16 a17 a18 a19 a20 = some (negok a0 a1 a2 a3 a4 a5 a6 a7 a8 a9 a10 a11 a12 a13 a14 a15 a16 a17 a18 a19) := by
  unfold impl_NegOk.f negok
  simp only [cfgOk_val, may_val, Option.bind_some]
  generalize cok a0 a1 a2 a3 a4 = p
  generalize cok a5 a6 a7 a8 a9 = q
  generalize mayV a10 a11 a12 a13 a14 a0 = x
  generalize mayV a15 a16 a17 a18 a19 a0 = y
  rw [beq_turn a0 a5]
  by_cases h : a5 = a0
  · rw [if_pos h, beq_iff_eq.mpr h]
    cases p <;> cases q <;> cases x <;> cases y <;> rfl
  · rw [if_neg h, beq_eq_false_iff_ne.mpr h]
    cases p <;> cases q <;> cases x <;> cases y <;> rfl
theorem negOk_same (a0 a1 a2 a3 a4 a5 a6 a7 a8 a9 a10 a11 a12 a13 a14 a15 a16 a17 a18 a19 : Int) (a20 : Bool) : spec_NegOk.f a0 a1 a2 a3 a4 a5 a6 a7 a8 a9 a10 a11 a12 a13 a14 a15 a16 a17 a18 a19 a20 = some (negok a0 a1 a2 a3 a4 a5 a6 a7 a8 a9 a10 a11 a12 a13 a14 a15 a16 a17 a18 a19) := by
  unfold spec_NegOk.f negok mayV
  simp only [cfgOk_same, one_val, none_val, Option.bind_some]
  generalize cok a0 a1 a2 a3 a4 = p
  generalize (cok a5 a6 a7 a8 a9 && (a0 == a5)) = q
  generalize none5 a10 a11 a12 a13 a14 = n
  generalize none5 a15 a16 a17 a18 a19 = m
  generalize (cok a10 a11 a12 a13 a14 && (a0 == a10)) = x
  generalize (cok a15 a16 a17 a18 a19 && (a0 == a15)) = y
  cases p <;> cases q <;> cases n <;> cases m <;> cases x <;> cases y <;> rfl
/-! What is said. -/
def sayV (a0 a1 a2 a3 a4 a5 a6 a7 a8 a9 a10 a11 a12 a13 a14 a15 a16 a17 a18 a19 : Int) (a20 : Bool) : Int × Int × Int × Int × Int × Int × Bool := if (negok a0 a1 a2 a3 a4 a5 a6 a7 a8 a9 a10 a11 a12 a13 a14 a15 a16 a17 a18 a19 && (!a20 && none5 a10 a11 a12 a13 a14)) = true then (1, a5, a6, a7, a8, a9, true) else (0, 0, 0, 0, 0, 0, false)
theorem say_val (a0 a1 a2 a3 a4 a5 a6 a7 a8 a9 a10 a11 a12 a13 a14 a15 a16 a17 a18 a19 : Int) (a20 : Bool) : impl_NegSay.f a0 a1 a2 a3 a4 a5 a6 a7 a8 a9 a10 a11 a12 a13 a14 a15 a16 a17 a18 a19 a20 = some (sayV a0 a1 a2 a3 a4 a5 a6 a7 a8 a9 a10 a11 a12 a13 a14 a15 a16 a17 a18 a19 a20) := by
  have e : (!(a10 == 0) || (!(a11 == 0) || (!(a12 == 0) || (!(a13 == 0) || (!(a14 == 0)))))) = !(none5 a10 a11 a12 a13 a14) := by unfold none5; simp only [Bool.not_and]
  unfold impl_NegSay.f sayV
  simp only [negOk_val, Option.bind_some]
  rw [e]
  generalize negok a0 a1 a2 a3 a4 a5 a6 a7 a8 a9 a10 a11 a12 a13 a14 a15 a16 a17 a18 a19 = p
  generalize none5 a10 a11 a12 a13 a14 = q
  cases p <;> cases q <;> cases a20 <;> rfl
theorem say_same (a0 a1 a2 a3 a4 a5 a6 a7 a8 a9 a10 a11 a12 a13 a14 a15 a16 a17 a18 a19 : Int) (a20 : Bool) : spec_NegSay.f a0 a1 a2 a3 a4 a5 a6 a7 a8 a9 a10 a11 a12 a13 a14 a15 a16 a17 a18 a19 a20 = some (sayV a0 a1 a2 a3 a4 a5 a6 a7 a8 a9 a10 a11 a12 a13 a14 a15 a16 a17 a18 a19 a20) := by
  unfold spec_NegSay.f sayV
  simp only [negOk_same, none_val, Option.bind_some]
  generalize negok a0 a1 a2 a3 a4 a5 a6 a7 a8 a9 a10 a11 a12 a13 a14 a15 a16 a17 a18 a19 = p
  generalize none5 a10 a11 a12 a13 a14 = q
  cases p <;> cases q <;> cases a20 <;> rfl
theorem eqCfg_refl (a b c d e : Int) : laws_eqCfgOpts.f a b c d e a b c d e = some true := by unfold laws_eqCfgOpts.f; simp
theorem eqMsg_refl (a b c d e f : Int) : laws_eqNegMsg.f a b c d e f a b c d e f = some true := by unfold laws_eqNegMsg.f; rw [if_pos rfl, eqCfg_refl]; rfl
theorem FnExactNegSay : ∀ (a0_0 : Int) (a0_1 : Int) (a0_2 : Int) (a0_3 : Int) (a0_4 : Int) (a0_5 : Int) (a0_6 : Int) (a0_7 : Int) (a0_8 : Int) (a0_9 : Int) (a0_10 : Int) (a0_11 : Int) (a0_12 : Int) (a0_13 : Int) (a0_14 : Int) (a0_15 : Int) (a0_16 : Int) (a0_17 : Int) (a0_18 : Int) (a0_19 : Int) (a0_20 : Bool), (Lit.int .i64 a0_0).wf = true → (Lit.int .i64 a0_1).wf = true → (Lit.int .i64 a0_2).wf = true → (Lit.int .i64 a0_3).wf = true → (Lit.int .i64 a0_4).wf = true → (Lit.int .i64 a0_5).wf = true → (Lit.int .i64 a0_6).wf = true → (Lit.int .i64 a0_7).wf = true → (Lit.int .i64 a0_8).wf = true → (Lit.int .i64 a0_9).wf = true → (Lit.int .i64 a0_10).wf = true → (Lit.int .i64 a0_11).wf = true → (Lit.int .i64 a0_12).wf = true → (Lit.int .i64 a0_13).wf = true → (Lit.int .i64 a0_14).wf = true → (Lit.int .i64 a0_15).wf = true → (Lit.int .i64 a0_16).wf = true → (Lit.int .i64 a0_17).wf = true → (Lit.int .i64 a0_18).wf = true → (Lit.int .i64 a0_19).wf = true → laws_FnExactNegSay.f a0_0 a0_1 a0_2 a0_3 a0_4 a0_5 a0_6 a0_7 a0_8 a0_9 a0_10 a0_11 a0_12 a0_13 a0_14 a0_15 a0_16 a0_17 a0_18 a0_19 a0_20 = some true := by
  intro a0 a1 a2 a3 a4 a5 a6 a7 a8 a9 a10 a11 a12 a13 a14 a15 a16 a17 a18 a19 a20 _ _ _ _ _ _ _ _ _ _ _ _ _ _ _ _ _ _ _ _
  unfold laws_FnExactNegSay.f laws_toNegState.f laws_toCfgOpts.f
  simp only [Option.bind_some, say_val, say_same, eqMsg_refl, bne_self_eq_false, Bool.false_eq_true, if_false, if_true]

end Go.Proofs.Ytommafidnphkcaa.Pure
