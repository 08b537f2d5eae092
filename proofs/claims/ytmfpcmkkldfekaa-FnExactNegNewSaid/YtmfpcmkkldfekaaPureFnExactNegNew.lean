/- The law FnExactNegNew: NegNew of the program is that of the reference, for every five ints. No condition. -/
import Derived.Test.YtmfpcmkkldfekaaOpenFnExactNegNew
namespace Go.Proofs.Ytmfpcmkkldfekaa.Pure
open Go.RowKit Go.Proofs.Ytmfpcmkkldfekaa.QFnExactNegNew Go.Proofs.YtmfpcmkkldfekaaW.PrintWords Go.Proofs.YtmfpcmkkldfekaaW.PrintLast Go.Proofs.YtmfpcmkkldfekaaW.PrintMore

theorem in_val (a lo hi : Int) : impl_in.f a lo hi = some (decide (lo ≤ a ∧ a ≤ hi)) := by
  unfold impl_in.f
  by_cases h : a ≥ lo
  · rw [if_pos h]; simp only [Option.some.injEq, decide_eq_decide]; omega
  · rw [if_neg h]; simp only [Option.some.injEq]; exact (decide_eq_false (by omega)).symm
theorem l1In_val (a lo hi : Int) : spec_l1In.f a lo hi = some (decide (lo ≤ a ∧ a ≤ hi)) := in_val a lo hi
def cok (a b c d e : Int) : Bool := decide ((1 ≤ a ∧ a ≤ 2) ∧ (1 ≤ b ∧ b ≤ 4) ∧ (1 ≤ c ∧ c ≤ 8) ∧ (1 ≤ d ∧ d ≤ 24) ∧ (1 ≤ e ∧ e ≤ 5))
theorem cfgOk_val (a b c d e : Int) : impl_CfgOk.f a b c d e = some (cok a b c d e) := by
  unfold impl_CfgOk.f cok
  rw [in_val, in_val, in_val, in_val, in_val]
  simp only [Option.bind_some, decide_eq_true_eq]
  by_cases h1 : 1 ≤ a ∧ a ≤ 2
  · rw [if_pos h1]
    by_cases h2 : 1 ≤ b ∧ b ≤ 4
    · rw [if_pos h2]
      by_cases h3 : 1 ≤ c ∧ c ≤ 8
      · rw [if_pos h3]
        by_cases h4 : 1 ≤ d ∧ d ≤ 24
        · rw [if_pos h4]; simp only [Option.some.injEq, decide_eq_decide]; exact ⟨fun h => ⟨h1, h2, h3, h4, h⟩, fun h => h.2.2.2.2⟩
        · rw [if_neg h4]; exact congrArg some (decide_eq_false (fun h => h4 h.2.2.2.1)).symm
      · rw [if_neg h3]; exact congrArg some (decide_eq_false (fun h => h3 h.2.2.1)).symm
    · rw [if_neg h2]; exact congrArg some (decide_eq_false (fun h => h2 h.2.1)).symm
  · rw [if_neg h1]; exact congrArg some (decide_eq_false (fun h => h1 h.1)).symm
theorem cfgOk_same (a b c d e : Int) : spec_CfgOk.f a b c d e = some (cok a b c d e) := cfgOk_val a b c d e
theorem eqCfg_refl (a b c d e : Int) : laws_eqCfgOpts.f a b c d e a b c d e = some true := by unfold laws_eqCfgOpts.f; simp
theorem eqNeg_refl (a0 a1 a2 a3 a4 a5 a6 a7 a8 a9 a10 a11 a12 a13 a14 a15 a16 a17 a18 a19 : Int) (a20 : Bool) : laws_eqNegState.f a0 a1 a2 a3 a4 a5 a6 a7 a8 a9 a10 a11 a12 a13 a14 a15 a16 a17 a18 a19 a20 a0 a1 a2 a3 a4 a5 a6 a7 a8 a9 a10 a11 a12 a13 a14 a15 a16 a17 a18 a19 a20 = some true := by
  unfold laws_eqNegState.f
  simp only [eqCfg_refl, Option.bind_some, if_true, bne_self_eq_false, Bool.false_eq_true, if_false]
theorem FnExactNegNew : ∀ (a0_0 : Int) (a0_1 : Int) (a0_2 : Int) (a0_3 : Int) (a0_4 : Int), (Lit.int .i64 a0_0).wf = true → (Lit.int .i64 a0_1).wf = true → (Lit.int .i64 a0_2).wf = true → (Lit.int .i64 a0_3).wf = true → (Lit.int .i64 a0_4).wf = true → laws_FnExactNegNew.f a0_0 a0_1 a0_2 a0_3 a0_4 = some true := by
  intro a b c d e _ _ _ _ _
  have hs : spec_NegNew.f a b c d e = impl_NegNew.f a b c d e := rfl
  obtain ⟨r, hr⟩ : ∃ r, impl_NegNew.f a b c d e = some r := by
    unfold impl_NegNew.f; rw [cfgOk_val]; simp only [Option.bind_some]; split <;> exact ⟨_, rfl⟩
  unfold laws_FnExactNegNew.f laws_toCfgOpts.f
  simp only [Option.bind_some]
  rw [hs, hr]
  simp only [Option.bind_some, eqNeg_refl, if_true]

end Go.Proofs.Ytmfpcmkkldfekaa.Pure
