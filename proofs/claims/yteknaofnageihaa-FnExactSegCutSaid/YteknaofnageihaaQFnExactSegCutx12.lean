-- Written by a program of this session, a turned copy of the print (not by print.sh itself). Lean checks it.
import Derived.Test.YteknaofnageihaaQFnExactSegCutx0
import Derived.Test.YteknaofnageihaaQFnExactSegCutx11
namespace Go.Proofs.Yteknaofnageihaa.QFnExactSegCut
open Go.RowKit Go.Proofs.YteknaofnageihaaW.PrintWords Go.Proofs.YteknaofnageihaaW.PrintLast Go.Proofs.YteknaofnageihaaW.PrintMore Go.Proofs.YteknaofnageihaaLoc
attribute [local go_sem] max2_int min2_int max_two min_two max_three min_three max_four min_four   -- for this text's walks alone
set_option linter.unusedVariables false
set_option linter.unusedSimpArgs false

/-! ### laws_markSegPartS: function 21 -/
def laws_markSegPartS.l0 : Nat → List S39 → Int → Int → Option (Int × List S39)
  | 0, _, _, _ => none
  | k + 1, x0, x1, x5 => if x5 < (x0.length : Int) then (if 0 ≤ x5 then ((laws_markByteS.f k (rd_T39 x0 x5).f2 (wrap64 (wrap64 (x1 + 1) + 1))).bind fun bt => (laws_markSegPartS.l0 k (x0.set (x5 : Int).toNat ⟨x1, wrap64 (x1 + 1), bt.2⟩) bt.1 (wrap64 (x5 + 1)))) else (none)) else (some (x1, x0))
def laws_markSegPartS.f (k : Nat) (l0 : List S39) (a1 : Int) : Option (Int × List S39) := laws_markSegPartS.l0 k l0 a1 0
set_option maxHeartbeats 60000000 in
set_option maxRecDepth 100000 in
theorem laws_markSegPartS.calls (k : Nat) (ok : Nat → Prop) (v : Value) (l0 : List S39) (a1 : Int) (r1 : Int) (r2 : List S39) (w0 w : World) (hB : Below w0.heap.size w0 w) (ho0 : C39 w w0.heap.size ok v l0) (h : laws_markSegPartS.f k l0 a1 = some (r1, r2)) :
    Calls Try.prog 21 #[v, .int .i64 a1] w fun e w' => e = .returned (.int .i64 r1) ∧ C39 w' w0.heap.size ok v r2 ∧ Below w0.heap.size w0 w' ∧ Kept w w' ok := by
  obtain ⟨A0, c0, rfl⟩ := PC_slice ho0
  have hu39 := Try.underlying39
  have hu23 := Try.underlying23
  have HO := mk_ ho0
  have HK := mk_ (Kept.refl w ok)
  have HB := mk_ hB
  have HL := mk_ (rfl : l0.length = l0.length)
  clear hB ho0
  have H' := mk_ (show laws_markSegPartS.l0 k l0 a1 0 = some (r1, r2) from h)
  clear h
  generalize hn0 : l0.length = n at HO HL ⊢
  go_enter Try.func21, Try.ntmps21
  go_wp2
  go_loopg [1, 5] k (fun kq v1 v5 w' => ∃ (x0_1 : List S39) (x1_1 : Int) (x5_1 : Int), v1 = .int .i64 x1_1 ∧ v5 = .int .i64 x5_1 ∧ Aside0 (laws_markSegPartS.l0 kq x0_1 x1_1 x5_1 = some (r1, r2)) ∧ Aside0 (kq ≤ k) ∧ Aside0 (x0_1.length = n) ∧ Aside0 (C39 w' w0.heap.size ok (.slice A0 n c0) x0_1) ∧ Aside0 (Kept w w' ok) ∧ Aside0 (Below w0.heap.size w0 w'))
  case atStart => exact ⟨l0, a1, 0, rfl, rfl, H', ⟨Nat.le_refl _⟩, ⟨hn0⟩, HO, HK, HB⟩
  case round =>
    clear H' HO HK HB HL
    obtain ⟨x0_1, x1_1, x5_1, rfl, rfl, HA, HK1, HL, HO, HK, HB⟩ := hrel
    cases gk with
    | zero => exact absurd HA.out (by simp [laws_markSegPartS.l0])
    | succ k1 =>
      have H := HA.out
      clear HA
      simp only [laws_markSegPartS.l0] at H
      rw [HL.out] at H
      by_cases c3 : x5_1 < (n : Int)
      rotate_left
      · rw [if_neg c3] at H
        have c3b0 : decide (x5_1 < (n : Int)) = false := decide_eq_false c3
        clear c3
        simp only [Option.some.injEq, Prod.mk.injEq] at H
        obtain ⟨rfl, rfl⟩ := H
        go_wp2
        go_ret
        exact ⟨by first | rfl | (simp; done), HO.out, HB.out, HK.out⟩
      rw [if_pos c3] at H
      by_cases c4 : 0 ≤ x5_1
      rotate_left
      · rw [if_neg c4] at H
        exact absurd H (by simp)
      rw [if_pos c4] at H
      replace H := Option.bind_eq_some_iff.mp H
      obtain ⟨⟨b1, b2⟩, A80, H⟩ := H
      try dsimp only at H A80
      have A8 := mk_ A80
      clear A80
      have H' := mk_ H
      clear H
      have hlt : x5_1.toNat < x0_1.length := by have := HL.out; omega
      obtain ⟨x, hx⟩ : ∃ x, x0_1[x5_1.toNat]? = some x := ⟨_, List.getElem?_eq_getElem hlt⟩
      have hrd : rd_T39 x0_1 x5_1 = x := by unfold rd_T39; rw [List.getD_eq_getElem?_getD, hx]; rfl
      rw [hrd] at A8
      obtain ⟨g, rfl⟩ := form39 HO.out (by omega)
      obtain ⟨A2, c2, _, hx0, hx1, hx2, hf0, hf1, hf2⟩ := cells39 HO.out x5_1 c4 c3 hx
      have HG := mk_ (ok39 HO.out)
      have HX := mk_ hx
      have HC4 := mk_ c4
      have HC3 := mk_ c3
      have p5 : decide (0 ≤ x5_1) = true := decide_eq_true c4
      have c3b0 : decide (x5_1 < (n : Int)) = true := decide_eq_true c3
      have q4 := eq_true c4
      have q3 := eq_true c3
      clear hx hrd hlt c3 c4
      have S0 := mk_ (seg39_0 HO.out x5_1 HC4.out HC3.out HX.out x1_1)
      go_wp2_with (first | ((with_reducible refine gate_store (t := 3) (p := 16) rfl ?_); refine store_event (t := 3) (p := 16) (v := ?vo_w8) (w1 := (wr.setCell ⟨g, x5_1.toNat * 3, none⟩ (.int .i64 x1_1))) ?hg ?ho ?hn ?hr ?_; (case ho => rfl); (case hg => rfl); (case hn => rfl); (case hr => first | (go_simp; done) | (go_simp; rfl)); intro w8 hw; obtain ⟨hp_, hg⟩ := S0.out; rw [← hw] at hp_ hg; replace HB := mk_ (by rw [hw]; exact zr1 (HB.out) HG.out.2 : Below w0.heap.size w0 w8); replace HK := mk_ (Kept.of_grown (S := ok) hg HK.out (fun k_ e_ => by have e2 := Option.some.inj e_; subst e2; exact .inl HG.out.1)); replace HO := mk_ hp_; clear hx0 hx1 hx2 hf0 hf1 hf2 S0 hw hg hp_; obtain ⟨A3, c3, hu3, hx0, hx1, hx2, hf0, hf1, hf2⟩ := cells39 HO.out x5_1 HC4.out HC3.out (set_at HX.out ⟨x1_1, x.f1, x.f2⟩); have S1 := mk_ (seg39_1 HO.out x5_1 HC4.out HC3.out (set_at HX.out ⟨x1_1, x.f1, x.f2⟩) (wrap64 (x1_1 + 1)))) | ((with_reducible refine gate_store (t := 3) (p := 23) rfl ?_); refine store_event (t := 3) (p := 23) (v := ?vo_w9) (w1 := (w8.setCell ⟨g, x5_1.toNat * 3 + 1, none⟩ (.int .i64 (wrap64 (x1_1 + 1))))) ?hg ?ho ?hn ?hr ?_; (case ho => rfl); (case hg => rfl); (case hn => rfl); (case hr => first | (go_simp; done) | (go_simp; rfl)); intro w9 hw; obtain ⟨hp_, hg⟩ := S1.out; rw [← hw] at hp_ hg; rw [List.set_set] at hp_; replace HB := mk_ (by rw [hw]; exact zr1 (HB.out) HG.out.2 : Below w0.heap.size w0 w9); replace HK := mk_ (Kept.of_grown (S := ok) hg HK.out (fun k_ e_ => by have e2 := Option.some.inj e_; subst e2; exact .inl HG.out.1)); replace HO := mk_ (show C39 w9 w0.heap.size ok (.slice (some ⟨g, 0, none⟩) n c0) (x0_1.set x5_1.toNat ⟨x1_1, wrap64 (x1_1 + 1), x.f2⟩) from hp_); clear hx0 hx1 hx2 hf0 hf1 hf2 S1 hw hg hp_ hu3; obtain ⟨A4, c4, hu4, hx0, hx1, hx2, hf0, hf1, hf2⟩ := cells39 HO.out x5_1 HC4.out HC3.out (set_at HX.out ⟨x1_1, wrap64 (x1_1 + 1), x.f2⟩); have HU := mk_ hu4; have HCE := mk_ hx2; clear hu4) | (go_at_call 20; refine (laws_markByteS.calls k1 (fun k_ => some k_ = (.slice A4 x.f2.length c4 : Value).ownBlock) (.slice A4 x.f2.length c4) x.f2 (wrap64 (wrap64 (x1_1 + 1) + 1)) b1 b2 w0 _ HB.out (RR_tight rfl HU.out) A8.out).mono ?_; rintro e w12 ⟨rfl, hy0, hb, hkp⟩; replace HK := mk_ (Kept.join HK.out hkp (fun x_ e_ => (RR_ok HU.out x_ e_.symm).1)); replace HO := mk_ (mark39 HO.out x5_1 HC4.out HC3.out (set_at HX.out ⟨x1_1, wrap64 (x1_1 + 1), x.f2⟩) HCE.out hkp hy0); replace HB := mk_ hb; clear hb hkp hy0))
      have HO2 := HO.out
      rw [List.set_set] at HO2
      go_roundg k1
      case measure => have := HK1.out; omega
      case rel => exact ⟨_, _, _, (by first | rfl | (simp; done) | (simp [*]; done)), (by first | rfl | (simp; done) | (simp [*]; done)), H', ⟨by have := HK1.out; omega⟩, ⟨by rw [List.length_set]; exact HL.out⟩, ⟨HO2⟩, HK, HB⟩

end Go.Proofs.Yteknaofnageihaa.QFnExactSegCut
