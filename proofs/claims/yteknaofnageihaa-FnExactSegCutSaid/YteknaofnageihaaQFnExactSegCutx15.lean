-- Written by a program of this session, a turned copy of the print (not by print.sh itself). Lean checks it.
import Derived.Test.YteknaofnageihaaQFnExactSegCutx0
import Derived.Test.YteknaofnageihaaQFnExactSegCutx2
import Derived.Test.YteknaofnageihaaQFnExactSegCutx3
import Derived.Test.YteknaofnageihaaQFnExactSegCutx7
import Derived.Test.YteknaofnageihaaQFnExactSegCutx8
import Derived.Test.YteknaofnageihaaQFnExactSegCutx10
import Derived.Test.YteknaofnageihaaQFnExactSegCutx11
import Derived.Test.YteknaofnageihaaQFnExactSegCutx12
import Derived.Test.YteknaofnageihaaQFnExactSegCutx14
namespace Go.Proofs.Yteknaofnageihaa.QFnExactSegCut
open Go.RowKit Go.Proofs.YteknaofnageihaaW.PrintWords Go.Proofs.YteknaofnageihaaW.PrintLast Go.Proofs.YteknaofnageihaaW.PrintMore Go.Proofs.YteknaofnageihaaLoc
attribute [local go_sem] max2_int min2_int max_two min_two max_three min_three max_four min_four   -- for this text's walks alone
set_option linter.unusedVariables false
set_option linter.unusedSimpArgs false

/-! ### laws_FnExactSegCut: function 3 -/
mutual
def laws_FnExactSegCut.j0 : Nat → List Int → Int → List (S39) → List (S39) → Bool → Option (Bool)
  | 0, _, _, _, _, _ => none
  | k + 1, x0, x1, x5, x7, x43 => if x43 = true then (some false) else ((laws_markSegPartS.f k x7 1).bind fun t179 => ((laws_heldSegPartS.f k t179.2 1).bind fun t180 => (if t180 < 0 then (some false) else (if t180 = t179.1 then ((laws_toByteS.f k x0).bind fun t181 => ((impl_SegCut.f k t181 x1).bind fun t184 => ((laws_eqSegPartS.f k t184 x5).bind fun t187 => (if t187 = true then ((laws_heldSegPartS.f k t179.2 1).bind fun t188 => (if t188 < 0 then (some false) else (if t188 = t179.1 then (some true) else (some false)))) else (some false))))) else (some false)))))
end
def laws_FnExactSegCut.f (k : Nat) (l0 : List Int) (a1 : Int) : Option (Bool) := if (l0.length : Int) > 1048576 then (some true) else ((laws_toByteS.f k l0).bind fun t159 => ((spec_SegCut.f k t159 a1).bind fun t162 => ((laws_toByteS.f k l0).bind fun t165 => ((impl_SegCut.f k t165 a1).bind fun t168 => ((laws_eqSegPartS.f k t168 t162).bind fun t171 => (if t171 = true then ((laws_toByteS.f k l0).bind fun t172 => ((laws_eqByteS.f k t165 t172).bind fun t175 => (if t175 = true then ((laws_markByteS.f k t165 1).bind fun bt176 => (if bt176.1 < 0 then (laws_FnExactSegCut.j0 k l0 a1 t162 t168 true) else ((laws_eqSegPartS.f k t168 t162).bind fun t178 => (laws_FnExactSegCut.j0 k l0 a1 t162 t168 (!t178))))) else (some false)))) else (some false)))))))
theorem heldN (k : Nat) (A0 : Option Addr) (c0 n : Nat) (l0 : List S39) (a1 r : Int) (w : World) (hn : n = l0.length) (hr0 : Kd.C k39 w A0 l0.length l0) (hc0 : n ≤ c0) (h : laws_heldSegPartS.f k l0 a1 = some r) :
    Calls Try.prog 22 #[.slice A0 n c0, .int .i64 a1] w fun e w' => e = .returned (.int .i64 r) ∧ Drawn0 w w' := by
  subst hn
  exact laws_heldSegPartS.calls k A0 c0 l0 a1 r w hr0 hc0 h
set_option maxHeartbeats 60000000 in
set_option maxRecDepth 100000 in
theorem laws_FnExactSegCut.callsT (k : Nat) (A0 : Option Addr) (c0 : Nat) (l0 : List Int) (a1 : Int) (w : World) (hr0 : Kd.C (Kd.int .u8) w A0 l0.length l0) (hc0 : l0.length ≤ c0) (h : laws_FnExactSegCut.f k l0 a1 = some true) :
    Calls Try.prog 3 #[.slice A0 l0.length c0, .int .i64 a1] w fun e w' => e = .returned (.bool true) ∧ Below w.heap.size w w' := by
  have HR0 := mk_ hr0
  have HC0 := mk_ hc0
  clear hr0 hc0
  have HB := mk_ (Below.refl w.heap.size w)
  have H := h
  unfold laws_FnExactSegCut.f at H
  clear h
  by_cases c3 : (l0.length : Int) > 1048576
  · have c3b0 : decide (1048576 < (l0.length : Int)) = true := decide_eq_true c3
    have c3b1 : decide (1048576 < l0.length) = true := decide_eq_true (by omega)
    clear c3 H
    go_enter Try.func3, Try.ntmps3
    go_wp2
    go_ret
    exact ⟨by first | rfl | (simp [errW_none, errW_some] <;> rfl) | (simp [*, errW_none, errW_some] <;> rfl), (by repeat (first | (with_reducible first | exact HB.out | apply zq7 | apply zq8 | apply zq9) | exact HB.out))⟩
  · rw [if_neg c3] at H
    have c3b0 : decide (1048576 < (l0.length : Int)) = false := decide_eq_false c3
    have c3b1 : decide (1048576 < l0.length) = false := decide_eq_false (by omega)
    clear c3
    replace H := Option.bind_eq_some_iff.mp H
    obtain ⟨t159, A40, H⟩ := H
    try dsimp only at H A40
    have A4 := mk_ A40
    clear A40
    replace H := Option.bind_eq_some_iff.mp H
    obtain ⟨t162, A50, H⟩ := H
    try dsimp only at H A50
    have A5 := mk_ A50
    clear A50
    replace H := Option.bind_eq_some_iff.mp H
    obtain ⟨t165, A60, H⟩ := H
    try dsimp only at H A60
    have A6 := mk_ A60
    clear A60
    replace H := Option.bind_eq_some_iff.mp H
    obtain ⟨t168, A70, H⟩ := H
    try dsimp only at H A70
    have A7 := mk_ A70
    clear A70
    replace H := Option.bind_eq_some_iff.mp H
    obtain ⟨t171, A80, H⟩ := H
    try dsimp only at H A80
    have A8 := mk_ A80
    clear A80
    by_cases c9 : t171 = true
    rotate_left
    · rw [if_neg c9] at H; exact absurd H (by simp)
    rw [if_pos c9] at H
    subst c9
    replace H := Option.bind_eq_some_iff.mp H
    obtain ⟨t172, A100, H⟩ := H
    try dsimp only at H A100
    have A10 := mk_ A100
    clear A100
    replace H := Option.bind_eq_some_iff.mp H
    obtain ⟨t175, A110, H⟩ := H
    try dsimp only at H A110
    have A11 := mk_ A110
    clear A110
    by_cases c12 : t175 = true
    rotate_left
    · rw [if_neg c12] at H; exact absurd H (by simp)
    rw [if_pos c12] at H
    subst c12
    replace H := Option.bind_eq_some_iff.mp H
    obtain ⟨⟨t176, t177⟩, A130, H⟩ := H
    try dsimp only at H A130
    have A13 := mk_ A130
    clear A130
    have HC14 := mk_ H
    clear H
    go_enter Try.func3, Try.ntmps3
    go_upto_region 12 with (first | (go_at_call 16; refine (laws_toByteS.calls k _ _ l0 t159 _ (Kd.C_below HR0.out (by repeat (first | (with_reducible first | exact HB.out | apply zq7 | apply zq8 | apply zq9) | exact HB.out))) HC0.out A4.out).mono ?_; rintro e wt0 ⟨vq, rfl, ho0, hb⟩; obtain ⟨Aq, cq, rfl⟩ := Kd.R_slice ho0; have HT := mk_ ho0; replace HB := mk_ (zr3 (by repeat (first | (with_reducible first | exact HB.out | apply zq7 | apply zq8 | apply zq9) | exact HB.out)) hb); clear A4 hb ho0) | (go_at_call 15; refine (spec_SegCut.calls k _ _ t159 a1 t162 _ (by repeat (first | exact (Kd.R_reads' HT.out).2.2 | (with_reducible refine Kd.C_alloc ?_ _) | (with_reducible refine Kd.C_drewN ?_ _) | (with_reducible refine Kd.C_drew ?_))) (Kd.R_reads' HT.out).2.1 A5.out).mono ?_; rintro e wp ⟨vp, rfl, ho0, hb⟩; obtain ⟨Ap, cp, rfl⟩ := Kd.S_slice ho0; have HW := mk_ (Kd.S_lower (Kd.S_mono (ok' := fun k_ => k_ < wp.heap.size) (Kd.S_bound ho0) (fun _ h_ => h_.2.2.1)) (zr2 (by repeat (first | (with_reducible first | exact HB.out | apply zq7 | apply zq8 | apply zq9) | exact HB.out)))); have HN1 := mk_ (Nat.le_refl wp.heap.size); replace HB := mk_ (zr3 (by repeat (first | (with_reducible first | exact HB.out | apply zq7 | apply zq8 | apply zq9) | exact HB.out)) hb); clear A5 hb ho0 HT) | (go_at_call 16; refine (laws_toByteS.calls k _ _ l0 t165 _ (Kd.C_below HR0.out (by repeat (first | (with_reducible first | exact HB.out | apply zq7 | apply zq8 | apply zq9) | exact HB.out))) HC0.out A6.out).mono ?_; rintro e wx ⟨vq, rfl, ho0, hb⟩; obtain ⟨Aq, cq, rfl⟩ := Kd.R_slice ho0; have HX := mk_ (R_RR (Kd.R_lower (Kd.R_mono (ok' := fun k_ => wp.heap.size ≤ k_ ∧ k_ < wx.heap.size) (Kd.R_bound ho0) (fun k_ h_ => ⟨by have := h_.2.1; exact this, h_.2.2.1⟩)) (zr2 (by repeat (first | (with_reducible first | exact HB.out | apply zq7 | apply zq8 | apply zq9) | exact HB.out))))); replace HW := mk_ (Kd.S_below (by (with_reducible repeat (first | apply Kd.S_alloc | apply Kd.S_drewN | apply Kd.S_drew)); exact HW.out) hb); have HN2 := mk_ (show wp.heap.size ≤ wx.heap.size from hb.size); replace HB := mk_ (zr3 (by repeat (first | (with_reducible first | exact HB.out | apply zq7 | apply zq8 | apply zq9) | exact HB.out)) hb); clear A6 hb ho0) | (go_at_call 17; refine (impl_SegCut.calls k _ _ t165 a1 t168 _ (by repeat (first | exact (RR_reads' HX.out).2.2 | (with_reducible refine Kd.C_alloc ?_ _) | (with_reducible refine Kd.C_drewN ?_ _) | (with_reducible refine Kd.C_drew ?_))) (RR_reads' HX.out).2.1 A7.out).mono ?_; rintro e wg ⟨vg, rfl, ho0, hb⟩; obtain ⟨Ag, cg, rfl⟩ := PC_slice ho0; have HG := mk_ (PC_lower (PC_mono (ok' := fun k_ => wx.heap.size ≤ k_) ho0 (fun k_ h_ => by exact h_)) (zr2 (by repeat (first | (with_reducible first | exact HB.out | apply zq7 | apply zq8 | apply zq9) | exact HB.out)))); replace HW := mk_ (Kd.S_below (by (with_reducible repeat (first | apply Kd.S_alloc | apply Kd.S_drewN | apply Kd.S_drew)); exact HW.out) hb); replace HX := mk_ (RR_below (by (with_reducible repeat (first | apply RR_alloc | apply RR_drewN | apply RR_drew)); exact HX.out) hb); replace HB := mk_ (zr3 (by repeat (first | (with_reducible first | exact HB.out | apply zq7 | apply zq8 | apply zq9) | exact HB.out)) hb); clear A7 hb ho0) | (go_at_call 18; refine (laws_eqSegPartS.calls k _ _ t168 _ _ t162 true _ (by repeat (first | exact (C39_C HG.out).2.2 | (with_reducible refine Kd.C_alloc ?_ _) | (with_reducible refine Kd.C_drewN ?_ _) | (with_reducible refine Kd.C_drew ?_))) (C39_C HG.out).2.1 (by repeat (first | exact (Kd.S_reads' HW.out).2.2 | (with_reducible refine Kd.C_alloc ?_ _) | (with_reducible refine Kd.C_drewN ?_ _) | (with_reducible refine Kd.C_drew ?_))) (Kd.S_reads' HW.out).2.1 A8.out).mono ?_; rintro e we ⟨rfl, hb⟩; replace HW := mk_ (Kd.S_below (by (with_reducible repeat (first | apply Kd.S_alloc | apply Kd.S_drewN | apply Kd.S_drew)); exact HW.out) hb); replace HX := mk_ (RR_below (by (with_reducible repeat (first | apply RR_alloc | apply RR_drewN | apply RR_drew)); exact HX.out) hb); replace HG := mk_ (PC_below (by (with_reducible repeat (first | apply C39_alloc | apply C39_drewN | apply C39_drew)); exact HG.out) hb); replace HB := mk_ (zr3 (by repeat (first | (with_reducible first | exact HB.out | apply zq7 | apply zq8 | apply zq9) | exact HB.out)) hb); clear A8 hb) | (go_at_call 16; refine (laws_toByteS.calls k _ _ l0 t172 _ (Kd.C_below HR0.out (by repeat (first | (with_reducible first | exact HB.out | apply zq7 | apply zq8 | apply zq9) | exact HB.out))) HC0.out A10.out).mono ?_; rintro e wt1 ⟨vq, rfl, ho0, hb⟩; obtain ⟨Aq, cq, rfl⟩ := Kd.R_slice ho0; have HT := mk_ ho0; replace HW := mk_ (Kd.S_below (by (with_reducible repeat (first | apply Kd.S_alloc | apply Kd.S_drewN | apply Kd.S_drew)); exact HW.out) hb); replace HX := mk_ (RR_below (by (with_reducible repeat (first | apply RR_alloc | apply RR_drewN | apply RR_drew)); exact HX.out) hb); replace HG := mk_ (PC_below (by (with_reducible repeat (first | apply C39_alloc | apply C39_drewN | apply C39_drew)); exact HG.out) hb); replace HB := mk_ (zr3 (by repeat (first | (with_reducible first | exact HB.out | apply zq7 | apply zq8 | apply zq9) | exact HB.out)) hb); clear A10 hb ho0) | (go_at_call 19; refine (laws_eqByteS.calls k _ _ t165 _ _ t172 true _ (by repeat (first | exact (RR_reads' HX.out).2.2 | (with_reducible refine Kd.C_alloc ?_ _) | (with_reducible refine Kd.C_drewN ?_ _) | (with_reducible refine Kd.C_drew ?_))) (RR_reads' HX.out).2.1 (by repeat (first | exact (Kd.R_reads' HT.out).2.2 | (with_reducible refine Kd.C_alloc ?_ _) | (with_reducible refine Kd.C_drewN ?_ _) | (with_reducible refine Kd.C_drew ?_))) (Kd.R_reads' HT.out).2.1 A11.out).mono ?_; rintro e w' ⟨rfl, ⟨nd, rfl⟩⟩; clear HT A11) | (go_at_call 20; refine (laws_markByteS.calls k _ _ t165 1 t176 t177 w _ (by repeat (first | (with_reducible first | exact HB.out | apply zq7 | apply zq8 | apply zq9) | exact HB.out)) (RR_tight rfl (by (with_reducible repeat (first | apply RR_alloc | apply RR_drewN | apply RR_drew)); exact HX.out)) A13.out).mono ?_; rintro e wm ⟨rfl, hy0, hb, hkp⟩; replace HW := mk_ (Kd.S_kept (by (with_reducible repeat (first | apply Kd.S_alloc | apply Kd.S_drewN | apply Kd.S_drew)); exact HW.out) hkp (fun k_ h_ e_ => by have := (RR_ok HX.out k_ e_.symm).1; omega)); replace HG := mk_ (PC_kept (by (with_reducible repeat (first | apply C39_alloc | apply C39_drewN | apply C39_drew)); exact HG.out) hkp (fun k_ h_ e_ => by have := (RR_ok HX.out k_ e_.symm).2; omega)); replace HB := mk_ hb; clear HX hb hkp hy0 A13))
    (try simp only [Act.put, List.setIfInBounds_toArray, List.set_cons_zero, List.set_cons_succ])
    go_cut [43] (fun v43 wc => ∃ (kq : Nat) (x43_13 : Bool), v43 = .bool x43_13 ∧ Aside0 (laws_FnExactSegCut.j0 kq l0 a1 t162 t168 x43_13 = some true) ∧ Aside0 (Kd.S k39 39 wc w.heap.size (fun k_ => k_ < wp.heap.size) (.slice Ap t162.length cp) t162) ∧ Aside0 (C39 wc w.heap.size (fun k_ => wx.heap.size ≤ k_) (.slice Ag t168.length cg) t168) ∧ Aside0 (Below w.heap.size w wc))
    case first =>
      have H := HC14.out
      clear HC14
      by_cases c27 : t176 < 0
      · rw [if_pos c27] at H
        have c27b0 : decide (t176 < 0) = true := decide_eq_true c27
        clear c27
        have H' := mk_ H
        clear H
        go_wp2
        go_meet
        case rel => exact ⟨_, true, (by first | rfl | (simp; done) | (simp [*]; done)), H', ⟨(by (with_reducible repeat (first | apply Kd.S_alloc | apply Kd.S_drewN | apply Kd.S_drew)); exact HW.out)⟩, ⟨(by (with_reducible repeat (first | apply C39_alloc | apply C39_drewN | apply C39_drew)); exact HG.out)⟩, ⟨(by repeat (first | (with_reducible first | exact HB.out | apply zq7 | apply zq8 | apply zq9) | exact HB.out))⟩⟩
      · rw [if_neg c27] at H
        have c27b0 : decide (t176 < 0) = false := decide_eq_false c27
        clear c27
        replace H := Option.bind_eq_some_iff.mp H
        obtain ⟨t178, A280, H⟩ := H
        try dsimp only at H A280
        have A28 := mk_ A280
        clear A280
        have H' := mk_ H
        clear H
        go_wp2_with (first | (go_at_call 18; refine (laws_eqSegPartS.calls k _ _ t168 _ _ t162 t178 _ (by repeat (first | exact (C39_C HG.out).2.2 | (with_reducible refine Kd.C_alloc ?_ _) | (with_reducible refine Kd.C_drewN ?_ _) | (with_reducible refine Kd.C_drew ?_))) (C39_C HG.out).2.1 (by repeat (first | exact (Kd.S_reads' HW.out).2.2 | (with_reducible refine Kd.C_alloc ?_ _) | (with_reducible refine Kd.C_drewN ?_ _) | (with_reducible refine Kd.C_drew ?_))) (Kd.S_reads' HW.out).2.1 A28.out).mono ?_; rintro e we ⟨rfl, hb⟩; replace HW := mk_ (Kd.S_below (by (with_reducible repeat (first | apply Kd.S_alloc | apply Kd.S_drewN | apply Kd.S_drew)); exact HW.out) hb); replace HG := mk_ (PC_below (by (with_reducible repeat (first | apply C39_alloc | apply C39_drewN | apply C39_drew)); exact HG.out) hb); replace HB := mk_ (zr3 (by repeat (first | (with_reducible first | exact HB.out | apply zq7 | apply zq8 | apply zq9) | exact HB.out)) hb); clear A28 hb))
        go_meet
        case rel => exact ⟨_, (!t178), (by first | rfl | (simp; done) | (simp [*]; done)), H', ⟨(by (with_reducible repeat (first | apply Kd.S_alloc | apply Kd.S_drewN | apply Kd.S_drew)); exact HW.out)⟩, ⟨(by (with_reducible repeat (first | apply C39_alloc | apply C39_drewN | apply C39_drew)); exact HG.out)⟩, ⟨(by repeat (first | (with_reducible first | exact HB.out | apply zq7 | apply zq8 | apply zq9) | exact HB.out))⟩⟩
    case rest =>
      clear HC14 HB HW HG
      obtain ⟨kq, x43_13, rfl, HA, HW, HG, HB⟩ := hcut
      cases kq with
      | zero => exact absurd HA.out (by simp [laws_FnExactSegCut.j0])
      | succ kj =>
        have H := HA.out
        clear HA
        simp only [laws_FnExactSegCut.j0] at H
        by_cases c30 : x43_13 = true
        · subst c30
          rw [if_pos rfl] at H
          exact absurd H (by simp)
        replace c30 := Bool.eq_false_iff.mpr c30
        subst c30
        rw [if_neg (show ¬ (false = true) by decide)] at H
        replace H := Option.bind_eq_some_iff.mp H
        obtain ⟨⟨t179, gL⟩, A310, H⟩ := H
        try dsimp only at H A310
        have A31 := mk_ A310
        clear A310
        replace H := Option.bind_eq_some_iff.mp H
        obtain ⟨t180, A320, H⟩ := H
        try dsimp only at H A320
        have A32 := mk_ A320
        clear A320
        by_cases c33 : t180 < 0
        · rw [if_pos c33] at H; exact absurd H (by simp)
        rw [if_neg c33] at H
        have c33b0 : decide (t180 < 0) = false := decide_eq_false c33
        clear c33
        by_cases c35 : t180 = t179
        rotate_left
        · rw [if_neg c35] at H; exact absurd H (by simp)
        rw [if_pos c35] at H
        have c35b0 : (t180 == t179) = true := beq_iff_eq.mpr c35
        have c35b1 : (t180 != t179) = false := bne_eq_false_iff_eq.mpr c35
        clear c35
        replace H := Option.bind_eq_some_iff.mp H
        obtain ⟨t181, A360, H⟩ := H
        try dsimp only at H A360
        have A36 := mk_ A360
        clear A360
        replace H := Option.bind_eq_some_iff.mp H
        obtain ⟨t184, A370, H⟩ := H
        try dsimp only at H A370
        have A37 := mk_ A370
        clear A370
        replace H := Option.bind_eq_some_iff.mp H
        obtain ⟨t187, A380, H⟩ := H
        try dsimp only at H A380
        have A38 := mk_ A380
        clear A380
        by_cases c39 : t187 = true
        rotate_left
        · rw [if_neg c39] at H; exact absurd H (by simp)
        rw [if_pos c39] at H
        subst c39
        replace H := Option.bind_eq_some_iff.mp H
        obtain ⟨t188, A400, H⟩ := H
        try dsimp only at H A400
        have A40 := mk_ A400
        clear A400
        by_cases c41 : t188 < 0
        · rw [if_pos c41] at H; exact absurd H (by simp)
        rw [if_neg c41] at H
        have c41b0 : decide (t188 < 0) = false := decide_eq_false c41
        clear c41
        by_cases c48 : t188 = t179
        rotate_left
        · rw [if_neg c48] at H; exact absurd H (by simp)
        rw [if_pos c48] at H
        have c48b0 : (t188 == t179) = true := beq_iff_eq.mpr c48
        have c48b1 : (t188 != t179) = false := bne_eq_false_iff_eq.mpr c48
        clear c48
        have HE := mk_ H
        clear H
        go_wp2_with (first | (go_at_call 21; refine (laws_markSegPartS.calls kj (fun k_ => wx.heap.size ≤ k_) _ t168 1 t179 gL w _ (by repeat (first | (with_reducible first | exact HB.out | apply zq7 | apply zq8 | apply zq9) | exact HB.out)) (by (with_reducible repeat (first | apply C39_alloc | apply C39_drewN | apply C39_drew)); exact HG.out) A31.out).mono ?_; rintro e wm2 ⟨rfl, hg_, hb, hkp⟩; replace HW := mk_ (Kd.S_kept (by (with_reducible repeat (first | apply Kd.S_alloc | apply Kd.S_drewN | apply Kd.S_drew)); exact HW.out) hkp (fun k_ h_ e_ => by have := HN2.out; omega)); replace HG := mk_ hg_; replace HB := mk_ hb; clear A31 hb hkp hg_) | (go_at_call 22; refine (heldN kj _ _ _ gL 1 t180 _ (C39_C HG.out).1 (by repeat (first | exact (C39_C HG.out).2.2 | (with_reducible refine Kd.C_alloc ?_ _) | (with_reducible refine Kd.C_drewN ?_ _) | (with_reducible refine Kd.C_drew ?_))) (C39_C HG.out).2.1 A32.out).mono ?_; rintro e w' ⟨rfl, ⟨nd, rfl⟩⟩; clear A32) | (go_at_call 16; refine (laws_toByteS.calls kj _ _ l0 t181 _ (Kd.C_below HR0.out (by repeat (first | (with_reducible first | exact HB.out | apply zq7 | apply zq8 | apply zq9) | exact HB.out))) HC0.out A36.out).mono ?_; rintro e wt2 ⟨vq, rfl, ho0, hb⟩; obtain ⟨Aq, cq, rfl⟩ := Kd.R_slice ho0; have HT := mk_ ho0; replace HW := mk_ (Kd.S_below (by (with_reducible repeat (first | apply Kd.S_alloc | apply Kd.S_drewN | apply Kd.S_drew)); exact HW.out) hb); replace HG := mk_ (PC_below (by (with_reducible repeat (first | apply C39_alloc | apply C39_drewN | apply C39_drew)); exact HG.out) hb); replace HB := mk_ (zr3 (by repeat (first | (with_reducible first | exact HB.out | apply zq7 | apply zq8 | apply zq9) | exact HB.out)) hb); clear A36 hb ho0) | (go_at_call 17; refine (impl_SegCut.calls kj _ _ t181 a1 t184 _ (by repeat (first | exact (Kd.R_reads' HT.out).2.2 | (with_reducible refine Kd.C_alloc ?_ _) | (with_reducible refine Kd.C_drewN ?_ _) | (with_reducible refine Kd.C_drew ?_))) (Kd.R_reads' HT.out).2.1 A37.out).mono ?_; rintro e wg2 ⟨vg2, rfl, ho0, hb⟩; obtain ⟨Ag2, cg2, rfl⟩ := PC_slice ho0; have HG2 := mk_ ho0; replace HW := mk_ (Kd.S_below (by (with_reducible repeat (first | apply Kd.S_alloc | apply Kd.S_drewN | apply Kd.S_drew)); exact HW.out) hb); replace HG := mk_ (PC_below (by (with_reducible repeat (first | apply C39_alloc | apply C39_drewN | apply C39_drew)); exact HG.out) hb); replace HB := mk_ (zr3 (by repeat (first | (with_reducible first | exact HB.out | apply zq7 | apply zq8 | apply zq9) | exact HB.out)) hb); clear A37 hb ho0 HT) | (go_at_call 18; refine (laws_eqSegPartS.calls kj _ _ t184 _ _ t162 true _ (by repeat (first | exact (C39_C HG2.out).2.2 | (with_reducible refine Kd.C_alloc ?_ _) | (with_reducible refine Kd.C_drewN ?_ _) | (with_reducible refine Kd.C_drew ?_))) (C39_C HG2.out).2.1 (by repeat (first | exact (Kd.S_reads' HW.out).2.2 | (with_reducible refine Kd.C_alloc ?_ _) | (with_reducible refine Kd.C_drewN ?_ _) | (with_reducible refine Kd.C_drew ?_))) (Kd.S_reads' HW.out).2.1 A38.out).mono ?_; rintro e we ⟨rfl, hb⟩; replace HW := mk_ (Kd.S_below (by (with_reducible repeat (first | apply Kd.S_alloc | apply Kd.S_drewN | apply Kd.S_drew)); exact HW.out) hb); replace HG := mk_ (PC_below (by (with_reducible repeat (first | apply C39_alloc | apply C39_drewN | apply C39_drew)); exact HG.out) hb); replace HB := mk_ (zr3 (by repeat (first | (with_reducible first | exact HB.out | apply zq7 | apply zq8 | apply zq9) | exact HB.out)) hb); clear A38 hb HG2) | (go_at_call 22; refine (heldN kj _ _ _ gL 1 t188 _ (C39_C HG.out).1 (by repeat (first | exact (C39_C HG.out).2.2 | (with_reducible refine Kd.C_alloc ?_ _) | (with_reducible refine Kd.C_drewN ?_ _) | (with_reducible refine Kd.C_drew ?_))) (C39_C HG.out).2.1 A40.out).mono ?_; rintro e w' ⟨rfl, ⟨nd, rfl⟩⟩; clear A40))
        go_ret
        exact ⟨by first | rfl | (simp [errW_none, errW_some] <;> rfl) | (simp [*, errW_none, errW_some] <;> rfl), (by repeat (first | (with_reducible first | exact HB.out | apply zq7 | apply zq8 | apply zq9) | exact HB.out))⟩
/-- THE ONE PURE STATEMENT of laws_FnExactSegCut: yours. -/
def laws_FnExactSegCut.Pure : Prop := ∀ (l0 : List Int) (a1 : Int), l0.length ≤ maxLen → l0.length * 1 ≤ 140737488351232 → (∀ x ∈ l0, (Lit.int .u8 x).wf = true) → (Lit.int .i64 a1).wf = true → ∃ k, laws_FnExactSegCut.f k l0 a1 = some true
theorem laws_FnExactSegCut.walk (P : laws_FnExactSegCut.Pure) (a0 : Option Addr) (len0 cap0 : Nat) (z0 : List Int) (a1 : Int) (w : World) (w0 : (a0 = none ∧ len0 = 0 ∧ cap0 = 0 ∧ z0 = []) ∨ ∃ x, a0 = some x ∧ len0 ≤ cap0 ∧ cap0 ≤ maxLen ∧ z0.length = cap0 ∧ (∀ i, i < z0.length → w.cell? (x.add i) = some (.int .u8 (z0.getD i 0))) ∧ ∀ n ∈ z0, (Lit.int .u8 n).wf = true) (y0 : len0 * 1 ≤ 140737488351232) (w1 : (Lit.int .i64 a1).wf = true) :
    Calls Try.prog 3 #[.slice a0 len0 cap0, .int .i64 a1] w fun e w' => e = .returned (.bool true) ∧ Below w.heap.size w w' := by
 obtain ⟨l0, rfl, hr0, hm0, hw0, hc0⟩ := ReadsInt.ofRowC w0
 obtain ⟨k, h⟩ := P l0 a1 hm0 y0 hw0 w1
 refine (laws_FnExactSegCut.callsT k _ _ l0 a1 w (Kd.C_of_reads (d := (0 : Int)) (h1 := fun _ => rfl) hr0) hc0 h).mono ?_
 rintro e w' ⟨rfl, hd⟩
 exact ⟨rfl, hd⟩

end Go.Proofs.Yteknaofnageihaa.QFnExactSegCut
