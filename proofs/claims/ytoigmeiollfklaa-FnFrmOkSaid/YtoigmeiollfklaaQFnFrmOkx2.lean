-- Written by a program of this session, a turned copy of the print (not by print.sh itself). Lean checks it.
import Derived.Test.YtoigmeiollfklaaQFnFrmOkx0
import Derived.Test.YtoigmeiollfklaaQFnFrmOkx1
namespace Go.Proofs.Ytoigmeiollfklaa.QFnFrmOk
open Go.RowKit Go.Proofs.YtoigmeiollfklaaW.PrintWords Go.Proofs.YtoigmeiollfklaaW.PrintLast Go.Proofs.YtoigmeiollfklaaW.PrintMore Go.Proofs.YtoigmeiollfklaaLoc
attribute [local go_sem] max2_int min2_int max_two min_two max_three min_three max_four min_four   -- for this text's walks alone
set_option linter.unusedVariables false
set_option linter.unusedSimpArgs false

/-! ### spec_FrmOk: function 39 -/
def spec_FrmOk.f (k : Nat) (a0_0 : Int) (a0_1 : Int) (a0_2 : Int) (a0_3 : Bool) (a0_4 : Bool) (a0_5 : Int) (a0_6 : Int) (a0_7 : Int) (l0_8 : List Int) : Option (Bool) := if a0_0 = 1 then ((spec_l1In.f a0_1 0 7).bind fun t112 => (if t112 = true then ((spec_l1In.f a0_2 0 7).bind fun t113 => (if t113 = true then (if a0_3 = true then (some false) else (if a0_5 = 0 then ((spec_l2Seg.f k a0_0 a0_1 a0_2 a0_3 a0_4 a0_5 a0_6 a0_7 l0_8).bind fun t114 => (some t114)) else (some false))) else (some false))) else (some false))) else (if a0_0 = 2 then (if a0_1 = 0 then ((spec_l1In.f a0_2 0 7).bind fun t115 => (if t115 = true then (if a0_3 = true then (if a0_4 = true then (some false) else ((spec_l1In.f a0_5 0 2).bind fun t116 => (if t116 = true then (if a0_6 = 0 then (if a0_7 = 0 then (some ((l0_8.length : Int) == 0)) else (some false)) else (some false)) else (some false)))) else ((spec_l1In.f a0_5 0 2).bind fun t117 => (if t117 = true then (if a0_6 = 0 then (if a0_7 = 0 then (some ((l0_8.length : Int) == 0)) else (some false)) else (some false)) else (some false)))) else (some false))) else (some false)) else (if a0_0 = 3 then (if a0_1 = 0 then (if a0_2 = 0 then (if a0_3 = true then (some false) else (if a0_4 = true then (some false) else (if a0_5 = 0 then ((spec_l2Seg.f k a0_0 a0_1 a0_2 a0_3 a0_4 a0_5 a0_6 a0_7 l0_8).bind fun t118 => (some t118)) else (some false)))) else (some false)) else (some false)) else (if a0_0 = 4 then (if a0_1 = 0 then (if a0_2 = 0 then (if a0_3 = true then (some false) else (if a0_4 = true then (some false) else (if a0_5 = 0 then (if a0_6 = 0 then ((spec_l1In.f a0_7 1 255).bind fun t119 => (if t119 = true then (some ((l0_8.length : Int) == 0)) else (some false))) else (some false)) else (some false)))) else (some false)) else (some false)) else (some false))))
theorem spec_FrmOk.mono : ∀ a0 a1 a2 a3 a4 a5 a6 a7 a8 k, LeO (spec_FrmOk.f k a0 a1 a2 a3 a4 a5 a6 a7 a8) (spec_FrmOk.f (k + 1) a0 a1 a2 a3 a4 a5 a6 a7 a8) := by
  intro a0 a1 a2 a3 a4 a5 a6 a7 a8 k
  unfold spec_FrmOk.f
  repeat' first
      | (with_reducible exact spec_l2Seg.mono _ _ _ _ _ _ _ _ _ _)
      | (with_reducible exact LeO.refl _)
      | (with_reducible exact LeO.none _)
      | (with_reducible refine LeO.ite ?_ ?_)
      | (with_reducible refine LeO.bind ?_ (fun _ => ?_))
      | exact spec_l2Seg.mono _ _ _ _ _ _ _ _ _ _
      | exact LeO.none _
      | refine LeO.ite ?_ ?_
      | refine LeO.bind ?_ (fun _ => ?_)
set_option maxHeartbeats 60000000 in
set_option maxRecDepth 100000 in
theorem spec_FrmOk.calls (k : Nat) (a0_0 : Int) (a0_1 : Int) (a0_2 : Int) (a0_3 : Bool) (a0_4 : Bool) (a0_5 : Int) (a0_6 : Int) (a0_7 : Int) (A0_8 : Option Addr) (c0_8 : Nat) (l0_8 : List Int) (r : Bool) (w : World) (hr0_8 : Kd.C (Kd.int .u8) w A0_8 l0_8.length l0_8) (hc0_8 : l0_8.length ≤ c0_8) (h : spec_FrmOk.f k a0_0 a0_1 a0_2 a0_3 a0_4 a0_5 a0_6 a0_7 l0_8 = some r) :
    Calls Try.prog 39 #[.agg #[.int .i64 a0_0, .int .i64 a0_1, .int .i64 a0_2, .bool a0_3, .bool a0_4, .int .i64 a0_5, .int .i64 a0_6, .int .i64 a0_7, .slice A0_8 l0_8.length c0_8]] w fun e w' => e = .returned (.bool r) ∧ Below w.heap.size w w' := by
  have HR0_8 := Aside0.mk hr0_8
  have HC0_8 := Aside0.mk hc0_8
  clear hr0_8 hc0_8
  have H : (if a0_0 = 1 then ((spec_l1In.f a0_1 0 7).bind fun t112 => (if t112 = true then ((spec_l1In.f a0_2 0 7).bind fun t113 => (if t113 = true then (if a0_3 = true then (some false) else (if a0_5 = 0 then ((spec_l2Seg.f k a0_0 a0_1 a0_2 a0_3 a0_4 a0_5 a0_6 a0_7 l0_8).bind fun t114 => (some t114)) else (some false))) else (some false))) else (some false))) else (if a0_0 = 2 then (if a0_1 = 0 then ((spec_l1In.f a0_2 0 7).bind fun t115 => (if t115 = true then (if a0_3 = true then (if a0_4 = true then (some false) else ((spec_l1In.f a0_5 0 2).bind fun t116 => (if t116 = true then (if a0_6 = 0 then (if a0_7 = 0 then (some ((l0_8.length : Int) == 0)) else (some false)) else (some false)) else (some false)))) else ((spec_l1In.f a0_5 0 2).bind fun t117 => (if t117 = true then (if a0_6 = 0 then (if a0_7 = 0 then (some ((l0_8.length : Int) == 0)) else (some false)) else (some false)) else (some false)))) else (some false))) else (some false)) else (if a0_0 = 3 then (if a0_1 = 0 then (if a0_2 = 0 then (if a0_3 = true then (some false) else (if a0_4 = true then (some false) else (if a0_5 = 0 then ((spec_l2Seg.f k a0_0 a0_1 a0_2 a0_3 a0_4 a0_5 a0_6 a0_7 l0_8).bind fun t118 => (some t118)) else (some false)))) else (some false)) else (some false)) else (if a0_0 = 4 then (if a0_1 = 0 then (if a0_2 = 0 then (if a0_3 = true then (some false) else (if a0_4 = true then (some false) else (if a0_5 = 0 then (if a0_6 = 0 then ((spec_l1In.f a0_7 1 255).bind fun t119 => (if t119 = true then (some ((l0_8.length : Int) == 0)) else (some false))) else (some false)) else (some false)))) else (some false)) else (some false)) else (some false))))) = some r := h
  clear h
  by_cases c2 : a0_0 = 1
  · rw [if_pos c2] at H
    have c2b0 : (a0_0 == 1) = true := beq_iff_eq.mpr c2
    have c2b1 : (a0_0 != 1) = false := bne_eq_false_iff_eq.mpr c2
    try dsimp only at H
    clear c2
    replace H := Option.bind_eq_some_iff.mp H
    obtain ⟨t112, A30, H⟩ := H
    try dsimp only at H
    have A3 := mk_ A30
    clear A30
    by_cases c4 : t112 = true
    rotate_left
    · replace c4 := Bool.eq_false_iff.mpr c4
      subst c4
      rw [if_neg Bool.false_ne_true] at H
      try dsimp only at H
      obtain rfl := Option.some.inj H
      have HL := mk_ (Lok.start w)
      go_enter Try.func39, Try.ntmps39
      go_wp2_with (first | ((with_reducible refine gate_dst (N := 9) rfl ?_); (with_reducible refine gate_callee (f := 44) rfl ?_); refine goesL_ (some 9) rfl rfl Try.func44 (by kernel_rfl) rfl #[.int .i64 a0_1, .int .i64 0, .int .i64 7] rfl (by (try simp only [List.map_toArray, List.map_cons, List.map_nil]); first | done | rfl) ?_; (with_reducible refine (spec_l1In.calls a0_1 0 7 false _ A3.out).mono ?_); rintro e w_ ⟨rfl, hb_⟩; refine ⟨_, rfl, ?_⟩; replace HL := mk_ (HL.out.drawn hb_); clear hb_) | ((with_reducible refine gate_gd rfl ?_); first | ((with_reducible refine gd_on rfl ?_ ?_); rfl; dsimp only) | ((with_reducible refine gd_off rfl ?_ ?_); rfl)) | ((with_reducible refine gate_dst (N := 1) rfl ?_); refine loc_box rfl rfl (by first | (go_simp; done) | (go_simp; rfl)) HL.out ?_; intro gb1 w_ HL_; replace HL := mk_ HL_; clear HL_) | ((with_reducible refine gate_ld0 (t := 72) rfl ?_); refine loc_load (n := 9) rfl rfl (by kernel_rfl) rfl (by kernel_rfl) HL.out (by with_reducible repeat (first | exact Sel.done | apply Sel.take | apply Sel.skip | apply Get.here | apply Get.next)) ?_) | ((with_reducible refine gate_ld0 rfl ?_); refine loc_load1 rfl rfl (by kernel_rfl) rfl HL.out (by with_reducible repeat (first | exact Sel.done | apply Sel.take | apply Sel.skip | apply Get.here | apply Get.next)) ?_) | ((with_reducible refine gate_st0 rfl ?_); refine loc_store rfl rfl rfl (by first | (go_simp; done) | (go_simp; rfl)) (by kernel_rfl) (by kernel_rfl) HL.out (by with_reducible repeat (first | exact Spl.done | apply Spl.put | apply Spl.skip | apply Upd.here | apply Upd.next)) ?_; intro w_ HL_; replace HL := mk_ HL_; clear HL_))
      go_ret
      exact ⟨by first | rfl | (simp [errW_none, errW_some] <;> rfl) | (simp [*, errW_none, errW_some] <;> rfl), HL.out.bel⟩
    subst c4
    rw [if_pos rfl] at H
    try dsimp only at H
    replace H := Option.bind_eq_some_iff.mp H
    obtain ⟨t113, A50, H⟩ := H
    try dsimp only at H
    have A5 := mk_ A50
    clear A50
    by_cases c6 : t113 = true
    rotate_left
    · replace c6 := Bool.eq_false_iff.mpr c6
      subst c6
      rw [if_neg Bool.false_ne_true] at H
      try dsimp only at H
      obtain rfl := Option.some.inj H
      have HL := mk_ (Lok.start w)
      go_enter Try.func39, Try.ntmps39
      go_wp2_with (first | ((with_reducible refine gate_dst (N := 9) rfl ?_); (with_reducible refine gate_callee (f := 44) rfl ?_); refine goesL_ (some 9) rfl rfl Try.func44 (by kernel_rfl) rfl #[.int .i64 a0_1, .int .i64 0, .int .i64 7] rfl (by (try simp only [List.map_toArray, List.map_cons, List.map_nil]); first | done | rfl) ?_; (with_reducible refine (spec_l1In.calls a0_1 0 7 true _ A3.out).mono ?_); rintro e w_ ⟨rfl, hb_⟩; refine ⟨_, rfl, ?_⟩; replace HL := mk_ (HL.out.drawn hb_); clear hb_) | ((with_reducible refine gate_dst (N := 13) rfl ?_); (with_reducible refine gate_callee (f := 44) rfl ?_); refine goesL_ (some 13) rfl rfl Try.func44 (by kernel_rfl) rfl #[.int .i64 a0_2, .int .i64 0, .int .i64 7] rfl (by (try simp only [List.map_toArray, List.map_cons, List.map_nil]); first | done | rfl) ?_; (with_reducible refine (spec_l1In.calls a0_2 0 7 false _ A5.out).mono ?_); rintro e w_ ⟨rfl, hb_⟩; refine ⟨_, rfl, ?_⟩; replace HL := mk_ (HL.out.drawn hb_); clear hb_) | ((with_reducible refine gate_gd rfl ?_); first | ((with_reducible refine gd_on rfl ?_ ?_); rfl; dsimp only) | ((with_reducible refine gd_off rfl ?_ ?_); rfl)) | ((with_reducible refine gate_dst (N := 1) rfl ?_); refine loc_box rfl rfl (by first | (go_simp; done) | (go_simp; rfl)) HL.out ?_; intro gb1 w_ HL_; replace HL := mk_ HL_; clear HL_) | ((with_reducible refine gate_ld0 (t := 72) rfl ?_); refine loc_load (n := 9) rfl rfl (by kernel_rfl) rfl (by kernel_rfl) HL.out (by with_reducible repeat (first | exact Sel.done | apply Sel.take | apply Sel.skip | apply Get.here | apply Get.next)) ?_) | ((with_reducible refine gate_ld0 rfl ?_); refine loc_load1 rfl rfl (by kernel_rfl) rfl HL.out (by with_reducible repeat (first | exact Sel.done | apply Sel.take | apply Sel.skip | apply Get.here | apply Get.next)) ?_) | ((with_reducible refine gate_st0 rfl ?_); refine loc_store rfl rfl rfl (by first | (go_simp; done) | (go_simp; rfl)) (by kernel_rfl) (by kernel_rfl) HL.out (by with_reducible repeat (first | exact Spl.done | apply Spl.put | apply Spl.skip | apply Upd.here | apply Upd.next)) ?_; intro w_ HL_; replace HL := mk_ HL_; clear HL_))
      go_ret
      exact ⟨by first | rfl | (simp [errW_none, errW_some] <;> rfl) | (simp [*, errW_none, errW_some] <;> rfl), HL.out.bel⟩
    subst c6
    rw [if_pos rfl] at H
    try dsimp only at H
    by_cases c7 : a0_3 = true
    · subst c7
      rw [if_pos rfl] at H
      try dsimp only at H
      obtain rfl := Option.some.inj H
      have HL := mk_ (Lok.start w)
      go_enter Try.func39, Try.ntmps39
      go_wp2_with (first | ((with_reducible refine gate_dst (N := 9) rfl ?_); (with_reducible refine gate_callee (f := 44) rfl ?_); refine goesL_ (some 9) rfl rfl Try.func44 (by kernel_rfl) rfl #[.int .i64 a0_1, .int .i64 0, .int .i64 7] rfl (by (try simp only [List.map_toArray, List.map_cons, List.map_nil]); first | done | rfl) ?_; (with_reducible refine (spec_l1In.calls a0_1 0 7 true _ A3.out).mono ?_); rintro e w_ ⟨rfl, hb_⟩; refine ⟨_, rfl, ?_⟩; replace HL := mk_ (HL.out.drawn hb_); clear hb_) | ((with_reducible refine gate_dst (N := 13) rfl ?_); (with_reducible refine gate_callee (f := 44) rfl ?_); refine goesL_ (some 13) rfl rfl Try.func44 (by kernel_rfl) rfl #[.int .i64 a0_2, .int .i64 0, .int .i64 7] rfl (by (try simp only [List.map_toArray, List.map_cons, List.map_nil]); first | done | rfl) ?_; (with_reducible refine (spec_l1In.calls a0_2 0 7 true _ A5.out).mono ?_); rintro e w_ ⟨rfl, hb_⟩; refine ⟨_, rfl, ?_⟩; replace HL := mk_ (HL.out.drawn hb_); clear hb_) | ((with_reducible refine gate_gd rfl ?_); first | ((with_reducible refine gd_on rfl ?_ ?_); rfl; dsimp only) | ((with_reducible refine gd_off rfl ?_ ?_); rfl)) | ((with_reducible refine gate_dst (N := 1) rfl ?_); refine loc_box rfl rfl (by first | (go_simp; done) | (go_simp; rfl)) HL.out ?_; intro gb1 w_ HL_; replace HL := mk_ HL_; clear HL_) | ((with_reducible refine gate_ld0 (t := 72) rfl ?_); refine loc_load (n := 9) rfl rfl (by kernel_rfl) rfl (by kernel_rfl) HL.out (by with_reducible repeat (first | exact Sel.done | apply Sel.take | apply Sel.skip | apply Get.here | apply Get.next)) ?_) | ((with_reducible refine gate_ld0 rfl ?_); refine loc_load1 rfl rfl (by kernel_rfl) rfl HL.out (by with_reducible repeat (first | exact Sel.done | apply Sel.take | apply Sel.skip | apply Get.here | apply Get.next)) ?_) | ((with_reducible refine gate_st0 rfl ?_); refine loc_store rfl rfl rfl (by first | (go_simp; done) | (go_simp; rfl)) (by kernel_rfl) (by kernel_rfl) HL.out (by with_reducible repeat (first | exact Spl.done | apply Spl.put | apply Spl.skip | apply Upd.here | apply Upd.next)) ?_; intro w_ HL_; replace HL := mk_ HL_; clear HL_))
      go_ret
      exact ⟨by first | rfl | (simp [errW_none, errW_some] <;> rfl) | (simp [*, errW_none, errW_some] <;> rfl), HL.out.bel⟩
    replace c7 := Bool.eq_false_iff.mpr c7
    subst c7
    rw [if_neg Bool.false_ne_true] at H
    try dsimp only at H
    by_cases c8 : a0_5 = 0
    rotate_left
    · rw [if_neg c8] at H
      have c8b0 : (a0_5 == 0) = false := beq_eq_false_iff_ne.mpr c8
      have c8b1 : (a0_5 != 0) = true := bne_iff_ne.mpr c8
      try dsimp only at H
      obtain rfl := Option.some.inj H
      have HL := mk_ (Lok.start w)
      go_enter Try.func39, Try.ntmps39
      go_wp2_with (first | ((with_reducible refine gate_dst (N := 9) rfl ?_); (with_reducible refine gate_callee (f := 44) rfl ?_); refine goesL_ (some 9) rfl rfl Try.func44 (by kernel_rfl) rfl #[.int .i64 a0_1, .int .i64 0, .int .i64 7] rfl (by (try simp only [List.map_toArray, List.map_cons, List.map_nil]); first | done | rfl) ?_; (with_reducible refine (spec_l1In.calls a0_1 0 7 true _ A3.out).mono ?_); rintro e w_ ⟨rfl, hb_⟩; refine ⟨_, rfl, ?_⟩; replace HL := mk_ (HL.out.drawn hb_); clear hb_) | ((with_reducible refine gate_dst (N := 13) rfl ?_); (with_reducible refine gate_callee (f := 44) rfl ?_); refine goesL_ (some 13) rfl rfl Try.func44 (by kernel_rfl) rfl #[.int .i64 a0_2, .int .i64 0, .int .i64 7] rfl (by (try simp only [List.map_toArray, List.map_cons, List.map_nil]); first | done | rfl) ?_; (with_reducible refine (spec_l1In.calls a0_2 0 7 true _ A5.out).mono ?_); rintro e w_ ⟨rfl, hb_⟩; refine ⟨_, rfl, ?_⟩; replace HL := mk_ (HL.out.drawn hb_); clear hb_) | ((with_reducible refine gate_gd rfl ?_); first | ((with_reducible refine gd_on rfl ?_ ?_); rfl; dsimp only) | ((with_reducible refine gd_off rfl ?_ ?_); rfl)) | ((with_reducible refine gate_dst (N := 1) rfl ?_); refine loc_box rfl rfl (by first | (go_simp; done) | (go_simp; rfl)) HL.out ?_; intro gb1 w_ HL_; replace HL := mk_ HL_; clear HL_) | ((with_reducible refine gate_ld0 (t := 72) rfl ?_); refine loc_load (n := 9) rfl rfl (by kernel_rfl) rfl (by kernel_rfl) HL.out (by with_reducible repeat (first | exact Sel.done | apply Sel.take | apply Sel.skip | apply Get.here | apply Get.next)) ?_) | ((with_reducible refine gate_ld0 rfl ?_); refine loc_load1 rfl rfl (by kernel_rfl) rfl HL.out (by with_reducible repeat (first | exact Sel.done | apply Sel.take | apply Sel.skip | apply Get.here | apply Get.next)) ?_) | ((with_reducible refine gate_st0 rfl ?_); refine loc_store rfl rfl rfl (by first | (go_simp; done) | (go_simp; rfl)) (by kernel_rfl) (by kernel_rfl) HL.out (by with_reducible repeat (first | exact Spl.done | apply Spl.put | apply Spl.skip | apply Upd.here | apply Upd.next)) ?_; intro w_ HL_; replace HL := mk_ HL_; clear HL_))
      go_ret
      exact ⟨by first | rfl | (simp [errW_none, errW_some] <;> rfl) | (simp [*, errW_none, errW_some] <;> rfl), HL.out.bel⟩
    rw [if_pos c8] at H
    have c8b0 : (a0_5 == 0) = true := beq_iff_eq.mpr c8
    have c8b1 : (a0_5 != 0) = false := bne_eq_false_iff_eq.mpr c8
    try dsimp only at H
    clear c8
    replace H := Option.bind_eq_some_iff.mp H
    obtain ⟨t114, A90, H⟩ := H
    try dsimp only at H
    have A9 := mk_ A90
    clear A90
    obtain rfl := Option.some.inj H
    have HL := mk_ (Lok.start w)
    go_enter Try.func39, Try.ntmps39
    go_wp2_with (first | ((with_reducible refine gate_dst (N := 9) rfl ?_); (with_reducible refine gate_callee (f := 44) rfl ?_); refine goesL_ (some 9) rfl rfl Try.func44 (by kernel_rfl) rfl #[.int .i64 a0_1, .int .i64 0, .int .i64 7] rfl (by (try simp only [List.map_toArray, List.map_cons, List.map_nil]); first | done | rfl) ?_; (with_reducible refine (spec_l1In.calls a0_1 0 7 true _ A3.out).mono ?_); rintro e w_ ⟨rfl, hb_⟩; refine ⟨_, rfl, ?_⟩; replace HL := mk_ (HL.out.drawn hb_); clear hb_) | ((with_reducible refine gate_dst (N := 13) rfl ?_); (with_reducible refine gate_callee (f := 44) rfl ?_); refine goesL_ (some 13) rfl rfl Try.func44 (by kernel_rfl) rfl #[.int .i64 a0_2, .int .i64 0, .int .i64 7] rfl (by (try simp only [List.map_toArray, List.map_cons, List.map_nil]); first | done | rfl) ?_; (with_reducible refine (spec_l1In.calls a0_2 0 7 true _ A5.out).mono ?_); rintro e w_ ⟨rfl, hb_⟩; refine ⟨_, rfl, ?_⟩; replace HL := mk_ (HL.out.drawn hb_); clear hb_) | ((with_reducible refine gate_dst (N := 27) rfl ?_); (with_reducible refine gate_callee (f := 61) rfl ?_); refine goesL_ (some 27) rfl rfl Try.func61 (by kernel_rfl) rfl #[.agg #[.int .i64 a0_0, .int .i64 a0_1, .int .i64 a0_2, .bool false, .bool a0_4, .int .i64 a0_5, .int .i64 a0_6, .int .i64 a0_7, .slice A0_8 l0_8.length c0_8]] rfl (by (try simp only [List.map_toArray, List.map_cons, List.map_nil]); first | done | rfl) ?_; (with_reducible refine (spec_l2Seg.calls k a0_0 a0_1 a0_2 false a0_4 a0_5 a0_6 a0_7 A0_8 c0_8 l0_8 t114 _ (Kd.C_below HR0_8.out (HL.out.bel)) HC0_8.out A9.out).mono ?_); rintro e w_ ⟨rfl, hb_⟩; refine ⟨_, rfl, ?_⟩; replace HL := mk_ (HL.out.call hb_); clear hb_) | ((with_reducible refine gate_gd rfl ?_); first | ((with_reducible refine gd_on rfl ?_ ?_); rfl; dsimp only) | ((with_reducible refine gd_off rfl ?_ ?_); rfl)) | ((with_reducible refine gate_dst (N := 1) rfl ?_); refine loc_box rfl rfl (by first | (go_simp; done) | (go_simp; rfl)) HL.out ?_; intro gb1 w_ HL_; replace HL := mk_ HL_; clear HL_) | ((with_reducible refine gate_ld0 (t := 72) rfl ?_); refine loc_load (n := 9) rfl rfl (by kernel_rfl) rfl (by kernel_rfl) HL.out (by with_reducible repeat (first | exact Sel.done | apply Sel.take | apply Sel.skip | apply Get.here | apply Get.next)) ?_) | ((with_reducible refine gate_ld0 rfl ?_); refine loc_load1 rfl rfl (by kernel_rfl) rfl HL.out (by with_reducible repeat (first | exact Sel.done | apply Sel.take | apply Sel.skip | apply Get.here | apply Get.next)) ?_) | ((with_reducible refine gate_st0 rfl ?_); refine loc_store rfl rfl rfl (by first | (go_simp; done) | (go_simp; rfl)) (by kernel_rfl) (by kernel_rfl) HL.out (by with_reducible repeat (first | exact Spl.done | apply Spl.put | apply Spl.skip | apply Upd.here | apply Upd.next)) ?_; intro w_ HL_; replace HL := mk_ HL_; clear HL_))
    go_ret
    exact ⟨by first | rfl | (simp [errW_none, errW_some] <;> rfl) | (simp [*, errW_none, errW_some] <;> rfl), HL.out.bel⟩
  rw [if_neg c2] at H
  have c2b0 : (a0_0 == 1) = false := beq_eq_false_iff_ne.mpr c2
  have c2b1 : (a0_0 != 1) = true := bne_iff_ne.mpr c2
  try dsimp only at H
  by_cases c10 : a0_0 = 2
  rotate_left
  · rw [if_neg c10] at H
    have c10b0 : (a0_0 == 2) = false := beq_eq_false_iff_ne.mpr c10
    have c10b1 : (a0_0 != 2) = true := bne_iff_ne.mpr c10
    try dsimp only at H
    by_cases c24 : a0_0 = 3
    · rw [if_pos c24] at H
      have c24b0 : (a0_0 == 3) = true := beq_iff_eq.mpr c24
      have c24b1 : (a0_0 != 3) = false := bne_eq_false_iff_eq.mpr c24
      try dsimp only at H
      clear c24
      by_cases c25 : a0_1 = 0
      rotate_left
      · rw [if_neg c25] at H
        have c25b0 : (a0_1 == 0) = false := beq_eq_false_iff_ne.mpr c25
        have c25b1 : (a0_1 != 0) = true := bne_iff_ne.mpr c25
        try dsimp only at H
        obtain rfl := Option.some.inj H
        have HL := mk_ (Lok.start w)
        go_enter Try.func39, Try.ntmps39
        go_wp2_with (first | ((with_reducible refine gate_gd rfl ?_); first | ((with_reducible refine gd_on rfl ?_ ?_); rfl; dsimp only) | ((with_reducible refine gd_off rfl ?_ ?_); rfl)) | ((with_reducible refine gate_dst (N := 1) rfl ?_); refine loc_box rfl rfl (by first | (go_simp; done) | (go_simp; rfl)) HL.out ?_; intro gb1 w_ HL_; replace HL := mk_ HL_; clear HL_) | ((with_reducible refine gate_ld0 (t := 72) rfl ?_); refine loc_load (n := 9) rfl rfl (by kernel_rfl) rfl (by kernel_rfl) HL.out (by with_reducible repeat (first | exact Sel.done | apply Sel.take | apply Sel.skip | apply Get.here | apply Get.next)) ?_) | ((with_reducible refine gate_ld0 rfl ?_); refine loc_load1 rfl rfl (by kernel_rfl) rfl HL.out (by with_reducible repeat (first | exact Sel.done | apply Sel.take | apply Sel.skip | apply Get.here | apply Get.next)) ?_) | ((with_reducible refine gate_st0 rfl ?_); refine loc_store rfl rfl rfl (by first | (go_simp; done) | (go_simp; rfl)) (by kernel_rfl) (by kernel_rfl) HL.out (by with_reducible repeat (first | exact Spl.done | apply Spl.put | apply Spl.skip | apply Upd.here | apply Upd.next)) ?_; intro w_ HL_; replace HL := mk_ HL_; clear HL_))
        go_ret
        exact ⟨by first | rfl | (simp [errW_none, errW_some] <;> rfl) | (simp [*, errW_none, errW_some] <;> rfl), HL.out.bel⟩
      rw [if_pos c25] at H
      have c25b0 : (a0_1 == 0) = true := beq_iff_eq.mpr c25
      have c25b1 : (a0_1 != 0) = false := bne_eq_false_iff_eq.mpr c25
      try dsimp only at H
      clear c25
      by_cases c26 : a0_2 = 0
      rotate_left
      · rw [if_neg c26] at H
        have c26b0 : (a0_2 == 0) = false := beq_eq_false_iff_ne.mpr c26
        have c26b1 : (a0_2 != 0) = true := bne_iff_ne.mpr c26
        try dsimp only at H
        obtain rfl := Option.some.inj H
        have HL := mk_ (Lok.start w)
        go_enter Try.func39, Try.ntmps39
        go_wp2_with (first | ((with_reducible refine gate_gd rfl ?_); first | ((with_reducible refine gd_on rfl ?_ ?_); rfl; dsimp only) | ((with_reducible refine gd_off rfl ?_ ?_); rfl)) | ((with_reducible refine gate_dst (N := 1) rfl ?_); refine loc_box rfl rfl (by first | (go_simp; done) | (go_simp; rfl)) HL.out ?_; intro gb1 w_ HL_; replace HL := mk_ HL_; clear HL_) | ((with_reducible refine gate_ld0 (t := 72) rfl ?_); refine loc_load (n := 9) rfl rfl (by kernel_rfl) rfl (by kernel_rfl) HL.out (by with_reducible repeat (first | exact Sel.done | apply Sel.take | apply Sel.skip | apply Get.here | apply Get.next)) ?_) | ((with_reducible refine gate_ld0 rfl ?_); refine loc_load1 rfl rfl (by kernel_rfl) rfl HL.out (by with_reducible repeat (first | exact Sel.done | apply Sel.take | apply Sel.skip | apply Get.here | apply Get.next)) ?_) | ((with_reducible refine gate_st0 rfl ?_); refine loc_store rfl rfl rfl (by first | (go_simp; done) | (go_simp; rfl)) (by kernel_rfl) (by kernel_rfl) HL.out (by with_reducible repeat (first | exact Spl.done | apply Spl.put | apply Spl.skip | apply Upd.here | apply Upd.next)) ?_; intro w_ HL_; replace HL := mk_ HL_; clear HL_))
        go_ret
        exact ⟨by first | rfl | (simp [errW_none, errW_some] <;> rfl) | (simp [*, errW_none, errW_some] <;> rfl), HL.out.bel⟩
      rw [if_pos c26] at H
      have c26b0 : (a0_2 == 0) = true := beq_iff_eq.mpr c26
      have c26b1 : (a0_2 != 0) = false := bne_eq_false_iff_eq.mpr c26
      try dsimp only at H
      clear c26
      by_cases c27 : a0_3 = true
      · subst c27
        rw [if_pos rfl] at H
        try dsimp only at H
        obtain rfl := Option.some.inj H
        have HL := mk_ (Lok.start w)
        go_enter Try.func39, Try.ntmps39
        go_wp2_with (first | ((with_reducible refine gate_gd rfl ?_); first | ((with_reducible refine gd_on rfl ?_ ?_); rfl; dsimp only) | ((with_reducible refine gd_off rfl ?_ ?_); rfl)) | ((with_reducible refine gate_dst (N := 1) rfl ?_); refine loc_box rfl rfl (by first | (go_simp; done) | (go_simp; rfl)) HL.out ?_; intro gb1 w_ HL_; replace HL := mk_ HL_; clear HL_) | ((with_reducible refine gate_ld0 (t := 72) rfl ?_); refine loc_load (n := 9) rfl rfl (by kernel_rfl) rfl (by kernel_rfl) HL.out (by with_reducible repeat (first | exact Sel.done | apply Sel.take | apply Sel.skip | apply Get.here | apply Get.next)) ?_) | ((with_reducible refine gate_ld0 rfl ?_); refine loc_load1 rfl rfl (by kernel_rfl) rfl HL.out (by with_reducible repeat (first | exact Sel.done | apply Sel.take | apply Sel.skip | apply Get.here | apply Get.next)) ?_) | ((with_reducible refine gate_st0 rfl ?_); refine loc_store rfl rfl rfl (by first | (go_simp; done) | (go_simp; rfl)) (by kernel_rfl) (by kernel_rfl) HL.out (by with_reducible repeat (first | exact Spl.done | apply Spl.put | apply Spl.skip | apply Upd.here | apply Upd.next)) ?_; intro w_ HL_; replace HL := mk_ HL_; clear HL_))
        go_ret
        exact ⟨by first | rfl | (simp [errW_none, errW_some] <;> rfl) | (simp [*, errW_none, errW_some] <;> rfl), HL.out.bel⟩
      replace c27 := Bool.eq_false_iff.mpr c27
      subst c27
      rw [if_neg Bool.false_ne_true] at H
      try dsimp only at H
      by_cases c28 : a0_4 = true
      · subst c28
        rw [if_pos rfl] at H
        try dsimp only at H
        obtain rfl := Option.some.inj H
        have HL := mk_ (Lok.start w)
        go_enter Try.func39, Try.ntmps39
        go_wp2_with (first | ((with_reducible refine gate_gd rfl ?_); first | ((with_reducible refine gd_on rfl ?_ ?_); rfl; dsimp only) | ((with_reducible refine gd_off rfl ?_ ?_); rfl)) | ((with_reducible refine gate_dst (N := 1) rfl ?_); refine loc_box rfl rfl (by first | (go_simp; done) | (go_simp; rfl)) HL.out ?_; intro gb1 w_ HL_; replace HL := mk_ HL_; clear HL_) | ((with_reducible refine gate_ld0 (t := 72) rfl ?_); refine loc_load (n := 9) rfl rfl (by kernel_rfl) rfl (by kernel_rfl) HL.out (by with_reducible repeat (first | exact Sel.done | apply Sel.take | apply Sel.skip | apply Get.here | apply Get.next)) ?_) | ((with_reducible refine gate_ld0 rfl ?_); refine loc_load1 rfl rfl (by kernel_rfl) rfl HL.out (by with_reducible repeat (first | exact Sel.done | apply Sel.take | apply Sel.skip | apply Get.here | apply Get.next)) ?_) | ((with_reducible refine gate_st0 rfl ?_); refine loc_store rfl rfl rfl (by first | (go_simp; done) | (go_simp; rfl)) (by kernel_rfl) (by kernel_rfl) HL.out (by with_reducible repeat (first | exact Spl.done | apply Spl.put | apply Spl.skip | apply Upd.here | apply Upd.next)) ?_; intro w_ HL_; replace HL := mk_ HL_; clear HL_))
        go_ret
        exact ⟨by first | rfl | (simp [errW_none, errW_some] <;> rfl) | (simp [*, errW_none, errW_some] <;> rfl), HL.out.bel⟩
      replace c28 := Bool.eq_false_iff.mpr c28
      subst c28
      rw [if_neg Bool.false_ne_true] at H
      try dsimp only at H
      by_cases c29 : a0_5 = 0
      rotate_left
      · rw [if_neg c29] at H
        have c29b0 : (a0_5 == 0) = false := beq_eq_false_iff_ne.mpr c29
        have c29b1 : (a0_5 != 0) = true := bne_iff_ne.mpr c29
        try dsimp only at H
        obtain rfl := Option.some.inj H
        have HL := mk_ (Lok.start w)
        go_enter Try.func39, Try.ntmps39
        go_wp2_with (first | ((with_reducible refine gate_gd rfl ?_); first | ((with_reducible refine gd_on rfl ?_ ?_); rfl; dsimp only) | ((with_reducible refine gd_off rfl ?_ ?_); rfl)) | ((with_reducible refine gate_dst (N := 1) rfl ?_); refine loc_box rfl rfl (by first | (go_simp; done) | (go_simp; rfl)) HL.out ?_; intro gb1 w_ HL_; replace HL := mk_ HL_; clear HL_) | ((with_reducible refine gate_ld0 (t := 72) rfl ?_); refine loc_load (n := 9) rfl rfl (by kernel_rfl) rfl (by kernel_rfl) HL.out (by with_reducible repeat (first | exact Sel.done | apply Sel.take | apply Sel.skip | apply Get.here | apply Get.next)) ?_) | ((with_reducible refine gate_ld0 rfl ?_); refine loc_load1 rfl rfl (by kernel_rfl) rfl HL.out (by with_reducible repeat (first | exact Sel.done | apply Sel.take | apply Sel.skip | apply Get.here | apply Get.next)) ?_) | ((with_reducible refine gate_st0 rfl ?_); refine loc_store rfl rfl rfl (by first | (go_simp; done) | (go_simp; rfl)) (by kernel_rfl) (by kernel_rfl) HL.out (by with_reducible repeat (first | exact Spl.done | apply Spl.put | apply Spl.skip | apply Upd.here | apply Upd.next)) ?_; intro w_ HL_; replace HL := mk_ HL_; clear HL_))
        go_ret
        exact ⟨by first | rfl | (simp [errW_none, errW_some] <;> rfl) | (simp [*, errW_none, errW_some] <;> rfl), HL.out.bel⟩
      rw [if_pos c29] at H
      have c29b0 : (a0_5 == 0) = true := beq_iff_eq.mpr c29
      have c29b1 : (a0_5 != 0) = false := bne_eq_false_iff_eq.mpr c29
      try dsimp only at H
      clear c29
      replace H := Option.bind_eq_some_iff.mp H
      obtain ⟨t118, A300, H⟩ := H
      try dsimp only at H
      have A30 := mk_ A300
      clear A300
      obtain rfl := Option.some.inj H
      have HL := mk_ (Lok.start w)
      go_enter Try.func39, Try.ntmps39
      go_wp2_with (first | ((with_reducible refine gate_dst (N := 96) rfl ?_); (with_reducible refine gate_callee (f := 61) rfl ?_); refine goesL_ (some 96) rfl rfl Try.func61 (by kernel_rfl) rfl #[.agg #[.int .i64 a0_0, .int .i64 a0_1, .int .i64 a0_2, .bool false, .bool false, .int .i64 a0_5, .int .i64 a0_6, .int .i64 a0_7, .slice A0_8 l0_8.length c0_8]] rfl (by (try simp only [List.map_toArray, List.map_cons, List.map_nil]); first | done | rfl) ?_; (with_reducible refine (spec_l2Seg.calls k a0_0 a0_1 a0_2 false false a0_5 a0_6 a0_7 A0_8 c0_8 l0_8 t118 _ (Kd.C_below HR0_8.out (HL.out.bel)) HC0_8.out A30.out).mono ?_); rintro e w_ ⟨rfl, hb_⟩; refine ⟨_, rfl, ?_⟩; replace HL := mk_ (HL.out.call hb_); clear hb_) | ((with_reducible refine gate_gd rfl ?_); first | ((with_reducible refine gd_on rfl ?_ ?_); rfl; dsimp only) | ((with_reducible refine gd_off rfl ?_ ?_); rfl)) | ((with_reducible refine gate_dst (N := 1) rfl ?_); refine loc_box rfl rfl (by first | (go_simp; done) | (go_simp; rfl)) HL.out ?_; intro gb1 w_ HL_; replace HL := mk_ HL_; clear HL_) | ((with_reducible refine gate_ld0 (t := 72) rfl ?_); refine loc_load (n := 9) rfl rfl (by kernel_rfl) rfl (by kernel_rfl) HL.out (by with_reducible repeat (first | exact Sel.done | apply Sel.take | apply Sel.skip | apply Get.here | apply Get.next)) ?_) | ((with_reducible refine gate_ld0 rfl ?_); refine loc_load1 rfl rfl (by kernel_rfl) rfl HL.out (by with_reducible repeat (first | exact Sel.done | apply Sel.take | apply Sel.skip | apply Get.here | apply Get.next)) ?_) | ((with_reducible refine gate_st0 rfl ?_); refine loc_store rfl rfl rfl (by first | (go_simp; done) | (go_simp; rfl)) (by kernel_rfl) (by kernel_rfl) HL.out (by with_reducible repeat (first | exact Spl.done | apply Spl.put | apply Spl.skip | apply Upd.here | apply Upd.next)) ?_; intro w_ HL_; replace HL := mk_ HL_; clear HL_))
      go_ret
      exact ⟨by first | rfl | (simp [errW_none, errW_some] <;> rfl) | (simp [*, errW_none, errW_some] <;> rfl), HL.out.bel⟩
    rw [if_neg c24] at H
    have c24b0 : (a0_0 == 3) = false := beq_eq_false_iff_ne.mpr c24
    have c24b1 : (a0_0 != 3) = true := bne_iff_ne.mpr c24
    try dsimp only at H
    by_cases c31 : a0_0 = 4
    rotate_left
    · rw [if_neg c31] at H
      have c31b0 : (a0_0 == 4) = false := beq_eq_false_iff_ne.mpr c31
      have c31b1 : (a0_0 != 4) = true := bne_iff_ne.mpr c31
      try dsimp only at H
      obtain rfl := Option.some.inj H
      have HL := mk_ (Lok.start w)
      go_enter Try.func39, Try.ntmps39
      go_wp2_with (first | ((with_reducible refine gate_gd rfl ?_); first | ((with_reducible refine gd_on rfl ?_ ?_); rfl; dsimp only) | ((with_reducible refine gd_off rfl ?_ ?_); rfl)) | ((with_reducible refine gate_dst (N := 1) rfl ?_); refine loc_box rfl rfl (by first | (go_simp; done) | (go_simp; rfl)) HL.out ?_; intro gb1 w_ HL_; replace HL := mk_ HL_; clear HL_) | ((with_reducible refine gate_ld0 (t := 72) rfl ?_); refine loc_load (n := 9) rfl rfl (by kernel_rfl) rfl (by kernel_rfl) HL.out (by with_reducible repeat (first | exact Sel.done | apply Sel.take | apply Sel.skip | apply Get.here | apply Get.next)) ?_) | ((with_reducible refine gate_ld0 rfl ?_); refine loc_load1 rfl rfl (by kernel_rfl) rfl HL.out (by with_reducible repeat (first | exact Sel.done | apply Sel.take | apply Sel.skip | apply Get.here | apply Get.next)) ?_) | ((with_reducible refine gate_st0 rfl ?_); refine loc_store rfl rfl rfl (by first | (go_simp; done) | (go_simp; rfl)) (by kernel_rfl) (by kernel_rfl) HL.out (by with_reducible repeat (first | exact Spl.done | apply Spl.put | apply Spl.skip | apply Upd.here | apply Upd.next)) ?_; intro w_ HL_; replace HL := mk_ HL_; clear HL_))
      go_ret
      exact ⟨by first | rfl | (simp [errW_none, errW_some] <;> rfl) | (simp [*, errW_none, errW_some] <;> rfl), HL.out.bel⟩
    rw [if_pos c31] at H
    have c31b0 : (a0_0 == 4) = true := beq_iff_eq.mpr c31
    have c31b1 : (a0_0 != 4) = false := bne_eq_false_iff_eq.mpr c31
    try dsimp only at H
    clear c31
    by_cases c32 : a0_1 = 0
    rotate_left
    · rw [if_neg c32] at H
      have c32b0 : (a0_1 == 0) = false := beq_eq_false_iff_ne.mpr c32
      have c32b1 : (a0_1 != 0) = true := bne_iff_ne.mpr c32
      try dsimp only at H
      obtain rfl := Option.some.inj H
      have HL := mk_ (Lok.start w)
      go_enter Try.func39, Try.ntmps39
      go_wp2_with (first | ((with_reducible refine gate_gd rfl ?_); first | ((with_reducible refine gd_on rfl ?_ ?_); rfl; dsimp only) | ((with_reducible refine gd_off rfl ?_ ?_); rfl)) | ((with_reducible refine gate_dst (N := 1) rfl ?_); refine loc_box rfl rfl (by first | (go_simp; done) | (go_simp; rfl)) HL.out ?_; intro gb1 w_ HL_; replace HL := mk_ HL_; clear HL_) | ((with_reducible refine gate_ld0 (t := 72) rfl ?_); refine loc_load (n := 9) rfl rfl (by kernel_rfl) rfl (by kernel_rfl) HL.out (by with_reducible repeat (first | exact Sel.done | apply Sel.take | apply Sel.skip | apply Get.here | apply Get.next)) ?_) | ((with_reducible refine gate_ld0 rfl ?_); refine loc_load1 rfl rfl (by kernel_rfl) rfl HL.out (by with_reducible repeat (first | exact Sel.done | apply Sel.take | apply Sel.skip | apply Get.here | apply Get.next)) ?_) | ((with_reducible refine gate_st0 rfl ?_); refine loc_store rfl rfl rfl (by first | (go_simp; done) | (go_simp; rfl)) (by kernel_rfl) (by kernel_rfl) HL.out (by with_reducible repeat (first | exact Spl.done | apply Spl.put | apply Spl.skip | apply Upd.here | apply Upd.next)) ?_; intro w_ HL_; replace HL := mk_ HL_; clear HL_))
      go_ret
      exact ⟨by first | rfl | (simp [errW_none, errW_some] <;> rfl) | (simp [*, errW_none, errW_some] <;> rfl), HL.out.bel⟩
    rw [if_pos c32] at H
    have c32b0 : (a0_1 == 0) = true := beq_iff_eq.mpr c32
    have c32b1 : (a0_1 != 0) = false := bne_eq_false_iff_eq.mpr c32
    try dsimp only at H
    clear c32
    by_cases c33 : a0_2 = 0
    rotate_left
    · rw [if_neg c33] at H
      have c33b0 : (a0_2 == 0) = false := beq_eq_false_iff_ne.mpr c33
      have c33b1 : (a0_2 != 0) = true := bne_iff_ne.mpr c33
      try dsimp only at H
      obtain rfl := Option.some.inj H
      have HL := mk_ (Lok.start w)
      go_enter Try.func39, Try.ntmps39
      go_wp2_with (first | ((with_reducible refine gate_gd rfl ?_); first | ((with_reducible refine gd_on rfl ?_ ?_); rfl; dsimp only) | ((with_reducible refine gd_off rfl ?_ ?_); rfl)) | ((with_reducible refine gate_dst (N := 1) rfl ?_); refine loc_box rfl rfl (by first | (go_simp; done) | (go_simp; rfl)) HL.out ?_; intro gb1 w_ HL_; replace HL := mk_ HL_; clear HL_) | ((with_reducible refine gate_ld0 (t := 72) rfl ?_); refine loc_load (n := 9) rfl rfl (by kernel_rfl) rfl (by kernel_rfl) HL.out (by with_reducible repeat (first | exact Sel.done | apply Sel.take | apply Sel.skip | apply Get.here | apply Get.next)) ?_) | ((with_reducible refine gate_ld0 rfl ?_); refine loc_load1 rfl rfl (by kernel_rfl) rfl HL.out (by with_reducible repeat (first | exact Sel.done | apply Sel.take | apply Sel.skip | apply Get.here | apply Get.next)) ?_) | ((with_reducible refine gate_st0 rfl ?_); refine loc_store rfl rfl rfl (by first | (go_simp; done) | (go_simp; rfl)) (by kernel_rfl) (by kernel_rfl) HL.out (by with_reducible repeat (first | exact Spl.done | apply Spl.put | apply Spl.skip | apply Upd.here | apply Upd.next)) ?_; intro w_ HL_; replace HL := mk_ HL_; clear HL_))
      go_ret
      exact ⟨by first | rfl | (simp [errW_none, errW_some] <;> rfl) | (simp [*, errW_none, errW_some] <;> rfl), HL.out.bel⟩
    rw [if_pos c33] at H
    have c33b0 : (a0_2 == 0) = true := beq_iff_eq.mpr c33
    have c33b1 : (a0_2 != 0) = false := bne_eq_false_iff_eq.mpr c33
    try dsimp only at H
    clear c33
    by_cases c34 : a0_3 = true
    · subst c34
      rw [if_pos rfl] at H
      try dsimp only at H
      obtain rfl := Option.some.inj H
      have HL := mk_ (Lok.start w)
      go_enter Try.func39, Try.ntmps39
      go_wp2_with (first | ((with_reducible refine gate_gd rfl ?_); first | ((with_reducible refine gd_on rfl ?_ ?_); rfl; dsimp only) | ((with_reducible refine gd_off rfl ?_ ?_); rfl)) | ((with_reducible refine gate_dst (N := 1) rfl ?_); refine loc_box rfl rfl (by first | (go_simp; done) | (go_simp; rfl)) HL.out ?_; intro gb1 w_ HL_; replace HL := mk_ HL_; clear HL_) | ((with_reducible refine gate_ld0 (t := 72) rfl ?_); refine loc_load (n := 9) rfl rfl (by kernel_rfl) rfl (by kernel_rfl) HL.out (by with_reducible repeat (first | exact Sel.done | apply Sel.take | apply Sel.skip | apply Get.here | apply Get.next)) ?_) | ((with_reducible refine gate_ld0 rfl ?_); refine loc_load1 rfl rfl (by kernel_rfl) rfl HL.out (by with_reducible repeat (first | exact Sel.done | apply Sel.take | apply Sel.skip | apply Get.here | apply Get.next)) ?_) | ((with_reducible refine gate_st0 rfl ?_); refine loc_store rfl rfl rfl (by first | (go_simp; done) | (go_simp; rfl)) (by kernel_rfl) (by kernel_rfl) HL.out (by with_reducible repeat (first | exact Spl.done | apply Spl.put | apply Spl.skip | apply Upd.here | apply Upd.next)) ?_; intro w_ HL_; replace HL := mk_ HL_; clear HL_))
      go_ret
      exact ⟨by first | rfl | (simp [errW_none, errW_some] <;> rfl) | (simp [*, errW_none, errW_some] <;> rfl), HL.out.bel⟩
    replace c34 := Bool.eq_false_iff.mpr c34
    subst c34
    rw [if_neg Bool.false_ne_true] at H
    try dsimp only at H
    by_cases c35 : a0_4 = true
    · subst c35
      rw [if_pos rfl] at H
      try dsimp only at H
      obtain rfl := Option.some.inj H
      have HL := mk_ (Lok.start w)
      go_enter Try.func39, Try.ntmps39
      go_wp2_with (first | ((with_reducible refine gate_gd rfl ?_); first | ((with_reducible refine gd_on rfl ?_ ?_); rfl; dsimp only) | ((with_reducible refine gd_off rfl ?_ ?_); rfl)) | ((with_reducible refine gate_dst (N := 1) rfl ?_); refine loc_box rfl rfl (by first | (go_simp; done) | (go_simp; rfl)) HL.out ?_; intro gb1 w_ HL_; replace HL := mk_ HL_; clear HL_) | ((with_reducible refine gate_ld0 (t := 72) rfl ?_); refine loc_load (n := 9) rfl rfl (by kernel_rfl) rfl (by kernel_rfl) HL.out (by with_reducible repeat (first | exact Sel.done | apply Sel.take | apply Sel.skip | apply Get.here | apply Get.next)) ?_) | ((with_reducible refine gate_ld0 rfl ?_); refine loc_load1 rfl rfl (by kernel_rfl) rfl HL.out (by with_reducible repeat (first | exact Sel.done | apply Sel.take | apply Sel.skip | apply Get.here | apply Get.next)) ?_) | ((with_reducible refine gate_st0 rfl ?_); refine loc_store rfl rfl rfl (by first | (go_simp; done) | (go_simp; rfl)) (by kernel_rfl) (by kernel_rfl) HL.out (by with_reducible repeat (first | exact Spl.done | apply Spl.put | apply Spl.skip | apply Upd.here | apply Upd.next)) ?_; intro w_ HL_; replace HL := mk_ HL_; clear HL_))
      go_ret
      exact ⟨by first | rfl | (simp [errW_none, errW_some] <;> rfl) | (simp [*, errW_none, errW_some] <;> rfl), HL.out.bel⟩
    replace c35 := Bool.eq_false_iff.mpr c35
    subst c35
    rw [if_neg Bool.false_ne_true] at H
    try dsimp only at H
    by_cases c36 : a0_5 = 0
    rotate_left
    · rw [if_neg c36] at H
      have c36b0 : (a0_5 == 0) = false := beq_eq_false_iff_ne.mpr c36
      have c36b1 : (a0_5 != 0) = true := bne_iff_ne.mpr c36
      try dsimp only at H
      obtain rfl := Option.some.inj H
      have HL := mk_ (Lok.start w)
      go_enter Try.func39, Try.ntmps39
      go_wp2_with (first | ((with_reducible refine gate_gd rfl ?_); first | ((with_reducible refine gd_on rfl ?_ ?_); rfl; dsimp only) | ((with_reducible refine gd_off rfl ?_ ?_); rfl)) | ((with_reducible refine gate_dst (N := 1) rfl ?_); refine loc_box rfl rfl (by first | (go_simp; done) | (go_simp; rfl)) HL.out ?_; intro gb1 w_ HL_; replace HL := mk_ HL_; clear HL_) | ((with_reducible refine gate_ld0 (t := 72) rfl ?_); refine loc_load (n := 9) rfl rfl (by kernel_rfl) rfl (by kernel_rfl) HL.out (by with_reducible repeat (first | exact Sel.done | apply Sel.take | apply Sel.skip | apply Get.here | apply Get.next)) ?_) | ((with_reducible refine gate_ld0 rfl ?_); refine loc_load1 rfl rfl (by kernel_rfl) rfl HL.out (by with_reducible repeat (first | exact Sel.done | apply Sel.take | apply Sel.skip | apply Get.here | apply Get.next)) ?_) | ((with_reducible refine gate_st0 rfl ?_); refine loc_store rfl rfl rfl (by first | (go_simp; done) | (go_simp; rfl)) (by kernel_rfl) (by kernel_rfl) HL.out (by with_reducible repeat (first | exact Spl.done | apply Spl.put | apply Spl.skip | apply Upd.here | apply Upd.next)) ?_; intro w_ HL_; replace HL := mk_ HL_; clear HL_))
      go_ret
      exact ⟨by first | rfl | (simp [errW_none, errW_some] <;> rfl) | (simp [*, errW_none, errW_some] <;> rfl), HL.out.bel⟩
    rw [if_pos c36] at H
    have c36b0 : (a0_5 == 0) = true := beq_iff_eq.mpr c36
    have c36b1 : (a0_5 != 0) = false := bne_eq_false_iff_eq.mpr c36
    try dsimp only at H
    clear c36
    by_cases c37 : a0_6 = 0
    rotate_left
    · rw [if_neg c37] at H
      have c37b0 : (a0_6 == 0) = false := beq_eq_false_iff_ne.mpr c37
      have c37b1 : (a0_6 != 0) = true := bne_iff_ne.mpr c37
      try dsimp only at H
      obtain rfl := Option.some.inj H
      have HL := mk_ (Lok.start w)
      go_enter Try.func39, Try.ntmps39
      go_wp2_with (first | ((with_reducible refine gate_gd rfl ?_); first | ((with_reducible refine gd_on rfl ?_ ?_); rfl; dsimp only) | ((with_reducible refine gd_off rfl ?_ ?_); rfl)) | ((with_reducible refine gate_dst (N := 1) rfl ?_); refine loc_box rfl rfl (by first | (go_simp; done) | (go_simp; rfl)) HL.out ?_; intro gb1 w_ HL_; replace HL := mk_ HL_; clear HL_) | ((with_reducible refine gate_ld0 (t := 72) rfl ?_); refine loc_load (n := 9) rfl rfl (by kernel_rfl) rfl (by kernel_rfl) HL.out (by with_reducible repeat (first | exact Sel.done | apply Sel.take | apply Sel.skip | apply Get.here | apply Get.next)) ?_) | ((with_reducible refine gate_ld0 rfl ?_); refine loc_load1 rfl rfl (by kernel_rfl) rfl HL.out (by with_reducible repeat (first | exact Sel.done | apply Sel.take | apply Sel.skip | apply Get.here | apply Get.next)) ?_) | ((with_reducible refine gate_st0 rfl ?_); refine loc_store rfl rfl rfl (by first | (go_simp; done) | (go_simp; rfl)) (by kernel_rfl) (by kernel_rfl) HL.out (by with_reducible repeat (first | exact Spl.done | apply Spl.put | apply Spl.skip | apply Upd.here | apply Upd.next)) ?_; intro w_ HL_; replace HL := mk_ HL_; clear HL_))
      go_ret
      exact ⟨by first | rfl | (simp [errW_none, errW_some] <;> rfl) | (simp [*, errW_none, errW_some] <;> rfl), HL.out.bel⟩
    rw [if_pos c37] at H
    have c37b0 : (a0_6 == 0) = true := beq_iff_eq.mpr c37
    have c37b1 : (a0_6 != 0) = false := bne_eq_false_iff_eq.mpr c37
    try dsimp only at H
    clear c37
    replace H := Option.bind_eq_some_iff.mp H
    obtain ⟨t119, A380, H⟩ := H
    try dsimp only at H
    have A38 := mk_ A380
    clear A380
    by_cases c39 : t119 = true
    · subst c39
      rw [if_pos rfl] at H
      try dsimp only at H
      obtain rfl := Option.some.inj H
      have HL := mk_ (Lok.start w)
      go_enter Try.func39, Try.ntmps39
      go_wp2_with (first | ((with_reducible refine gate_dst (N := 134) rfl ?_); (with_reducible refine gate_callee (f := 44) rfl ?_); refine goesL_ (some 134) rfl rfl Try.func44 (by kernel_rfl) rfl #[.int .i64 a0_7, .int .i64 1, .int .i64 255] rfl (by (try simp only [List.map_toArray, List.map_cons, List.map_nil]); first | done | rfl) ?_; (with_reducible refine (spec_l1In.calls a0_7 1 255 true _ A38.out).mono ?_); rintro e w_ ⟨rfl, hb_⟩; refine ⟨_, rfl, ?_⟩; replace HL := mk_ (HL.out.drawn hb_); clear hb_) | ((with_reducible refine gate_gd rfl ?_); first | ((with_reducible refine gd_on rfl ?_ ?_); rfl; dsimp only) | ((with_reducible refine gd_off rfl ?_ ?_); rfl)) | ((with_reducible refine gate_dst (N := 1) rfl ?_); refine loc_box rfl rfl (by first | (go_simp; done) | (go_simp; rfl)) HL.out ?_; intro gb1 w_ HL_; replace HL := mk_ HL_; clear HL_) | ((with_reducible refine gate_ld0 (t := 72) rfl ?_); refine loc_load (n := 9) rfl rfl (by kernel_rfl) rfl (by kernel_rfl) HL.out (by with_reducible repeat (first | exact Sel.done | apply Sel.take | apply Sel.skip | apply Get.here | apply Get.next)) ?_) | ((with_reducible refine gate_ld0 rfl ?_); refine loc_load1 rfl rfl (by kernel_rfl) rfl HL.out (by with_reducible repeat (first | exact Sel.done | apply Sel.take | apply Sel.skip | apply Get.here | apply Get.next)) ?_) | ((with_reducible refine gate_st0 rfl ?_); refine loc_store rfl rfl rfl (by first | (go_simp; done) | (go_simp; rfl)) (by kernel_rfl) (by kernel_rfl) HL.out (by with_reducible repeat (first | exact Spl.done | apply Spl.put | apply Spl.skip | apply Upd.here | apply Upd.next)) ?_; intro w_ HL_; replace HL := mk_ HL_; clear HL_))
      go_ret
      exact ⟨by first | rfl | (simp [errW_none, errW_some] <;> rfl) | (simp [*, errW_none, errW_some] <;> rfl), HL.out.bel⟩
    replace c39 := Bool.eq_false_iff.mpr c39
    subst c39
    rw [if_neg Bool.false_ne_true] at H
    try dsimp only at H
    obtain rfl := Option.some.inj H
    have HL := mk_ (Lok.start w)
    go_enter Try.func39, Try.ntmps39
    go_wp2_with (first | ((with_reducible refine gate_dst (N := 134) rfl ?_); (with_reducible refine gate_callee (f := 44) rfl ?_); refine goesL_ (some 134) rfl rfl Try.func44 (by kernel_rfl) rfl #[.int .i64 a0_7, .int .i64 1, .int .i64 255] rfl (by (try simp only [List.map_toArray, List.map_cons, List.map_nil]); first | done | rfl) ?_; (with_reducible refine (spec_l1In.calls a0_7 1 255 false _ A38.out).mono ?_); rintro e w_ ⟨rfl, hb_⟩; refine ⟨_, rfl, ?_⟩; replace HL := mk_ (HL.out.drawn hb_); clear hb_) | ((with_reducible refine gate_gd rfl ?_); first | ((with_reducible refine gd_on rfl ?_ ?_); rfl; dsimp only) | ((with_reducible refine gd_off rfl ?_ ?_); rfl)) | ((with_reducible refine gate_dst (N := 1) rfl ?_); refine loc_box rfl rfl (by first | (go_simp; done) | (go_simp; rfl)) HL.out ?_; intro gb1 w_ HL_; replace HL := mk_ HL_; clear HL_) | ((with_reducible refine gate_ld0 (t := 72) rfl ?_); refine loc_load (n := 9) rfl rfl (by kernel_rfl) rfl (by kernel_rfl) HL.out (by with_reducible repeat (first | exact Sel.done | apply Sel.take | apply Sel.skip | apply Get.here | apply Get.next)) ?_) | ((with_reducible refine gate_ld0 rfl ?_); refine loc_load1 rfl rfl (by kernel_rfl) rfl HL.out (by with_reducible repeat (first | exact Sel.done | apply Sel.take | apply Sel.skip | apply Get.here | apply Get.next)) ?_) | ((with_reducible refine gate_st0 rfl ?_); refine loc_store rfl rfl rfl (by first | (go_simp; done) | (go_simp; rfl)) (by kernel_rfl) (by kernel_rfl) HL.out (by with_reducible repeat (first | exact Spl.done | apply Spl.put | apply Spl.skip | apply Upd.here | apply Upd.next)) ?_; intro w_ HL_; replace HL := mk_ HL_; clear HL_))
    go_ret
    exact ⟨by first | rfl | (simp [errW_none, errW_some] <;> rfl) | (simp [*, errW_none, errW_some] <;> rfl), HL.out.bel⟩
  rw [if_pos c10] at H
  have c10b0 : (a0_0 == 2) = true := beq_iff_eq.mpr c10
  have c10b1 : (a0_0 != 2) = false := bne_eq_false_iff_eq.mpr c10
  try dsimp only at H
  clear c10
  by_cases c11 : a0_1 = 0
  rotate_left
  · rw [if_neg c11] at H
    have c11b0 : (a0_1 == 0) = false := beq_eq_false_iff_ne.mpr c11
    have c11b1 : (a0_1 != 0) = true := bne_iff_ne.mpr c11
    try dsimp only at H
    obtain rfl := Option.some.inj H
    have HL := mk_ (Lok.start w)
    go_enter Try.func39, Try.ntmps39
    go_wp2_with (first | ((with_reducible refine gate_gd rfl ?_); first | ((with_reducible refine gd_on rfl ?_ ?_); rfl; dsimp only) | ((with_reducible refine gd_off rfl ?_ ?_); rfl)) | ((with_reducible refine gate_dst (N := 1) rfl ?_); refine loc_box rfl rfl (by first | (go_simp; done) | (go_simp; rfl)) HL.out ?_; intro gb1 w_ HL_; replace HL := mk_ HL_; clear HL_) | ((with_reducible refine gate_ld0 (t := 72) rfl ?_); refine loc_load (n := 9) rfl rfl (by kernel_rfl) rfl (by kernel_rfl) HL.out (by with_reducible repeat (first | exact Sel.done | apply Sel.take | apply Sel.skip | apply Get.here | apply Get.next)) ?_) | ((with_reducible refine gate_ld0 rfl ?_); refine loc_load1 rfl rfl (by kernel_rfl) rfl HL.out (by with_reducible repeat (first | exact Sel.done | apply Sel.take | apply Sel.skip | apply Get.here | apply Get.next)) ?_) | ((with_reducible refine gate_st0 rfl ?_); refine loc_store rfl rfl rfl (by first | (go_simp; done) | (go_simp; rfl)) (by kernel_rfl) (by kernel_rfl) HL.out (by with_reducible repeat (first | exact Spl.done | apply Spl.put | apply Spl.skip | apply Upd.here | apply Upd.next)) ?_; intro w_ HL_; replace HL := mk_ HL_; clear HL_))
    go_ret
    exact ⟨by first | rfl | (simp [errW_none, errW_some] <;> rfl) | (simp [*, errW_none, errW_some] <;> rfl), HL.out.bel⟩
  rw [if_pos c11] at H
  have c11b0 : (a0_1 == 0) = true := beq_iff_eq.mpr c11
  have c11b1 : (a0_1 != 0) = false := bne_eq_false_iff_eq.mpr c11
  try dsimp only at H
  clear c11
  replace H := Option.bind_eq_some_iff.mp H
  obtain ⟨t115, A120, H⟩ := H
  try dsimp only at H
  have A12 := mk_ A120
  clear A120
  by_cases c13 : t115 = true
  rotate_left
  · replace c13 := Bool.eq_false_iff.mpr c13
    subst c13
    rw [if_neg Bool.false_ne_true] at H
    try dsimp only at H
    obtain rfl := Option.some.inj H
    have HL := mk_ (Lok.start w)
    go_enter Try.func39, Try.ntmps39
    go_wp2_with (first | ((with_reducible refine gate_dst (N := 37) rfl ?_); (with_reducible refine gate_callee (f := 44) rfl ?_); refine goesL_ (some 37) rfl rfl Try.func44 (by kernel_rfl) rfl #[.int .i64 a0_2, .int .i64 0, .int .i64 7] rfl (by (try simp only [List.map_toArray, List.map_cons, List.map_nil]); first | done | rfl) ?_; (with_reducible refine (spec_l1In.calls a0_2 0 7 false _ A12.out).mono ?_); rintro e w_ ⟨rfl, hb_⟩; refine ⟨_, rfl, ?_⟩; replace HL := mk_ (HL.out.drawn hb_); clear hb_) | ((with_reducible refine gate_gd rfl ?_); first | ((with_reducible refine gd_on rfl ?_ ?_); rfl; dsimp only) | ((with_reducible refine gd_off rfl ?_ ?_); rfl)) | ((with_reducible refine gate_dst (N := 1) rfl ?_); refine loc_box rfl rfl (by first | (go_simp; done) | (go_simp; rfl)) HL.out ?_; intro gb1 w_ HL_; replace HL := mk_ HL_; clear HL_) | ((with_reducible refine gate_ld0 (t := 72) rfl ?_); refine loc_load (n := 9) rfl rfl (by kernel_rfl) rfl (by kernel_rfl) HL.out (by with_reducible repeat (first | exact Sel.done | apply Sel.take | apply Sel.skip | apply Get.here | apply Get.next)) ?_) | ((with_reducible refine gate_ld0 rfl ?_); refine loc_load1 rfl rfl (by kernel_rfl) rfl HL.out (by with_reducible repeat (first | exact Sel.done | apply Sel.take | apply Sel.skip | apply Get.here | apply Get.next)) ?_) | ((with_reducible refine gate_st0 rfl ?_); refine loc_store rfl rfl rfl (by first | (go_simp; done) | (go_simp; rfl)) (by kernel_rfl) (by kernel_rfl) HL.out (by with_reducible repeat (first | exact Spl.done | apply Spl.put | apply Spl.skip | apply Upd.here | apply Upd.next)) ?_; intro w_ HL_; replace HL := mk_ HL_; clear HL_))
    go_ret
    exact ⟨by first | rfl | (simp [errW_none, errW_some] <;> rfl) | (simp [*, errW_none, errW_some] <;> rfl), HL.out.bel⟩
  subst c13
  rw [if_pos rfl] at H
  try dsimp only at H
  by_cases c14 : a0_3 = true
  rotate_left
  · replace c14 := Bool.eq_false_iff.mpr c14
    subst c14
    rw [if_neg Bool.false_ne_true] at H
    try dsimp only at H
    replace H := Option.bind_eq_some_iff.mp H
    obtain ⟨t117, A200, H⟩ := H
    try dsimp only at H
    have A20 := mk_ A200
    clear A200
    by_cases c21 : t117 = true
    rotate_left
    · replace c21 := Bool.eq_false_iff.mpr c21
      subst c21
      rw [if_neg Bool.false_ne_true] at H
      try dsimp only at H
      obtain rfl := Option.some.inj H
      have HL := mk_ (Lok.start w)
      go_enter Try.func39, Try.ntmps39
      go_wp2_with (first | ((with_reducible refine gate_dst (N := 37) rfl ?_); (with_reducible refine gate_callee (f := 44) rfl ?_); refine goesL_ (some 37) rfl rfl Try.func44 (by kernel_rfl) rfl #[.int .i64 a0_2, .int .i64 0, .int .i64 7] rfl (by (try simp only [List.map_toArray, List.map_cons, List.map_nil]); first | done | rfl) ?_; (with_reducible refine (spec_l1In.calls a0_2 0 7 true _ A12.out).mono ?_); rintro e w_ ⟨rfl, hb_⟩; refine ⟨_, rfl, ?_⟩; replace HL := mk_ (HL.out.drawn hb_); clear hb_) | ((with_reducible refine gate_dst (N := 51) rfl ?_); (with_reducible refine gate_callee (f := 44) rfl ?_); refine goesL_ (some 51) rfl rfl Try.func44 (by kernel_rfl) rfl #[.int .i64 a0_5, .int .i64 0, .int .i64 2] rfl (by (try simp only [List.map_toArray, List.map_cons, List.map_nil]); first | done | rfl) ?_; (with_reducible refine (spec_l1In.calls a0_5 0 2 false _ A20.out).mono ?_); rintro e w_ ⟨rfl, hb_⟩; refine ⟨_, rfl, ?_⟩; replace HL := mk_ (HL.out.drawn hb_); clear hb_) | ((with_reducible refine gate_gd rfl ?_); first | ((with_reducible refine gd_on rfl ?_ ?_); rfl; dsimp only) | ((with_reducible refine gd_off rfl ?_ ?_); rfl)) | ((with_reducible refine gate_dst (N := 1) rfl ?_); refine loc_box rfl rfl (by first | (go_simp; done) | (go_simp; rfl)) HL.out ?_; intro gb1 w_ HL_; replace HL := mk_ HL_; clear HL_) | ((with_reducible refine gate_ld0 (t := 72) rfl ?_); refine loc_load (n := 9) rfl rfl (by kernel_rfl) rfl (by kernel_rfl) HL.out (by with_reducible repeat (first | exact Sel.done | apply Sel.take | apply Sel.skip | apply Get.here | apply Get.next)) ?_) | ((with_reducible refine gate_ld0 rfl ?_); refine loc_load1 rfl rfl (by kernel_rfl) rfl HL.out (by with_reducible repeat (first | exact Sel.done | apply Sel.take | apply Sel.skip | apply Get.here | apply Get.next)) ?_) | ((with_reducible refine gate_st0 rfl ?_); refine loc_store rfl rfl rfl (by first | (go_simp; done) | (go_simp; rfl)) (by kernel_rfl) (by kernel_rfl) HL.out (by with_reducible repeat (first | exact Spl.done | apply Spl.put | apply Spl.skip | apply Upd.here | apply Upd.next)) ?_; intro w_ HL_; replace HL := mk_ HL_; clear HL_))
      go_ret
      exact ⟨by first | rfl | (simp [errW_none, errW_some] <;> rfl) | (simp [*, errW_none, errW_some] <;> rfl), HL.out.bel⟩
    subst c21
    rw [if_pos rfl] at H
    try dsimp only at H
    by_cases c22 : a0_6 = 0
    rotate_left
    · rw [if_neg c22] at H
      have c22b0 : (a0_6 == 0) = false := beq_eq_false_iff_ne.mpr c22
      have c22b1 : (a0_6 != 0) = true := bne_iff_ne.mpr c22
      try dsimp only at H
      obtain rfl := Option.some.inj H
      have HL := mk_ (Lok.start w)
      go_enter Try.func39, Try.ntmps39
      go_wp2_with (first | ((with_reducible refine gate_dst (N := 37) rfl ?_); (with_reducible refine gate_callee (f := 44) rfl ?_); refine goesL_ (some 37) rfl rfl Try.func44 (by kernel_rfl) rfl #[.int .i64 a0_2, .int .i64 0, .int .i64 7] rfl (by (try simp only [List.map_toArray, List.map_cons, List.map_nil]); first | done | rfl) ?_; (with_reducible refine (spec_l1In.calls a0_2 0 7 true _ A12.out).mono ?_); rintro e w_ ⟨rfl, hb_⟩; refine ⟨_, rfl, ?_⟩; replace HL := mk_ (HL.out.drawn hb_); clear hb_) | ((with_reducible refine gate_dst (N := 51) rfl ?_); (with_reducible refine gate_callee (f := 44) rfl ?_); refine goesL_ (some 51) rfl rfl Try.func44 (by kernel_rfl) rfl #[.int .i64 a0_5, .int .i64 0, .int .i64 2] rfl (by (try simp only [List.map_toArray, List.map_cons, List.map_nil]); first | done | rfl) ?_; (with_reducible refine (spec_l1In.calls a0_5 0 2 true _ A20.out).mono ?_); rintro e w_ ⟨rfl, hb_⟩; refine ⟨_, rfl, ?_⟩; replace HL := mk_ (HL.out.drawn hb_); clear hb_) | ((with_reducible refine gate_gd rfl ?_); first | ((with_reducible refine gd_on rfl ?_ ?_); rfl; dsimp only) | ((with_reducible refine gd_off rfl ?_ ?_); rfl)) | ((with_reducible refine gate_dst (N := 1) rfl ?_); refine loc_box rfl rfl (by first | (go_simp; done) | (go_simp; rfl)) HL.out ?_; intro gb1 w_ HL_; replace HL := mk_ HL_; clear HL_) | ((with_reducible refine gate_ld0 (t := 72) rfl ?_); refine loc_load (n := 9) rfl rfl (by kernel_rfl) rfl (by kernel_rfl) HL.out (by with_reducible repeat (first | exact Sel.done | apply Sel.take | apply Sel.skip | apply Get.here | apply Get.next)) ?_) | ((with_reducible refine gate_ld0 rfl ?_); refine loc_load1 rfl rfl (by kernel_rfl) rfl HL.out (by with_reducible repeat (first | exact Sel.done | apply Sel.take | apply Sel.skip | apply Get.here | apply Get.next)) ?_) | ((with_reducible refine gate_st0 rfl ?_); refine loc_store rfl rfl rfl (by first | (go_simp; done) | (go_simp; rfl)) (by kernel_rfl) (by kernel_rfl) HL.out (by with_reducible repeat (first | exact Spl.done | apply Spl.put | apply Spl.skip | apply Upd.here | apply Upd.next)) ?_; intro w_ HL_; replace HL := mk_ HL_; clear HL_))
      go_ret
      exact ⟨by first | rfl | (simp [errW_none, errW_some] <;> rfl) | (simp [*, errW_none, errW_some] <;> rfl), HL.out.bel⟩
    rw [if_pos c22] at H
    have c22b0 : (a0_6 == 0) = true := beq_iff_eq.mpr c22
    have c22b1 : (a0_6 != 0) = false := bne_eq_false_iff_eq.mpr c22
    try dsimp only at H
    clear c22
    by_cases c23 : a0_7 = 0
    rotate_left
    · rw [if_neg c23] at H
      have c23b0 : (a0_7 == 0) = false := beq_eq_false_iff_ne.mpr c23
      have c23b1 : (a0_7 != 0) = true := bne_iff_ne.mpr c23
      try dsimp only at H
      obtain rfl := Option.some.inj H
      have HL := mk_ (Lok.start w)
      go_enter Try.func39, Try.ntmps39
      go_wp2_with (first | ((with_reducible refine gate_dst (N := 37) rfl ?_); (with_reducible refine gate_callee (f := 44) rfl ?_); refine goesL_ (some 37) rfl rfl Try.func44 (by kernel_rfl) rfl #[.int .i64 a0_2, .int .i64 0, .int .i64 7] rfl (by (try simp only [List.map_toArray, List.map_cons, List.map_nil]); first | done | rfl) ?_; (with_reducible refine (spec_l1In.calls a0_2 0 7 true _ A12.out).mono ?_); rintro e w_ ⟨rfl, hb_⟩; refine ⟨_, rfl, ?_⟩; replace HL := mk_ (HL.out.drawn hb_); clear hb_) | ((with_reducible refine gate_dst (N := 51) rfl ?_); (with_reducible refine gate_callee (f := 44) rfl ?_); refine goesL_ (some 51) rfl rfl Try.func44 (by kernel_rfl) rfl #[.int .i64 a0_5, .int .i64 0, .int .i64 2] rfl (by (try simp only [List.map_toArray, List.map_cons, List.map_nil]); first | done | rfl) ?_; (with_reducible refine (spec_l1In.calls a0_5 0 2 true _ A20.out).mono ?_); rintro e w_ ⟨rfl, hb_⟩; refine ⟨_, rfl, ?_⟩; replace HL := mk_ (HL.out.drawn hb_); clear hb_) | ((with_reducible refine gate_gd rfl ?_); first | ((with_reducible refine gd_on rfl ?_ ?_); rfl; dsimp only) | ((with_reducible refine gd_off rfl ?_ ?_); rfl)) | ((with_reducible refine gate_dst (N := 1) rfl ?_); refine loc_box rfl rfl (by first | (go_simp; done) | (go_simp; rfl)) HL.out ?_; intro gb1 w_ HL_; replace HL := mk_ HL_; clear HL_) | ((with_reducible refine gate_ld0 (t := 72) rfl ?_); refine loc_load (n := 9) rfl rfl (by kernel_rfl) rfl (by kernel_rfl) HL.out (by with_reducible repeat (first | exact Sel.done | apply Sel.take | apply Sel.skip | apply Get.here | apply Get.next)) ?_) | ((with_reducible refine gate_ld0 rfl ?_); refine loc_load1 rfl rfl (by kernel_rfl) rfl HL.out (by with_reducible repeat (first | exact Sel.done | apply Sel.take | apply Sel.skip | apply Get.here | apply Get.next)) ?_) | ((with_reducible refine gate_st0 rfl ?_); refine loc_store rfl rfl rfl (by first | (go_simp; done) | (go_simp; rfl)) (by kernel_rfl) (by kernel_rfl) HL.out (by with_reducible repeat (first | exact Spl.done | apply Spl.put | apply Spl.skip | apply Upd.here | apply Upd.next)) ?_; intro w_ HL_; replace HL := mk_ HL_; clear HL_))
      go_ret
      exact ⟨by first | rfl | (simp [errW_none, errW_some] <;> rfl) | (simp [*, errW_none, errW_some] <;> rfl), HL.out.bel⟩
    rw [if_pos c23] at H
    have c23b0 : (a0_7 == 0) = true := beq_iff_eq.mpr c23
    have c23b1 : (a0_7 != 0) = false := bne_eq_false_iff_eq.mpr c23
    try dsimp only at H
    clear c23
    obtain rfl := Option.some.inj H
    have HL := mk_ (Lok.start w)
    go_enter Try.func39, Try.ntmps39
    go_wp2_with (first | ((with_reducible refine gate_dst (N := 37) rfl ?_); (with_reducible refine gate_callee (f := 44) rfl ?_); refine goesL_ (some 37) rfl rfl Try.func44 (by kernel_rfl) rfl #[.int .i64 a0_2, .int .i64 0, .int .i64 7] rfl (by (try simp only [List.map_toArray, List.map_cons, List.map_nil]); first | done | rfl) ?_; (with_reducible refine (spec_l1In.calls a0_2 0 7 true _ A12.out).mono ?_); rintro e w_ ⟨rfl, hb_⟩; refine ⟨_, rfl, ?_⟩; replace HL := mk_ (HL.out.drawn hb_); clear hb_) | ((with_reducible refine gate_dst (N := 51) rfl ?_); (with_reducible refine gate_callee (f := 44) rfl ?_); refine goesL_ (some 51) rfl rfl Try.func44 (by kernel_rfl) rfl #[.int .i64 a0_5, .int .i64 0, .int .i64 2] rfl (by (try simp only [List.map_toArray, List.map_cons, List.map_nil]); first | done | rfl) ?_; (with_reducible refine (spec_l1In.calls a0_5 0 2 true _ A20.out).mono ?_); rintro e w_ ⟨rfl, hb_⟩; refine ⟨_, rfl, ?_⟩; replace HL := mk_ (HL.out.drawn hb_); clear hb_) | ((with_reducible refine gate_gd rfl ?_); first | ((with_reducible refine gd_on rfl ?_ ?_); rfl; dsimp only) | ((with_reducible refine gd_off rfl ?_ ?_); rfl)) | ((with_reducible refine gate_dst (N := 1) rfl ?_); refine loc_box rfl rfl (by first | (go_simp; done) | (go_simp; rfl)) HL.out ?_; intro gb1 w_ HL_; replace HL := mk_ HL_; clear HL_) | ((with_reducible refine gate_ld0 (t := 72) rfl ?_); refine loc_load (n := 9) rfl rfl (by kernel_rfl) rfl (by kernel_rfl) HL.out (by with_reducible repeat (first | exact Sel.done | apply Sel.take | apply Sel.skip | apply Get.here | apply Get.next)) ?_) | ((with_reducible refine gate_ld0 rfl ?_); refine loc_load1 rfl rfl (by kernel_rfl) rfl HL.out (by with_reducible repeat (first | exact Sel.done | apply Sel.take | apply Sel.skip | apply Get.here | apply Get.next)) ?_) | ((with_reducible refine gate_st0 rfl ?_); refine loc_store rfl rfl rfl (by first | (go_simp; done) | (go_simp; rfl)) (by kernel_rfl) (by kernel_rfl) HL.out (by with_reducible repeat (first | exact Spl.done | apply Spl.put | apply Spl.skip | apply Upd.here | apply Upd.next)) ?_; intro w_ HL_; replace HL := mk_ HL_; clear HL_))
    go_ret
    exact ⟨by first | rfl | (simp [errW_none, errW_some] <;> rfl) | (simp [*, errW_none, errW_some] <;> rfl), HL.out.bel⟩
  subst c14
  rw [if_pos rfl] at H
  try dsimp only at H
  by_cases c15 : a0_4 = true
  · subst c15
    rw [if_pos rfl] at H
    try dsimp only at H
    obtain rfl := Option.some.inj H
    have HL := mk_ (Lok.start w)
    go_enter Try.func39, Try.ntmps39
    go_wp2_with (first | ((with_reducible refine gate_dst (N := 37) rfl ?_); (with_reducible refine gate_callee (f := 44) rfl ?_); refine goesL_ (some 37) rfl rfl Try.func44 (by kernel_rfl) rfl #[.int .i64 a0_2, .int .i64 0, .int .i64 7] rfl (by (try simp only [List.map_toArray, List.map_cons, List.map_nil]); first | done | rfl) ?_; (with_reducible refine (spec_l1In.calls a0_2 0 7 true _ A12.out).mono ?_); rintro e w_ ⟨rfl, hb_⟩; refine ⟨_, rfl, ?_⟩; replace HL := mk_ (HL.out.drawn hb_); clear hb_) | ((with_reducible refine gate_gd rfl ?_); first | ((with_reducible refine gd_on rfl ?_ ?_); rfl; dsimp only) | ((with_reducible refine gd_off rfl ?_ ?_); rfl)) | ((with_reducible refine gate_dst (N := 1) rfl ?_); refine loc_box rfl rfl (by first | (go_simp; done) | (go_simp; rfl)) HL.out ?_; intro gb1 w_ HL_; replace HL := mk_ HL_; clear HL_) | ((with_reducible refine gate_ld0 (t := 72) rfl ?_); refine loc_load (n := 9) rfl rfl (by kernel_rfl) rfl (by kernel_rfl) HL.out (by with_reducible repeat (first | exact Sel.done | apply Sel.take | apply Sel.skip | apply Get.here | apply Get.next)) ?_) | ((with_reducible refine gate_ld0 rfl ?_); refine loc_load1 rfl rfl (by kernel_rfl) rfl HL.out (by with_reducible repeat (first | exact Sel.done | apply Sel.take | apply Sel.skip | apply Get.here | apply Get.next)) ?_) | ((with_reducible refine gate_st0 rfl ?_); refine loc_store rfl rfl rfl (by first | (go_simp; done) | (go_simp; rfl)) (by kernel_rfl) (by kernel_rfl) HL.out (by with_reducible repeat (first | exact Spl.done | apply Spl.put | apply Spl.skip | apply Upd.here | apply Upd.next)) ?_; intro w_ HL_; replace HL := mk_ HL_; clear HL_))
    go_ret
    exact ⟨by first | rfl | (simp [errW_none, errW_some] <;> rfl) | (simp [*, errW_none, errW_some] <;> rfl), HL.out.bel⟩
  replace c15 := Bool.eq_false_iff.mpr c15
  subst c15
  rw [if_neg Bool.false_ne_true] at H
  try dsimp only at H
  replace H := Option.bind_eq_some_iff.mp H
  obtain ⟨t116, A160, H⟩ := H
  try dsimp only at H
  have A16 := mk_ A160
  clear A160
  by_cases c17 : t116 = true
  rotate_left
  · replace c17 := Bool.eq_false_iff.mpr c17
    subst c17
    rw [if_neg Bool.false_ne_true] at H
    try dsimp only at H
    obtain rfl := Option.some.inj H
    have HL := mk_ (Lok.start w)
    go_enter Try.func39, Try.ntmps39
    go_wp2_with (first | ((with_reducible refine gate_dst (N := 37) rfl ?_); (with_reducible refine gate_callee (f := 44) rfl ?_); refine goesL_ (some 37) rfl rfl Try.func44 (by kernel_rfl) rfl #[.int .i64 a0_2, .int .i64 0, .int .i64 7] rfl (by (try simp only [List.map_toArray, List.map_cons, List.map_nil]); first | done | rfl) ?_; (with_reducible refine (spec_l1In.calls a0_2 0 7 true _ A12.out).mono ?_); rintro e w_ ⟨rfl, hb_⟩; refine ⟨_, rfl, ?_⟩; replace HL := mk_ (HL.out.drawn hb_); clear hb_) | ((with_reducible refine gate_dst (N := 51) rfl ?_); (with_reducible refine gate_callee (f := 44) rfl ?_); refine goesL_ (some 51) rfl rfl Try.func44 (by kernel_rfl) rfl #[.int .i64 a0_5, .int .i64 0, .int .i64 2] rfl (by (try simp only [List.map_toArray, List.map_cons, List.map_nil]); first | done | rfl) ?_; (with_reducible refine (spec_l1In.calls a0_5 0 2 false _ A16.out).mono ?_); rintro e w_ ⟨rfl, hb_⟩; refine ⟨_, rfl, ?_⟩; replace HL := mk_ (HL.out.drawn hb_); clear hb_) | ((with_reducible refine gate_gd rfl ?_); first | ((with_reducible refine gd_on rfl ?_ ?_); rfl; dsimp only) | ((with_reducible refine gd_off rfl ?_ ?_); rfl)) | ((with_reducible refine gate_dst (N := 1) rfl ?_); refine loc_box rfl rfl (by first | (go_simp; done) | (go_simp; rfl)) HL.out ?_; intro gb1 w_ HL_; replace HL := mk_ HL_; clear HL_) | ((with_reducible refine gate_ld0 (t := 72) rfl ?_); refine loc_load (n := 9) rfl rfl (by kernel_rfl) rfl (by kernel_rfl) HL.out (by with_reducible repeat (first | exact Sel.done | apply Sel.take | apply Sel.skip | apply Get.here | apply Get.next)) ?_) | ((with_reducible refine gate_ld0 rfl ?_); refine loc_load1 rfl rfl (by kernel_rfl) rfl HL.out (by with_reducible repeat (first | exact Sel.done | apply Sel.take | apply Sel.skip | apply Get.here | apply Get.next)) ?_) | ((with_reducible refine gate_st0 rfl ?_); refine loc_store rfl rfl rfl (by first | (go_simp; done) | (go_simp; rfl)) (by kernel_rfl) (by kernel_rfl) HL.out (by with_reducible repeat (first | exact Spl.done | apply Spl.put | apply Spl.skip | apply Upd.here | apply Upd.next)) ?_; intro w_ HL_; replace HL := mk_ HL_; clear HL_))
    go_ret
    exact ⟨by first | rfl | (simp [errW_none, errW_some] <;> rfl) | (simp [*, errW_none, errW_some] <;> rfl), HL.out.bel⟩
  subst c17
  rw [if_pos rfl] at H
  try dsimp only at H
  by_cases c18 : a0_6 = 0
  rotate_left
  · rw [if_neg c18] at H
    have c18b0 : (a0_6 == 0) = false := beq_eq_false_iff_ne.mpr c18
    have c18b1 : (a0_6 != 0) = true := bne_iff_ne.mpr c18
    try dsimp only at H
    obtain rfl := Option.some.inj H
    have HL := mk_ (Lok.start w)
    go_enter Try.func39, Try.ntmps39
    go_wp2_with (first | ((with_reducible refine gate_dst (N := 37) rfl ?_); (with_reducible refine gate_callee (f := 44) rfl ?_); refine goesL_ (some 37) rfl rfl Try.func44 (by kernel_rfl) rfl #[.int .i64 a0_2, .int .i64 0, .int .i64 7] rfl (by (try simp only [List.map_toArray, List.map_cons, List.map_nil]); first | done | rfl) ?_; (with_reducible refine (spec_l1In.calls a0_2 0 7 true _ A12.out).mono ?_); rintro e w_ ⟨rfl, hb_⟩; refine ⟨_, rfl, ?_⟩; replace HL := mk_ (HL.out.drawn hb_); clear hb_) | ((with_reducible refine gate_dst (N := 51) rfl ?_); (with_reducible refine gate_callee (f := 44) rfl ?_); refine goesL_ (some 51) rfl rfl Try.func44 (by kernel_rfl) rfl #[.int .i64 a0_5, .int .i64 0, .int .i64 2] rfl (by (try simp only [List.map_toArray, List.map_cons, List.map_nil]); first | done | rfl) ?_; (with_reducible refine (spec_l1In.calls a0_5 0 2 true _ A16.out).mono ?_); rintro e w_ ⟨rfl, hb_⟩; refine ⟨_, rfl, ?_⟩; replace HL := mk_ (HL.out.drawn hb_); clear hb_) | ((with_reducible refine gate_gd rfl ?_); first | ((with_reducible refine gd_on rfl ?_ ?_); rfl; dsimp only) | ((with_reducible refine gd_off rfl ?_ ?_); rfl)) | ((with_reducible refine gate_dst (N := 1) rfl ?_); refine loc_box rfl rfl (by first | (go_simp; done) | (go_simp; rfl)) HL.out ?_; intro gb1 w_ HL_; replace HL := mk_ HL_; clear HL_) | ((with_reducible refine gate_ld0 (t := 72) rfl ?_); refine loc_load (n := 9) rfl rfl (by kernel_rfl) rfl (by kernel_rfl) HL.out (by with_reducible repeat (first | exact Sel.done | apply Sel.take | apply Sel.skip | apply Get.here | apply Get.next)) ?_) | ((with_reducible refine gate_ld0 rfl ?_); refine loc_load1 rfl rfl (by kernel_rfl) rfl HL.out (by with_reducible repeat (first | exact Sel.done | apply Sel.take | apply Sel.skip | apply Get.here | apply Get.next)) ?_) | ((with_reducible refine gate_st0 rfl ?_); refine loc_store rfl rfl rfl (by first | (go_simp; done) | (go_simp; rfl)) (by kernel_rfl) (by kernel_rfl) HL.out (by with_reducible repeat (first | exact Spl.done | apply Spl.put | apply Spl.skip | apply Upd.here | apply Upd.next)) ?_; intro w_ HL_; replace HL := mk_ HL_; clear HL_))
    go_ret
    exact ⟨by first | rfl | (simp [errW_none, errW_some] <;> rfl) | (simp [*, errW_none, errW_some] <;> rfl), HL.out.bel⟩
  rw [if_pos c18] at H
  have c18b0 : (a0_6 == 0) = true := beq_iff_eq.mpr c18
  have c18b1 : (a0_6 != 0) = false := bne_eq_false_iff_eq.mpr c18
  try dsimp only at H
  clear c18
  by_cases c19 : a0_7 = 0
  rotate_left
  · rw [if_neg c19] at H
    have c19b0 : (a0_7 == 0) = false := beq_eq_false_iff_ne.mpr c19
    have c19b1 : (a0_7 != 0) = true := bne_iff_ne.mpr c19
    try dsimp only at H
    obtain rfl := Option.some.inj H
    have HL := mk_ (Lok.start w)
    go_enter Try.func39, Try.ntmps39
    go_wp2_with (first | ((with_reducible refine gate_dst (N := 37) rfl ?_); (with_reducible refine gate_callee (f := 44) rfl ?_); refine goesL_ (some 37) rfl rfl Try.func44 (by kernel_rfl) rfl #[.int .i64 a0_2, .int .i64 0, .int .i64 7] rfl (by (try simp only [List.map_toArray, List.map_cons, List.map_nil]); first | done | rfl) ?_; (with_reducible refine (spec_l1In.calls a0_2 0 7 true _ A12.out).mono ?_); rintro e w_ ⟨rfl, hb_⟩; refine ⟨_, rfl, ?_⟩; replace HL := mk_ (HL.out.drawn hb_); clear hb_) | ((with_reducible refine gate_dst (N := 51) rfl ?_); (with_reducible refine gate_callee (f := 44) rfl ?_); refine goesL_ (some 51) rfl rfl Try.func44 (by kernel_rfl) rfl #[.int .i64 a0_5, .int .i64 0, .int .i64 2] rfl (by (try simp only [List.map_toArray, List.map_cons, List.map_nil]); first | done | rfl) ?_; (with_reducible refine (spec_l1In.calls a0_5 0 2 true _ A16.out).mono ?_); rintro e w_ ⟨rfl, hb_⟩; refine ⟨_, rfl, ?_⟩; replace HL := mk_ (HL.out.drawn hb_); clear hb_) | ((with_reducible refine gate_gd rfl ?_); first | ((with_reducible refine gd_on rfl ?_ ?_); rfl; dsimp only) | ((with_reducible refine gd_off rfl ?_ ?_); rfl)) | ((with_reducible refine gate_dst (N := 1) rfl ?_); refine loc_box rfl rfl (by first | (go_simp; done) | (go_simp; rfl)) HL.out ?_; intro gb1 w_ HL_; replace HL := mk_ HL_; clear HL_) | ((with_reducible refine gate_ld0 (t := 72) rfl ?_); refine loc_load (n := 9) rfl rfl (by kernel_rfl) rfl (by kernel_rfl) HL.out (by with_reducible repeat (first | exact Sel.done | apply Sel.take | apply Sel.skip | apply Get.here | apply Get.next)) ?_) | ((with_reducible refine gate_ld0 rfl ?_); refine loc_load1 rfl rfl (by kernel_rfl) rfl HL.out (by with_reducible repeat (first | exact Sel.done | apply Sel.take | apply Sel.skip | apply Get.here | apply Get.next)) ?_) | ((with_reducible refine gate_st0 rfl ?_); refine loc_store rfl rfl rfl (by first | (go_simp; done) | (go_simp; rfl)) (by kernel_rfl) (by kernel_rfl) HL.out (by with_reducible repeat (first | exact Spl.done | apply Spl.put | apply Spl.skip | apply Upd.here | apply Upd.next)) ?_; intro w_ HL_; replace HL := mk_ HL_; clear HL_))
    go_ret
    exact ⟨by first | rfl | (simp [errW_none, errW_some] <;> rfl) | (simp [*, errW_none, errW_some] <;> rfl), HL.out.bel⟩
  rw [if_pos c19] at H
  have c19b0 : (a0_7 == 0) = true := beq_iff_eq.mpr c19
  have c19b1 : (a0_7 != 0) = false := bne_eq_false_iff_eq.mpr c19
  try dsimp only at H
  clear c19
  obtain rfl := Option.some.inj H
  have HL := mk_ (Lok.start w)
  go_enter Try.func39, Try.ntmps39
  go_wp2_with (first | ((with_reducible refine gate_dst (N := 37) rfl ?_); (with_reducible refine gate_callee (f := 44) rfl ?_); refine goesL_ (some 37) rfl rfl Try.func44 (by kernel_rfl) rfl #[.int .i64 a0_2, .int .i64 0, .int .i64 7] rfl (by (try simp only [List.map_toArray, List.map_cons, List.map_nil]); first | done | rfl) ?_; (with_reducible refine (spec_l1In.calls a0_2 0 7 true _ A12.out).mono ?_); rintro e w_ ⟨rfl, hb_⟩; refine ⟨_, rfl, ?_⟩; replace HL := mk_ (HL.out.drawn hb_); clear hb_) | ((with_reducible refine gate_dst (N := 51) rfl ?_); (with_reducible refine gate_callee (f := 44) rfl ?_); refine goesL_ (some 51) rfl rfl Try.func44 (by kernel_rfl) rfl #[.int .i64 a0_5, .int .i64 0, .int .i64 2] rfl (by (try simp only [List.map_toArray, List.map_cons, List.map_nil]); first | done | rfl) ?_; (with_reducible refine (spec_l1In.calls a0_5 0 2 true _ A16.out).mono ?_); rintro e w_ ⟨rfl, hb_⟩; refine ⟨_, rfl, ?_⟩; replace HL := mk_ (HL.out.drawn hb_); clear hb_) | ((with_reducible refine gate_gd rfl ?_); first | ((with_reducible refine gd_on rfl ?_ ?_); rfl; dsimp only) | ((with_reducible refine gd_off rfl ?_ ?_); rfl)) | ((with_reducible refine gate_dst (N := 1) rfl ?_); refine loc_box rfl rfl (by first | (go_simp; done) | (go_simp; rfl)) HL.out ?_; intro gb1 w_ HL_; replace HL := mk_ HL_; clear HL_) | ((with_reducible refine gate_ld0 (t := 72) rfl ?_); refine loc_load (n := 9) rfl rfl (by kernel_rfl) rfl (by kernel_rfl) HL.out (by with_reducible repeat (first | exact Sel.done | apply Sel.take | apply Sel.skip | apply Get.here | apply Get.next)) ?_) | ((with_reducible refine gate_ld0 rfl ?_); refine loc_load1 rfl rfl (by kernel_rfl) rfl HL.out (by with_reducible repeat (first | exact Sel.done | apply Sel.take | apply Sel.skip | apply Get.here | apply Get.next)) ?_) | ((with_reducible refine gate_st0 rfl ?_); refine loc_store rfl rfl rfl (by first | (go_simp; done) | (go_simp; rfl)) (by kernel_rfl) (by kernel_rfl) HL.out (by with_reducible repeat (first | exact Spl.done | apply Spl.put | apply Spl.skip | apply Upd.here | apply Upd.next)) ?_; intro w_ HL_; replace HL := mk_ HL_; clear HL_))
  go_ret
  exact ⟨by first | rfl | (simp [errW_none, errW_some] <;> rfl) | (simp [*, errW_none, errW_some] <;> rfl), HL.out.bel⟩

/-! ### impl_isNumber: function 63 -/
def impl_isNumber.f (a0 : Int) : Option (Bool) := (impl_in.f a0 0 7).bind fun t120 => (some t120)
set_option maxHeartbeats 60000000 in
set_option maxRecDepth 100000 in
theorem impl_isNumber.calls (a0 : Int) (r : Bool) (w : World) (h : impl_isNumber.f a0 = some r) :
    Calls Try.prog 63 #[.int .i64 a0] w fun e w' => e = .returned (.bool r) ∧ Drawn0 w w' := by
 have H : ((impl_in.f a0 0 7).bind fun t120 => (some t120)) = some r := h
 clear h
 replace H := Option.bind_eq_some_iff.mp H
 obtain ⟨t120, A20, H⟩ := H
 try dsimp only at H
 have A2 := mk_ A20
 clear A20
 obtain rfl := Option.some.inj H
 go_enter Try.func63, Try.ntmps63
 go_wp2_with (first | ((with_reducible refine gate_callee (f := 47) rfl ?_); refine goesL_ (some 4) rfl rfl Try.func47 (by kernel_rfl) rfl #[.int .i64 a0, .int .i64 0, .int .i64 7] rfl (by (try simp only [List.map_toArray, List.map_cons, List.map_nil]); first | done | rfl | (simp only [List.length_drop, List.length_take]; rfl)) ?_; (with_reducible refine (impl_in.calls a0 0 7 t120 _ A2.out).mono ?_); rintro e w' ⟨rfl, ⟨nd, rfl⟩⟩; refine ⟨_, rfl, ?_⟩))
 go_ret
 exact ⟨by first | rfl | (simp; done) | (simp [*]; done), by repeat (first | exact Drawn0.refl _ | apply Drawn0.step)⟩

/-! ### impl_pieceOk: function 64 -/
def impl_pieceOk.f (a0 : Int) (a1 : Int) (l2 : List Int) : Option (Bool) := if a0 = 0 then (if (l2.length : Int) ≤ 8 then (some (a1 == (l2.length : Int))) else (some false)) else (if a0 = 1 then ((impl_in.f (l2.length : Int) 1 8).bind fun t121 => (if t121 = true then ((impl_in.f a1 (wrap64 ((l2.length : Int) + 1)) 24).bind fun t122 => (some t122)) else (some false))) else (if a0 = 2 then ((impl_in.f (l2.length : Int) 1 8).bind fun t123 => (if t123 = true then (some (a1 == 0)) else (some false))) else (if a0 = 3 then ((impl_in.f (l2.length : Int) 1 8).bind fun t124 => (if t124 = true then (some (a1 == 0)) else (some false))) else (some false))))
set_option maxHeartbeats 60000000 in
set_option maxRecDepth 100000 in
theorem impl_pieceOk.calls (a0 : Int) (a1 : Int) (A2 : Option Addr) (c2 : Nat) (l2 : List Int) (r : Bool) (w : World) (hr2 : Kd.C (Kd.int .u8) w A2 l2.length l2) (hc2 : l2.length ≤ c2) (h : impl_pieceOk.f a0 a1 l2 = some r) :
    Calls Try.prog 64 #[.int .i64 a0, .int .i64 a1, .slice A2 l2.length c2] w fun e w' => e = .returned (.bool r) ∧ Drawn0 w w' := by
 have HR2 := mk_ hr2
 have HC2 := mk_ hc2
 clear hr2 hc2
 have H : (if a0 = 0 then (if (l2.length : Int) ≤ 8 then (some (a1 == (l2.length : Int))) else (some false)) else (if a0 = 1 then ((impl_in.f (l2.length : Int) 1 8).bind fun t121 => (if t121 = true then ((impl_in.f a1 (wrap64 ((l2.length : Int) + 1)) 24).bind fun t122 => (some t122)) else (some false))) else (if a0 = 2 then ((impl_in.f (l2.length : Int) 1 8).bind fun t123 => (if t123 = true then (some (a1 == 0)) else (some false))) else (if a0 = 3 then ((impl_in.f (l2.length : Int) 1 8).bind fun t124 => (if t124 = true then (some (a1 == 0)) else (some false))) else (some false))))) = some r := h
 clear h
 by_cases c4 : a0 = 0
 · rw [if_pos c4] at H
   have c4b0 : (a0 == 0) = true := beq_iff_eq.mpr c4
   have c4b1 : (a0 != 0) = false := bne_eq_false_iff_eq.mpr c4
   clear c4
   by_cases c5 : (l2.length : Int) ≤ 8
   · rw [if_pos c5] at H
     have c5b0 : decide ((l2.length : Int) ≤ 8) = true := decide_eq_true c5
     have c5b1 : decide (l2.length ≤ 8) = true := decide_eq_true (by omega)
     clear c5
     obtain rfl := Option.some.inj H
     go_enter Try.func64, Try.ntmps64
     go_wp2
     go_ret
     exact ⟨by first | rfl | (simp; done) | (simp [*]; done), by repeat (first | exact Drawn0.refl _ | apply Drawn0.step)⟩
   rw [if_neg c5] at H
   have c5b0 : decide ((l2.length : Int) ≤ 8) = false := decide_eq_false c5
   have c5b1 : decide (l2.length ≤ 8) = false := decide_eq_false (by omega)
   clear c5
   obtain rfl := Option.some.inj H
   go_enter Try.func64, Try.ntmps64
   go_wp2
   go_ret
   exact ⟨by first | rfl | (simp; done) | (simp [*]; done), by repeat (first | exact Drawn0.refl _ | apply Drawn0.step)⟩
 rw [if_neg c4] at H
 have c4b0 : (a0 == 0) = false := beq_eq_false_iff_ne.mpr c4
 have c4b1 : (a0 != 0) = true := bne_iff_ne.mpr c4
 by_cases c6 : a0 = 1
 · rw [if_pos c6] at H
   have c6b0 : (a0 == 1) = true := beq_iff_eq.mpr c6
   have c6b1 : (a0 != 1) = false := bne_eq_false_iff_eq.mpr c6
   clear c6
   replace H := Option.bind_eq_some_iff.mp H
   obtain ⟨t121, A70, H⟩ := H
   try dsimp only at H
   have A7 := mk_ A70
   clear A70
   by_cases c8 : t121 = true
   rotate_left
   · replace c8 := Bool.eq_false_iff.mpr c8
     subst c8
     have H1 : (some false) = some r := by rw [if_neg (show ¬ (false = true) by decide)] at H; exact H
     clear H
     have H := H1
     clear H1
     obtain rfl := Option.some.inj H
     go_enter Try.func64, Try.ntmps64
     go_wp2_with (first | ((with_reducible refine gate_callee (f := 47) rfl ?_); refine goesL_ (some 23) rfl rfl Try.func47 (by kernel_rfl) rfl #[.int .i64 (l2.length : Int), .int .i64 1, .int .i64 8] rfl (by (try simp only [List.map_toArray, List.map_cons, List.map_nil]); first | done | rfl | (simp only [List.length_drop, List.length_take]; rfl)) ?_; (with_reducible refine (impl_in.calls (l2.length : Int) 1 8 false _ A7.out).mono ?_); rintro e w' ⟨rfl, ⟨nd, rfl⟩⟩; refine ⟨_, rfl, ?_⟩))
     go_ret
     exact ⟨by first | rfl | (simp; done) | (simp [*]; done), by repeat (first | exact Drawn0.refl _ | apply Drawn0.step)⟩
   subst c8
   have H1 : ((impl_in.f a1 (wrap64 ((l2.length : Int) + 1)) 24).bind fun t122 => (some t122)) = some r := by rw [if_pos rfl] at H; exact H
   clear H
   have H := H1
   clear H1
   replace H := Option.bind_eq_some_iff.mp H
   obtain ⟨t122, A90, H⟩ := H
   try dsimp only at H
   have A9 := mk_ A90
   clear A90
   obtain rfl := Option.some.inj H
   go_enter Try.func64, Try.ntmps64
   go_wp2_with (first | ((with_reducible refine gate_callee (f := 47) rfl ?_); refine goesL_ (some 23) rfl rfl Try.func47 (by kernel_rfl) rfl #[.int .i64 (l2.length : Int), .int .i64 1, .int .i64 8] rfl (by (try simp only [List.map_toArray, List.map_cons, List.map_nil]); first | done | rfl | (simp only [List.length_drop, List.length_take]; rfl)) ?_; (with_reducible refine (impl_in.calls (l2.length : Int) 1 8 true _ A7.out).mono ?_); rintro e w' ⟨rfl, ⟨nd, rfl⟩⟩; refine ⟨_, rfl, ?_⟩) | (go_at_call 47; (with_reducible refine (impl_in.calls a1 (wrap64 ((l2.length : Int) + 1)) 24 t122 _ A9.out).mono ?_); rintro e w' ⟨rfl, ⟨nd, rfl⟩⟩))
   go_ret
   exact ⟨by first | rfl | (simp; done) | (simp [*]; done), by repeat (first | exact Drawn0.refl _ | apply Drawn0.step)⟩
 rw [if_neg c6] at H
 have c6b0 : (a0 == 1) = false := beq_eq_false_iff_ne.mpr c6
 have c6b1 : (a0 != 1) = true := bne_iff_ne.mpr c6
 by_cases c10 : a0 = 2
 · rw [if_pos c10] at H
   have c10b0 : (a0 == 2) = true := beq_iff_eq.mpr c10
   have c10b1 : (a0 != 2) = false := bne_eq_false_iff_eq.mpr c10
   clear c10
   replace H := Option.bind_eq_some_iff.mp H
   obtain ⟨t123, A110, H⟩ := H
   try dsimp only at H
   have A11 := mk_ A110
   clear A110
   by_cases c12 : t123 = true
   · subst c12
     have H1 : (some (a1 == 0)) = some r := by rw [if_pos rfl] at H; exact H
     clear H
     have H := H1
     clear H1
     obtain rfl := Option.some.inj H
     go_enter Try.func64, Try.ntmps64
     go_wp2_with (first | ((with_reducible refine gate_callee (f := 47) rfl ?_); refine goesL_ (some 34) rfl rfl Try.func47 (by kernel_rfl) rfl #[.int .i64 (l2.length : Int), .int .i64 1, .int .i64 8] rfl (by (try simp only [List.map_toArray, List.map_cons, List.map_nil]); first | done | rfl | (simp only [List.length_drop, List.length_take]; rfl)) ?_; (with_reducible refine (impl_in.calls (l2.length : Int) 1 8 true _ A11.out).mono ?_); rintro e w' ⟨rfl, ⟨nd, rfl⟩⟩; refine ⟨_, rfl, ?_⟩))
     go_ret
     exact ⟨by first | rfl | (simp; done) | (simp [*]; done), by repeat (first | exact Drawn0.refl _ | apply Drawn0.step)⟩
   replace c12 := Bool.eq_false_iff.mpr c12
   subst c12
   have H1 : (some false) = some r := by rw [if_neg (show ¬ (false = true) by decide)] at H; exact H
   clear H
   have H := H1
   clear H1
   obtain rfl := Option.some.inj H
   go_enter Try.func64, Try.ntmps64
   go_wp2_with (first | ((with_reducible refine gate_callee (f := 47) rfl ?_); refine goesL_ (some 34) rfl rfl Try.func47 (by kernel_rfl) rfl #[.int .i64 (l2.length : Int), .int .i64 1, .int .i64 8] rfl (by (try simp only [List.map_toArray, List.map_cons, List.map_nil]); first | done | rfl | (simp only [List.length_drop, List.length_take]; rfl)) ?_; (with_reducible refine (impl_in.calls (l2.length : Int) 1 8 false _ A11.out).mono ?_); rintro e w' ⟨rfl, ⟨nd, rfl⟩⟩; refine ⟨_, rfl, ?_⟩))
   go_ret
   exact ⟨by first | rfl | (simp; done) | (simp [*]; done), by repeat (first | exact Drawn0.refl _ | apply Drawn0.step)⟩
 rw [if_neg c10] at H
 have c10b0 : (a0 == 2) = false := beq_eq_false_iff_ne.mpr c10
 have c10b1 : (a0 != 2) = true := bne_iff_ne.mpr c10
 by_cases c13 : a0 = 3
 rotate_left
 · rw [if_neg c13] at H
   have c13b0 : (a0 == 3) = false := beq_eq_false_iff_ne.mpr c13
   have c13b1 : (a0 != 3) = true := bne_iff_ne.mpr c13
   obtain rfl := Option.some.inj H
   go_enter Try.func64, Try.ntmps64
   go_wp2
   go_ret
   exact ⟨by first | rfl | (simp; done) | (simp [*]; done), by repeat (first | exact Drawn0.refl _ | apply Drawn0.step)⟩
 rw [if_pos c13] at H
 have c13b0 : (a0 == 3) = true := beq_iff_eq.mpr c13
 have c13b1 : (a0 != 3) = false := bne_eq_false_iff_eq.mpr c13
 clear c13
 replace H := Option.bind_eq_some_iff.mp H
 obtain ⟨t124, A140, H⟩ := H
 try dsimp only at H
 have A14 := mk_ A140
 clear A140
 by_cases c15 : t124 = true
 · subst c15
   have H1 : (some (a1 == 0)) = some r := by rw [if_pos rfl] at H; exact H
   clear H
   have H := H1
   clear H1
   obtain rfl := Option.some.inj H
   go_enter Try.func64, Try.ntmps64
   go_wp2_with (first | ((with_reducible refine gate_callee (f := 47) rfl ?_); refine goesL_ (some 34) rfl rfl Try.func47 (by kernel_rfl) rfl #[.int .i64 (l2.length : Int), .int .i64 1, .int .i64 8] rfl (by (try simp only [List.map_toArray, List.map_cons, List.map_nil]); first | done | rfl | (simp only [List.length_drop, List.length_take]; rfl)) ?_; (with_reducible refine (impl_in.calls (l2.length : Int) 1 8 true _ A14.out).mono ?_); rintro e w' ⟨rfl, ⟨nd, rfl⟩⟩; refine ⟨_, rfl, ?_⟩))
   go_ret
   exact ⟨by first | rfl | (simp; done) | (simp [*]; done), by repeat (first | exact Drawn0.refl _ | apply Drawn0.step)⟩
 replace c15 := Bool.eq_false_iff.mpr c15
 subst c15
 have H1 : (some false) = some r := by rw [if_neg (show ¬ (false = true) by decide)] at H; exact H
 clear H
 have H := H1
 clear H1
 obtain rfl := Option.some.inj H
 go_enter Try.func64, Try.ntmps64
 go_wp2_with (first | ((with_reducible refine gate_callee (f := 47) rfl ?_); refine goesL_ (some 34) rfl rfl Try.func47 (by kernel_rfl) rfl #[.int .i64 (l2.length : Int), .int .i64 1, .int .i64 8] rfl (by (try simp only [List.map_toArray, List.map_cons, List.map_nil]); first | done | rfl | (simp only [List.length_drop, List.length_take]; rfl)) ?_; (with_reducible refine (impl_in.calls (l2.length : Int) 1 8 false _ A14.out).mono ?_); rintro e w' ⟨rfl, ⟨nd, rfl⟩⟩; refine ⟨_, rfl, ?_⟩))
 go_ret
 exact ⟨by first | rfl | (simp; done) | (simp [*]; done), by repeat (first | exact Drawn0.refl _ | apply Drawn0.step)⟩

/-! ### slices_Equal_byte_byte: function 68 -/
def slices_Equal_byte_byte.l0 : Nat → List Int → List Int → Int → Int → Option (Bool)
  | 0, _, _, _, _ => none
  | k + 1, x0, x1, x12, x13 => if x13 < x12 then (if 0 ≤ x13 then (if x13 < (x0.length : Int) then (if x13 < (x1.length : Int) then (if (rd x0 x13) = (rd x1 x13) then (slices_Equal_byte_byte.l0 k x0 x1 x12 (wrap64 (x13 + 1))) else (some false)) else (none)) else (none)) else (none)) else (some true)
def slices_Equal_byte_byte.f (k : Nat) (l0 : List Int) (l1 : List Int) : Option (Bool) := if (l0.length : Int) = (l1.length : Int) then (slices_Equal_byte_byte.l0 k l0 l1 (l0.length : Int) 0) else (some false)
theorem slices_Equal_byte_byte.mono_l : ∀ k, (∀ y0 y1 y2 y3, LeO (slices_Equal_byte_byte.l0 k y0 y1 y2 y3) (slices_Equal_byte_byte.l0 (k + 1) y0 y1 y2 y3))
  | 0 => fun _ _ _ _ r h => by simp [slices_Equal_byte_byte.l0] at h
  | k + 1 => by
    have ih0 := slices_Equal_byte_byte.mono_l k
    · intro y0 y1 y2 y3
      unfold slices_Equal_byte_byte.l0
      repeat' first
      | (with_reducible exact ih0 _ _ _ _)
      | (with_reducible exact LeO.refl _)
      | (with_reducible exact LeO.none _)
      | (with_reducible refine LeO.ite ?_ ?_)
      | (with_reducible refine LeO.bind ?_ (fun _ => ?_))
      | exact ih0 _ _ _ _
      | exact LeO.none _
      | refine LeO.ite ?_ ?_
      | refine LeO.bind ?_ (fun _ => ?_)
theorem slices_Equal_byte_byte.mono : ∀ a0 a1 k, LeO (slices_Equal_byte_byte.f k a0 a1) (slices_Equal_byte_byte.f (k + 1) a0 a1) := by
 intro a0 a1 k
 have ih0 := slices_Equal_byte_byte.mono_l k
 unfold slices_Equal_byte_byte.f
 repeat' first
     | (with_reducible exact ih0 _ _ _ _)
     | (with_reducible exact LeO.refl _)
     | (with_reducible exact LeO.none _)
     | (with_reducible refine LeO.ite ?_ ?_)
     | (with_reducible refine LeO.bind ?_ (fun _ => ?_))
     | exact ih0 _ _ _ _
     | exact LeO.none _
     | refine LeO.ite ?_ ?_
     | refine LeO.bind ?_ (fun _ => ?_)
set_option maxHeartbeats 60000000 in
set_option maxRecDepth 100000 in
theorem slices_Equal_byte_byte.calls (k : Nat) (A0 : Option Addr) (c0 : Nat) (l0 : List Int) (A1 : Option Addr) (c1 : Nat) (l1 : List Int) (r : Bool) (w : World) (hr0 : Kd.C (Kd.int .u8) w A0 l0.length l0) (hc0 : l0.length ≤ c0) (hr1 : Kd.C (Kd.int .u8) w A1 l1.length l1) (hc1 : l1.length ≤ c1) (h : slices_Equal_byte_byte.f k l0 l1 = some r) :
    Calls Try.prog 68 #[.slice A0 l0.length c0, .slice A1 l1.length c1] w fun e w' => e = .returned (.bool r) ∧ Drawn0 w w' := by
 have HR0 := mk_ hr0
 have HC0 := mk_ hc0
 clear hr0 hc0
 have HR1 := mk_ hr1
 have HC1 := mk_ hc1
 clear hr1 hc1
 have H : (if (l0.length : Int) = (l1.length : Int) then (slices_Equal_byte_byte.l0 k l0 l1 (l0.length : Int) 0) else (some false)) = some r := h
 clear h
 by_cases c3 : (l0.length : Int) = (l1.length : Int)
 rotate_left
 · rw [if_neg c3] at H
   have c3b0 : ((l0.length : Int) == (l1.length : Int)) = false := beq_eq_false_iff_ne.mpr c3
   have c3b1 : ((l0.length : Int) != (l1.length : Int)) = true := bne_iff_ne.mpr c3
   have c3b2 : (l0.length == l1.length) = false := by first | simpa using c3 | (simp at c3 ⊢; omega)
   obtain rfl := Option.some.inj H
   go_enter Try.func68, Try.ntmps68
   go_wp2
   repeat (go_quiet (fail); try go_wp2)
   go_ret
   exact ⟨by first | rfl | (simp; done) | (simp [*]; done), by repeat (first | exact Drawn0.refl _ | apply Drawn0.step)⟩
 rw [if_pos c3] at H
 have c3b0 : ((l0.length : Int) == (l1.length : Int)) = true := beq_iff_eq.mpr c3
 have c3b1 : ((l0.length : Int) != (l1.length : Int)) = false := bne_eq_false_iff_eq.mpr c3
 have c3b2 : (l0.length == l1.length) = true := by first | simpa using c3 | (simp at c3 ⊢; omega)
 clear c3
 have H' := mk_ H
 clear H
 go_enter Try.func68, Try.ntmps68
 go_wp2
 repeat (go_quiet (fail); try go_wp2)
 go_loopg [13] k (fun kq v13 w' => ∃ (x13_1 : Int), v13 = .int .i64 x13_1 ∧ Aside0 (slices_Equal_byte_byte.l0 kq l0 l1 (l0.length : Int) x13_1 = some r) ∧ Aside0 (kq ≤ k) ∧ Drawn0 w w')
 case atStart => exact ⟨(0), (by first | rfl | (simp; done) | (simp [*]; done)), H', ⟨Nat.le_refl _⟩, by repeat (first | exact Drawn0.refl _ | apply Drawn0.step)⟩
 case round =>
   clear H'
   try clear c1
   try clear p2
   try clear c3
   try clear c3b0
   try clear c3b1
   try clear c3b2
   obtain ⟨x13_1, rfl, HA, HK1, ⟨m1, rfl⟩⟩ := hrel
   cases gk with
   | zero => exact absurd HA.out (by simp [slices_Equal_byte_byte.l0])
   | succ k1 =>
     have H := HA.out
     clear HA
     simp only [slices_Equal_byte_byte.l0] at H
     by_cases c4 : x13_1 < (l0.length : Int)
     rotate_left
     · rw [if_neg c4] at H
       have c4b0 : decide (x13_1 < (l0.length : Int)) = false := decide_eq_false c4
       clear c4
       obtain rfl := Option.some.inj H
       go_wp2
       repeat (go_quiet (fail); try go_wp2)
       go_ret
       exact ⟨by first | rfl | (simp; done) | (simp [*]; done), by repeat (first | exact Drawn0.refl _ | apply Drawn0.step)⟩
     rw [if_pos c4] at H
     have c4b0 : decide (x13_1 < (l0.length : Int)) = true := decide_eq_true c4
     clear c4
     by_cases c5 : 0 ≤ x13_1
     rotate_left
     · rw [if_neg c5] at H
       exact absurd H (by simp)
     rw [if_pos c5] at H
     have c5b0 : decide (0 ≤ x13_1) = true := decide_eq_true c5
     clear c5
     by_cases c6 : x13_1 < (l0.length : Int)
     rotate_left
     · rw [if_neg c6] at H
       exact absurd H (by simp)
     rw [if_pos c6] at H
     have c6b0 : decide (x13_1 < (l0.length : Int)) = true := decide_eq_true c6
     clear c6
     by_cases c7 : x13_1 < (l1.length : Int)
     rotate_left
     · rw [if_neg c7] at H
       exact absurd H (by simp)
     rw [if_pos c7] at H
     have c7b0 : decide (x13_1 < (l1.length : Int)) = true := decide_eq_true c7
     clear c7
     by_cases c8 : (rd l0 x13_1) = (rd l1 x13_1)
     rotate_left
     · rw [if_neg c8] at H
       have c8b0 : ((rd l0 x13_1) == (rd l1 x13_1)) = false := beq_eq_false_iff_ne.mpr c8
       have c8b1 : ((rd l0 x13_1) != (rd l1 x13_1)) = true := bne_iff_ne.mpr c8
       obtain rfl := Option.some.inj H
       have p125 : 0 ≤ (x13_1 : Int) := of_decide_eq_true (by first | (with_reducible assumption) | assumption)
       have q125 : x13_1 < (l0.length : Int) := of_decide_eq_true (by first | (with_reducible assumption) | assumption)
       obtain ⟨ad125, e125, hx125_0⟩ := Kd.at_int HR0.out x13_1 p125 q125
       cases e125
       replace p125 := eq_true p125
       replace q125 := eq_true q125
       have p126 : 0 ≤ (x13_1 : Int) := of_decide_eq_true (by first | (with_reducible assumption) | assumption)
       have q126 : x13_1 < (l1.length : Int) := of_decide_eq_true (by first | (with_reducible assumption) | assumption)
       obtain ⟨ad126, e126, hx126_0⟩ := Kd.at_int HR1.out x13_1 p126 q126
       cases e126
       replace p126 := eq_true p126
       replace q126 := eq_true q126
       go_wp2
       repeat (go_quiet (fail); try go_wp2)
       go_ret
       exact ⟨by first | rfl | (simp; done) | (simp [*]; done), by repeat (first | exact Drawn0.refl _ | apply Drawn0.step)⟩
     rw [if_pos c8] at H
     have c8b0 : ((rd l0 x13_1) == (rd l1 x13_1)) = true := beq_iff_eq.mpr c8
     have c8b1 : ((rd l0 x13_1) != (rd l1 x13_1)) = false := bne_eq_false_iff_eq.mpr c8
     clear c8
     have H' := mk_ H
     clear H
     have p125 : 0 ≤ (x13_1 : Int) := of_decide_eq_true (by first | (with_reducible assumption) | assumption)
     have q125 : x13_1 < (l0.length : Int) := of_decide_eq_true (by first | (with_reducible assumption) | assumption)
     obtain ⟨ad125, e125, hx125_0⟩ := Kd.at_int HR0.out x13_1 p125 q125
     cases e125
     replace p125 := eq_true p125
     replace q125 := eq_true q125
     have p126 : 0 ≤ (x13_1 : Int) := of_decide_eq_true (by first | (with_reducible assumption) | assumption)
     have q126 : x13_1 < (l1.length : Int) := of_decide_eq_true (by first | (with_reducible assumption) | assumption)
     obtain ⟨ad126, e126, hx126_0⟩ := Kd.at_int HR1.out x13_1 p126 q126
     cases e126
     replace p126 := eq_true p126
     replace q126 := eq_true q126
     go_wp2
     repeat (go_quiet (fail); try go_wp2)
     go_roundg k1
     case measure => have := HK1.out; omega
     case rel => exact ⟨(wrap64 (x13_1 + 1)), (by first | rfl | (simp; done) | (simp [*]; done)), H', ⟨by have := HK1.out; omega⟩, by repeat (first | exact Drawn0.refl _ | apply Drawn0.step)⟩

end Go.Proofs.Ytoigmeiollfklaa.QFnFrmOk
