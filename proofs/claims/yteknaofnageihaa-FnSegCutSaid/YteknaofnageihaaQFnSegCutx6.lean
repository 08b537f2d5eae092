-- Written by a program of this session, a turned copy of the print (not by print.sh itself). Lean checks it.
import Derived.Test.YteknaofnageihaaQFnSegCutx0
import Derived.Test.YteknaofnageihaaQFnSegCutx1
import Derived.Test.YteknaofnageihaaQFnSegCutx3
import Derived.Test.YteknaofnageihaaQFnSegCutx4
import Derived.Test.YteknaofnageihaaQFnSegCutx5
namespace Go.Proofs.Yteknaofnageihaa.QFnSegCut
open Go.RowKit Go.Proofs.YteknaofnageihaaW.PrintWords Go.Proofs.YteknaofnageihaaW.PrintLast Go.Proofs.YteknaofnageihaaW.PrintMore Go.Proofs.YteknaofnageihaaLoc
attribute [local go_sem] max2_int min2_int max_two min_two max_three min_three max_four min_four   -- for this text's walks alone
set_option linter.unusedVariables false
set_option linter.unusedSimpArgs false

/-! ### laws_FnSegCut: function 4 -/
mutual
def laws_FnSegCut.j0 : Nat → List Int → Int → List (S39) → Bool → Option (Bool)
  | 0, _, _, _, _ => none
  | k + 1, x3, x4, x5, x38 => if x38 = true then (if (x5.length : Int) = 0 then ((laws_liOk.f).bind fun t260 => (some t260)) else (some false)) else (laws_FnSegCut.l0 k x3 x4 x5 0 0 ([] : List Int))
def laws_FnSegCut.l0 : Nat → List Int → Int → List (S39) → Int → Int → List Int → Option (Bool)
  | 0, _, _, _, _, _, _ => none
  | k + 1, x3, x4, x5, x7, x262000, x262001 => if x7 < (x5.length : Int) then (if 0 ≤ x7 then ((impl_SegPut.f k x262000 x262001 ((rd_T39 x5 x7).f0) ((rd_T39 x5 x7).f1) ((rd_T39 x5 x7).f2)).bind fun bt264 => ((impl_PartOk.f ((rd_T39 x5 x7).f0) ((rd_T39 x5 x7).f1) ((rd_T39 x5 x7).f2)).bind fun t274 => (if t274 = true then (laws_FnSegCut.j2 k x3 x4 x5 x7 bt264.2.2.1 bt264.2.2.2 (decide ((((rd_T39 x5 x7).f2).length : Int) > x4)) bt264.1 bt264.2.1) else (laws_FnSegCut.j2 k x3 x4 x5 x7 bt264.2.2.1 bt264.2.2.2 true bt264.1 bt264.2.1)))) else (none)) else (if (x5.length : Int) > 0 then ((laws_liJoin.f k x262000 x262001 0 ([] : List Int)).bind fun t262 => (some t262)) else (some false))
def laws_FnSegCut.j2 : Nat → List Int → Int → List (S39) → Int → List Int → Int → Bool → Int → List Int → Option (Bool)
  | 0, _, _, _, _, _, _, _, _, _ => none
  | k + 1, x3, x4, x5, x7, x9, x10, x77, x273000, x273001 => if x77 = true then (some false) else (if x7 < (wrap64 ((x5.length : Int) - 1)) then (if x10 = 1 then (if x7 = (wrap64 ((x5.length : Int) - 1)) then (if x10 = 2 then ((laws_liBytes.f k x9 x3).bind fun t276 => (if t276 = true then (laws_FnSegCut.l0 k x3 x4 x5 (wrap64 (x7 + 1)) x273000 x273001) else (some false))) else (some false)) else (laws_FnSegCut.l0 k x3 x4 x5 (wrap64 (x7 + 1)) x273000 x273001)) else (some false)) else (if x7 = (wrap64 ((x5.length : Int) - 1)) then (if x10 = 2 then ((laws_liBytes.f k x9 x3).bind fun t277 => (if t277 = true then (laws_FnSegCut.l0 k x3 x4 x5 (wrap64 (x7 + 1)) x273000 x273001) else (some false))) else (some false)) else (laws_FnSegCut.l0 k x3 x4 x5 (wrap64 (x7 + 1)) x273000 x273001)))
end
def laws_FnSegCut.f (k : Nat) (l0 : List Int) : Option (Bool) := if (l0.length : Int) > 1048576 then (some true) else ((spec_DrawSegCut.f k l0).bind fun bt249 => ((impl_SegCut.f k bt249.1 bt249.2).bind fun t253 => ((spec_SegCut.f k bt249.1 bt249.2).bind fun t256 => ((laws_liParts.f k t253 t256).bind fun t259 => (if t259 = true then (if (bt249.1.length : Int) > 24 then (laws_FnSegCut.j0 k bt249.1 bt249.2 t253 true) else (if bt249.2 < 1 then (laws_FnSegCut.j0 k bt249.1 bt249.2 t253 true) else (laws_FnSegCut.j0 k bt249.1 bt249.2 t253 (decide (bt249.2 > 8))))) else (some false))))))
theorem laws_FnSegCut.mono_l : ∀ k, (∀ y0 y1 y2 y3, LeO (laws_FnSegCut.j0 k y0 y1 y2 y3) (laws_FnSegCut.j0 (k + 1) y0 y1 y2 y3)) ∧ (∀ y0 y1 y2 y3 y4 y5, LeO (laws_FnSegCut.l0 k y0 y1 y2 y3 y4 y5) (laws_FnSegCut.l0 (k + 1) y0 y1 y2 y3 y4 y5)) ∧ (∀ y0 y1 y2 y3 y4 y5 y6 y7 y8, LeO (laws_FnSegCut.j2 k y0 y1 y2 y3 y4 y5 y6 y7 y8) (laws_FnSegCut.j2 (k + 1) y0 y1 y2 y3 y4 y5 y6 y7 y8))
  | 0 => ⟨fun _ _ _ _ r h => by simp [laws_FnSegCut.j0] at h, fun _ _ _ _ _ _ r h => by simp [laws_FnSegCut.l0] at h, fun _ _ _ _ _ _ _ _ _ r h => by simp [laws_FnSegCut.j2] at h⟩
  | k + 1 => by
    obtain ⟨ih0, ih1, ih2⟩ := laws_FnSegCut.mono_l k
    refine ⟨?_, ?_, ?_⟩
    · intro y0 y1 y2 y3
      unfold laws_FnSegCut.j0
      repeat' first
      | (with_reducible exact ih0 _ _ _ _)
      | (with_reducible exact ih1 _ _ _ _ _ _)
      | (with_reducible exact ih2 _ _ _ _ _ _ _ _ _)
      | (with_reducible exact impl_SegCut.mono _ _ _)
      | (with_reducible exact impl_SegPut.mono _ _ _ _ _ _)
      | (with_reducible exact laws_liBytes.mono _ _ _)
      | (with_reducible exact laws_liJoin.mono _ _ _ _ _)
      | (with_reducible exact laws_liParts.mono _ _ _)
      | (with_reducible exact spec_DrawSegCut.mono _ _)
      | (with_reducible exact spec_SegCut.mono _ _ _)
      | (with_reducible exact LeO.refl _)
      | (with_reducible exact LeO.none _)
      | (with_reducible refine LeO.ite ?_ ?_)
      | (with_reducible refine LeO.bind ?_ (fun _ => ?_))
      | exact ih0 _ _ _ _
      | exact ih1 _ _ _ _ _ _
      | exact ih2 _ _ _ _ _ _ _ _ _
      | exact impl_SegCut.mono _ _ _
      | exact impl_SegPut.mono _ _ _ _ _ _
      | exact laws_liBytes.mono _ _ _
      | exact laws_liJoin.mono _ _ _ _ _
      | exact laws_liParts.mono _ _ _
      | exact spec_DrawSegCut.mono _ _
      | exact spec_SegCut.mono _ _ _
      | exact LeO.none _
      | refine LeO.ite ?_ ?_
      | refine LeO.bind ?_ (fun _ => ?_)
    · intro y0 y1 y2 y3 y4 y5
      unfold laws_FnSegCut.l0
      repeat' first
      | (with_reducible exact ih0 _ _ _ _)
      | (with_reducible exact ih1 _ _ _ _ _ _)
      | (with_reducible exact ih2 _ _ _ _ _ _ _ _ _)
      | (with_reducible exact impl_SegCut.mono _ _ _)
      | (with_reducible exact impl_SegPut.mono _ _ _ _ _ _)
      | (with_reducible exact laws_liBytes.mono _ _ _)
      | (with_reducible exact laws_liJoin.mono _ _ _ _ _)
      | (with_reducible exact laws_liParts.mono _ _ _)
      | (with_reducible exact spec_DrawSegCut.mono _ _)
      | (with_reducible exact spec_SegCut.mono _ _ _)
      | (with_reducible exact LeO.refl _)
      | (with_reducible exact LeO.none _)
      | (with_reducible refine LeO.ite ?_ ?_)
      | (with_reducible refine LeO.bind ?_ (fun _ => ?_))
      | exact ih0 _ _ _ _
      | exact ih1 _ _ _ _ _ _
      | exact ih2 _ _ _ _ _ _ _ _ _
      | exact impl_SegCut.mono _ _ _
      | exact impl_SegPut.mono _ _ _ _ _ _
      | exact laws_liBytes.mono _ _ _
      | exact laws_liJoin.mono _ _ _ _ _
      | exact laws_liParts.mono _ _ _
      | exact spec_DrawSegCut.mono _ _
      | exact spec_SegCut.mono _ _ _
      | exact LeO.none _
      | refine LeO.ite ?_ ?_
      | refine LeO.bind ?_ (fun _ => ?_)
    · intro y0 y1 y2 y3 y4 y5 y6 y7 y8
      unfold laws_FnSegCut.j2
      repeat' first
      | (with_reducible exact ih0 _ _ _ _)
      | (with_reducible exact ih1 _ _ _ _ _ _)
      | (with_reducible exact ih2 _ _ _ _ _ _ _ _ _)
      | (with_reducible exact impl_SegCut.mono _ _ _)
      | (with_reducible exact impl_SegPut.mono _ _ _ _ _ _)
      | (with_reducible exact laws_liBytes.mono _ _ _)
      | (with_reducible exact laws_liJoin.mono _ _ _ _ _)
      | (with_reducible exact laws_liParts.mono _ _ _)
      | (with_reducible exact spec_DrawSegCut.mono _ _)
      | (with_reducible exact spec_SegCut.mono _ _ _)
      | (with_reducible exact LeO.refl _)
      | (with_reducible exact LeO.none _)
      | (with_reducible refine LeO.ite ?_ ?_)
      | (with_reducible refine LeO.bind ?_ (fun _ => ?_))
      | exact ih0 _ _ _ _
      | exact ih1 _ _ _ _ _ _
      | exact ih2 _ _ _ _ _ _ _ _ _
      | exact impl_SegCut.mono _ _ _
      | exact impl_SegPut.mono _ _ _ _ _ _
      | exact laws_liBytes.mono _ _ _
      | exact laws_liJoin.mono _ _ _ _ _
      | exact laws_liParts.mono _ _ _
      | exact spec_DrawSegCut.mono _ _
      | exact spec_SegCut.mono _ _ _
      | exact LeO.none _
      | refine LeO.ite ?_ ?_
      | refine LeO.bind ?_ (fun _ => ?_)
theorem laws_FnSegCut.mono : ∀ a0 k, LeO (laws_FnSegCut.f k a0) (laws_FnSegCut.f (k + 1) a0) := by
 intro a0 k
 obtain ⟨ih0, ih1, ih2⟩ := laws_FnSegCut.mono_l k
 unfold laws_FnSegCut.f
 repeat' first
     | (with_reducible exact ih0 _ _ _ _)
     | (with_reducible exact ih1 _ _ _ _ _ _)
     | (with_reducible exact ih2 _ _ _ _ _ _ _ _ _)
     | (with_reducible exact impl_SegCut.mono _ _ _)
     | (with_reducible exact impl_SegPut.mono _ _ _ _ _ _)
     | (with_reducible exact laws_liBytes.mono _ _ _)
     | (with_reducible exact laws_liJoin.mono _ _ _ _ _)
     | (with_reducible exact laws_liParts.mono _ _ _)
     | (with_reducible exact spec_DrawSegCut.mono _ _)
     | (with_reducible exact spec_SegCut.mono _ _ _)
     | (with_reducible exact LeO.refl _)
     | (with_reducible exact LeO.none _)
     | (with_reducible refine LeO.ite ?_ ?_)
     | (with_reducible refine LeO.bind ?_ (fun _ => ?_))
     | exact ih0 _ _ _ _
     | exact ih1 _ _ _ _ _ _
     | exact ih2 _ _ _ _ _ _ _ _ _
     | exact impl_SegCut.mono _ _ _
     | exact impl_SegPut.mono _ _ _ _ _ _
     | exact laws_liBytes.mono _ _ _
     | exact laws_liJoin.mono _ _ _ _ _
     | exact laws_liParts.mono _ _ _
     | exact spec_DrawSegCut.mono _ _
     | exact spec_SegCut.mono _ _ _
     | exact LeO.none _
     | refine LeO.ite ?_ ?_
     | refine LeO.bind ?_ (fun _ => ?_)
def laws_FnSegCut.T13 : Bool × List (List Nat × List Nat) := (true, [([], []), ([], []), ([], []), ([1, 2], [1, 2]), ([3], [3]), ([0, 4], [0, 4]), ([5], [5]), ([6], [6]), ([6], [6]), ([6], [6]), ([], []), ([10, 7, 5, 0, 1, 2, 3, 4, 5, 6, 7, 10], [7, 10]), ([8, 11, 0, 1, 2, 3, 4, 5, 6, 7, 8, 10, 11], [8]), ([9, 12, 0, 1, 2, 3, 4, 5, 6, 7, 8, 9, 10, 11, 12], [9])])
def laws_FnSegCut.B13 : List Nat := [0, 0, 0, 6, 14, 31, 63, 127, 127, 127, 0, 1279, 3583, 8191]
theorem laws_FnSegCut.tab13 : rtab .any (opsOf Try.f4 13) = laws_FnSegCut.T13 := by kernel_rfl
theorem laws_FnSegCut.bits13 : waitsOk laws_FnSegCut.T13.2 laws_FnSegCut.B13 = true := by kernel_rfl
set_option maxHeartbeats 60000000 in
set_option maxRecDepth 100000 in
theorem laws_FnSegCut.calls (k : Nat) (A0 : Option Addr) (c0 : Nat) (l0 : List Int) (r : Bool) (w : World) (hr0 : Kd.C (Kd.int .u8) w A0 l0.length l0) (hc0 : l0.length ≤ c0) (h : laws_FnSegCut.f k l0 = some r) :
    Calls Try.prog 4 #[.slice A0 l0.length c0] w fun e w' => e = .returned (.bool r) ∧ Below w.heap.size w w' := by
  have hu35 := Try.underlying35
  have hu39 := Try.underlying39
  have HR0 := mk_ hr0
  have HC0 := mk_ hc0
  clear hr0 hc0
  have HB := mk_ (Below.refl w.heap.size w)
  have H : (if (l0.length : Int) > 1048576 then (some true) else ((spec_DrawSegCut.f k l0).bind fun bt249 => ((impl_SegCut.f k bt249.1 bt249.2).bind fun t253 => ((spec_SegCut.f k bt249.1 bt249.2).bind fun t256 => ((laws_liParts.f k t253 t256).bind fun t259 => (if t259 = true then (if (bt249.1.length : Int) > 24 then (laws_FnSegCut.j0 k bt249.1 bt249.2 t253 true) else (if bt249.2 < 1 then (laws_FnSegCut.j0 k bt249.1 bt249.2 t253 true) else (laws_FnSegCut.j0 k bt249.1 bt249.2 t253 (decide (bt249.2 > 8))))) else (some false))))))) = some r := h
  clear h
  by_cases c2 : (l0.length : Int) > 1048576
  · rw [if_pos c2] at H
    have c2b0 : decide (1048576 < (l0.length : Int)) = true := decide_eq_true c2
    have c2b1 : decide (1048576 < l0.length) = true := decide_eq_true (by omega)
    clear c2
    obtain rfl := Option.some.inj H
    go_enter Try.func4, Try.ntmps4
    go_wp2
    go_ret
    exact ⟨by first | rfl | (simp [errW_none, errW_some] <;> rfl) | (simp [*, errW_none, errW_some] <;> rfl), by repeat (first | (with_reducible first | exact HB.out | apply zq7 | apply zq8 | apply zq9) | exact HB.out)⟩
  · rw [if_neg c2] at H
    have c2b0 : decide (1048576 < (l0.length : Int)) = false := decide_eq_false c2
    have c2b1 : decide (1048576 < l0.length) = false := decide_eq_false (by omega)
    clear c2
    replace H := Option.bind_eq_some_iff.mp H
    obtain ⟨⟨t249, t250⟩, A30, H⟩ := H
    try dsimp only at H
    have A3 := mk_ A30
    clear A30
    replace H := Option.bind_eq_some_iff.mp H
    obtain ⟨t253, A40, H⟩ := H
    try dsimp only at H
    have A4 := mk_ A40
    clear A40
    replace H := Option.bind_eq_some_iff.mp H
    obtain ⟨t256, A50, H⟩ := H
    try dsimp only at H
    have A5 := mk_ A50
    clear A50
    replace H := Option.bind_eq_some_iff.mp H
    obtain ⟨t259, A60, H⟩ := H
    try dsimp only at H
    have A6 := mk_ A60
    clear A60
    by_cases c7 : t259 = true
    · subst c7
      have H1 : (if (t249.length : Int) > 24 then (laws_FnSegCut.j0 k t249 t250 t253 true) else (if t250 < 1 then (laws_FnSegCut.j0 k t249 t250 t253 true) else (laws_FnSegCut.j0 k t249 t250 t253 (decide (t250 > 8))))) = some r := by rw [if_pos rfl] at H; exact H
      clear H
      have H := H1
      clear H1
      have HC8 := mk_ H
      clear H
      go_enter Try.func4, Try.ntmps4
      go_upto_region 7 with (first | ((with_reducible refine gate_callee (f := 23) rfl ?_); refine goesL_ (some 16) rfl rfl Try.func23 (by kernel_rfl) rfl #[.slice A0 l0.length c0] rfl (by (try simp only [List.map_toArray, List.map_cons, List.map_nil]); first | done | rfl | (simp only [List.length_drop, List.length_take]; rfl)) ?_; (with_reducible refine (spec_DrawSegCut.calls k _ _ l0 t249 t250 _ ?side1 ?side2 A3.out).mono ?_); (case side1 => repeat (first | exact HR0.out | (with_reducible refine Kd.C_alloc ?_ _) | (with_reducible refine Kd.C_drewN ?_ _) | (with_reducible refine Kd.C_drew ?_))); (case side2 => exact HC0.out); rintro e w9 ⟨v251, rfl, ho0, hb⟩; refine ⟨_, rfl, ?_⟩; have HO252 := mk_ (Kd.R_lower ho0 (zr2 (by repeat (first | (with_reducible first | exact HB.out | apply zq7 | apply zq8 | apply zq9) | exact HB.out)))); replace HB := mk_ (zr3 (by repeat (first | (with_reducible first | exact HB.out | apply zq7 | apply zq8 | apply zq9) | exact HB.out)) hb); (try clear hb); (try clear hb2); (try clear hk); (try clear hi); (try clear ho0); obtain ⟨Ao10, co10, eo10⟩ := Kd.R_slice HO252.out; subst eo10) | ((with_reducible refine gate_callee (f := 17) rfl ?_); refine goesL_ (some 21) rfl rfl Try.func17 (by kernel_rfl) rfl #[.slice Ao10 t249.length co10, .int .i64 t250] rfl (by (try simp only [List.map_toArray, List.map_cons, List.map_nil]); first | done | rfl | (simp only [List.length_drop, List.length_take]; rfl)) ?_; (with_reducible refine (impl_SegCut.calls k _ _ t249 t250 t253 _ ?side1 ?side2 A4.out).mono ?_); (case side1 => repeat (first | exact (Kd.R_reads' HO252.out).2.2 | (with_reducible refine Kd.C_alloc ?_ _) | (with_reducible refine Kd.C_drewN ?_ _) | (with_reducible refine Kd.C_drew ?_))); (case side2 => exact (Kd.R_reads' HO252.out).2.1); rintro e w11 ⟨v254, rfl, ho0, hb⟩; refine ⟨_, rfl, ?_⟩; have HO255 := mk_ (Kd.V_lower (Kd.V_mono (ok' := fun k_ => some k_ ≠ (.slice Ao10 t249.length co10 : Value).ownBlock) ho0 (fun k_ hk_ => (Kd.fresh' (Kd.R_lt (by (with_reducible repeat (first | apply Kd.R_alloc | apply Kd.R_drewN | apply Kd.R_drew)); exact HO252.out)) k_ hk_))) (zr2 (by repeat (first | (with_reducible first | exact HB.out | apply zq7 | apply zq8 | apply zq9) | exact HB.out)))); replace HO252 := mk_ (Kd.R_below (by (with_reducible repeat (first | apply Kd.R_alloc | apply Kd.R_drewN | apply Kd.R_drew)); exact HO252.out) hb); replace HB := mk_ (zr3 (by repeat (first | (with_reducible first | exact HB.out | apply zq7 | apply zq8 | apply zq9) | exact HB.out)) hb); (try clear hb); (try clear hb2); (try clear hk); (try clear hi); (try clear ho0)) | ((with_reducible refine gate_callee (f := 15) rfl ?_); refine goesL_ (some 25) rfl rfl Try.func15 (by kernel_rfl) rfl #[.slice Ao10 t249.length co10, .int .i64 t250] rfl (by (try simp only [List.map_toArray, List.map_cons, List.map_nil]); first | done | rfl | (simp only [List.length_drop, List.length_take]; rfl)) ?_; (with_reducible refine (spec_SegCut.calls k _ _ t249 t250 t256 _ ?side1 ?side2 A5.out).mono ?_); (case side1 => repeat (first | exact (Kd.R_reads' HO252.out).2.2 | (with_reducible refine Kd.C_alloc ?_ _) | (with_reducible refine Kd.C_drewN ?_ _) | (with_reducible refine Kd.C_drew ?_))); (case side2 => exact (Kd.R_reads' HO252.out).2.1); rintro e w12 ⟨v257, rfl, ho0, hb⟩; refine ⟨_, rfl, ?_⟩; replace HO255 := mk_ (Kd.V_elder' (by (with_reducible repeat (first | apply Kd.V_alloc | apply Kd.V_drewN | apply Kd.V_drew)); exact HO255.out) (Kd.S_base ho0) hb); have HO258 := mk_ (Kd.S_lower (Kd.S_new' ho0 (Kd.R_lt (by (with_reducible repeat (first | apply Kd.R_alloc | apply Kd.R_drewN | apply Kd.R_drew)); exact HO252.out))) (zr2 (by repeat (first | (with_reducible first | exact HB.out | apply zq7 | apply zq8 | apply zq9) | exact HB.out)))); replace HO252 := mk_ (Kd.R_below (by (with_reducible repeat (first | apply Kd.R_alloc | apply Kd.R_drewN | apply Kd.R_drew)); exact HO252.out) hb); replace HB := mk_ (zr3 (by repeat (first | (with_reducible first | exact HB.out | apply zq7 | apply zq8 | apply zq9) | exact HB.out)) hb); (try clear hb); (try clear hb2); (try clear hk); (try clear hi); (try clear ho0); obtain ⟨Ao13, co13, eo13⟩ := Kd.V_slice HO255.out; subst eo13; obtain ⟨Ao14, co14, eo14⟩ := Kd.S_slice HO258.out; subst eo14) | ((with_reducible refine gate_callee (f := 24) rfl ?_); refine goesL_ (some 26) rfl rfl Try.func24 (by kernel_rfl) rfl #[.slice Ao13 t253.length co13, .slice Ao14 t256.length co14] rfl (by (try simp only [List.map_toArray, List.map_cons, List.map_nil]); first | done | rfl | (simp only [List.length_drop, List.length_take]; rfl)) ?_; (with_reducible refine (laws_liParts.calls k _ _ t253 _ _ t256 true _ ?side1 ?side2 ?side3 ?side4 A6.out).mono ?_); (case side1 => repeat (first | exact (Kd.V_reads' HO255.out).2.2 | (with_reducible refine Kd.C_alloc ?_ _) | (with_reducible refine Kd.C_drewN ?_ _) | (with_reducible refine Kd.C_drew ?_))); (case side2 => exact (Kd.V_reads' HO255.out).2.1); (case side3 => repeat (first | exact (Kd.S_reads' HO258.out).2.2 | (with_reducible refine Kd.C_alloc ?_ _) | (with_reducible refine Kd.C_drewN ?_ _) | (with_reducible refine Kd.C_drew ?_))); (case side4 => exact (Kd.S_reads' HO258.out).2.1); rintro e w15 ⟨rfl, hb⟩; refine ⟨_, rfl, ?_⟩; replace HO252 := mk_ (Kd.R_below (by (with_reducible repeat (first | apply Kd.R_alloc | apply Kd.R_drewN | apply Kd.R_drew)); exact HO252.out) hb); replace HO255 := mk_ (Kd.V_below (by (with_reducible repeat (first | apply Kd.V_alloc | apply Kd.V_drewN | apply Kd.V_drew)); exact HO255.out) hb); replace HO258 := mk_ (Kd.S_below (by (with_reducible repeat (first | apply Kd.S_alloc | apply Kd.S_drewN | apply Kd.S_drew)); exact HO258.out) hb); replace HB := mk_ (zr3 (by repeat (first | (with_reducible first | exact HB.out | apply zq7 | apply zq8 | apply zq9) | exact HB.out)) hb); (try clear hb); (try clear hb2); (try clear hk); (try clear hi)))
      (try simp only [Act.put, List.setIfInBounds_toArray, List.set_cons_zero, List.set_cons_succ])
      go_cut [38] (fun v38 wc => ∃ (kq : Nat) (x38_7 : Bool), v38 = .bool x38_7 ∧ Aside0 (laws_FnSegCut.j0 kq t249 t250 t253 x38_7 = some r) ∧ Aside0 (kq ≤ k) ∧ Aside0 (Kd.R (Kd.int .u8) 5 wc w.heap.size (fun _ => True) (.slice Ao10 t249.length co10) t249) ∧ Aside0 (Kd.V k39 39 wc w.heap.size (fun k_ => some k_ ≠ ((.slice Ao10 t249.length co10) : Value).ownBlock) (.slice Ao13 t253.length co13) t253) ∧ Aside0 (Below w.heap.size w wc))
      case first =>
        have H := HC8.out
        clear HC8
        by_cases c16 : (t249.length : Int) > 24
        · rw [if_pos c16] at H
          have c16b0 : decide (24 < (t249.length : Int)) = true := decide_eq_true c16
          have c16b1 : decide (24 < t249.length) = true := decide_eq_true (by omega)
          clear c16
          (first | rw [c16b0] | (simp only [i64_w, i32_w]; rw [c16b0]) | skip)
          have H' := mk_ H
          clear H
          go_wp2
          go_meet
          case rel => exact ⟨_, (true), (by first | rfl | (simp; done) | (simp [*]; done)), H', ⟨by first | omega | exact Nat.le_refl _⟩, ⟨by (with_reducible repeat (first | apply Kd.R_alloc | apply Kd.R_drewN | apply Kd.R_drew)); exact HO252.out⟩, ⟨by (with_reducible repeat (first | apply Kd.V_alloc | apply Kd.V_drewN | apply Kd.V_drew)); exact Kd.V_mono HO255.out (fun _ hk => hk.1)⟩, ⟨by repeat (first | (with_reducible first | exact HB.out | apply zq7 | apply zq8 | apply zq9) | exact HB.out)⟩⟩
        · rw [if_neg c16] at H
          have c16b0 : decide (24 < (t249.length : Int)) = false := decide_eq_false c16
          have c16b1 : decide (24 < t249.length) = false := decide_eq_false (by omega)
          clear c16
          (first | rw [c16b0] | (simp only [i64_w, i32_w]; rw [c16b0]) | skip)
          by_cases c17 : t250 < 1
          · rw [if_pos c17] at H
            have c17b0 : decide (t250 < 1) = true := decide_eq_true c17
            clear c17
            have H' := mk_ H
            clear H
            go_wp2
            go_meet
            case rel => exact ⟨_, (true), (by first | rfl | (simp; done) | (simp [*]; done)), H', ⟨by first | omega | exact Nat.le_refl _⟩, ⟨by (with_reducible repeat (first | apply Kd.R_alloc | apply Kd.R_drewN | apply Kd.R_drew)); exact HO252.out⟩, ⟨by (with_reducible repeat (first | apply Kd.V_alloc | apply Kd.V_drewN | apply Kd.V_drew)); exact Kd.V_mono HO255.out (fun _ hk => hk.1)⟩, ⟨by repeat (first | (with_reducible first | exact HB.out | apply zq7 | apply zq8 | apply zq9) | exact HB.out)⟩⟩
          · rw [if_neg c17] at H
            have c17b0 : decide (t250 < 1) = false := decide_eq_false c17
            clear c17
            have H' := mk_ H
            clear H
            go_wp2
            go_meet
            case rel => exact ⟨_, (decide (t250 > 8)), (by first | rfl | (simp; done) | (simp [*]; done)), H', ⟨by first | omega | exact Nat.le_refl _⟩, ⟨by (with_reducible repeat (first | apply Kd.R_alloc | apply Kd.R_drewN | apply Kd.R_drew)); exact HO252.out⟩, ⟨by (with_reducible repeat (first | apply Kd.V_alloc | apply Kd.V_drewN | apply Kd.V_drew)); exact Kd.V_mono HO255.out (fun _ hk => hk.1)⟩, ⟨by repeat (first | (with_reducible first | exact HB.out | apply zq7 | apply zq8 | apply zq9) | exact HB.out)⟩⟩
      case rest =>
        clear HC8
        try clear c1
        try clear c2
        try clear c2b0
        try clear c2b1
        try clear p2
        try clear c4
        try clear c7
        try clear c15
        try clear c16
        try clear c16b0
        try clear c16b1
        try clear c17
        try clear c17b0
        obtain ⟨kq, x38_7, rfl, HA, HJ7, HO_3, HO_5, HB⟩ := hcut
        cases kq with
        | zero => exact absurd HA.out (by simp [laws_FnSegCut.j0])
        | succ kj7 =>
          have H := HA.out
          clear HA
          simp only [laws_FnSegCut.j0] at H
          by_cases c18 : x38_7 = true
          · subst c18
            have H1 : (if (t253.length : Int) = 0 then ((laws_liOk.f).bind fun t260 => (some t260)) else (some false)) = some r := by rw [if_pos rfl] at H; exact H
            clear H
            have H := H1
            clear H1
            by_cases c19 : (t253.length : Int) = 0
            · rw [if_pos c19] at H
              have c19b0 : ((t253.length : Int) == 0) = true := beq_iff_eq.mpr c19
              have c19b1 : ((t253.length : Int) != 0) = false := bne_eq_false_iff_eq.mpr c19
              clear c19
              replace H := Option.bind_eq_some_iff.mp H
              obtain ⟨t260, A200, H⟩ := H
              try dsimp only at H
              have A20 := mk_ A200
              clear A200
              obtain rfl := Option.some.inj H
              go_wp2_with (first | (go_at_call 25; (with_reducible refine (laws_liOk.calls  t260 _ A20.out).mono ?_); rintro e w21 ⟨rfl, hb⟩; replace HO_3 := mk_ (Kd.R_below (by (with_reducible repeat (first | apply Kd.R_alloc | apply Kd.R_drewN | apply Kd.R_drew)); exact HO_3.out) hb); replace HO_5 := mk_ (Kd.V_below (by (with_reducible repeat (first | apply Kd.V_alloc | apply Kd.V_drewN | apply Kd.V_drew)); exact HO_5.out) hb); replace HB := mk_ (zr3 (by repeat (first | (with_reducible first | exact HB.out | apply zq7 | apply zq8 | apply zq9) | exact HB.out)) hb); (try clear hb); (try clear hb2); (try clear hk); (try clear hi)))
              go_ret
              exact ⟨by first | rfl | (simp [errW_none, errW_some] <;> rfl) | (simp [*, errW_none, errW_some] <;> rfl), by repeat (first | (with_reducible first | exact HB.out | apply zq7 | apply zq8 | apply zq9) | exact HB.out)⟩
            · rw [if_neg c19] at H
              have c19b0 : ((t253.length : Int) == 0) = false := beq_eq_false_iff_ne.mpr c19
              have c19b1 : ((t253.length : Int) != 0) = true := bne_iff_ne.mpr c19
              have c19b2 : ¬ (t253 = []) := fun h_ => c19 (by rw [h_]; rfl)
              obtain rfl := Option.some.inj H
              go_wp2
              go_ret
              exact ⟨by first | rfl | (simp [errW_none, errW_some] <;> rfl) | (simp [*, errW_none, errW_some] <;> rfl), by repeat (first | (with_reducible first | exact HB.out | apply zq7 | apply zq8 | apply zq9) | exact HB.out)⟩
          · replace c18 := Bool.eq_false_iff.mpr c18
            subst c18
            have H1 : (laws_FnSegCut.l0 kj7 t249 t250 t253 0 0 ([] : List Int)) = some r := by rw [if_neg (show ¬ (false = true) by decide)] at H; exact H
            clear H
            have H := H1
            clear H1
            have H' := mk_ H
            clear H
            go_wp2_with (first | ((with_reducible refine gate_dst (N := 6) rfl ?_); (try (refine gate_guard (by rfl) ?_; dsimp only)); refine box_event ?hg (N := 6) ?hd (cs := #[.int .i64 0, .slice none 0 0]) (t := 35) ?hr ?_; (case hd => rfl); (case hg => rfl); (case hr => first | (go_simp; done) | (go_simp; rfl)); intro gb261 hg w22 hbox hb; replace HO_3 := mk_ (Kd.R_below (by (with_reducible repeat (first | apply Kd.R_alloc | apply Kd.R_drewN | apply Kd.R_drew)); exact HO_3.out) hb); replace HO_5 := mk_ (Kd.V_below (Kd.V_elderB (by (with_reducible repeat (first | apply Kd.V_alloc | apply Kd.V_drewN | apply Kd.V_drew)); exact HO_5.out) gb261 (Nat.le_of_eq hg.symm)) hb); have BK261 := mk_ (hbox); have GW261 := mk_ ((by rw [hg]; exact (zr2 (by repeat (first | (with_reducible first | exact HB.out | apply zq7 | apply zq8 | apply zq9) | exact HB.out))) : w.heap.size ≤ gb261)); have GE261 := GW261; replace HB := mk_ (zr3 (by repeat (first | (with_reducible first | exact HB.out | apply zq7 | apply zq8 | apply zq9) | exact HB.out)) hb); clear hb hbox hg; obtain ⟨hcz23_0, hcz23_1⟩ := cz2 BK261.out; obtain ⟨hfz23_0, hfz23_1⟩ := fz2 BK261.out))
            go_loopg [7] kj7 (fun kq v7 w' => ∃ (x7_2 : Int) (x262000_2 : Int) (x262001_2 : List Int) (u262001 : Value), v7 = .int .i64 x7_2 ∧ Aside0 (laws_FnSegCut.l0 kq t249 t250 t253 x7_2 x262000_2 x262001_2 = some r) ∧ Aside0 (kq ≤ kj7) ∧ Aside0 (Kd.R (Kd.int .u8) 5 w' w.heap.size (fun _ => True) (.slice Ao10 t249.length co10) t249) ∧ Aside0 (Kd.V k39 39 w' w.heap.size (fun k_ => some k_ ≠ ((.slice Ao10 t249.length co10) : Value).ownBlock ∧ k_ ≠ gb261) (.slice Ao13 t253.length co13) t253) ∧ Aside0 (Kd.V (Kd.int .u8) 5 w' w.heap.size (fun k_ => some k_ ≠ ((.slice Ao10 t249.length co10) : Value).ownBlock ∧ k_ ≠ gb261) u262001 x262001_2) ∧ Aside0 (w'.heap[gb261]? = some (.cells #[.int .i64 x262000_2, u262001] 35 (0, 0))) ∧ Aside0 (Below w.heap.size w w'))
            case atStart => exact ⟨(0), (0), (([] : List Int)), (.slice none 0 0), (by first | rfl | (simp; done) | (simp [*]; done)), H', ⟨Nat.le_refl _⟩, ⟨by (with_reducible repeat (first | apply Kd.R_alloc | apply Kd.R_drewN | apply Kd.R_drew)); exact Kd.R_mono (Kd.R_far (p := ⟨gb261, 1, none⟩) (Kd.R_far (p := ⟨gb261, 0, none⟩) (Kd.R_types HO_3.out BK261.out (by decide)) (fun _ hk => hk.2) (.int .i64 0)) (fun _ hk => hk.2) (.slice none 0 0)) (fun _ hk => trivial)⟩, ⟨by (with_reducible repeat (first | apply Kd.V_alloc | apply Kd.V_drewN | apply Kd.V_drew)); exact Kd.V_mono (Kd.V_far (p := ⟨gb261, 1, none⟩) (Kd.V_far (p := ⟨gb261, 0, none⟩) (Kd.V_mono HO_5.out (fun k_ hk => (⟨hk, hk.2⟩ : _ ∧ k_ ≠ gb261))) (fun _ hk => hk.2) (.int .i64 0)) (fun _ hk => hk.2) (.slice none 0 0)) (fun _ hk => ⟨hk.1.1, hk.1.2⟩)⟩, ⟨by exact Kd.V_nil _ _ _ _ _⟩, ⟨by (with_reducible repeat (first | refine zq1 ?_ _ | refine zq2 ?_ | refine zq3 ?_ _)); apply pu2; (with_reducible repeat (first | refine zq1 ?_ _ | refine zq2 ?_ | refine zq3 ?_ _)); exact BK261.out⟩, ⟨by repeat (first | (with_reducible first | exact HB.out | apply zq7 | apply zq8 | apply zq9 | refine zr1 ?_ GE261.out) | exact HB.out)⟩⟩
            case round =>
              clear H'
              try clear c1
              try clear c2
              try clear c2b0
              try clear c2b1
              try clear p2
              try clear c4
              try clear c7
              try clear c15
              try clear c16
              try clear c16b0
              try clear c16b1
              try clear c17
              try clear c17b0
              try clear c18
              try clear c19
              try clear c19b0
              try clear c19b1
              try clear c19b2
              try clear c23
              try clear hcz23_0 hcz23_1
              try clear hfz23_0 hfz23_1
              try clear p2
              obtain ⟨x7_2, x262000_2, x262001_2, u262001, rfl, HA, HK2, HO_3, HO_5, HO_262001, BK261, HB⟩ := hrel
              cases gk with
              | zero => exact absurd HA.out (by simp [laws_FnSegCut.l0])
              | succ k2 =>
                have H := HA.out
                clear HA
                simp only [laws_FnSegCut.l0] at H
                by_cases c24 : x7_2 < (t253.length : Int)
                · rw [if_pos c24] at H
                  have c24b0 : decide (x7_2 < (t253.length : Int)) = true := decide_eq_true c24
                  clear c24
                  by_cases c25 : 0 ≤ x7_2
                  · rw [if_pos c25] at H
                    have c25b0 : decide (0 ≤ x7_2) = true := decide_eq_true c25
                    clear c25
                    replace H := Option.bind_eq_some_iff.mp H
                    obtain ⟨⟨t264, t265, t268, t271⟩, A260, H⟩ := H
                    try dsimp only at H
                    have A26 := mk_ A260
                    clear A260
                    have HC27 := mk_ H
                    clear H
                    obtain ⟨Ao28, co28, eo28⟩ := Kd.V_slice HO_262001.out
                    subst eo28
                    try go_wp2
                    replace HO_3 := mk_ (Kd.R_drew HO_3.out)
                    replace HO_5 := mk_ (Kd.V_drew HO_5.out)
                    replace HO_262001 := mk_ (Kd.V_drew HO_262001.out)
                    replace BK261 := mk_ (zq2 BK261.out)
                    replace HB := mk_ (zq9 HB.out)
                    have p263 : 0 ≤ (x7_2 : Int) := of_decide_eq_true (by first | (with_reducible assumption) | assumption)
                    have q263 : x7_2 < (t253.length : Int) := of_decide_eq_true (by first | (with_reducible assumption) | assumption)
                    obtain ⟨ad263, A263_2, c263_2, e263, hx263_0, hx263_1, hx263_2, hl263_2, hi263_2⟩ := at_T39 (Kd.V_reads' HO_5.out).2.2 x7_2 p263 q263
                    cases e263
                    obtain ⟨ce263, hce263, hMe263, hcc263⟩ := Kd.V_get HO_5.out z39 x7_2 p263 (by first | exact q263 | exact of_decide_eq_true (by first | (with_reducible assumption) | assumption) | (have e_ := (Kd.V_reads' HO_5.out).1; omega))
                    obtain ⟨ua263_2, uc263_2, rfl, ul263_2, ge263_2⟩ := k39_openF hMe263
                    have hv263_2 := hcc263 2 _ rfl
                    rw [add_field _ _ 2 (by omega)] at hv263_2
                    replace hv263_2 := Option.some.inj (hv263_2.symm.trans hx263_2)
                    injection hv263_2 with hva_ hvn_ hvc_
                    rw [hva_] at ge263_2
                    rw [hvc_] at ul263_2
                    have HL263_2 := mk_ (show Kd.V (Kd.int .u8) 5 _ w.heap.size _ _ ((rd_T39 t253 x7_2).f2) from Kd.V_mk ul263_2 ge263_2)
                    clear hva_ hvn_ hvc_ ge263_2 ul263_2
                    clear hcc263 hce263
                    have HR263_2 := mk_ hi263_2
                    have HC263_2 := mk_ hl263_2
                    clear hi263_2 hl263_2
                    replace p263 := eq_true p263
                    replace q263 := eq_true q263
                    refine start_ (n := 14) (S := fun w' => w'.cell? ⟨gb261, 0, none⟩ = some (.int .i64 x262000_2) ∧ w'.cell? ⟨gb261, 1, none⟩ = some (.slice Ao28 x262001_2.length co28) ∧ w'.cell? (ad263.add ((x7_2).toNat * 3)) = some (.int .i64 ((rd_T39 t253 x7_2).f0)) ∧ w'.cell? ⟨(ad263.add ((x7_2).toNat * 3)).block, (ad263.add ((x7_2).toNat * 3)).off + 1, none⟩ = some (.int .i64 ((rd_T39 t253 x7_2).f1)) ∧ w'.cell? ⟨(ad263.add ((x7_2).toNat * 3)).block, (ad263.add ((x7_2).toNat * 3)).off + 2, none⟩ = some (.slice A263_2 ((rd_T39 t253 x7_2).f2).length c263_2)) (ds := []) (bm 14 0) (by kernel_rfl) rfl rfl ⟨(zr4 BK261.out 0).trans rfl, (zr4 BK261.out 1).trans rfl, hx263_0, hx263_1, hx263_2⟩ (fun hHeld => ?_); refine with_tabW laws_FnSegCut.tab13 laws_FnSegCut.bits13 (fun HT_ HW_ => ?_)
                    generalize wr.drew = w29 at HO_3 HO_5 HO_262001 BK261 HB HL263_2 HR263_2 hx263_0 hx263_1 hx263_2 hHeld ⊢
                    refine pA 1 (some 54) (bm 14 2) rfl rfl HT_.out (by kernel_rfl) (fun _ _ _ h => h) (by rfl) (by intro w'; go_simp; with_reducible rfl) (by simp only [Act.put, zs1, zs2, zs3, i64_w, i32_w]; rfl) ?_
                    refine pA 2 (some 55) (bm 14 6) rfl rfl HT_.out (by kernel_rfl) (fun _ _ _ h => h) (by rfl) (by intro w'; go_simp; with_reducible rfl) (by simp only [Act.put, zs1, zs2, zs3, i64_w, i32_w]; rfl) ?_
                    refine pA 3 (some 56) (bm 14 14) rfl rfl HT_.out (by kernel_rfl) (fun _ _ _ h => h) (by rfl) (by intro w'; go_simp; with_reducible rfl) (by simp only [Act.put, zs1, zs2, zs3, i64_w, i32_w]; rfl) ?_
                    refine tA 0 (some 53) (bm 14 15) rfl rfl HT_.out HW_.out (by kernel_rfl) (fun _ _ _ h => h) (by rfl) hHeld (by rintro w' ⟨s0, s1, s2, s3, s4⟩; go_simp; with_reducible rfl) (by simp only [Act.put, zs1, zs2, zs3, i64_w, i32_w]; rfl) ?_
                    refine tA 4 (some 57) (bm 14 31) rfl rfl HT_.out HW_.out (by kernel_rfl) (fun _ _ _ h => h) (by rfl) hHeld (by rintro w' ⟨s0, s1, s2, s3, s4⟩; go_simp; with_reducible rfl) (by simp only [Act.put, zs1, zs2, zs3, i64_w, i32_w]; rfl) ?_
                    refine join_ (σ := Value × Value × Nat) 3 (bm 14 2047) (fun s_ => [(58, .tuple #[.agg #[.int .i64 t264, s_.1], s_.2.1, .int .i64 t271]), (8, .pointer (some ⟨s_.2.2, 0, none⟩)), (52, .tuple #[.agg #[.int .i64 t264, s_.1], s_.2.1, .int .i64 t271]), (59, .agg #[.int .i64 t264, s_.1]), (60, s_.2.1), (61, .int .i64 t271)]) (fun s_ w' => (w'.cell? ⟨gb261, 0, none⟩ = some (.int .i64 x262000_2) ∧ w'.cell? ⟨gb261, 1, none⟩ = some (.slice Ao28 x262001_2.length co28) ∧ w'.cell? (ad263.add ((x7_2).toNat * 3)) = some (.int .i64 ((rd_T39 t253 x7_2).f0)) ∧ w'.cell? ⟨(ad263.add ((x7_2).toNat * 3)).block, (ad263.add ((x7_2).toNat * 3)).off + 1, none⟩ = some (.int .i64 ((rd_T39 t253 x7_2).f1)) ∧ w'.cell? ⟨(ad263.add ((x7_2).toNat * 3)).block, (ad263.add ((x7_2).toNat * 3)).off + 2, none⟩ = some (.slice A263_2 ((rd_T39 t253 x7_2).f2).length c263_2)) ∧ (Kd.V (Kd.int .u8) 5 w' w.heap.size (fun k_ => some k_ ≠ (.slice Ao10 t249.length co10 : Value).ownBlock ∧ k_ ≠ gb261 ∧ k_ ≠ s_.2.2) (.slice A263_2 ((rd_T39 t253 x7_2).f2).length c263_2) ((rd_T39 t253 x7_2).f2)) ∧ (Kd.V (Kd.int .u8) 5 w' w.heap.size (fun k_ => some k_ ≠ (.slice Ao10 t249.length co10 : Value).ownBlock ∧ k_ ≠ gb261 ∧ k_ ≠ s_.2.2) s_.1 t265) ∧ (Kd.V (Kd.int .u8) 5 w' w.heap.size (fun k_ => some k_ ≠ (.slice Ao10 t249.length co10 : Value).ownBlock ∧ k_ ≠ gb261 ∧ k_ ≠ s_.2.2) s_.2.1 t268) ∧ (Kd.V (Kd.int .u8) 5 w' w.heap.size (fun k_ => some k_ ≠ (.slice Ao10 t249.length co10 : Value).ownBlock ∧ k_ ≠ gb261 ∧ k_ ≠ s_.2.2) (.slice Ao28 x262001_2.length co28) x262001_2) ∧ (Kd.R (Kd.int .u8) 5 w' w.heap.size (fun _ => True) (.slice Ao10 t249.length co10) t249) ∧ (Kd.V k39 39 w' w.heap.size (fun k_ => some k_ ≠ (.slice Ao10 t249.length co10 : Value).ownBlock ∧ k_ ≠ gb261 ∧ k_ ≠ s_.2.2) (.slice (some ad263) t253.length co13) t253) ∧ (w'.heap[gb261]? = some (.cells #[.int .i64 x262000_2, .slice Ao28 x262001_2.length co28] 35 (0, 0))) ∧ (w'.heap[s_.2.2]? = some (.cells #[.int .i64 0, .slice none 0 0] 35 (0, 0))) ∧ (w.heap.size ≤ s_.2.2) ∧ (w.heap.size ≤ s_.2.2) ∧ (gb261 ≠ s_.2.2) ∧ (s_.2.2 ≠ gb261) ∧ (Below w.heap.size w w')) ?_ ?_
                    rotate_left
                    · intro hCont
                      refine two_ (i := 5) (j := 10) (Ni := some 58) (Nj := some 8) (bm 14 63) (bm 14 1055) rfl rfl rfl rfl (two_of HT_.out (by kernel_rfl)) (by decide) (by decide) (fun K hK => ?_) (fun K hK => ?_)
                      · skip
                        refine goes_ Try.func26 (by kernel_rfl) rfl #[.agg #[.int .i64 x262000_2, .slice Ao28 x262001_2.length co28], .agg #[.int .i64 ((rd_T39 t253 x7_2).f0), .int .i64 ((rd_T39 t253 x7_2).f1), .slice A263_2 ((rd_T39 t253 x7_2).f2).length c263_2]] (by rfl) rfl rfl (by (try simp only [List.map_toArray, List.map_cons, List.map_nil]); first | done | rfl | (simp only [List.length_drop, List.length_take]; rfl)) ?_
                        with_reducible refine (impl_SegPut.calls k2 x262000_2 _ _ x262001_2 ((rd_T39 t253 x7_2).f0) ((rd_T39 t253 x7_2).f1) _ _ ((rd_T39 t253 x7_2).f2) t264 t265 t268 t271 _ ?side1 ?side2 ?side3 ?side4 A26.out).mono ?_
                        (case side1 => repeat (first | exact (Kd.V_reads' HO_262001.out).2.2 | (with_reducible refine Kd.C_alloc ?_ _) | (with_reducible refine Kd.C_drewN ?_ _) | (with_reducible refine Kd.C_drew ?_)))
                        (case side2 => exact (Kd.V_reads' HO_262001.out).2.1)
                        (case side3 => repeat (first | exact (by repeat (first | (with_reducible exact HR263_2.out) | (with_reducible refine Kd.C_alloc ?_ _) | (with_reducible refine Kd.C_drewN ?_ _) | (with_reducible refine Kd.C_drew ?_) | exact HR263_2.out)) | (with_reducible refine Kd.C_alloc ?_ _) | (with_reducible refine Kd.C_drewN ?_ _) | (with_reducible refine Kd.C_drew ?_)))
                        (case side4 => exact HC263_2.out)
                        rintro e w30 ⟨v266, v269, rfl, ho0, ho1, hb⟩
                        have HS2_ := (hb.cell (World.block_lt_of_cell? _ _ (hHeld.2.2.1))).trans (hHeld.2.2.1)
                        have HS3_ := (hb.cell (World.block_lt_of_cell? _ _ (hHeld.2.2.2.1))).trans (hHeld.2.2.2.1)
                        have HS4_ := (hb.cell (World.block_lt_of_cell? _ _ (hHeld.2.2.2.2))).trans (hHeld.2.2.2.2)
                        refine ⟨_, rfl, ?_⟩
                        replace HO_5 := mk_ (Kd.V_below (by (with_reducible repeat (first | apply Kd.V_alloc | apply Kd.V_drewN | apply Kd.V_drew)); exact HO_5.out) hb)
                        replace HO_262001 := mk_ (Kd.V_below (by (with_reducible repeat (first | apply Kd.V_alloc | apply Kd.V_drewN | apply Kd.V_drew)); exact HO_262001.out) hb)
                        replace HL263_2 := mk_ (Kd.V_below (by (with_reducible repeat (first | apply Kd.V_alloc | apply Kd.V_drewN | apply Kd.V_drew)); exact HL263_2.out) hb)
                        have HO267 := mk_ (Kd.V_lower (Kd.V_mono (ok' := fun k_ => some k_ ≠ (.slice Ao10 t249.length co10 : Value).ownBlock ∧ k_ ≠ gb261) ho0 (fun k_ hk_ => ⟨(Kd.fresh' (Kd.R_lt (by (with_reducible repeat (first | apply Kd.R_alloc | apply Kd.R_drewN | apply Kd.R_drew)); exact HO_3.out)) k_ hk_), (Kd.freshB (g := gb261) (o := .cells #[.int .i64 x262000_2, .slice Ao28 x262001_2.length co28] 35 (0, 0)) (by exact BK261.out) k_ hk_)⟩)) (zr2 (by repeat (first | (with_reducible first | exact HB.out | apply zq7 | apply zq8 | apply zq9 | refine zr1 ?_ GE261.out) | exact HB.out))))
                        have HO270 := mk_ (Kd.V_lower (Kd.V_mono (ok' := fun k_ => some k_ ≠ (.slice Ao10 t249.length co10 : Value).ownBlock ∧ k_ ≠ gb261) ho1 (fun k_ hk_ => ⟨(Kd.fresh' (Kd.R_lt (by (with_reducible repeat (first | apply Kd.R_alloc | apply Kd.R_drewN | apply Kd.R_drew)); exact HO_3.out)) k_ hk_), (Kd.freshB (g := gb261) (o := .cells #[.int .i64 x262000_2, .slice Ao28 x262001_2.length co28] 35 (0, 0)) (by exact BK261.out) k_ hk_)⟩)) (zr2 (by repeat (first | (with_reducible first | exact HB.out | apply zq7 | apply zq8 | apply zq9 | refine zr1 ?_ GE261.out) | exact HB.out))))
                        replace HO_3 := mk_ (Kd.R_below (by (with_reducible repeat (first | apply Kd.R_alloc | apply Kd.R_drewN | apply Kd.R_drew)); exact HO_3.out) hb)
                        replace BK261 := mk_ (zq6 (by exact BK261.out) hb)
                        replace HR263_2 := mk_ (Kd.C_below (by repeat (first | (with_reducible exact HR263_2.out) | (with_reducible refine Kd.C_alloc ?_ _) | (with_reducible refine Kd.C_drewN ?_ _) | (with_reducible refine Kd.C_drew ?_) | exact HR263_2.out)) hb)
                        replace HB := mk_ (zr3 (by repeat (first | (with_reducible first | exact HB.out | apply zq7 | apply zq8 | apply zq9 | refine zr1 ?_ GE261.out) | exact HB.out)) hb)
                        (try clear hb)
                        (try clear hb2)
                        (try clear hk)
                        (try clear hi)
                        (try clear ho0)
                        (try clear ho1)
                        refine hK.out _ _ ⟨(zr4 BK261.out 0).trans rfl, (zr4 BK261.out 1).trans rfl, HS2_, HS3_, HS4_⟩ (fun hHeld => ?_)
                        clear hK K
                        refine norm_ (a' := ?_) ?_ ?_
                        rotate_left
                        · show Act.put _ (some 58) _ = _
                          simp only [Act.put, zs1, zs2, zs3, i64_w, i32_w]
                          rfl
                        refine pA 6 (some 52) (bm 14 127) rfl rfl HT_.out (by kernel_rfl) (fun _ _ _ h => h) (by rfl) (by intro w'; go_simp; with_reducible rfl) (by simp only [Act.put, zs1, zs2, zs3, i64_w, i32_w]; rfl) ?_
                        refine pA 7 (some 59) (bm 14 255) rfl rfl HT_.out (by kernel_rfl) (fun _ _ _ h => h) (by rfl) (by intro w'; go_simp; with_reducible rfl) (by simp only [Act.put, zs1, zs2, zs3, i64_w, i32_w]; rfl) ?_
                        refine pA 8 (some 60) (bm 14 511) rfl rfl HT_.out (by kernel_rfl) (fun _ _ _ h => h) (by rfl) (by intro w'; go_simp; with_reducible rfl) (by simp only [Act.put, zs1, zs2, zs3, i64_w, i32_w]; rfl) ?_
                        refine pA 9 (some 61) (bm 14 1023) rfl rfl HT_.out (by kernel_rfl) (fun _ _ _ h => h) (by rfl) (by intro w'; go_simp; with_reducible rfl) (by simp only [Act.put, zs1, zs2, zs3, i64_w, i32_w]; rfl) ?_
                        refine one_ (i := 10) (N := some 8) (bm 14 2047) rfl rfl (one_of HT_.out (by kernel_rfl)) (by decide) (fun K hK => ?_)
                        refine box_step ?hg (N := 8) ?hd (cs := #[.int .i64 0, .slice none 0 0]) (t := 35) ?hr ?_; (case hd => rfl); (case hg => rfl); (case hr => first | (go_simp; done) | (go_simp; rfl))
                        intro gb272 hg w31 hbox hb
                        have HS2_ := (hb.cell (World.block_lt_of_cell? _ _ (hHeld.2.2.1))).trans (hHeld.2.2.1)
                        have HS3_ := (hb.cell (World.block_lt_of_cell? _ _ (hHeld.2.2.2.1))).trans (hHeld.2.2.2.1)
                        have HS4_ := (hb.cell (World.block_lt_of_cell? _ _ (hHeld.2.2.2.2))).trans (hHeld.2.2.2.2)
                        replace HO_3 := mk_ (Kd.R_below (by (with_reducible repeat (first | apply Kd.R_alloc | apply Kd.R_drewN | apply Kd.R_drew)); exact HO_3.out) hb)
                        replace HO_5 := mk_ (Kd.V_below (Kd.V_elderB (by (with_reducible repeat (first | apply Kd.V_alloc | apply Kd.V_drewN | apply Kd.V_drew)); exact HO_5.out) gb272 (Nat.le_of_eq hg.symm)) hb)
                        replace HO_262001 := mk_ (Kd.V_below (Kd.V_elderB (by (with_reducible repeat (first | apply Kd.V_alloc | apply Kd.V_drewN | apply Kd.V_drew)); exact HO_262001.out) gb272 (Nat.le_of_eq hg.symm)) hb)
                        replace HL263_2 := mk_ (Kd.V_below (Kd.V_elderB (by (with_reducible repeat (first | apply Kd.V_alloc | apply Kd.V_drewN | apply Kd.V_drew)); exact HL263_2.out) gb272 (Nat.le_of_eq hg.symm)) hb)
                        replace HO267 := mk_ (Kd.V_below (Kd.V_elderB (by (with_reducible repeat (first | apply Kd.V_alloc | apply Kd.V_drewN | apply Kd.V_drew)); exact HO267.out) gb272 (Nat.le_of_eq hg.symm)) hb)
                        replace HO270 := mk_ (Kd.V_below (Kd.V_elderB (by (with_reducible repeat (first | apply Kd.V_alloc | apply Kd.V_drewN | apply Kd.V_drew)); exact HO270.out) gb272 (Nat.le_of_eq hg.symm)) hb)
                        replace HR263_2 := mk_ (Kd.C_below (by repeat (first | (with_reducible exact HR263_2.out) | (with_reducible refine Kd.C_alloc ?_ _) | (with_reducible refine Kd.C_drewN ?_ _) | (with_reducible refine Kd.C_drew ?_) | exact HR263_2.out)) hb)
                        have BK272 := mk_ (hbox)
                        have GW272 := mk_ ((by rw [hg]; exact (zr2 (by repeat (first | (with_reducible first | exact HB.out | apply zq7 | apply zq8 | apply zq9 | refine zr1 ?_ GE261.out) | exact HB.out))) : w.heap.size ≤ gb272))
                        have GE272 := GW272
                        replace HB := mk_ (zr3 (by repeat (first | (with_reducible first | exact HB.out | apply zq7 | apply zq8 | apply zq9 | refine zr1 ?_ GE261.out) | exact HB.out)) hb)
                        have NB261_272 := mk_ ((by rw [hg]; exact zm2 (zr6 (by exact BK261.out)) : gb261 ≠ gb272))
                        have NB272_261 := mk_ NB261_272.out.symm
                        replace BK261 := mk_ (zq6 (by exact BK261.out) hb)
                        clear hb hbox hg
                        refine hK.out _ _ ⟨(zr4 BK261.out 0).trans rfl, (zr4 BK261.out 1).trans rfl, HS2_, HS3_, HS4_⟩ (fun hHeld => ?_)
                        clear hK K
                        refine norm_ (a' := ?_) ?_ ?_
                        rotate_left
                        · show Act.put _ (some 8) _ = _
                          simp only [Act.put, zs1, zs2, zs3, i64_w, i32_w]
                          rfl
                        exact norm_ (by simp only [putAll, Act.put, List.setIfInBounds_toArray, List.set_cons_zero, List.set_cons_succ]) (hCont (v266, v269, gb272) _ ⟨hHeld, (by (with_reducible repeat (first | apply Kd.V_alloc | apply Kd.V_drewN | apply Kd.V_drew)); exact Kd.V_mono HL263_2.out (fun _ hk => ⟨hk.1.1, ⟨hk.1.2, hk.2⟩⟩)), (by (with_reducible repeat (first | apply Kd.V_alloc | apply Kd.V_drewN | apply Kd.V_drew)); exact Kd.V_mono HO267.out (fun _ hk => ⟨hk.1.1, ⟨hk.1.2, hk.2⟩⟩)), (by (with_reducible repeat (first | apply Kd.V_alloc | apply Kd.V_drewN | apply Kd.V_drew)); exact Kd.V_mono HO270.out (fun _ hk => ⟨hk.1.1, ⟨hk.1.2, hk.2⟩⟩)), (by (with_reducible repeat (first | apply Kd.V_alloc | apply Kd.V_drewN | apply Kd.V_drew)); exact Kd.V_mono HO_262001.out (fun _ hk => ⟨hk.1.1, ⟨hk.1.2, hk.2⟩⟩)), (by (with_reducible repeat (first | apply Kd.R_alloc | apply Kd.R_drewN | apply Kd.R_drew)); exact HO_3.out), (by (with_reducible repeat (first | apply Kd.V_alloc | apply Kd.V_drewN | apply Kd.V_drew)); exact Kd.V_mono HO_5.out (fun _ hk => ⟨hk.1.1, ⟨hk.1.2, hk.2⟩⟩)), (by exact BK261.out), (by exact BK272.out), GW272.out, GE272.out, NB261_272.out, NB272_261.out, (by repeat (first | (with_reducible first | exact HB.out | apply zq7 | apply zq8 | apply zq9 | refine zr1 ?_ GE261.out | refine zr1 ?_ GE272.out) | exact HB.out))⟩)
                      · skip
                        refine box_step ?hg (N := 8) ?hd (cs := #[.int .i64 0, .slice none 0 0]) (t := 35) ?hr ?_; (case hd => rfl); (case hg => rfl); (case hr => first | (go_simp; done) | (go_simp; rfl))
                        intro gb272 hg w30 hbox hb
                        have HS2_ := (hb.cell (World.block_lt_of_cell? _ _ (hHeld.2.2.1))).trans (hHeld.2.2.1)
                        have HS3_ := (hb.cell (World.block_lt_of_cell? _ _ (hHeld.2.2.2.1))).trans (hHeld.2.2.2.1)
                        have HS4_ := (hb.cell (World.block_lt_of_cell? _ _ (hHeld.2.2.2.2))).trans (hHeld.2.2.2.2)
                        replace HO_3 := mk_ (Kd.R_below (by (with_reducible repeat (first | apply Kd.R_alloc | apply Kd.R_drewN | apply Kd.R_drew)); exact HO_3.out) hb)
                        replace HO_5 := mk_ (Kd.V_below (Kd.V_elderB (by (with_reducible repeat (first | apply Kd.V_alloc | apply Kd.V_drewN | apply Kd.V_drew)); exact HO_5.out) gb272 (Nat.le_of_eq hg.symm)) hb)
                        replace HO_262001 := mk_ (Kd.V_below (Kd.V_elderB (by (with_reducible repeat (first | apply Kd.V_alloc | apply Kd.V_drewN | apply Kd.V_drew)); exact HO_262001.out) gb272 (Nat.le_of_eq hg.symm)) hb)
                        replace HL263_2 := mk_ (Kd.V_below (Kd.V_elderB (by (with_reducible repeat (first | apply Kd.V_alloc | apply Kd.V_drewN | apply Kd.V_drew)); exact HL263_2.out) gb272 (Nat.le_of_eq hg.symm)) hb)
                        replace HR263_2 := mk_ (Kd.C_below (by repeat (first | (with_reducible exact HR263_2.out) | (with_reducible refine Kd.C_alloc ?_ _) | (with_reducible refine Kd.C_drewN ?_ _) | (with_reducible refine Kd.C_drew ?_) | exact HR263_2.out)) hb)
                        have BK272 := mk_ (hbox)
                        have GW272 := mk_ ((by rw [hg]; exact (zr2 (by repeat (first | (with_reducible first | exact HB.out | apply zq7 | apply zq8 | apply zq9 | refine zr1 ?_ GE261.out) | exact HB.out))) : w.heap.size ≤ gb272))
                        have GE272 := GW272
                        replace HB := mk_ (zr3 (by repeat (first | (with_reducible first | exact HB.out | apply zq7 | apply zq8 | apply zq9 | refine zr1 ?_ GE261.out) | exact HB.out)) hb)
                        have NB261_272 := mk_ ((by rw [hg]; exact zm2 (zr6 (by exact BK261.out)) : gb261 ≠ gb272))
                        have NB272_261 := mk_ NB261_272.out.symm
                        replace BK261 := mk_ (zq6 (by exact BK261.out) hb)
                        clear hb hbox hg
                        refine hK.out _ _ ⟨(zr4 BK261.out 0).trans rfl, (zr4 BK261.out 1).trans rfl, HS2_, HS3_, HS4_⟩ (fun hHeld => ?_)
                        clear hK K
                        refine norm_ (a' := ?_) ?_ ?_
                        rotate_left
                        · show Act.put _ (some 8) _ = _
                          simp only [Act.put, zs1, zs2, zs3, i64_w, i32_w]
                          rfl
                        refine one_ (i := 5) (N := some 58) (bm 14 1087) rfl rfl (one_of HT_.out (by kernel_rfl)) (by decide) (fun K hK => ?_)
                        refine goes_ Try.func26 (by kernel_rfl) rfl #[.agg #[.int .i64 x262000_2, .slice Ao28 x262001_2.length co28], .agg #[.int .i64 ((rd_T39 t253 x7_2).f0), .int .i64 ((rd_T39 t253 x7_2).f1), .slice A263_2 ((rd_T39 t253 x7_2).f2).length c263_2]] (by rfl) rfl rfl (by (try simp only [List.map_toArray, List.map_cons, List.map_nil]); first | done | rfl | (simp only [List.length_drop, List.length_take]; rfl)) ?_
                        with_reducible refine (impl_SegPut.calls k2 x262000_2 _ _ x262001_2 ((rd_T39 t253 x7_2).f0) ((rd_T39 t253 x7_2).f1) _ _ ((rd_T39 t253 x7_2).f2) t264 t265 t268 t271 _ ?side1 ?side2 ?side3 ?side4 A26.out).mono ?_
                        (case side1 => repeat (first | exact (Kd.V_reads' HO_262001.out).2.2 | (with_reducible refine Kd.C_alloc ?_ _) | (with_reducible refine Kd.C_drewN ?_ _) | (with_reducible refine Kd.C_drew ?_)))
                        (case side2 => exact (Kd.V_reads' HO_262001.out).2.1)
                        (case side3 => repeat (first | exact (by repeat (first | (with_reducible exact HR263_2.out) | (with_reducible refine Kd.C_alloc ?_ _) | (with_reducible refine Kd.C_drewN ?_ _) | (with_reducible refine Kd.C_drew ?_) | exact HR263_2.out)) | (with_reducible refine Kd.C_alloc ?_ _) | (with_reducible refine Kd.C_drewN ?_ _) | (with_reducible refine Kd.C_drew ?_)))
                        (case side4 => exact HC263_2.out)
                        rintro e w31 ⟨v266, v269, rfl, ho0, ho1, hb⟩
                        have HS2_ := (hb.cell (World.block_lt_of_cell? _ _ (hHeld.2.2.1))).trans (hHeld.2.2.1)
                        have HS3_ := (hb.cell (World.block_lt_of_cell? _ _ (hHeld.2.2.2.1))).trans (hHeld.2.2.2.1)
                        have HS4_ := (hb.cell (World.block_lt_of_cell? _ _ (hHeld.2.2.2.2))).trans (hHeld.2.2.2.2)
                        refine ⟨_, rfl, ?_⟩
                        replace HO_5 := mk_ (Kd.V_below (by (with_reducible repeat (first | apply Kd.V_alloc | apply Kd.V_drewN | apply Kd.V_drew)); exact HO_5.out) hb)
                        replace HO_262001 := mk_ (Kd.V_below (by (with_reducible repeat (first | apply Kd.V_alloc | apply Kd.V_drewN | apply Kd.V_drew)); exact HO_262001.out) hb)
                        replace HL263_2 := mk_ (Kd.V_below (by (with_reducible repeat (first | apply Kd.V_alloc | apply Kd.V_drewN | apply Kd.V_drew)); exact HL263_2.out) hb)
                        have HO267 := mk_ (Kd.V_lower (Kd.V_mono (ok' := fun k_ => some k_ ≠ (.slice Ao10 t249.length co10 : Value).ownBlock ∧ k_ ≠ gb261 ∧ k_ ≠ gb272) ho0 (fun k_ hk_ => ⟨(Kd.fresh' (Kd.R_lt (by (with_reducible repeat (first | apply Kd.R_alloc | apply Kd.R_drewN | apply Kd.R_drew)); exact HO_3.out)) k_ hk_), (Kd.freshB (g := gb261) (o := .cells #[.int .i64 x262000_2, .slice Ao28 x262001_2.length co28] 35 (0, 0)) (by exact BK261.out) k_ hk_), (Kd.freshB (g := gb272) (o := .cells #[.int .i64 0, .slice none 0 0] 35 (0, 0)) (by exact BK272.out) k_ hk_)⟩)) (zr2 (by repeat (first | (with_reducible first | exact HB.out | apply zq7 | apply zq8 | apply zq9 | refine zr1 ?_ GE261.out | refine zr1 ?_ GE272.out) | exact HB.out))))
                        have HO270 := mk_ (Kd.V_lower (Kd.V_mono (ok' := fun k_ => some k_ ≠ (.slice Ao10 t249.length co10 : Value).ownBlock ∧ k_ ≠ gb261 ∧ k_ ≠ gb272) ho1 (fun k_ hk_ => ⟨(Kd.fresh' (Kd.R_lt (by (with_reducible repeat (first | apply Kd.R_alloc | apply Kd.R_drewN | apply Kd.R_drew)); exact HO_3.out)) k_ hk_), (Kd.freshB (g := gb261) (o := .cells #[.int .i64 x262000_2, .slice Ao28 x262001_2.length co28] 35 (0, 0)) (by exact BK261.out) k_ hk_), (Kd.freshB (g := gb272) (o := .cells #[.int .i64 0, .slice none 0 0] 35 (0, 0)) (by exact BK272.out) k_ hk_)⟩)) (zr2 (by repeat (first | (with_reducible first | exact HB.out | apply zq7 | apply zq8 | apply zq9 | refine zr1 ?_ GE261.out | refine zr1 ?_ GE272.out) | exact HB.out))))
                        replace HO_3 := mk_ (Kd.R_below (by (with_reducible repeat (first | apply Kd.R_alloc | apply Kd.R_drewN | apply Kd.R_drew)); exact HO_3.out) hb)
                        replace BK261 := mk_ (zq6 (by exact BK261.out) hb)
                        replace HR263_2 := mk_ (Kd.C_below (by repeat (first | (with_reducible exact HR263_2.out) | (with_reducible refine Kd.C_alloc ?_ _) | (with_reducible refine Kd.C_drewN ?_ _) | (with_reducible refine Kd.C_drew ?_) | exact HR263_2.out)) hb)
                        replace BK272 := mk_ (zq6 (by exact BK272.out) hb)
                        replace HB := mk_ (zr3 (by repeat (first | (with_reducible first | exact HB.out | apply zq7 | apply zq8 | apply zq9 | refine zr1 ?_ GE261.out | refine zr1 ?_ GE272.out) | exact HB.out)) hb)
                        (try clear hb)
                        (try clear hb2)
                        (try clear hk)
                        (try clear hi)
                        (try clear ho0)
                        (try clear ho1)
                        refine hK.out _ _ ⟨(zr4 BK261.out 0).trans rfl, (zr4 BK261.out 1).trans rfl, HS2_, HS3_, HS4_⟩ (fun hHeld => ?_)
                        clear hK K
                        refine norm_ (a' := ?_) ?_ ?_
                        rotate_left
                        · show Act.put _ (some 58) _ = _
                          simp only [Act.put, zs1, zs2, zs3, i64_w, i32_w]
                          rfl
                        refine pA 6 (some 52) (bm 14 1151) rfl rfl HT_.out (by kernel_rfl) (fun _ _ _ h => h) (by rfl) (by intro w'; go_simp; with_reducible rfl) (by simp only [Act.put, zs1, zs2, zs3, i64_w, i32_w]; rfl) ?_
                        refine pA 7 (some 59) (bm 14 1279) rfl rfl HT_.out (by kernel_rfl) (fun _ _ _ h => h) (by rfl) (by intro w'; go_simp; with_reducible rfl) (by simp only [Act.put, zs1, zs2, zs3, i64_w, i32_w]; rfl) ?_
                        refine pA 8 (some 60) (bm 14 1535) rfl rfl HT_.out (by kernel_rfl) (fun _ _ _ h => h) (by rfl) (by intro w'; go_simp; with_reducible rfl) (by simp only [Act.put, zs1, zs2, zs3, i64_w, i32_w]; rfl) ?_
                        refine pA 9 (some 61) (bm 14 2047) rfl rfl HT_.out (by kernel_rfl) (fun _ _ _ h => h) (by rfl) (by intro w'; go_simp; with_reducible rfl) (by simp only [Act.put, zs1, zs2, zs3, i64_w, i32_w]; rfl) ?_
                        exact norm_ (by simp only [putAll, Act.put, List.setIfInBounds_toArray, List.set_cons_zero, List.set_cons_succ]) (hCont (v266, v269, gb272) _ ⟨hHeld, (by (with_reducible repeat (first | apply Kd.V_alloc | apply Kd.V_drewN | apply Kd.V_drew)); exact Kd.V_mono HL263_2.out (fun _ hk => ⟨hk.1.1, ⟨hk.1.2, hk.2⟩⟩)), (by (with_reducible repeat (first | apply Kd.V_alloc | apply Kd.V_drewN | apply Kd.V_drew)); exact HO267.out), (by (with_reducible repeat (first | apply Kd.V_alloc | apply Kd.V_drewN | apply Kd.V_drew)); exact HO270.out), (by (with_reducible repeat (first | apply Kd.V_alloc | apply Kd.V_drewN | apply Kd.V_drew)); exact Kd.V_mono HO_262001.out (fun _ hk => ⟨hk.1.1, ⟨hk.1.2, hk.2⟩⟩)), (by (with_reducible repeat (first | apply Kd.R_alloc | apply Kd.R_drewN | apply Kd.R_drew)); exact HO_3.out), (by (with_reducible repeat (first | apply Kd.V_alloc | apply Kd.V_drewN | apply Kd.V_drew)); exact Kd.V_mono HO_5.out (fun _ hk => ⟨hk.1.1, ⟨hk.1.2, hk.2⟩⟩)), (by exact BK261.out), (by exact BK272.out), GW272.out, GE272.out, NB261_272.out, NB272_261.out, (by repeat (first | (with_reducible first | exact HB.out | apply zq7 | apply zq8 | apply zq9 | refine zr1 ?_ GE261.out | refine zr1 ?_ GE272.out) | exact HB.out))⟩)
                    rintro ⟨v266, v269, gb272⟩ w32 ⟨hS_, h0_, h1_, h2_, h3_, h4_, h5_, h6_, h7_, h8_, h9_, h10_, h11_, h12_⟩
                    have n0_ : Aside0 (Kd.V (Kd.int .u8) 5 w32 w.heap.size (fun k_ => some k_ ≠ (.slice Ao10 t249.length co10 : Value).ownBlock ∧ k_ ≠ gb261 ∧ k_ ≠ gb272) (.slice A263_2 ((rd_T39 t253 x7_2).f2).length c263_2) ((rd_T39 t253 x7_2).f2)) := ⟨h0_⟩
                    have n1_ : Aside0 (Kd.V (Kd.int .u8) 5 w32 w.heap.size (fun k_ => some k_ ≠ (.slice Ao10 t249.length co10 : Value).ownBlock ∧ k_ ≠ gb261 ∧ k_ ≠ gb272) v266 t265) := ⟨h1_⟩
                    have n2_ : Aside0 (Kd.V (Kd.int .u8) 5 w32 w.heap.size (fun k_ => some k_ ≠ (.slice Ao10 t249.length co10 : Value).ownBlock ∧ k_ ≠ gb261 ∧ k_ ≠ gb272) v269 t268) := ⟨h2_⟩
                    have n3_ : Aside0 (Kd.V (Kd.int .u8) 5 w32 w.heap.size (fun k_ => some k_ ≠ (.slice Ao10 t249.length co10 : Value).ownBlock ∧ k_ ≠ gb261 ∧ k_ ≠ gb272) (.slice Ao28 x262001_2.length co28) x262001_2) := ⟨h3_⟩
                    have n4_ : Aside0 (Kd.R (Kd.int .u8) 5 w32 w.heap.size (fun _ => True) (.slice Ao10 t249.length co10) t249) := ⟨h4_⟩
                    have n5_ : Aside0 (Kd.V k39 39 w32 w.heap.size (fun k_ => some k_ ≠ (.slice Ao10 t249.length co10 : Value).ownBlock ∧ k_ ≠ gb261 ∧ k_ ≠ gb272) (.slice (some ad263) t253.length co13) t253) := ⟨h5_⟩
                    have n6_ : Aside0 (w32.heap[gb261]? = some (.cells #[.int .i64 x262000_2, .slice Ao28 x262001_2.length co28] 35 (0, 0))) := ⟨h6_⟩
                    have n7_ : Aside0 (w32.heap[gb272]? = some (.cells #[.int .i64 0, .slice none 0 0] 35 (0, 0))) := ⟨h7_⟩
                    have n8_ : Aside0 (w.heap.size ≤ gb272) := ⟨h8_⟩
                    have n9_ : Aside0 (w.heap.size ≤ gb272) := ⟨h9_⟩
                    have n10_ : Aside0 (gb261 ≠ gb272) := ⟨h10_⟩
                    have n11_ : Aside0 (gb272 ≠ gb261) := ⟨h11_⟩
                    have n12_ : Aside0 (Below w.heap.size w w32) := ⟨h12_⟩
                    clear HO_3
                    clear HO_5
                    clear HO_262001
                    clear BK261
                    clear HB
                    clear h0_ h1_ h2_ h3_ h4_ h5_ h6_ h7_ h8_ h9_ h10_ h11_ h12_
                    have HL263_2 := n0_
                    have HO267 := n1_
                    have HO270 := n2_
                    have HO_262001 := n3_
                    have HO_3 := n4_
                    have HO_5 := n5_
                    have BK261 := n6_
                    have BK272 := n7_
                    have GW272 := n8_
                    have GE272 := n9_
                    have NB261_272 := n10_
                    have NB272_261 := n11_
                    have HB := n12_
                    clear n0_ n1_ n2_ n3_ n4_ n5_ n6_ n7_ n8_ n9_ n10_ n11_ n12_
                    have hHeld : w32.cell? ⟨gb261, 0, none⟩ = some (.int .i64 x262000_2) ∧ w32.cell? ⟨gb261, 1, none⟩ = some (.slice Ao28 x262001_2.length co28) ∧ w32.cell? (ad263.add ((x7_2).toNat * 3)) = some (.int .i64 ((rd_T39 t253 x7_2).f0)) ∧ w32.cell? ⟨(ad263.add ((x7_2).toNat * 3)).block, (ad263.add ((x7_2).toNat * 3)).off + 1, none⟩ = some (.int .i64 ((rd_T39 t253 x7_2).f1)) ∧ w32.cell? ⟨(ad263.add ((x7_2).toNat * 3)).block, (ad263.add ((x7_2).toNat * 3)).off + 2, none⟩ = some (.slice A263_2 ((rd_T39 t253 x7_2).f2).length c263_2) := hS_
                    obtain ⟨Ao34, co34, eo34⟩ := Kd.V_slice HO267.out
                    (first | subst eo34 | (injection eo34 with f1_ f2_ f3_; have f4_ := f1_.symm; have f5_ := f3_.symm; clear f1_ f2_ f3_; subst f4_; subst f5_))
                    refine norm_ (a' := ?_) ?_ ?_
                    rotate_left
                    · simp only [putAll, Act.put, List.setIfInBounds_toArray, List.set_cons_zero, List.set_cons_succ]
                      rfl
                    refine one_ (i := 11) (N := none) (bm 14 4095) rfl rfl (one_of HT_.out (by kernel_rfl)) (by decide) (fun K hK => ?_)
                    have hs33 : w32.cell? ⟨gb272, 0, none⟩ = some (.int .i64 0) := (zr4 BK272.out 0).trans rfl
                    have hfs33 := zr5 BK272.out 0
                    have hns33_0 := NB261_272.out
                    have hms33_0 := NB272_261.out
                    have hs35 : w32.cell? ⟨gb272, 1, none⟩ = some (.slice none 0 0) := (zr4 BK272.out 1).trans rfl
                    have hfs35 := zr5 BK272.out 1
                    have hns35_0 := NB261_272.out
                    have hms35_0 := NB272_261.out
                    refine skip_ (w1 := ?_) (by rfl) rfl ?_ ?_
                    rotate_left
                    · go_simp
                      rfl
                    refine hK.out _ _ ⟨(fr2 NB261_272.out hHeld.1), (fr2 NB261_272.out hHeld.2.1), ((cell_far (p := ⟨gb272, _, none⟩) (by first | exact (Kd.F_in (Kd.V_F HO_5.out) rfl (by have h_ : x7_2 < (t253.length : Int) := of_decide_eq_true (by first | (with_reducible assumption) | assumption); have g_ : 0 ≤ (x7_2 : Int) := of_decide_eq_true (by first | (with_reducible assumption) | assumption); omega) (by decide)).2.2 | (rw [add_block]; exact (Kd.F_in (Kd.V_F HO_5.out) rfl (by have h_ : x7_2 < (t253.length : Int) := of_decide_eq_true (by first | (with_reducible assumption) | assumption); have g_ : 0 ≤ (x7_2 : Int) := of_decide_eq_true (by first | (with_reducible assumption) | assumption); omega) (by decide)).2.2) | (show (Addr.add _ _).block ≠ _; rw [add_block]; exact (Kd.F_in (Kd.V_F HO_5.out) rfl (by have h_ : x7_2 < (t253.length : Int) := of_decide_eq_true (by first | (with_reducible assumption) | assumption); have g_ : 0 ≤ (x7_2 : Int) := of_decide_eq_true (by first | (with_reducible assumption) | assumption); omega) (by decide)).2.2) | (dsimp only; exact (Kd.F_in (Kd.V_F HO_5.out) rfl (by have h_ : x7_2 < (t253.length : Int) := of_decide_eq_true (by first | (with_reducible assumption) | assumption); have g_ : 0 ≤ (x7_2 : Int) := of_decide_eq_true (by first | (with_reducible assumption) | assumption); omega) (by decide)).2.2)) _).trans (((cell_far (p := ⟨gb272, _, none⟩) (by first | exact (Kd.F_in (Kd.V_F HO_5.out) rfl (by have h_ : x7_2 < (t253.length : Int) := of_decide_eq_true (by first | (with_reducible assumption) | assumption); have g_ : 0 ≤ (x7_2 : Int) := of_decide_eq_true (by first | (with_reducible assumption) | assumption); omega) (by decide)).2.2 | (rw [add_block]; exact (Kd.F_in (Kd.V_F HO_5.out) rfl (by have h_ : x7_2 < (t253.length : Int) := of_decide_eq_true (by first | (with_reducible assumption) | assumption); have g_ : 0 ≤ (x7_2 : Int) := of_decide_eq_true (by first | (with_reducible assumption) | assumption); omega) (by decide)).2.2) | (show (Addr.add _ _).block ≠ _; rw [add_block]; exact (Kd.F_in (Kd.V_F HO_5.out) rfl (by have h_ : x7_2 < (t253.length : Int) := of_decide_eq_true (by first | (with_reducible assumption) | assumption); have g_ : 0 ≤ (x7_2 : Int) := of_decide_eq_true (by first | (with_reducible assumption) | assumption); omega) (by decide)).2.2) | (dsimp only; exact (Kd.F_in (Kd.V_F HO_5.out) rfl (by have h_ : x7_2 < (t253.length : Int) := of_decide_eq_true (by first | (with_reducible assumption) | assumption); have g_ : 0 ≤ (x7_2 : Int) := of_decide_eq_true (by first | (with_reducible assumption) | assumption); omega) (by decide)).2.2)) _).trans (hHeld.2.2.1)))), ((cell_far (p := ⟨gb272, _, none⟩) (by first | exact (Kd.F_in (Kd.V_F HO_5.out) rfl (by have h_ : x7_2 < (t253.length : Int) := of_decide_eq_true (by first | (with_reducible assumption) | assumption); have g_ : 0 ≤ (x7_2 : Int) := of_decide_eq_true (by first | (with_reducible assumption) | assumption); omega) (by decide)).2.2 | (rw [add_block]; exact (Kd.F_in (Kd.V_F HO_5.out) rfl (by have h_ : x7_2 < (t253.length : Int) := of_decide_eq_true (by first | (with_reducible assumption) | assumption); have g_ : 0 ≤ (x7_2 : Int) := of_decide_eq_true (by first | (with_reducible assumption) | assumption); omega) (by decide)).2.2) | (show (Addr.add _ _).block ≠ _; rw [add_block]; exact (Kd.F_in (Kd.V_F HO_5.out) rfl (by have h_ : x7_2 < (t253.length : Int) := of_decide_eq_true (by first | (with_reducible assumption) | assumption); have g_ : 0 ≤ (x7_2 : Int) := of_decide_eq_true (by first | (with_reducible assumption) | assumption); omega) (by decide)).2.2) | (dsimp only; exact (Kd.F_in (Kd.V_F HO_5.out) rfl (by have h_ : x7_2 < (t253.length : Int) := of_decide_eq_true (by first | (with_reducible assumption) | assumption); have g_ : 0 ≤ (x7_2 : Int) := of_decide_eq_true (by first | (with_reducible assumption) | assumption); omega) (by decide)).2.2)) _).trans (((cell_far (p := ⟨gb272, _, none⟩) (by first | exact (Kd.F_in (Kd.V_F HO_5.out) rfl (by have h_ : x7_2 < (t253.length : Int) := of_decide_eq_true (by first | (with_reducible assumption) | assumption); have g_ : 0 ≤ (x7_2 : Int) := of_decide_eq_true (by first | (with_reducible assumption) | assumption); omega) (by decide)).2.2 | (rw [add_block]; exact (Kd.F_in (Kd.V_F HO_5.out) rfl (by have h_ : x7_2 < (t253.length : Int) := of_decide_eq_true (by first | (with_reducible assumption) | assumption); have g_ : 0 ≤ (x7_2 : Int) := of_decide_eq_true (by first | (with_reducible assumption) | assumption); omega) (by decide)).2.2) | (show (Addr.add _ _).block ≠ _; rw [add_block]; exact (Kd.F_in (Kd.V_F HO_5.out) rfl (by have h_ : x7_2 < (t253.length : Int) := of_decide_eq_true (by first | (with_reducible assumption) | assumption); have g_ : 0 ≤ (x7_2 : Int) := of_decide_eq_true (by first | (with_reducible assumption) | assumption); omega) (by decide)).2.2) | (dsimp only; exact (Kd.F_in (Kd.V_F HO_5.out) rfl (by have h_ : x7_2 < (t253.length : Int) := of_decide_eq_true (by first | (with_reducible assumption) | assumption); have g_ : 0 ≤ (x7_2 : Int) := of_decide_eq_true (by first | (with_reducible assumption) | assumption); omega) (by decide)).2.2)) _).trans (hHeld.2.2.2.1)))), ((cell_far (p := ⟨gb272, _, none⟩) (by first | exact (Kd.F_in (Kd.V_F HO_5.out) rfl (by have h_ : x7_2 < (t253.length : Int) := of_decide_eq_true (by first | (with_reducible assumption) | assumption); have g_ : 0 ≤ (x7_2 : Int) := of_decide_eq_true (by first | (with_reducible assumption) | assumption); omega) (by decide)).2.2 | (rw [add_block]; exact (Kd.F_in (Kd.V_F HO_5.out) rfl (by have h_ : x7_2 < (t253.length : Int) := of_decide_eq_true (by first | (with_reducible assumption) | assumption); have g_ : 0 ≤ (x7_2 : Int) := of_decide_eq_true (by first | (with_reducible assumption) | assumption); omega) (by decide)).2.2) | (show (Addr.add _ _).block ≠ _; rw [add_block]; exact (Kd.F_in (Kd.V_F HO_5.out) rfl (by have h_ : x7_2 < (t253.length : Int) := of_decide_eq_true (by first | (with_reducible assumption) | assumption); have g_ : 0 ≤ (x7_2 : Int) := of_decide_eq_true (by first | (with_reducible assumption) | assumption); omega) (by decide)).2.2) | (dsimp only; exact (Kd.F_in (Kd.V_F HO_5.out) rfl (by have h_ : x7_2 < (t253.length : Int) := of_decide_eq_true (by first | (with_reducible assumption) | assumption); have g_ : 0 ≤ (x7_2 : Int) := of_decide_eq_true (by first | (with_reducible assumption) | assumption); omega) (by decide)).2.2)) _).trans (((cell_far (p := ⟨gb272, _, none⟩) (by first | exact (Kd.F_in (Kd.V_F HO_5.out) rfl (by have h_ : x7_2 < (t253.length : Int) := of_decide_eq_true (by first | (with_reducible assumption) | assumption); have g_ : 0 ≤ (x7_2 : Int) := of_decide_eq_true (by first | (with_reducible assumption) | assumption); omega) (by decide)).2.2 | (rw [add_block]; exact (Kd.F_in (Kd.V_F HO_5.out) rfl (by have h_ : x7_2 < (t253.length : Int) := of_decide_eq_true (by first | (with_reducible assumption) | assumption); have g_ : 0 ≤ (x7_2 : Int) := of_decide_eq_true (by first | (with_reducible assumption) | assumption); omega) (by decide)).2.2) | (show (Addr.add _ _).block ≠ _; rw [add_block]; exact (Kd.F_in (Kd.V_F HO_5.out) rfl (by have h_ : x7_2 < (t253.length : Int) := of_decide_eq_true (by first | (with_reducible assumption) | assumption); have g_ : 0 ≤ (x7_2 : Int) := of_decide_eq_true (by first | (with_reducible assumption) | assumption); omega) (by decide)).2.2) | (dsimp only; exact (Kd.F_in (Kd.V_F HO_5.out) rfl (by have h_ : x7_2 < (t253.length : Int) := of_decide_eq_true (by first | (with_reducible assumption) | assumption); have g_ : 0 ≤ (x7_2 : Int) := of_decide_eq_true (by first | (with_reducible assumption) | assumption); omega) (by decide)).2.2)) _).trans (hHeld.2.2.2.2))))⟩ (fun hHeld => ?_)
                    clear hK K
                    refine pA 12 (some 9) (bm 14 8191) rfl rfl HT_.out (by kernel_rfl) (fun _ _ _ h => h) (by rfl) (by intro w'; go_simp; with_reducible rfl) (by simp only [Act.put, zs1, zs2, zs3, i64_w, i32_w]; rfl) ?_
                    refine pA 13 (some 10) (bm 14 16383) rfl rfl HT_.out (by kernel_rfl) (fun _ _ _ h => h) (by rfl) (by intro w'; go_simp; with_reducible rfl) (by simp only [Act.put, zs1, zs2, zs3, i64_w, i32_w]; rfl) ?_
                    refine done_ (done_of HT_.out (by kernel_rfl)) ?_
                    go_upto_region 14 with (fail)
                    go_cut [77] (fun v77 wc => ∃ (kq : Nat) (x77_26 : Bool), v77 = .bool x77_26 ∧ Aside0 (laws_FnSegCut.j2 kq t249 t250 t253 x7_2 t268 t271 x77_26 t264 t265 = some r) ∧ Aside0 (kq ≤ k2) ∧ Aside0 (Kd.R (Kd.int .u8) 5 wc w.heap.size (fun _ => True) (.slice Ao10 t249.length co10) t249) ∧ Aside0 (Kd.V k39 39 wc w.heap.size (fun k_ => some k_ ≠ ((.slice Ao10 t249.length co10) : Value).ownBlock ∧ k_ ≠ gb261 ∧ k_ ≠ gb272) (.slice (some ad263) t253.length co13) t253) ∧ Aside0 (Kd.V (Kd.int .u8) 5 wc w.heap.size (fun k_ => some k_ ≠ ((.slice Ao10 t249.length co10) : Value).ownBlock ∧ k_ ≠ gb261 ∧ k_ ≠ gb272) v269 t268) ∧ Aside0 (Kd.V (Kd.int .u8) 5 wc w.heap.size (fun k_ => some k_ ≠ ((.slice Ao10 t249.length co10) : Value).ownBlock ∧ k_ ≠ gb261 ∧ k_ ≠ gb272) (.slice Ao28 x262001_2.length co28) x262001_2) ∧ Aside0 (Kd.V (Kd.int .u8) 5 wc w.heap.size (fun k_ => some k_ ≠ ((.slice Ao10 t249.length co10) : Value).ownBlock ∧ k_ ≠ gb261 ∧ k_ ≠ gb272) (.slice Ao34 t265.length co34) t265) ∧ Aside0 (wc.heap[gb261]? = some (.cells #[.int .i64 x262000_2, (.slice Ao28 x262001_2.length co28)] 35 (0, 0))) ∧ Aside0 (wc.heap[gb272]? = some (.cells #[.int .i64 t264, (.slice Ao34 t265.length co34)] 35 (0, 0))) ∧ Aside0 (Below w.heap.size w wc))
                    case first =>
                      have H := HC27.out
                      clear HC27
                      replace H := Option.bind_eq_some_iff.mp H
                      obtain ⟨t274, A360, H⟩ := H
                      try dsimp only at H
                      have A36 := mk_ A360
                      clear A360
                      by_cases c37 : t274 = true
                      · subst c37
                        have H1 : (laws_FnSegCut.j2 k2 t249 t250 t253 x7_2 t268 t271 (decide ((((rd_T39 t253 x7_2).f2).length : Int) > t250)) t264 t265) = some r := by rw [if_pos rfl] at H; exact H
                        clear H
                        have H := H1
                        clear H1
                        have H' := mk_ H
                        clear H
                        have p273 : 0 ≤ (x7_2 : Int) := of_decide_eq_true (by first | (with_reducible assumption) | assumption)
                        have q273 : x7_2 < (t253.length : Int) := of_decide_eq_true (by first | (with_reducible assumption) | assumption)
                        obtain ⟨ad273, A273_2, c273_2, e273, hx273_0, hx273_1, hx273_2, hl273_2, hi273_2⟩ := at_T39 (Kd.V_reads' HO_5.out).2.2 x7_2 p273 q273
                        obtain rfl : ad263 = ad273 := (by injection e273)
                        have ez_ := Option.some.inj (hS_.2.2.2.2.symm.trans hx273_2)
                        injection ez_ with ez1_ ez2_ ez3_
                        subst ez1_
                        subst ez3_
                        obtain ⟨ce273, hce273, hMe273, hcc273⟩ := Kd.V_get HO_5.out z39 x7_2 p273 (by first | exact q273 | exact of_decide_eq_true (by first | (with_reducible assumption) | assumption) | (have e_ := (Kd.V_reads' HO_5.out).1; omega))
                        obtain ⟨ua273_2, uc273_2, rfl, ul273_2, ge273_2⟩ := k39_openF hMe273
                        have hv273_2 := hcc273 2 _ rfl
                        rw [add_field _ _ 2 (by omega)] at hv273_2
                        replace hv273_2 := Option.some.inj (hv273_2.symm.trans hx273_2)
                        injection hv273_2 with hva_ hvn_ hvc_
                        rw [hva_] at ge273_2
                        rw [hvc_] at ul273_2
                        have HL273_2 := mk_ (show Kd.V (Kd.int .u8) 5 _ w.heap.size _ _ ((rd_T39 t253 x7_2).f2) from Kd.V_mk ul273_2 ge273_2)
                        clear hva_ hvn_ hvc_ ge273_2 ul273_2
                        clear hcc273 hce273
                        have hn273_0 : ad263.block ≠ gb272 := (Kd.F_in (Kd.V_F HO_5.out) rfl (by omega) (by decide)).2.2
                        have hn273_1 : ad263.block ≠ gb272 := (Kd.F_in (Kd.V_F HO_5.out) rfl (by omega) (by decide)).2.2
                        have HR273_2 := mk_ hi273_2
                        have HC273_2 := mk_ hl273_2
                        clear hi273_2 hl273_2
                        replace hx273_0 := (cell_far (p := ⟨gb272, 0, none⟩) (by first | (rw [add_block]; exact hn273_0) | (show (Addr.add _ _).block ≠ _; rw [add_block]; exact hn273_0) | exact hn273_0) (.int .i64 t264)).trans hx273_0
                        replace hx273_1 := (cell_far (p := ⟨gb272, 0, none⟩) (by first | (rw [add_block]; exact hn273_0) | (show (Addr.add _ _).block ≠ _; rw [add_block]; exact hn273_0) | exact hn273_0) (.int .i64 t264)).trans hx273_1
                        replace hx273_2 := (cell_far (p := ⟨gb272, 0, none⟩) (by first | (rw [add_block]; exact hn273_0) | (show (Addr.add _ _).block ≠ _; rw [add_block]; exact hn273_0) | exact hn273_0) (.int .i64 t264)).trans hx273_2
                        replace hx273_0 := (cell_far (p := ⟨gb272, 1, none⟩) (by first | (rw [add_block]; exact hn273_1) | (show (Addr.add _ _).block ≠ _; rw [add_block]; exact hn273_1) | exact hn273_1) (.slice Ao34 t265.length co34)).trans hx273_0
                        replace hx273_1 := (cell_far (p := ⟨gb272, 1, none⟩) (by first | (rw [add_block]; exact hn273_1) | (show (Addr.add _ _).block ≠ _; rw [add_block]; exact hn273_1) | exact hn273_1) (.slice Ao34 t265.length co34)).trans hx273_1
                        replace hx273_2 := (cell_far (p := ⟨gb272, 1, none⟩) (by first | (rw [add_block]; exact hn273_1) | (show (Addr.add _ _).block ≠ _; rw [add_block]; exact hn273_1) | exact hn273_1) (.slice Ao34 t265.length co34)).trans hx273_2
                        clear hn273_0
                        clear hn273_1
                        replace p273 := eq_true p273
                        replace q273 := eq_true q273
                        go_wp2_with (first | ((with_reducible refine gate_callee (f := 27) rfl ?_); refine goesL_ (some 66) rfl rfl Try.func27 (by kernel_rfl) rfl #[.agg #[.int .i64 ((rd_T39 t253 x7_2).f0), .int .i64 ((rd_T39 t253 x7_2).f1), .slice A263_2 ((rd_T39 t253 x7_2).f2).length c263_2]] rfl (by (try simp only [List.map_toArray, List.map_cons, List.map_nil]); first | done | rfl | (simp only [List.length_drop, List.length_take]; rfl)) ?_; (with_reducible refine (impl_PartOk.calls ((rd_T39 t253 x7_2).f0) ((rd_T39 t253 x7_2).f1) _ _ ((rd_T39 t253 x7_2).f2) true _ ?side1 ?side2 A36.out).mono ?_); (case side1 => repeat (first | exact ((Kd.V_reads' (by (with_reducible repeat (first | apply Kd.V_alloc | apply Kd.V_drewN | apply Kd.V_drew)); exact (Kd.V_mono (Kd.V_far (p := ⟨gb272, 1, none⟩) (Kd.V_far (p := ⟨gb272, 0, none⟩) (Kd.V_mono HL273_2.out (fun k_ hk => (⟨hk, hk.2.2⟩ : _ ∧ k_ ≠ gb272))) (fun _ hk => hk.2) (.int .i64 t264)) (fun _ hk => hk.2) (.slice Ao34 t265.length co34)) (fun _ h_ => h_.1)))).2.2) | (with_reducible refine Kd.C_alloc ?_ _) | (with_reducible refine Kd.C_drewN ?_ _) | (with_reducible refine Kd.C_drew ?_))); (case side2 => exact HC273_2.out); rintro e w38 ⟨rfl, hb⟩; refine ⟨_, rfl, ?_⟩; replace HO_3 := mk_ (Kd.R_below (by (with_reducible repeat (first | apply Kd.R_alloc | apply Kd.R_drewN | apply Kd.R_drew)); exact (Kd.R_mono (Kd.R_far (p := ⟨gb272, 1, none⟩) (Kd.R_far (p := ⟨gb272, 0, none⟩) (Kd.R_types HO_3.out BK272.out (by decide)) (fun _ hk => hk.2) (.int .i64 t264)) (fun _ hk => hk.2) (.slice Ao34 t265.length co34)) (fun _ h_ => h_.1))) hb); replace HO_5 := mk_ (Kd.V_below (by (with_reducible repeat (first | apply Kd.V_alloc | apply Kd.V_drewN | apply Kd.V_drew)); exact (Kd.V_mono (Kd.V_far (p := ⟨gb272, 1, none⟩) (Kd.V_far (p := ⟨gb272, 0, none⟩) (Kd.V_mono HO_5.out (fun k_ hk => (⟨hk, hk.2.2⟩ : _ ∧ k_ ≠ gb272))) (fun _ hk => hk.2) (.int .i64 t264)) (fun _ hk => hk.2) (.slice Ao34 t265.length co34)) (fun _ h_ => h_.1))) hb); replace HO_262001 := mk_ (Kd.V_below (by (with_reducible repeat (first | apply Kd.V_alloc | apply Kd.V_drewN | apply Kd.V_drew)); exact (Kd.V_mono (Kd.V_far (p := ⟨gb272, 1, none⟩) (Kd.V_far (p := ⟨gb272, 0, none⟩) (Kd.V_mono HO_262001.out (fun k_ hk => (⟨hk, hk.2.2⟩ : _ ∧ k_ ≠ gb272))) (fun _ hk => hk.2) (.int .i64 t264)) (fun _ hk => hk.2) (.slice Ao34 t265.length co34)) (fun _ h_ => h_.1))) hb); replace HL263_2 := mk_ (Kd.V_below (by (with_reducible repeat (first | apply Kd.V_alloc | apply Kd.V_drewN | apply Kd.V_drew)); exact (Kd.V_mono (Kd.V_far (p := ⟨gb272, 1, none⟩) (Kd.V_far (p := ⟨gb272, 0, none⟩) (Kd.V_mono HL263_2.out (fun k_ hk => (⟨hk, hk.2.2⟩ : _ ∧ k_ ≠ gb272))) (fun _ hk => hk.2) (.int .i64 t264)) (fun _ hk => hk.2) (.slice Ao34 t265.length co34)) (fun _ h_ => h_.1))) hb); replace HO267 := mk_ (Kd.V_below (by (with_reducible repeat (first | apply Kd.V_alloc | apply Kd.V_drewN | apply Kd.V_drew)); exact (Kd.V_mono (Kd.V_far (p := ⟨gb272, 1, none⟩) (Kd.V_far (p := ⟨gb272, 0, none⟩) (Kd.V_mono HO267.out (fun k_ hk => (⟨hk, hk.2.2⟩ : _ ∧ k_ ≠ gb272))) (fun _ hk => hk.2) (.int .i64 t264)) (fun _ hk => hk.2) (.slice Ao34 t265.length co34)) (fun _ h_ => h_.1))) hb); replace HO270 := mk_ (Kd.V_below (by (with_reducible repeat (first | apply Kd.V_alloc | apply Kd.V_drewN | apply Kd.V_drew)); exact (Kd.V_mono (Kd.V_far (p := ⟨gb272, 1, none⟩) (Kd.V_far (p := ⟨gb272, 0, none⟩) (Kd.V_mono HO270.out (fun k_ hk => (⟨hk, hk.2.2⟩ : _ ∧ k_ ≠ gb272))) (fun _ hk => hk.2) (.int .i64 t264)) (fun _ hk => hk.2) (.slice Ao34 t265.length co34)) (fun _ h_ => h_.1))) hb); replace BK261 := mk_ (zq6 (g := gb261) (o := .cells #[.int .i64 x262000_2, .slice Ao28 x262001_2.length co28] 35 (0, 0)) (by (with_reducible repeat (first | refine zq1 ?_ _ | refine zq2 ?_ | refine zq3 ?_ _)); refine fa2 ?_ NB261_272.out; (with_reducible repeat (first | refine zq1 ?_ _ | refine zq2 ?_ | refine zq3 ?_ _)); exact BK261.out) hb); replace BK272 := mk_ (zq6 (g := gb272) (o := .cells #[.int .i64 t264, .slice Ao34 t265.length co34] 35 (0, 0)) (by (with_reducible repeat (first | refine zq1 ?_ _ | refine zq2 ?_ | refine zq3 ?_ _)); apply pu2; (with_reducible repeat (first | refine zq1 ?_ _ | refine zq2 ?_ | refine zq3 ?_ _)); exact BK272.out) hb); replace HR273_2 := mk_ (Kd.C_below ((Kd.V_reads' (by (with_reducible repeat (first | apply Kd.V_alloc | apply Kd.V_drewN | apply Kd.V_drew)); exact (Kd.V_mono (Kd.V_far (p := ⟨gb272, 1, none⟩) (Kd.V_far (p := ⟨gb272, 0, none⟩) (Kd.V_mono HL273_2.out (fun k_ hk => (⟨hk, hk.2.2⟩ : _ ∧ k_ ≠ gb272))) (fun _ hk => hk.2) (.int .i64 t264)) (fun _ hk => hk.2) (.slice Ao34 t265.length co34)) (fun _ h_ => h_.1)))).2.2) hb); replace HL273_2 := mk_ (Kd.V_below (by (with_reducible repeat (first | apply Kd.V_alloc | apply Kd.V_drewN | apply Kd.V_drew)); exact (Kd.V_mono (Kd.V_far (p := ⟨gb272, 1, none⟩) (Kd.V_far (p := ⟨gb272, 0, none⟩) (Kd.V_mono HL273_2.out (fun k_ hk => (⟨hk, hk.2.2⟩ : _ ∧ k_ ≠ gb272))) (fun _ hk => hk.2) (.int .i64 t264)) (fun _ hk => hk.2) (.slice Ao34 t265.length co34)) (fun _ h_ => h_.1))) hb); replace HB := mk_ (zr3 (by repeat (first | (with_reducible first | exact HB.out | apply zq7 | apply zq8 | apply zq9 | refine zr1 ?_ GE261.out | refine zr1 ?_ GE272.out) | exact HB.out)) hb); (try clear hb); (try clear hb2); (try clear hk); (try clear hi); have p275 : 0 ≤ (x7_2 : Int) := of_decide_eq_true (by first | (with_reducible assumption) | assumption); have q275 : x7_2 < (t253.length : Int) := of_decide_eq_true (by first | (with_reducible assumption) | assumption); obtain ⟨ad275, A275_2, c275_2, e275, hx275_0, hx275_1, hx275_2, hl275_2, hi275_2⟩ := at_T39 (Kd.V_reads' HO_5.out).2.2 x7_2 p275 q275; obtain rfl : ad263 = ad275 := (by injection e275); obtain ⟨ce275, hce275, hMe275, hcc275⟩ := Kd.V_get HO_5.out z39 x7_2 p275 (by first | exact q275 | exact of_decide_eq_true (by first | (with_reducible assumption) | assumption) | (have e_ := (Kd.V_reads' HO_5.out).1; omega)); obtain ⟨ua275_2, uc275_2, rfl, ul275_2, ge275_2⟩ := k39_openF hMe275; have hv275_2 := hcc275 2 _ rfl; rw [add_field _ _ 2 (by omega)] at hv275_2; replace hv275_2 := Option.some.inj (hv275_2.symm.trans hx275_2); injection hv275_2 with hva_ hvn_ hvc_; rw [hva_] at ge275_2; rw [hvc_] at ul275_2; have HL275_2 := mk_ (show Kd.V (Kd.int .u8) 5 _ w.heap.size _ _ ((rd_T39 t253 x7_2).f2) from Kd.V_mk ul275_2 ge275_2); clear hva_ hvn_ hvc_ ge275_2 ul275_2; clear hcc275 hce275; have HR275_2 := mk_ hi275_2; have HC275_2 := mk_ hl275_2; clear hi275_2 hl275_2; replace p275 := eq_true p275; replace q275 := eq_true q275))
                        go_meet
                        case rel => exact ⟨_, (decide ((((rd_T39 t253 x7_2).f2).length : Int) > t250)), (by first | rfl | (simp; done) | (simp [*]; done)), H', ⟨by have := HJ7.out; have := HK2.out; first | omega | exact Nat.le_refl _⟩, ⟨by (with_reducible repeat (first | apply Kd.R_alloc | apply Kd.R_drewN | apply Kd.R_drew)); exact HO_3.out⟩, ⟨by (with_reducible repeat (first | apply Kd.V_alloc | apply Kd.V_drewN | apply Kd.V_drew)); exact HO_5.out⟩, ⟨by (with_reducible repeat (first | apply Kd.V_alloc | apply Kd.V_drewN | apply Kd.V_drew)); exact HO270.out⟩, ⟨by (with_reducible repeat (first | apply Kd.V_alloc | apply Kd.V_drewN | apply Kd.V_drew)); exact HO_262001.out⟩, ⟨by (with_reducible repeat (first | apply Kd.V_alloc | apply Kd.V_drewN | apply Kd.V_drew)); exact HO267.out⟩, ⟨by (with_reducible repeat (first | refine zq1 ?_ _ | refine zq2 ?_ | refine zq3 ?_ _)); exact BK261.out⟩, ⟨by (with_reducible repeat (first | refine zq1 ?_ _ | refine zq2 ?_ | refine zq3 ?_ _)); exact BK272.out⟩, ⟨by repeat (first | (with_reducible first | exact HB.out | apply zq7 | apply zq8 | apply zq9 | refine zr1 ?_ GE261.out | refine zr1 ?_ GE272.out) | exact HB.out)⟩⟩
                      · replace c37 := Bool.eq_false_iff.mpr c37
                        subst c37
                        have H1 : (laws_FnSegCut.j2 k2 t249 t250 t253 x7_2 t268 t271 true t264 t265) = some r := by rw [if_neg (show ¬ (false = true) by decide)] at H; exact H
                        clear H
                        have H := H1
                        clear H1
                        have H' := mk_ H
                        clear H
                        have p273 : 0 ≤ (x7_2 : Int) := of_decide_eq_true (by first | (with_reducible assumption) | assumption)
                        have q273 : x7_2 < (t253.length : Int) := of_decide_eq_true (by first | (with_reducible assumption) | assumption)
                        obtain ⟨ad273, A273_2, c273_2, e273, hx273_0, hx273_1, hx273_2, hl273_2, hi273_2⟩ := at_T39 (Kd.V_reads' HO_5.out).2.2 x7_2 p273 q273
                        obtain rfl : ad263 = ad273 := (by injection e273)
                        have ez_ := Option.some.inj (hS_.2.2.2.2.symm.trans hx273_2)
                        injection ez_ with ez1_ ez2_ ez3_
                        subst ez1_
                        subst ez3_
                        obtain ⟨ce273, hce273, hMe273, hcc273⟩ := Kd.V_get HO_5.out z39 x7_2 p273 (by first | exact q273 | exact of_decide_eq_true (by first | (with_reducible assumption) | assumption) | (have e_ := (Kd.V_reads' HO_5.out).1; omega))
                        obtain ⟨ua273_2, uc273_2, rfl, ul273_2, ge273_2⟩ := k39_openF hMe273
                        have hv273_2 := hcc273 2 _ rfl
                        rw [add_field _ _ 2 (by omega)] at hv273_2
                        replace hv273_2 := Option.some.inj (hv273_2.symm.trans hx273_2)
                        injection hv273_2 with hva_ hvn_ hvc_
                        rw [hva_] at ge273_2
                        rw [hvc_] at ul273_2
                        have HL273_2 := mk_ (show Kd.V (Kd.int .u8) 5 _ w.heap.size _ _ ((rd_T39 t253 x7_2).f2) from Kd.V_mk ul273_2 ge273_2)
                        clear hva_ hvn_ hvc_ ge273_2 ul273_2
                        clear hcc273 hce273
                        have hn273_0 : ad263.block ≠ gb272 := (Kd.F_in (Kd.V_F HO_5.out) rfl (by omega) (by decide)).2.2
                        have hn273_1 : ad263.block ≠ gb272 := (Kd.F_in (Kd.V_F HO_5.out) rfl (by omega) (by decide)).2.2
                        have HR273_2 := mk_ hi273_2
                        have HC273_2 := mk_ hl273_2
                        clear hi273_2 hl273_2
                        replace hx273_0 := (cell_far (p := ⟨gb272, 0, none⟩) (by first | (rw [add_block]; exact hn273_0) | (show (Addr.add _ _).block ≠ _; rw [add_block]; exact hn273_0) | exact hn273_0) (.int .i64 t264)).trans hx273_0
                        replace hx273_1 := (cell_far (p := ⟨gb272, 0, none⟩) (by first | (rw [add_block]; exact hn273_0) | (show (Addr.add _ _).block ≠ _; rw [add_block]; exact hn273_0) | exact hn273_0) (.int .i64 t264)).trans hx273_1
                        replace hx273_2 := (cell_far (p := ⟨gb272, 0, none⟩) (by first | (rw [add_block]; exact hn273_0) | (show (Addr.add _ _).block ≠ _; rw [add_block]; exact hn273_0) | exact hn273_0) (.int .i64 t264)).trans hx273_2
                        replace hx273_0 := (cell_far (p := ⟨gb272, 1, none⟩) (by first | (rw [add_block]; exact hn273_1) | (show (Addr.add _ _).block ≠ _; rw [add_block]; exact hn273_1) | exact hn273_1) (.slice Ao34 t265.length co34)).trans hx273_0
                        replace hx273_1 := (cell_far (p := ⟨gb272, 1, none⟩) (by first | (rw [add_block]; exact hn273_1) | (show (Addr.add _ _).block ≠ _; rw [add_block]; exact hn273_1) | exact hn273_1) (.slice Ao34 t265.length co34)).trans hx273_1
                        replace hx273_2 := (cell_far (p := ⟨gb272, 1, none⟩) (by first | (rw [add_block]; exact hn273_1) | (show (Addr.add _ _).block ≠ _; rw [add_block]; exact hn273_1) | exact hn273_1) (.slice Ao34 t265.length co34)).trans hx273_2
                        clear hn273_0
                        clear hn273_1
                        replace p273 := eq_true p273
                        replace q273 := eq_true q273
                        go_wp2_with (first | ((with_reducible refine gate_callee (f := 27) rfl ?_); refine goesL_ (some 66) rfl rfl Try.func27 (by kernel_rfl) rfl #[.agg #[.int .i64 ((rd_T39 t253 x7_2).f0), .int .i64 ((rd_T39 t253 x7_2).f1), .slice A263_2 ((rd_T39 t253 x7_2).f2).length c263_2]] rfl (by (try simp only [List.map_toArray, List.map_cons, List.map_nil]); first | done | rfl | (simp only [List.length_drop, List.length_take]; rfl)) ?_; (with_reducible refine (impl_PartOk.calls ((rd_T39 t253 x7_2).f0) ((rd_T39 t253 x7_2).f1) _ _ ((rd_T39 t253 x7_2).f2) false _ ?side1 ?side2 A36.out).mono ?_); (case side1 => repeat (first | exact ((Kd.V_reads' (by (with_reducible repeat (first | apply Kd.V_alloc | apply Kd.V_drewN | apply Kd.V_drew)); exact (Kd.V_mono (Kd.V_far (p := ⟨gb272, 1, none⟩) (Kd.V_far (p := ⟨gb272, 0, none⟩) (Kd.V_mono HL273_2.out (fun k_ hk => (⟨hk, hk.2.2⟩ : _ ∧ k_ ≠ gb272))) (fun _ hk => hk.2) (.int .i64 t264)) (fun _ hk => hk.2) (.slice Ao34 t265.length co34)) (fun _ h_ => h_.1)))).2.2) | (with_reducible refine Kd.C_alloc ?_ _) | (with_reducible refine Kd.C_drewN ?_ _) | (with_reducible refine Kd.C_drew ?_))); (case side2 => exact HC273_2.out); rintro e w39 ⟨rfl, hb⟩; refine ⟨_, rfl, ?_⟩; replace HO_3 := mk_ (Kd.R_below (by (with_reducible repeat (first | apply Kd.R_alloc | apply Kd.R_drewN | apply Kd.R_drew)); exact (Kd.R_mono (Kd.R_far (p := ⟨gb272, 1, none⟩) (Kd.R_far (p := ⟨gb272, 0, none⟩) (Kd.R_types HO_3.out BK272.out (by decide)) (fun _ hk => hk.2) (.int .i64 t264)) (fun _ hk => hk.2) (.slice Ao34 t265.length co34)) (fun _ h_ => h_.1))) hb); replace HO_5 := mk_ (Kd.V_below (by (with_reducible repeat (first | apply Kd.V_alloc | apply Kd.V_drewN | apply Kd.V_drew)); exact (Kd.V_mono (Kd.V_far (p := ⟨gb272, 1, none⟩) (Kd.V_far (p := ⟨gb272, 0, none⟩) (Kd.V_mono HO_5.out (fun k_ hk => (⟨hk, hk.2.2⟩ : _ ∧ k_ ≠ gb272))) (fun _ hk => hk.2) (.int .i64 t264)) (fun _ hk => hk.2) (.slice Ao34 t265.length co34)) (fun _ h_ => h_.1))) hb); replace HO_262001 := mk_ (Kd.V_below (by (with_reducible repeat (first | apply Kd.V_alloc | apply Kd.V_drewN | apply Kd.V_drew)); exact (Kd.V_mono (Kd.V_far (p := ⟨gb272, 1, none⟩) (Kd.V_far (p := ⟨gb272, 0, none⟩) (Kd.V_mono HO_262001.out (fun k_ hk => (⟨hk, hk.2.2⟩ : _ ∧ k_ ≠ gb272))) (fun _ hk => hk.2) (.int .i64 t264)) (fun _ hk => hk.2) (.slice Ao34 t265.length co34)) (fun _ h_ => h_.1))) hb); replace HL263_2 := mk_ (Kd.V_below (by (with_reducible repeat (first | apply Kd.V_alloc | apply Kd.V_drewN | apply Kd.V_drew)); exact (Kd.V_mono (Kd.V_far (p := ⟨gb272, 1, none⟩) (Kd.V_far (p := ⟨gb272, 0, none⟩) (Kd.V_mono HL263_2.out (fun k_ hk => (⟨hk, hk.2.2⟩ : _ ∧ k_ ≠ gb272))) (fun _ hk => hk.2) (.int .i64 t264)) (fun _ hk => hk.2) (.slice Ao34 t265.length co34)) (fun _ h_ => h_.1))) hb); replace HO267 := mk_ (Kd.V_below (by (with_reducible repeat (first | apply Kd.V_alloc | apply Kd.V_drewN | apply Kd.V_drew)); exact (Kd.V_mono (Kd.V_far (p := ⟨gb272, 1, none⟩) (Kd.V_far (p := ⟨gb272, 0, none⟩) (Kd.V_mono HO267.out (fun k_ hk => (⟨hk, hk.2.2⟩ : _ ∧ k_ ≠ gb272))) (fun _ hk => hk.2) (.int .i64 t264)) (fun _ hk => hk.2) (.slice Ao34 t265.length co34)) (fun _ h_ => h_.1))) hb); replace HO270 := mk_ (Kd.V_below (by (with_reducible repeat (first | apply Kd.V_alloc | apply Kd.V_drewN | apply Kd.V_drew)); exact (Kd.V_mono (Kd.V_far (p := ⟨gb272, 1, none⟩) (Kd.V_far (p := ⟨gb272, 0, none⟩) (Kd.V_mono HO270.out (fun k_ hk => (⟨hk, hk.2.2⟩ : _ ∧ k_ ≠ gb272))) (fun _ hk => hk.2) (.int .i64 t264)) (fun _ hk => hk.2) (.slice Ao34 t265.length co34)) (fun _ h_ => h_.1))) hb); replace BK261 := mk_ (zq6 (g := gb261) (o := .cells #[.int .i64 x262000_2, .slice Ao28 x262001_2.length co28] 35 (0, 0)) (by (with_reducible repeat (first | refine zq1 ?_ _ | refine zq2 ?_ | refine zq3 ?_ _)); refine fa2 ?_ NB261_272.out; (with_reducible repeat (first | refine zq1 ?_ _ | refine zq2 ?_ | refine zq3 ?_ _)); exact BK261.out) hb); replace BK272 := mk_ (zq6 (g := gb272) (o := .cells #[.int .i64 t264, .slice Ao34 t265.length co34] 35 (0, 0)) (by (with_reducible repeat (first | refine zq1 ?_ _ | refine zq2 ?_ | refine zq3 ?_ _)); apply pu2; (with_reducible repeat (first | refine zq1 ?_ _ | refine zq2 ?_ | refine zq3 ?_ _)); exact BK272.out) hb); replace HR273_2 := mk_ (Kd.C_below ((Kd.V_reads' (by (with_reducible repeat (first | apply Kd.V_alloc | apply Kd.V_drewN | apply Kd.V_drew)); exact (Kd.V_mono (Kd.V_far (p := ⟨gb272, 1, none⟩) (Kd.V_far (p := ⟨gb272, 0, none⟩) (Kd.V_mono HL273_2.out (fun k_ hk => (⟨hk, hk.2.2⟩ : _ ∧ k_ ≠ gb272))) (fun _ hk => hk.2) (.int .i64 t264)) (fun _ hk => hk.2) (.slice Ao34 t265.length co34)) (fun _ h_ => h_.1)))).2.2) hb); replace HL273_2 := mk_ (Kd.V_below (by (with_reducible repeat (first | apply Kd.V_alloc | apply Kd.V_drewN | apply Kd.V_drew)); exact (Kd.V_mono (Kd.V_far (p := ⟨gb272, 1, none⟩) (Kd.V_far (p := ⟨gb272, 0, none⟩) (Kd.V_mono HL273_2.out (fun k_ hk => (⟨hk, hk.2.2⟩ : _ ∧ k_ ≠ gb272))) (fun _ hk => hk.2) (.int .i64 t264)) (fun _ hk => hk.2) (.slice Ao34 t265.length co34)) (fun _ h_ => h_.1))) hb); replace HB := mk_ (zr3 (by repeat (first | (with_reducible first | exact HB.out | apply zq7 | apply zq8 | apply zq9 | refine zr1 ?_ GE261.out | refine zr1 ?_ GE272.out) | exact HB.out)) hb); (try clear hb); (try clear hb2); (try clear hk); (try clear hi)))
                        go_meet
                        case rel => exact ⟨_, (true), (by first | rfl | (simp; done) | (simp [*]; done)), H', ⟨by have := HJ7.out; have := HK2.out; first | omega | exact Nat.le_refl _⟩, ⟨by (with_reducible repeat (first | apply Kd.R_alloc | apply Kd.R_drewN | apply Kd.R_drew)); exact HO_3.out⟩, ⟨by (with_reducible repeat (first | apply Kd.V_alloc | apply Kd.V_drewN | apply Kd.V_drew)); exact HO_5.out⟩, ⟨by (with_reducible repeat (first | apply Kd.V_alloc | apply Kd.V_drewN | apply Kd.V_drew)); exact HO270.out⟩, ⟨by (with_reducible repeat (first | apply Kd.V_alloc | apply Kd.V_drewN | apply Kd.V_drew)); exact HO_262001.out⟩, ⟨by (with_reducible repeat (first | apply Kd.V_alloc | apply Kd.V_drewN | apply Kd.V_drew)); exact HO267.out⟩, ⟨by (with_reducible repeat (first | refine zq1 ?_ _ | refine zq2 ?_ | refine zq3 ?_ _)); exact BK261.out⟩, ⟨by (with_reducible repeat (first | refine zq1 ?_ _ | refine zq2 ?_ | refine zq3 ?_ _)); exact BK272.out⟩, ⟨by repeat (first | (with_reducible first | exact HB.out | apply zq7 | apply zq8 | apply zq9 | refine zr1 ?_ GE261.out | refine zr1 ?_ GE272.out) | exact HB.out)⟩⟩
                    case rest =>
                      clear HC27
                      try clear c1
                      try clear c2
                      try clear c2b0
                      try clear c2b1
                      try clear p2
                      try clear q2
                      try clear hx2
                      try clear c3
                      try clear c4
                      try clear c7
                      try clear c15
                      try clear c16
                      try clear c16b0
                      try clear c16b1
                      try clear c17
                      try clear c17b0
                      try clear c18
                      try clear c19
                      try clear c19b0
                      try clear c19b1
                      try clear c19b2
                      try clear c23
                      try clear c24
                      try clear c24b0
                      try clear c25
                      try clear c25b0
                      try clear c26
                      try clear p26
                      try clear q26
                      try clear hx26
                      try clear c27
                      try clear p27
                      try clear q27
                      try clear hx27
                      try clear c37
                      try clear hcz23_0 hcz23_1
                      try clear hfz23_0 hfz23_1
                      try clear hx263_0
                      try clear hx263_1
                      try clear hx263_2
                      try clear hx273_0
                      try clear hx273_1
                      try clear hx273_2
                      try clear hx275_0
                      try clear hx275_1
                      try clear hx275_2
                      try clear p2
                      try clear p263
                      try clear p273
                      try clear p275
                      try clear q263
                      try clear q273
                      try clear q275
                      obtain ⟨kq, x77_26, rfl, HA, HJ26, HO_3, HO_5, HO_9, HO_262001, HO_273001, BK261, BK272, HB⟩ := hcut
                      cases kq with
                      | zero => exact absurd HA.out (by simp [laws_FnSegCut.j2])
                      | succ kj26 =>
                        have H := HA.out
                        clear HA
                        simp only [laws_FnSegCut.j2] at H
                        by_cases c40 : x77_26 = true
                        · subst c40
                          have H1 : (some false) = some r := by rw [if_pos rfl] at H; exact H
                          clear H
                          have H := H1
                          clear H1
                          obtain rfl := Option.some.inj H
                          go_wp2
                          go_ret
                          exact ⟨by first | rfl | (simp [errW_none, errW_some] <;> rfl) | (simp [*, errW_none, errW_some] <;> rfl), by repeat (first | (with_reducible first | exact HB.out | apply zq7 | apply zq8 | apply zq9 | refine zr1 ?_ GE261.out | refine zr1 ?_ GE272.out) | exact HB.out)⟩
                        · replace c40 := Bool.eq_false_iff.mpr c40
                          subst c40
                          have H1 : (if x7_2 < (wrap64 ((t253.length : Int) - 1)) then (if t271 = 1 then (if x7_2 = (wrap64 ((t253.length : Int) - 1)) then (if t271 = 2 then ((laws_liBytes.f kj26 t268 t249).bind fun t276 => (if t276 = true then (laws_FnSegCut.l0 kj26 t249 t250 t253 (wrap64 (x7_2 + 1)) t264 t265) else (some false))) else (some false)) else (laws_FnSegCut.l0 kj26 t249 t250 t253 (wrap64 (x7_2 + 1)) t264 t265)) else (some false)) else (if x7_2 = (wrap64 ((t253.length : Int) - 1)) then (if t271 = 2 then ((laws_liBytes.f kj26 t268 t249).bind fun t277 => (if t277 = true then (laws_FnSegCut.l0 kj26 t249 t250 t253 (wrap64 (x7_2 + 1)) t264 t265) else (some false))) else (some false)) else (laws_FnSegCut.l0 kj26 t249 t250 t253 (wrap64 (x7_2 + 1)) t264 t265))) = some r := by rw [if_neg (show ¬ (false = true) by decide)] at H; exact H
                          clear H
                          have H := H1
                          clear H1
                          by_cases c41 : x7_2 < (wrap64 ((t253.length : Int) - 1))
                          · rw [if_pos c41] at H
                            have c41b0 : decide (x7_2 < (wrap64 ((t253.length : Int) - 1))) = true := decide_eq_true c41
                            clear c41
                            by_cases c42 : t271 = 1
                            · rw [if_pos c42] at H
                              have c42b0 : (t271 == 1) = true := beq_iff_eq.mpr c42
                              have c42b1 : (t271 != 1) = false := bne_eq_false_iff_eq.mpr c42
                              clear c42
                              by_cases c43 : x7_2 = (wrap64 ((t253.length : Int) - 1))
                              · rw [if_pos c43] at H
                                have c43b0 : (x7_2 == (wrap64 ((t253.length : Int) - 1))) = true := beq_iff_eq.mpr c43
                                have c43b1 : (x7_2 != (wrap64 ((t253.length : Int) - 1))) = false := bne_eq_false_iff_eq.mpr c43
                                clear c43
                                by_cases c44 : t271 = 2
                                · rw [if_pos c44] at H
                                  have c44b0 : (t271 == 2) = true := beq_iff_eq.mpr c44
                                  have c44b1 : (t271 != 2) = false := bne_eq_false_iff_eq.mpr c44
                                  clear c44
                                  replace H := Option.bind_eq_some_iff.mp H
                                  obtain ⟨t276, A450, H⟩ := H
                                  try dsimp only at H
                                  have A45 := mk_ A450
                                  clear A450
                                  by_cases c46 : t276 = true
                                  · subst c46
                                    have H1 : (laws_FnSegCut.l0 kj26 t249 t250 t253 (wrap64 (x7_2 + 1)) t264 t265) = some r := by rw [if_pos rfl] at H; exact H
                                    clear H
                                    have H := H1
                                    clear H1
                                    have H' := mk_ H
                                    clear H
                                    obtain ⟨Ao47, co47, eo47⟩ := Kd.V_slice HO_9.out
                                    subst eo47
                                    go_wp2_with (first | (go_at_call 28; (with_reducible refine (laws_liBytes.calls kj26 _ _ t268 _ _ t249 true _ ?side1 ?side2 ?side3 ?side4 A45.out).mono ?_); (case side1 => repeat (first | exact (Kd.V_reads' HO_9.out).2.2 | (with_reducible refine Kd.C_alloc ?_ _) | (with_reducible refine Kd.C_drewN ?_ _) | (with_reducible refine Kd.C_drew ?_))); (case side2 => exact (Kd.V_reads' HO_9.out).2.1); (case side3 => repeat (first | exact (Kd.R_reads' HO_3.out).2.2 | (with_reducible refine Kd.C_alloc ?_ _) | (with_reducible refine Kd.C_drewN ?_ _) | (with_reducible refine Kd.C_drew ?_))); (case side4 => exact (Kd.R_reads' HO_3.out).2.1); rintro e w' ⟨rfl, ⟨nd, rfl⟩⟩; (try (rw [drewN_self wc]; generalize hq_ : World.drewN wc _ = wc; have n0_ : Aside0 (Kd.V (Kd.int .u8) 5 wc w.heap.size (fun k_ => some k_ ≠ (.slice Ao10 t249.length co10 : Value).ownBlock ∧ k_ ≠ gb261 ∧ k_ ≠ gb272) (.slice Ao28 x262001_2.length co28) x262001_2) := ⟨by rw [← hq_]; exact (by (with_reducible repeat (first | apply Kd.V_alloc | apply Kd.V_drewN | apply Kd.V_drew)); exact HO_262001.out)⟩; have n1_ : Aside0 (Kd.V (Kd.int .u8) 5 wc w.heap.size (fun k_ => some k_ ≠ (.slice Ao10 t249.length co10 : Value).ownBlock ∧ k_ ≠ gb261 ∧ k_ ≠ gb272) (.slice Ao34 t265.length co34) t265) := ⟨by rw [← hq_]; exact (by (with_reducible repeat (first | apply Kd.V_alloc | apply Kd.V_drewN | apply Kd.V_drew)); exact HO_273001.out)⟩; have n2_ : Aside0 (Kd.R (Kd.int .u8) 5 wc w.heap.size (fun _ => True) (.slice Ao10 t249.length co10) t249) := ⟨by rw [← hq_]; exact (by (with_reducible repeat (first | apply Kd.R_alloc | apply Kd.R_drewN | apply Kd.R_drew)); exact HO_3.out)⟩; have n3_ : Aside0 (Kd.V k39 39 wc w.heap.size (fun k_ => some k_ ≠ (.slice Ao10 t249.length co10 : Value).ownBlock ∧ k_ ≠ gb261 ∧ k_ ≠ gb272) (.slice (some ad263) t253.length co13) t253) := ⟨by rw [← hq_]; exact (by (with_reducible repeat (first | apply Kd.V_alloc | apply Kd.V_drewN | apply Kd.V_drew)); exact HO_5.out)⟩; have n4_ : Aside0 (Kd.V (Kd.int .u8) 5 wc w.heap.size (fun k_ => some k_ ≠ (.slice Ao10 t249.length co10 : Value).ownBlock ∧ k_ ≠ gb261 ∧ k_ ≠ gb272) (.slice Ao47 t268.length co47) t268) := ⟨by rw [← hq_]; exact (by (with_reducible repeat (first | apply Kd.V_alloc | apply Kd.V_drewN | apply Kd.V_drew)); exact HO_9.out)⟩; have n5_ : Aside0 (wc.heap[gb261]? = some (.cells #[.int .i64 x262000_2, .slice Ao28 x262001_2.length co28] 35 (0, 0))) := ⟨by rw [← hq_]; exact (by exact BK261.out)⟩; have n6_ : Aside0 (wc.heap[gb272]? = some (.cells #[.int .i64 t264, .slice Ao34 t265.length co34] 35 (0, 0))) := ⟨by rw [← hq_]; exact (by exact BK272.out)⟩; have n7_ : Aside0 (Below w.heap.size w wc) := ⟨by rw [← hq_]; exact (by repeat (first | (with_reducible first | exact HB.out | apply zq7 | apply zq8 | apply zq9 | refine zr1 ?_ GE261.out | refine zr1 ?_ GE272.out) | exact HB.out))⟩; clear HO_262001 HO_273001 HO_3 HO_5 HO_9 BK261 BK272 HB hq_; have HO_262001 := n0_; have HO_273001 := n1_; have HO_3 := n2_; have HO_5 := n3_; have HO_9 := n4_; have BK261 := n5_; have BK272 := n6_; have HB := n7_; clear n0_ n1_ n2_ n3_ n4_ n5_ n6_ n7_)); have hnb48 := NB272_261.out; have hnc48 := NB261_272.out; obtain ⟨hcz49_0, hcz49_1⟩ := cz2 BK272.out; obtain ⟨hfz49_0, hfz49_1⟩ := fz2 BK272.out; obtain ⟨hcz50_0, hcz50_1⟩ := cz2 BK261.out; obtain ⟨hfz50_0, hfz50_1⟩ := fz2 BK261.out))
                                    go_roundg kj26
                                    case measure => have := HJ7.out; have := HK2.out; have := HJ26.out; omega
                                    case rel => exact ⟨(wrap64 (x7_2 + 1)), (t264), (t265), (.slice Ao34 t265.length co34), (by first | rfl | (simp; done) | (simp [*]; done)), H', ⟨by have := HJ7.out; have := HK2.out; have := HJ26.out; omega⟩, ⟨by (with_reducible repeat (first | apply Kd.R_alloc | apply Kd.R_drewN | apply Kd.R_drew)); exact Kd.R_mono (Kd.R_far (p := ⟨gb261, 1, none⟩) (Kd.R_far (p := ⟨gb261, 0, none⟩) (Kd.R_types HO_3.out BK261.out (by decide)) (fun _ hk => hk.2) (.int .i64 t264)) (fun _ hk => hk.2) (.slice Ao34 t265.length co34)) (fun _ hk => trivial)⟩, ⟨by (with_reducible repeat (first | apply Kd.V_alloc | apply Kd.V_drewN | apply Kd.V_drew)); exact Kd.V_mono (Kd.V_far (p := ⟨gb261, 1, none⟩) (Kd.V_far (p := ⟨gb261, 0, none⟩) (Kd.V_mono HO_5.out (fun k_ hk => (⟨hk, hk.2.1⟩ : _ ∧ k_ ≠ gb261))) (fun _ hk => hk.2) (.int .i64 t264)) (fun _ hk => hk.2) (.slice Ao34 t265.length co34)) (fun _ hk => ⟨hk.1.1, hk.1.2.1⟩)⟩, ⟨by (with_reducible repeat (first | apply Kd.V_alloc | apply Kd.V_drewN | apply Kd.V_drew)); exact Kd.V_mono (Kd.V_far (p := ⟨gb261, 1, none⟩) (Kd.V_far (p := ⟨gb261, 0, none⟩) (Kd.V_mono HO_273001.out (fun k_ hk => (⟨hk, hk.2.1⟩ : _ ∧ k_ ≠ gb261))) (fun _ hk => hk.2) (.int .i64 t264)) (fun _ hk => hk.2) (.slice Ao34 t265.length co34)) (fun _ hk => ⟨hk.1.1, hk.1.2.1⟩)⟩, ⟨by (with_reducible repeat (first | refine zq1 ?_ _ | refine zq2 ?_ | refine zq3 ?_ _)); apply pu2; (with_reducible repeat (first | refine zq1 ?_ _ | refine zq2 ?_ | refine zq3 ?_ _)); exact BK261.out⟩, ⟨by repeat (first | (with_reducible first | exact HB.out | apply zq7 | apply zq8 | apply zq9 | refine zr1 ?_ GE261.out | refine zr1 ?_ GE272.out) | exact HB.out)⟩⟩
                                  · replace c46 := Bool.eq_false_iff.mpr c46
                                    subst c46
                                    have H1 : (some false) = some r := by rw [if_neg (show ¬ (false = true) by decide)] at H; exact H
                                    clear H
                                    have H := H1
                                    clear H1
                                    obtain rfl := Option.some.inj H
                                    obtain ⟨Ao51, co51, eo51⟩ := Kd.V_slice HO_9.out
                                    subst eo51
                                    go_wp2_with (first | (go_at_call 28; (with_reducible refine (laws_liBytes.calls kj26 _ _ t268 _ _ t249 false _ ?side1 ?side2 ?side3 ?side4 A45.out).mono ?_); (case side1 => repeat (first | exact (Kd.V_reads' HO_9.out).2.2 | (with_reducible refine Kd.C_alloc ?_ _) | (with_reducible refine Kd.C_drewN ?_ _) | (with_reducible refine Kd.C_drew ?_))); (case side2 => exact (Kd.V_reads' HO_9.out).2.1); (case side3 => repeat (first | exact (Kd.R_reads' HO_3.out).2.2 | (with_reducible refine Kd.C_alloc ?_ _) | (with_reducible refine Kd.C_drewN ?_ _) | (with_reducible refine Kd.C_drew ?_))); (case side4 => exact (Kd.R_reads' HO_3.out).2.1); rintro e w' ⟨rfl, ⟨nd, rfl⟩⟩))
                                    go_ret
                                    exact ⟨by first | rfl | (simp [errW_none, errW_some] <;> rfl) | (simp [*, errW_none, errW_some] <;> rfl), by repeat (first | (with_reducible first | exact HB.out | apply zq7 | apply zq8 | apply zq9 | refine zr1 ?_ GE261.out | refine zr1 ?_ GE272.out) | exact HB.out)⟩
                                · rw [if_neg c44] at H
                                  have c44b0 : (t271 == 2) = false := beq_eq_false_iff_ne.mpr c44
                                  have c44b1 : (t271 != 2) = true := bne_iff_ne.mpr c44
                                  obtain rfl := Option.some.inj H
                                  go_wp2
                                  go_ret
                                  exact ⟨by first | rfl | (simp [errW_none, errW_some] <;> rfl) | (simp [*, errW_none, errW_some] <;> rfl), by repeat (first | (with_reducible first | exact HB.out | apply zq7 | apply zq8 | apply zq9 | refine zr1 ?_ GE261.out | refine zr1 ?_ GE272.out) | exact HB.out)⟩
                              · rw [if_neg c43] at H
                                have c43b0 : (x7_2 == (wrap64 ((t253.length : Int) - 1))) = false := beq_eq_false_iff_ne.mpr c43
                                have c43b1 : (x7_2 != (wrap64 ((t253.length : Int) - 1))) = true := bne_iff_ne.mpr c43
                                have H' := mk_ H
                                clear H
                                have hnb52 := NB272_261.out
                                have hnc52 := NB261_272.out
                                obtain ⟨hcz53_0, hcz53_1⟩ := cz2 BK272.out
                                obtain ⟨hfz53_0, hfz53_1⟩ := fz2 BK272.out
                                obtain ⟨hcz54_0, hcz54_1⟩ := cz2 BK261.out
                                obtain ⟨hfz54_0, hfz54_1⟩ := fz2 BK261.out
                                go_wp2
                                go_roundg kj26
                                case measure => have := HJ7.out; have := HK2.out; have := HJ26.out; omega
                                case rel => exact ⟨(wrap64 (x7_2 + 1)), (t264), (t265), (.slice Ao34 t265.length co34), (by first | rfl | (simp; done) | (simp [*]; done)), H', ⟨by have := HJ7.out; have := HK2.out; have := HJ26.out; omega⟩, ⟨by (with_reducible repeat (first | apply Kd.R_alloc | apply Kd.R_drewN | apply Kd.R_drew)); exact Kd.R_mono (Kd.R_far (p := ⟨gb261, 1, none⟩) (Kd.R_far (p := ⟨gb261, 0, none⟩) (Kd.R_types HO_3.out BK261.out (by decide)) (fun _ hk => hk.2) (.int .i64 t264)) (fun _ hk => hk.2) (.slice Ao34 t265.length co34)) (fun _ hk => trivial)⟩, ⟨by (with_reducible repeat (first | apply Kd.V_alloc | apply Kd.V_drewN | apply Kd.V_drew)); exact Kd.V_mono (Kd.V_far (p := ⟨gb261, 1, none⟩) (Kd.V_far (p := ⟨gb261, 0, none⟩) (Kd.V_mono HO_5.out (fun k_ hk => (⟨hk, hk.2.1⟩ : _ ∧ k_ ≠ gb261))) (fun _ hk => hk.2) (.int .i64 t264)) (fun _ hk => hk.2) (.slice Ao34 t265.length co34)) (fun _ hk => ⟨hk.1.1, hk.1.2.1⟩)⟩, ⟨by (with_reducible repeat (first | apply Kd.V_alloc | apply Kd.V_drewN | apply Kd.V_drew)); exact Kd.V_mono (Kd.V_far (p := ⟨gb261, 1, none⟩) (Kd.V_far (p := ⟨gb261, 0, none⟩) (Kd.V_mono HO_273001.out (fun k_ hk => (⟨hk, hk.2.1⟩ : _ ∧ k_ ≠ gb261))) (fun _ hk => hk.2) (.int .i64 t264)) (fun _ hk => hk.2) (.slice Ao34 t265.length co34)) (fun _ hk => ⟨hk.1.1, hk.1.2.1⟩)⟩, ⟨by (with_reducible repeat (first | refine zq1 ?_ _ | refine zq2 ?_ | refine zq3 ?_ _)); apply pu2; (with_reducible repeat (first | refine zq1 ?_ _ | refine zq2 ?_ | refine zq3 ?_ _)); exact BK261.out⟩, ⟨by repeat (first | (with_reducible first | exact HB.out | apply zq7 | apply zq8 | apply zq9 | refine zr1 ?_ GE261.out | refine zr1 ?_ GE272.out) | exact HB.out)⟩⟩
                            · rw [if_neg c42] at H
                              have c42b0 : (t271 == 1) = false := beq_eq_false_iff_ne.mpr c42
                              have c42b1 : (t271 != 1) = true := bne_iff_ne.mpr c42
                              obtain rfl := Option.some.inj H
                              go_wp2
                              go_ret
                              exact ⟨by first | rfl | (simp [errW_none, errW_some] <;> rfl) | (simp [*, errW_none, errW_some] <;> rfl), by repeat (first | (with_reducible first | exact HB.out | apply zq7 | apply zq8 | apply zq9 | refine zr1 ?_ GE261.out | refine zr1 ?_ GE272.out) | exact HB.out)⟩
                          · rw [if_neg c41] at H
                            have c41b0 : decide (x7_2 < (wrap64 ((t253.length : Int) - 1))) = false := decide_eq_false c41
                            clear c41
                            by_cases c55 : x7_2 = (wrap64 ((t253.length : Int) - 1))
                            · rw [if_pos c55] at H
                              have c55b0 : (x7_2 == (wrap64 ((t253.length : Int) - 1))) = true := beq_iff_eq.mpr c55
                              have c55b1 : (x7_2 != (wrap64 ((t253.length : Int) - 1))) = false := bne_eq_false_iff_eq.mpr c55
                              clear c55
                              by_cases c56 : t271 = 2
                              · rw [if_pos c56] at H
                                have c56b0 : (t271 == 2) = true := beq_iff_eq.mpr c56
                                have c56b1 : (t271 != 2) = false := bne_eq_false_iff_eq.mpr c56
                                clear c56
                                replace H := Option.bind_eq_some_iff.mp H
                                obtain ⟨t277, A570, H⟩ := H
                                try dsimp only at H
                                have A57 := mk_ A570
                                clear A570
                                by_cases c58 : t277 = true
                                · subst c58
                                  have H1 : (laws_FnSegCut.l0 kj26 t249 t250 t253 (wrap64 (x7_2 + 1)) t264 t265) = some r := by rw [if_pos rfl] at H; exact H
                                  clear H
                                  have H := H1
                                  clear H1
                                  have H' := mk_ H
                                  clear H
                                  obtain ⟨Ao59, co59, eo59⟩ := Kd.V_slice HO_9.out
                                  subst eo59
                                  go_wp2_with (first | (go_at_call 28; (with_reducible refine (laws_liBytes.calls kj26 _ _ t268 _ _ t249 true _ ?side1 ?side2 ?side3 ?side4 A57.out).mono ?_); (case side1 => repeat (first | exact (Kd.V_reads' HO_9.out).2.2 | (with_reducible refine Kd.C_alloc ?_ _) | (with_reducible refine Kd.C_drewN ?_ _) | (with_reducible refine Kd.C_drew ?_))); (case side2 => exact (Kd.V_reads' HO_9.out).2.1); (case side3 => repeat (first | exact (Kd.R_reads' HO_3.out).2.2 | (with_reducible refine Kd.C_alloc ?_ _) | (with_reducible refine Kd.C_drewN ?_ _) | (with_reducible refine Kd.C_drew ?_))); (case side4 => exact (Kd.R_reads' HO_3.out).2.1); rintro e w' ⟨rfl, ⟨nd, rfl⟩⟩; (try (rw [drewN_self wc]; generalize hq_ : World.drewN wc _ = wc; have n0_ : Aside0 (Kd.V (Kd.int .u8) 5 wc w.heap.size (fun k_ => some k_ ≠ (.slice Ao10 t249.length co10 : Value).ownBlock ∧ k_ ≠ gb261 ∧ k_ ≠ gb272) (.slice Ao28 x262001_2.length co28) x262001_2) := ⟨by rw [← hq_]; exact (by (with_reducible repeat (first | apply Kd.V_alloc | apply Kd.V_drewN | apply Kd.V_drew)); exact HO_262001.out)⟩; have n1_ : Aside0 (Kd.V (Kd.int .u8) 5 wc w.heap.size (fun k_ => some k_ ≠ (.slice Ao10 t249.length co10 : Value).ownBlock ∧ k_ ≠ gb261 ∧ k_ ≠ gb272) (.slice Ao34 t265.length co34) t265) := ⟨by rw [← hq_]; exact (by (with_reducible repeat (first | apply Kd.V_alloc | apply Kd.V_drewN | apply Kd.V_drew)); exact HO_273001.out)⟩; have n2_ : Aside0 (Kd.R (Kd.int .u8) 5 wc w.heap.size (fun _ => True) (.slice Ao10 t249.length co10) t249) := ⟨by rw [← hq_]; exact (by (with_reducible repeat (first | apply Kd.R_alloc | apply Kd.R_drewN | apply Kd.R_drew)); exact HO_3.out)⟩; have n3_ : Aside0 (Kd.V k39 39 wc w.heap.size (fun k_ => some k_ ≠ (.slice Ao10 t249.length co10 : Value).ownBlock ∧ k_ ≠ gb261 ∧ k_ ≠ gb272) (.slice (some ad263) t253.length co13) t253) := ⟨by rw [← hq_]; exact (by (with_reducible repeat (first | apply Kd.V_alloc | apply Kd.V_drewN | apply Kd.V_drew)); exact HO_5.out)⟩; have n4_ : Aside0 (Kd.V (Kd.int .u8) 5 wc w.heap.size (fun k_ => some k_ ≠ (.slice Ao10 t249.length co10 : Value).ownBlock ∧ k_ ≠ gb261 ∧ k_ ≠ gb272) (.slice Ao59 t268.length co59) t268) := ⟨by rw [← hq_]; exact (by (with_reducible repeat (first | apply Kd.V_alloc | apply Kd.V_drewN | apply Kd.V_drew)); exact HO_9.out)⟩; have n5_ : Aside0 (wc.heap[gb261]? = some (.cells #[.int .i64 x262000_2, .slice Ao28 x262001_2.length co28] 35 (0, 0))) := ⟨by rw [← hq_]; exact (by exact BK261.out)⟩; have n6_ : Aside0 (wc.heap[gb272]? = some (.cells #[.int .i64 t264, .slice Ao34 t265.length co34] 35 (0, 0))) := ⟨by rw [← hq_]; exact (by exact BK272.out)⟩; have n7_ : Aside0 (Below w.heap.size w wc) := ⟨by rw [← hq_]; exact (by repeat (first | (with_reducible first | exact HB.out | apply zq7 | apply zq8 | apply zq9 | refine zr1 ?_ GE261.out | refine zr1 ?_ GE272.out) | exact HB.out))⟩; clear HO_262001 HO_273001 HO_3 HO_5 HO_9 BK261 BK272 HB hq_; have HO_262001 := n0_; have HO_273001 := n1_; have HO_3 := n2_; have HO_5 := n3_; have HO_9 := n4_; have BK261 := n5_; have BK272 := n6_; have HB := n7_; clear n0_ n1_ n2_ n3_ n4_ n5_ n6_ n7_)); have hnb60 := NB272_261.out; have hnc60 := NB261_272.out; obtain ⟨hcz61_0, hcz61_1⟩ := cz2 BK272.out; obtain ⟨hfz61_0, hfz61_1⟩ := fz2 BK272.out; obtain ⟨hcz62_0, hcz62_1⟩ := cz2 BK261.out; obtain ⟨hfz62_0, hfz62_1⟩ := fz2 BK261.out))
                                  go_roundg kj26
                                  case measure => have := HJ7.out; have := HK2.out; have := HJ26.out; omega
                                  case rel => exact ⟨(wrap64 (x7_2 + 1)), (t264), (t265), (.slice Ao34 t265.length co34), (by first | rfl | (simp; done) | (simp [*]; done)), H', ⟨by have := HJ7.out; have := HK2.out; have := HJ26.out; omega⟩, ⟨by (with_reducible repeat (first | apply Kd.R_alloc | apply Kd.R_drewN | apply Kd.R_drew)); exact Kd.R_mono (Kd.R_far (p := ⟨gb261, 1, none⟩) (Kd.R_far (p := ⟨gb261, 0, none⟩) (Kd.R_types HO_3.out BK261.out (by decide)) (fun _ hk => hk.2) (.int .i64 t264)) (fun _ hk => hk.2) (.slice Ao34 t265.length co34)) (fun _ hk => trivial)⟩, ⟨by (with_reducible repeat (first | apply Kd.V_alloc | apply Kd.V_drewN | apply Kd.V_drew)); exact Kd.V_mono (Kd.V_far (p := ⟨gb261, 1, none⟩) (Kd.V_far (p := ⟨gb261, 0, none⟩) (Kd.V_mono HO_5.out (fun k_ hk => (⟨hk, hk.2.1⟩ : _ ∧ k_ ≠ gb261))) (fun _ hk => hk.2) (.int .i64 t264)) (fun _ hk => hk.2) (.slice Ao34 t265.length co34)) (fun _ hk => ⟨hk.1.1, hk.1.2.1⟩)⟩, ⟨by (with_reducible repeat (first | apply Kd.V_alloc | apply Kd.V_drewN | apply Kd.V_drew)); exact Kd.V_mono (Kd.V_far (p := ⟨gb261, 1, none⟩) (Kd.V_far (p := ⟨gb261, 0, none⟩) (Kd.V_mono HO_273001.out (fun k_ hk => (⟨hk, hk.2.1⟩ : _ ∧ k_ ≠ gb261))) (fun _ hk => hk.2) (.int .i64 t264)) (fun _ hk => hk.2) (.slice Ao34 t265.length co34)) (fun _ hk => ⟨hk.1.1, hk.1.2.1⟩)⟩, ⟨by (with_reducible repeat (first | refine zq1 ?_ _ | refine zq2 ?_ | refine zq3 ?_ _)); apply pu2; (with_reducible repeat (first | refine zq1 ?_ _ | refine zq2 ?_ | refine zq3 ?_ _)); exact BK261.out⟩, ⟨by repeat (first | (with_reducible first | exact HB.out | apply zq7 | apply zq8 | apply zq9 | refine zr1 ?_ GE261.out | refine zr1 ?_ GE272.out) | exact HB.out)⟩⟩
                                · replace c58 := Bool.eq_false_iff.mpr c58
                                  subst c58
                                  have H1 : (some false) = some r := by rw [if_neg (show ¬ (false = true) by decide)] at H; exact H
                                  clear H
                                  have H := H1
                                  clear H1
                                  obtain rfl := Option.some.inj H
                                  obtain ⟨Ao63, co63, eo63⟩ := Kd.V_slice HO_9.out
                                  subst eo63
                                  go_wp2_with (first | (go_at_call 28; (with_reducible refine (laws_liBytes.calls kj26 _ _ t268 _ _ t249 false _ ?side1 ?side2 ?side3 ?side4 A57.out).mono ?_); (case side1 => repeat (first | exact (Kd.V_reads' HO_9.out).2.2 | (with_reducible refine Kd.C_alloc ?_ _) | (with_reducible refine Kd.C_drewN ?_ _) | (with_reducible refine Kd.C_drew ?_))); (case side2 => exact (Kd.V_reads' HO_9.out).2.1); (case side3 => repeat (first | exact (Kd.R_reads' HO_3.out).2.2 | (with_reducible refine Kd.C_alloc ?_ _) | (with_reducible refine Kd.C_drewN ?_ _) | (with_reducible refine Kd.C_drew ?_))); (case side4 => exact (Kd.R_reads' HO_3.out).2.1); rintro e w' ⟨rfl, ⟨nd, rfl⟩⟩))
                                  go_ret
                                  exact ⟨by first | rfl | (simp [errW_none, errW_some] <;> rfl) | (simp [*, errW_none, errW_some] <;> rfl), by repeat (first | (with_reducible first | exact HB.out | apply zq7 | apply zq8 | apply zq9 | refine zr1 ?_ GE261.out | refine zr1 ?_ GE272.out) | exact HB.out)⟩
                              · rw [if_neg c56] at H
                                have c56b0 : (t271 == 2) = false := beq_eq_false_iff_ne.mpr c56
                                have c56b1 : (t271 != 2) = true := bne_iff_ne.mpr c56
                                obtain rfl := Option.some.inj H
                                go_wp2
                                go_ret
                                exact ⟨by first | rfl | (simp [errW_none, errW_some] <;> rfl) | (simp [*, errW_none, errW_some] <;> rfl), by repeat (first | (with_reducible first | exact HB.out | apply zq7 | apply zq8 | apply zq9 | refine zr1 ?_ GE261.out | refine zr1 ?_ GE272.out) | exact HB.out)⟩
                            · rw [if_neg c55] at H
                              have c55b0 : (x7_2 == (wrap64 ((t253.length : Int) - 1))) = false := beq_eq_false_iff_ne.mpr c55
                              have c55b1 : (x7_2 != (wrap64 ((t253.length : Int) - 1))) = true := bne_iff_ne.mpr c55
                              have H' := mk_ H
                              clear H
                              have hnb64 := NB272_261.out
                              have hnc64 := NB261_272.out
                              obtain ⟨hcz65_0, hcz65_1⟩ := cz2 BK272.out
                              obtain ⟨hfz65_0, hfz65_1⟩ := fz2 BK272.out
                              obtain ⟨hcz66_0, hcz66_1⟩ := cz2 BK261.out
                              obtain ⟨hfz66_0, hfz66_1⟩ := fz2 BK261.out
                              go_wp2
                              go_roundg kj26
                              case measure => have := HJ7.out; have := HK2.out; have := HJ26.out; omega
                              case rel => exact ⟨(wrap64 (x7_2 + 1)), (t264), (t265), (.slice Ao34 t265.length co34), (by first | rfl | (simp; done) | (simp [*]; done)), H', ⟨by have := HJ7.out; have := HK2.out; have := HJ26.out; omega⟩, ⟨by (with_reducible repeat (first | apply Kd.R_alloc | apply Kd.R_drewN | apply Kd.R_drew)); exact Kd.R_mono (Kd.R_far (p := ⟨gb261, 1, none⟩) (Kd.R_far (p := ⟨gb261, 0, none⟩) (Kd.R_types HO_3.out BK261.out (by decide)) (fun _ hk => hk.2) (.int .i64 t264)) (fun _ hk => hk.2) (.slice Ao34 t265.length co34)) (fun _ hk => trivial)⟩, ⟨by (with_reducible repeat (first | apply Kd.V_alloc | apply Kd.V_drewN | apply Kd.V_drew)); exact Kd.V_mono (Kd.V_far (p := ⟨gb261, 1, none⟩) (Kd.V_far (p := ⟨gb261, 0, none⟩) (Kd.V_mono HO_5.out (fun k_ hk => (⟨hk, hk.2.1⟩ : _ ∧ k_ ≠ gb261))) (fun _ hk => hk.2) (.int .i64 t264)) (fun _ hk => hk.2) (.slice Ao34 t265.length co34)) (fun _ hk => ⟨hk.1.1, hk.1.2.1⟩)⟩, ⟨by (with_reducible repeat (first | apply Kd.V_alloc | apply Kd.V_drewN | apply Kd.V_drew)); exact Kd.V_mono (Kd.V_far (p := ⟨gb261, 1, none⟩) (Kd.V_far (p := ⟨gb261, 0, none⟩) (Kd.V_mono HO_273001.out (fun k_ hk => (⟨hk, hk.2.1⟩ : _ ∧ k_ ≠ gb261))) (fun _ hk => hk.2) (.int .i64 t264)) (fun _ hk => hk.2) (.slice Ao34 t265.length co34)) (fun _ hk => ⟨hk.1.1, hk.1.2.1⟩)⟩, ⟨by (with_reducible repeat (first | refine zq1 ?_ _ | refine zq2 ?_ | refine zq3 ?_ _)); apply pu2; (with_reducible repeat (first | refine zq1 ?_ _ | refine zq2 ?_ | refine zq3 ?_ _)); exact BK261.out⟩, ⟨by repeat (first | (with_reducible first | exact HB.out | apply zq7 | apply zq8 | apply zq9 | refine zr1 ?_ GE261.out | refine zr1 ?_ GE272.out) | exact HB.out)⟩⟩
                  · rw [if_neg c25] at H
                    exact absurd H (by simp)
                · rw [if_neg c24] at H
                  have c24b0 : decide (x7_2 < (t253.length : Int)) = false := decide_eq_false c24
                  clear c24
                  by_cases c67 : (t253.length : Int) > 0
                  · rw [if_pos c67] at H
                    have c67b0 : decide (0 < (t253.length : Int)) = true := decide_eq_true c67
                    have c67b1 : decide (0 < t253.length) = true := decide_eq_true (by omega)
                    clear c67
                    replace H := Option.bind_eq_some_iff.mp H
                    obtain ⟨t262, A680, H⟩ := H
                    try dsimp only at H
                    have A68 := mk_ A680
                    clear A680
                    obtain rfl := Option.some.inj H
                    obtain ⟨hcz69_0, hcz69_1⟩ := cz2 BK261.out
                    obtain ⟨hfz69_0, hfz69_1⟩ := fz2 BK261.out
                    obtain ⟨Ao70, co70, eo70⟩ := Kd.V_slice HO_262001.out
                    subst eo70
                    go_wp2_with (first | (go_at_call 29; (refine (laws_liJoin.calls k2 x262000_2 _ _ x262001_2 0 _ _ ([] : List Int) t262 _ ?side1 ?side2 ?side3 ?side4 A68.out).mono ?_); (case side1 => repeat (first | exact (Kd.V_reads' HO_262001.out).2.2 | (with_reducible refine Kd.C_alloc ?_ _) | (with_reducible refine Kd.C_drewN ?_ _) | (with_reducible refine Kd.C_drew ?_))); (case side2 => exact (Kd.V_reads' HO_262001.out).2.1); (case side3 => exact Kd.C_nil _ _); (case side4 => exact Nat.le_refl _); rintro e w71 ⟨rfl, hb⟩; replace HO_3 := mk_ (Kd.R_below (by (with_reducible repeat (first | apply Kd.R_alloc | apply Kd.R_drewN | apply Kd.R_drew)); exact HO_3.out) hb); replace HO_5 := mk_ (Kd.V_below (by (with_reducible repeat (first | apply Kd.V_alloc | apply Kd.V_drewN | apply Kd.V_drew)); exact HO_5.out) hb); replace HO_262001 := mk_ (Kd.V_below (by (with_reducible repeat (first | apply Kd.V_alloc | apply Kd.V_drewN | apply Kd.V_drew)); exact HO_262001.out) hb); replace BK261 := mk_ (zq6 (by exact BK261.out) hb); replace HB := mk_ (zr3 (by repeat (first | (with_reducible first | exact HB.out | apply zq7 | apply zq8 | apply zq9 | refine zr1 ?_ GE261.out) | exact HB.out)) hb); (try clear hb); (try clear hb2); (try clear hk); (try clear hi)))
                    go_ret
                    exact ⟨by first | rfl | (simp [errW_none, errW_some] <;> rfl) | (simp [*, errW_none, errW_some] <;> rfl), by repeat (first | (with_reducible first | exact HB.out | apply zq7 | apply zq8 | apply zq9 | refine zr1 ?_ GE261.out) | exact HB.out)⟩
                  · rw [if_neg c67] at H
                    have c67b0 : decide (0 < (t253.length : Int)) = false := decide_eq_false c67
                    have c67b1 : decide (0 < t253.length) = false := decide_eq_false (by omega)
                    clear c67
                    obtain rfl := Option.some.inj H
                    go_wp2
                    go_ret
                    exact ⟨by first | rfl | (simp [errW_none, errW_some] <;> rfl) | (simp [*, errW_none, errW_some] <;> rfl), by repeat (first | (with_reducible first | exact HB.out | apply zq7 | apply zq8 | apply zq9 | refine zr1 ?_ GE261.out) | exact HB.out)⟩
    · replace c7 := Bool.eq_false_iff.mpr c7
      subst c7
      have H1 : (some false) = some r := by rw [if_neg (show ¬ (false = true) by decide)] at H; exact H
      clear H
      have H := H1
      clear H1
      obtain rfl := Option.some.inj H
      go_enter Try.func4, Try.ntmps4
      go_wp2_with (first | ((with_reducible refine gate_callee (f := 23) rfl ?_); refine goesL_ (some 16) rfl rfl Try.func23 (by kernel_rfl) rfl #[.slice A0 l0.length c0] rfl (by (try simp only [List.map_toArray, List.map_cons, List.map_nil]); first | done | rfl | (simp only [List.length_drop, List.length_take]; rfl)) ?_; (with_reducible refine (spec_DrawSegCut.calls k _ _ l0 t249 t250 _ ?side1 ?side2 A3.out).mono ?_); (case side1 => repeat (first | exact HR0.out | (with_reducible refine Kd.C_alloc ?_ _) | (with_reducible refine Kd.C_drewN ?_ _) | (with_reducible refine Kd.C_drew ?_))); (case side2 => exact HC0.out); rintro e w72 ⟨v251, rfl, ho0, hb⟩; refine ⟨_, rfl, ?_⟩; have HO252 := mk_ (Kd.R_lower ho0 (zr2 (by repeat (first | (with_reducible first | exact HB.out | apply zq7 | apply zq8 | apply zq9) | exact HB.out)))); replace HB := mk_ (zr3 (by repeat (first | (with_reducible first | exact HB.out | apply zq7 | apply zq8 | apply zq9) | exact HB.out)) hb); (try clear hb); (try clear hb2); (try clear hk); (try clear hi); (try clear ho0); obtain ⟨Ao73, co73, eo73⟩ := Kd.R_slice HO252.out; subst eo73) | ((with_reducible refine gate_callee (f := 17) rfl ?_); refine goesL_ (some 21) rfl rfl Try.func17 (by kernel_rfl) rfl #[.slice Ao73 t249.length co73, .int .i64 t250] rfl (by (try simp only [List.map_toArray, List.map_cons, List.map_nil]); first | done | rfl | (simp only [List.length_drop, List.length_take]; rfl)) ?_; (with_reducible refine (impl_SegCut.calls k _ _ t249 t250 t253 _ ?side1 ?side2 A4.out).mono ?_); (case side1 => repeat (first | exact (Kd.R_reads' HO252.out).2.2 | (with_reducible refine Kd.C_alloc ?_ _) | (with_reducible refine Kd.C_drewN ?_ _) | (with_reducible refine Kd.C_drew ?_))); (case side2 => exact (Kd.R_reads' HO252.out).2.1); rintro e w74 ⟨v254, rfl, ho0, hb⟩; refine ⟨_, rfl, ?_⟩; have HO255 := mk_ (Kd.V_lower (Kd.V_mono (ok' := fun k_ => some k_ ≠ (.slice Ao73 t249.length co73 : Value).ownBlock) ho0 (fun k_ hk_ => (Kd.fresh' (Kd.R_lt (by (with_reducible repeat (first | apply Kd.R_alloc | apply Kd.R_drewN | apply Kd.R_drew)); exact HO252.out)) k_ hk_))) (zr2 (by repeat (first | (with_reducible first | exact HB.out | apply zq7 | apply zq8 | apply zq9) | exact HB.out)))); replace HO252 := mk_ (Kd.R_below (by (with_reducible repeat (first | apply Kd.R_alloc | apply Kd.R_drewN | apply Kd.R_drew)); exact HO252.out) hb); replace HB := mk_ (zr3 (by repeat (first | (with_reducible first | exact HB.out | apply zq7 | apply zq8 | apply zq9) | exact HB.out)) hb); (try clear hb); (try clear hb2); (try clear hk); (try clear hi); (try clear ho0)) | ((with_reducible refine gate_callee (f := 15) rfl ?_); refine goesL_ (some 25) rfl rfl Try.func15 (by kernel_rfl) rfl #[.slice Ao73 t249.length co73, .int .i64 t250] rfl (by (try simp only [List.map_toArray, List.map_cons, List.map_nil]); first | done | rfl | (simp only [List.length_drop, List.length_take]; rfl)) ?_; (with_reducible refine (spec_SegCut.calls k _ _ t249 t250 t256 _ ?side1 ?side2 A5.out).mono ?_); (case side1 => repeat (first | exact (Kd.R_reads' HO252.out).2.2 | (with_reducible refine Kd.C_alloc ?_ _) | (with_reducible refine Kd.C_drewN ?_ _) | (with_reducible refine Kd.C_drew ?_))); (case side2 => exact (Kd.R_reads' HO252.out).2.1); rintro e w75 ⟨v257, rfl, ho0, hb⟩; refine ⟨_, rfl, ?_⟩; replace HO255 := mk_ (Kd.V_elder' (by (with_reducible repeat (first | apply Kd.V_alloc | apply Kd.V_drewN | apply Kd.V_drew)); exact HO255.out) (Kd.S_base ho0) hb); have HO258 := mk_ (Kd.S_lower (Kd.S_new' ho0 (Kd.R_lt (by (with_reducible repeat (first | apply Kd.R_alloc | apply Kd.R_drewN | apply Kd.R_drew)); exact HO252.out))) (zr2 (by repeat (first | (with_reducible first | exact HB.out | apply zq7 | apply zq8 | apply zq9) | exact HB.out)))); replace HO252 := mk_ (Kd.R_below (by (with_reducible repeat (first | apply Kd.R_alloc | apply Kd.R_drewN | apply Kd.R_drew)); exact HO252.out) hb); replace HB := mk_ (zr3 (by repeat (first | (with_reducible first | exact HB.out | apply zq7 | apply zq8 | apply zq9) | exact HB.out)) hb); (try clear hb); (try clear hb2); (try clear hk); (try clear hi); (try clear ho0); obtain ⟨Ao76, co76, eo76⟩ := Kd.V_slice HO255.out; subst eo76; obtain ⟨Ao77, co77, eo77⟩ := Kd.S_slice HO258.out; subst eo77) | ((with_reducible refine gate_callee (f := 24) rfl ?_); refine goesL_ (some 26) rfl rfl Try.func24 (by kernel_rfl) rfl #[.slice Ao76 t253.length co76, .slice Ao77 t256.length co77] rfl (by (try simp only [List.map_toArray, List.map_cons, List.map_nil]); first | done | rfl | (simp only [List.length_drop, List.length_take]; rfl)) ?_; (with_reducible refine (laws_liParts.calls k _ _ t253 _ _ t256 false _ ?side1 ?side2 ?side3 ?side4 A6.out).mono ?_); (case side1 => repeat (first | exact (Kd.V_reads' HO255.out).2.2 | (with_reducible refine Kd.C_alloc ?_ _) | (with_reducible refine Kd.C_drewN ?_ _) | (with_reducible refine Kd.C_drew ?_))); (case side2 => exact (Kd.V_reads' HO255.out).2.1); (case side3 => repeat (first | exact (Kd.S_reads' HO258.out).2.2 | (with_reducible refine Kd.C_alloc ?_ _) | (with_reducible refine Kd.C_drewN ?_ _) | (with_reducible refine Kd.C_drew ?_))); (case side4 => exact (Kd.S_reads' HO258.out).2.1); rintro e w78 ⟨rfl, hb⟩; refine ⟨_, rfl, ?_⟩; replace HO252 := mk_ (Kd.R_below (by (with_reducible repeat (first | apply Kd.R_alloc | apply Kd.R_drewN | apply Kd.R_drew)); exact HO252.out) hb); replace HO255 := mk_ (Kd.V_below (by (with_reducible repeat (first | apply Kd.V_alloc | apply Kd.V_drewN | apply Kd.V_drew)); exact HO255.out) hb); replace HO258 := mk_ (Kd.S_below (by (with_reducible repeat (first | apply Kd.S_alloc | apply Kd.S_drewN | apply Kd.S_drew)); exact HO258.out) hb); replace HB := mk_ (zr3 (by repeat (first | (with_reducible first | exact HB.out | apply zq7 | apply zq8 | apply zq9) | exact HB.out)) hb); (try clear hb); (try clear hb2); (try clear hk); (try clear hi)))
      go_ret
      exact ⟨by first | rfl | (simp [errW_none, errW_some] <;> rfl) | (simp [*, errW_none, errW_some] <;> rfl), by repeat (first | (with_reducible first | exact HB.out | apply zq7 | apply zq8 | apply zq9) | exact HB.out)⟩

/-- THE ONE PURE STATEMENT of laws_FnSegCut: yours. -/
def laws_FnSegCut.Pure : Prop := ∀ (l0 : List Int), l0.length ≤ maxLen → l0.length * 1 ≤ 140737488351232 → (∀ x ∈ l0, (Lit.int .u8 x).wf = true) → ∃ k, laws_FnSegCut.f k l0 = some true
theorem laws_FnSegCut.walk (P : laws_FnSegCut.Pure) (a0 : Option Addr) (len0 cap0 : Nat) (z0 : List Int) (w : World) (w0 : (a0 = none ∧ len0 = 0 ∧ cap0 = 0 ∧ z0 = []) ∨ ∃ x, a0 = some x ∧ len0 ≤ cap0 ∧ cap0 ≤ maxLen ∧ z0.length = cap0 ∧ (∀ i, i < z0.length → w.cell? (x.add i) = some (.int .u8 (z0.getD i 0))) ∧ ∀ n ∈ z0, (Lit.int .u8 n).wf = true) (y0 : len0 * 1 ≤ 140737488351232) :
    Calls Try.prog 4 #[.slice a0 len0 cap0] w fun e w' => e = .returned (.bool true) ∧ Below w.heap.size w w' := by
 obtain ⟨l0, rfl, hr0, hm0, hw0, hc0⟩ := ReadsInt.ofRowC w0
 obtain ⟨k, h⟩ := P l0 hm0 y0 hw0
 refine (laws_FnSegCut.calls k _ _ l0 true w (Kd.C_of_reads (d := (0 : Int)) (h1 := fun _ => rfl) hr0) hc0 h).mono ?_
 rintro e w' ⟨rfl, hd⟩
 exact ⟨rfl, hd⟩

end Go.Proofs.Yteknaofnageihaa.QFnSegCut
