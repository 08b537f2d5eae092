-- Written by a program of this session, a turned copy of the print (not by print.sh itself). Lean checks it.
import Derived.Test.YteknaofnageihaaQFnSegLostx0
import Derived.Test.YteknaofnageihaaQFnSegLostx1
import Derived.Test.YteknaofnageihaaQFnSegLostx3
import Derived.Test.YteknaofnageihaaQFnSegLostx4
import Derived.Test.YteknaofnageihaaQFnSegLostx6
namespace Go.Proofs.Yteknaofnageihaa.QFnSegLost
open Go.RowKit Go.Proofs.YteknaofnageihaaW.PrintWords Go.Proofs.YteknaofnageihaaW.PrintLast Go.Proofs.YteknaofnageihaaW.PrintMore Go.Proofs.YteknaofnageihaaLoc
attribute [local go_sem] max2_int min2_int max_two min_two max_three min_three max_four min_four   -- for this text's walks alone
set_option linter.unusedVariables false
set_option linter.unusedSimpArgs false

/-! ### laws_FnSegLost: function 6 -/
def laws_FnSegLost.l0 : Nat → List (S39) → Int → Option (Bool)
  | 0, _, _ => none
  | k + 1, x5, x6 => if x6 < (x5.length : Int) then ((some (([] : List (S39)) : List (S39))).bind fun y275 => (if 0 ≤ x6 then (if x6 ≤ (x5.length : Int) then ((some (x5.take (x6 : Int).toNat : List (S39))).bind fun y278 => (if y275.length + y278.length < 3518437208883 then ((some (y275 ++ y278 : List (S39))).bind fun y283 => (if 0 ≤ (wrap64 (x6 + 1)) then (if (wrap64 (x6 + 1)) ≤ (x5.length : Int) then ((some (x5.drop ((wrap64 (x6 + 1)) : Int).toNat : List (S39))).bind fun y286 => (if y283.length + y286.length < 3518437208883 then ((laws_liFeed.f k (y283 ++ y286)).bind fun t294 => (if (t294.length : Int) > 0 then (some false) else ((some (([] : List (S39)) : List (S39))).bind fun y297 => ((some (x5.take ((wrap64 (x6 + 1)) : Int).toNat : List (S39))).bind fun y300 => (if y297.length + y300.length < 3518437208883 then ((some (y297 ++ y300 : List (S39))).bind fun y305 => ((some (x5.drop (x6 : Int).toNat : List (S39))).bind fun y308 => (if y305.length + y308.length < 3518437208883 then ((some (y305 ++ y308 : List (S39))).bind fun y313 => (if ((rd_T39 x5 x6).f0) = 1 then ((laws_liFeed.f k y313).bind fun t317 => (if (t317.length : Int) > 0 then (some false) else (laws_FnSegLost.l0 k x5 (wrap64 (x6 + 1))))) else (if ((rd_T39 x5 x6).f0) = 2 then ((laws_liFeed.f k y313).bind fun t321 => (if (t321.length : Int) > 0 then (some false) else (laws_FnSegLost.l0 k x5 (wrap64 (x6 + 1))))) else (laws_FnSegLost.l0 k x5 (wrap64 (x6 + 1)))))) else (none)))) else (none)))))) else (none))) else (none)) else (none))) else (none))) else (none)) else (none))) else ((laws_liOk.f).bind fun t274 => (some t274))
def laws_FnSegLost.f (k : Nat) (l0 : List Int) : Option (Bool) := if (l0.length : Int) > 1048576 then (some true) else ((spec_DrawSegCut.f k l0).bind fun bt263 => ((impl_SegCut.f k bt263.1 bt263.2).bind fun t267 => ((spec_SegCut.f k bt263.1 bt263.2).bind fun t270 => ((laws_liParts.f k t267 t270).bind fun t273 => (if t273 = true then (laws_FnSegLost.l0 k t267 0) else (some false))))))
theorem laws_FnSegLost.mono_l : ∀ k, (∀ y0 y1, LeO (laws_FnSegLost.l0 k y0 y1) (laws_FnSegLost.l0 (k + 1) y0 y1))
  | 0 => fun _ _ r h => by simp [laws_FnSegLost.l0] at h
  | k + 1 => by
    have ih0 := laws_FnSegLost.mono_l k
    · intro y0 y1
      unfold laws_FnSegLost.l0
      repeat' first
      | (with_reducible exact ih0 _ _)
      | (with_reducible exact impl_SegCut.mono _ _ _)
      | (with_reducible exact laws_liFeed.mono _ _)
      | (with_reducible exact laws_liParts.mono _ _ _)
      | (with_reducible exact spec_DrawSegCut.mono _ _)
      | (with_reducible exact spec_SegCut.mono _ _ _)
      | (with_reducible exact LeO.refl _)
      | (with_reducible exact LeO.none _)
      | (with_reducible refine LeO.ite ?_ ?_)
      | (with_reducible refine LeO.bind ?_ (fun _ => ?_))
      | exact ih0 _ _
      | exact impl_SegCut.mono _ _ _
      | exact laws_liFeed.mono _ _
      | exact laws_liParts.mono _ _ _
      | exact spec_DrawSegCut.mono _ _
      | exact spec_SegCut.mono _ _ _
      | exact LeO.none _
      | refine LeO.ite ?_ ?_
      | refine LeO.bind ?_ (fun _ => ?_)
theorem laws_FnSegLost.mono : ∀ a0 k, LeO (laws_FnSegLost.f k a0) (laws_FnSegLost.f (k + 1) a0) := by
 intro a0 k
 have ih0 := laws_FnSegLost.mono_l k
 unfold laws_FnSegLost.f
 repeat' first
     | (with_reducible exact ih0 _ _)
     | (with_reducible exact impl_SegCut.mono _ _ _)
     | (with_reducible exact laws_liFeed.mono _ _)
     | (with_reducible exact laws_liParts.mono _ _ _)
     | (with_reducible exact spec_DrawSegCut.mono _ _)
     | (with_reducible exact spec_SegCut.mono _ _ _)
     | (with_reducible exact LeO.refl _)
     | (with_reducible exact LeO.none _)
     | (with_reducible refine LeO.ite ?_ ?_)
     | (with_reducible refine LeO.bind ?_ (fun _ => ?_))
     | exact ih0 _ _
     | exact impl_SegCut.mono _ _ _
     | exact laws_liFeed.mono _ _
     | exact laws_liParts.mono _ _ _
     | exact spec_DrawSegCut.mono _ _
     | exact spec_SegCut.mono _ _ _
     | exact LeO.none _
     | refine LeO.ite ?_ ?_
     | refine LeO.bind ?_ (fun _ => ?_)
def laws_FnSegLost.T10 : Bool × List (List Nat × List Nat) := (true, [([], []), ([], []), ([], []), ([1, 2], [1, 2]), ([0, 3], [0, 3]), ([], []), ([], []), ([6], [6]), ([5, 7], [5, 7]), ([4, 8, 4], [4, 8]), ([9, 9, 0, 1, 2, 3, 4, 5, 6, 7, 8, 9], [9])])
def laws_FnSegLost.B10 : List Nat := [0, 0, 0, 6, 15, 0, 0, 64, 224, 511, 1023]
theorem laws_FnSegLost.tab10 : rtab .any (opsOf Try.f6 10) = laws_FnSegLost.T10 := by kernel_rfl
theorem laws_FnSegLost.bits10 : waitsOk laws_FnSegLost.T10.2 laws_FnSegLost.B10 = true := by kernel_rfl
def laws_FnSegLost.T13 : Bool × List (List Nat × List Nat) := (true, [([], []), ([], []), ([], []), ([2], [2]), ([1, 3], [1, 3]), ([0, 4], [0, 4]), ([], []), ([], []), ([6, 7], [6, 7]), ([5, 8, 5], [5, 8]), ([9, 9, 0, 1, 2, 3, 4, 5, 6, 7, 8, 9], [9])])
def laws_FnSegLost.B13 : List Nat := [0, 0, 0, 4, 14, 31, 0, 0, 192, 511, 1023]
theorem laws_FnSegLost.tab13 : rtab .any (opsOf Try.f6 13) = laws_FnSegLost.T13 := by kernel_rfl
theorem laws_FnSegLost.bits13 : waitsOk laws_FnSegLost.T13.2 laws_FnSegLost.B13 = true := by kernel_rfl
set_option maxHeartbeats 60000000 in
set_option maxRecDepth 100000 in
theorem laws_FnSegLost.calls (k : Nat) (A0 : Option Addr) (c0 : Nat) (l0 : List Int) (r : Bool) (w : World) (hr0 : Kd.C (Kd.int .u8) w A0 l0.length l0) (hc0 : l0.length ≤ c0) (h : laws_FnSegLost.f k l0 = some r) :
    Calls Try.prog 6 #[.slice A0 l0.length c0] w fun e w' => e = .returned (.bool r) ∧ Below w.heap.size w w' := by
 have HR0 := mk_ hr0
 have HC0 := mk_ hc0
 clear hr0 hc0
 have HB := mk_ (Below.refl w.heap.size w)
 have H : (if (l0.length : Int) > 1048576 then (some true) else ((spec_DrawSegCut.f k l0).bind fun bt263 => ((impl_SegCut.f k bt263.1 bt263.2).bind fun t267 => ((spec_SegCut.f k bt263.1 bt263.2).bind fun t270 => ((laws_liParts.f k t267 t270).bind fun t273 => (if t273 = true then (laws_FnSegLost.l0 k t267 0) else (some false))))))) = some r := h
 clear h
 by_cases c2 : (l0.length : Int) > 1048576
 · rw [if_pos c2] at H
   have c2b0 : decide (1048576 < (l0.length : Int)) = true := decide_eq_true c2
   have c2b1 : decide (1048576 < l0.length) = true := decide_eq_true (by omega)
   clear c2
   obtain rfl := Option.some.inj H
   go_enter Try.func6, Try.ntmps6
   go_wp2
   go_ret
   exact ⟨by first | rfl | (simp [errW_none, errW_some] <;> rfl) | (simp [*, errW_none, errW_some] <;> rfl), by repeat (first | (with_reducible first | exact HB.out | apply zq7 | apply zq8 | apply zq9) | exact HB.out)⟩
 rw [if_neg c2] at H
 have c2b0 : decide (1048576 < (l0.length : Int)) = false := decide_eq_false c2
 have c2b1 : decide (1048576 < l0.length) = false := decide_eq_false (by omega)
 clear c2
 replace H := Option.bind_eq_some_iff.mp H
 obtain ⟨⟨t263, t264⟩, A30, H⟩ := H
 try dsimp only at H
 have A3 := mk_ A30
 clear A30
 replace H := Option.bind_eq_some_iff.mp H
 obtain ⟨t267, A40, H⟩ := H
 try dsimp only at H
 have A4 := mk_ A40
 clear A40
 replace H := Option.bind_eq_some_iff.mp H
 obtain ⟨t270, A50, H⟩ := H
 try dsimp only at H
 have A5 := mk_ A50
 clear A50
 replace H := Option.bind_eq_some_iff.mp H
 obtain ⟨t273, A60, H⟩ := H
 try dsimp only at H
 have A6 := mk_ A60
 clear A60
 by_cases c7 : t273 = true
 rotate_left
 · replace c7 := Bool.eq_false_iff.mpr c7
   subst c7
   have H1 : (some false) = some r := by rw [if_neg (show ¬ (false = true) by decide)] at H; exact H
   clear H
   have H := H1
   clear H1
   obtain rfl := Option.some.inj H
   go_enter Try.func6, Try.ntmps6
   go_wp2_with (first | ((with_reducible refine gate_callee (f := 23) rfl ?_); refine goesL_ (some 14) rfl rfl Try.func23 (by kernel_rfl) rfl #[.slice A0 l0.length c0] rfl (by (try simp only [List.map_toArray, List.map_cons, List.map_nil]); first | done | rfl | (simp only [List.length_drop, List.length_take]; rfl)) ?_; (with_reducible refine (spec_DrawSegCut.calls k _ _ l0 t263 t264 _ ?side1 ?side2 A3.out).mono ?_); (case side1 => repeat (first | exact HR0.out | (with_reducible refine Kd.C_alloc ?_ _) | (with_reducible refine Kd.C_drewN ?_ _) | (with_reducible refine Kd.C_drew ?_))); (case side2 => exact HC0.out); rintro e w146 ⟨v265, rfl, ho0, hb⟩; refine ⟨_, rfl, ?_⟩; have HO266 := mk_ (Kd.R_lower ho0 (zr2 (by repeat (first | (with_reducible first | exact HB.out | apply zq7 | apply zq8 | apply zq9) | exact HB.out)))); replace HB := mk_ (zr3 (by repeat (first | (with_reducible first | exact HB.out | apply zq7 | apply zq8 | apply zq9) | exact HB.out)) hb); (try clear hb); (try clear hb2); (try clear hk); (try clear hi); (try clear ho0); obtain ⟨Ao147, co147, eo147⟩ := Kd.R_slice HO266.out; subst eo147) | ((with_reducible refine gate_callee (f := 17) rfl ?_); refine goesL_ (some 19) rfl rfl Try.func17 (by kernel_rfl) rfl #[.slice Ao147 t263.length co147, .int .i64 t264] rfl (by (try simp only [List.map_toArray, List.map_cons, List.map_nil]); first | done | rfl | (simp only [List.length_drop, List.length_take]; rfl)) ?_; (with_reducible refine (impl_SegCut.calls k _ _ t263 t264 t267 _ ?side1 ?side2 A4.out).mono ?_); (case side1 => repeat (first | exact (Kd.R_reads' HO266.out).2.2 | (with_reducible refine Kd.C_alloc ?_ _) | (with_reducible refine Kd.C_drewN ?_ _) | (with_reducible refine Kd.C_drew ?_))); (case side2 => exact (Kd.R_reads' HO266.out).2.1); rintro e w148 ⟨v268, rfl, ho0, hb⟩; refine ⟨_, rfl, ?_⟩; have HO269 := mk_ (Kd.V_lower (Kd.V_mono (ok' := fun k_ => some k_ ≠ (.slice Ao147 t263.length co147 : Value).ownBlock) ho0 (fun k_ hk_ => (Kd.fresh' (Kd.R_lt (by (with_reducible repeat (first | apply Kd.R_alloc | apply Kd.R_drewN | apply Kd.R_drew)); exact HO266.out)) k_ hk_))) (zr2 (by repeat (first | (with_reducible first | exact HB.out | apply zq7 | apply zq8 | apply zq9) | exact HB.out)))); replace HO266 := mk_ (Kd.R_below (by (with_reducible repeat (first | apply Kd.R_alloc | apply Kd.R_drewN | apply Kd.R_drew)); exact HO266.out) hb); replace HB := mk_ (zr3 (by repeat (first | (with_reducible first | exact HB.out | apply zq7 | apply zq8 | apply zq9) | exact HB.out)) hb); (try clear hb); (try clear hb2); (try clear hk); (try clear hi); (try clear ho0)) | ((with_reducible refine gate_callee (f := 15) rfl ?_); refine goesL_ (some 23) rfl rfl Try.func15 (by kernel_rfl) rfl #[.slice Ao147 t263.length co147, .int .i64 t264] rfl (by (try simp only [List.map_toArray, List.map_cons, List.map_nil]); first | done | rfl | (simp only [List.length_drop, List.length_take]; rfl)) ?_; (with_reducible refine (spec_SegCut.calls k _ _ t263 t264 t270 _ ?side1 ?side2 A5.out).mono ?_); (case side1 => repeat (first | exact (Kd.R_reads' HO266.out).2.2 | (with_reducible refine Kd.C_alloc ?_ _) | (with_reducible refine Kd.C_drewN ?_ _) | (with_reducible refine Kd.C_drew ?_))); (case side2 => exact (Kd.R_reads' HO266.out).2.1); rintro e w149 ⟨v271, rfl, ho0, hb⟩; refine ⟨_, rfl, ?_⟩; replace HO269 := mk_ (Kd.V_elder' (by (with_reducible repeat (first | apply Kd.V_alloc | apply Kd.V_drewN | apply Kd.V_drew)); exact HO269.out) (by first | exact Kd.N_base ho0 | exact Kd.S_base ho0) hb); have HO272 := mk_ (Kd.N_lower (Kd.N_mono (ok' := fun k_ => some k_ ≠ (.slice Ao147 t263.length co147 : Value).ownBlock) (Kd.S_N (Kd.S_bound ho0)) (fun k_ hk_ => (Kd.fresh' (Kd.R_lt (by (with_reducible repeat (first | apply Kd.R_alloc | apply Kd.R_drewN | apply Kd.R_drew)); exact HO266.out)) k_ hk_.2.1))) (zr2 (by repeat (first | (with_reducible first | exact HB.out | apply zq7 | apply zq8 | apply zq9) | exact HB.out)))); replace HO266 := mk_ (Kd.R_below (by (with_reducible repeat (first | apply Kd.R_alloc | apply Kd.R_drewN | apply Kd.R_drew)); exact HO266.out) hb); replace HB := mk_ (zr3 (by repeat (first | (with_reducible first | exact HB.out | apply zq7 | apply zq8 | apply zq9) | exact HB.out)) hb); (try clear hb); (try clear hb2); (try clear hk); (try clear hi); (try clear ho0); obtain ⟨Ao150, co150, eo150⟩ := Kd.V_slice HO269.out; subst eo150; obtain ⟨Ao151, co151, eo151⟩ := Kd.N_slice HO272.out; subst eo151) | ((with_reducible refine gate_callee (f := 24) rfl ?_); refine goesL_ (some 24) rfl rfl Try.func24 (by kernel_rfl) rfl #[.slice Ao150 t267.length co150, .slice Ao151 t270.length co151] rfl (by (try simp only [List.map_toArray, List.map_cons, List.map_nil]); first | done | rfl | (simp only [List.length_drop, List.length_take]; rfl)) ?_; (with_reducible refine (laws_liParts.calls k _ _ t267 _ _ t270 false _ ?side1 ?side2 ?side3 ?side4 A6.out).mono ?_); (case side1 => repeat (first | exact (Kd.V_reads' HO269.out).2.2 | (with_reducible refine Kd.C_alloc ?_ _) | (with_reducible refine Kd.C_drewN ?_ _) | (with_reducible refine Kd.C_drew ?_))); (case side2 => exact (Kd.V_reads' HO269.out).2.1); (case side3 => repeat (first | exact (Kd.N_reads' HO272.out).2.2 | (with_reducible refine Kd.C_alloc ?_ _) | (with_reducible refine Kd.C_drewN ?_ _) | (with_reducible refine Kd.C_drew ?_))); (case side4 => exact (Kd.N_reads' HO272.out).2.1); rintro e w152 ⟨rfl, hb⟩; refine ⟨_, rfl, ?_⟩; replace HO266 := mk_ (Kd.R_below (by (with_reducible repeat (first | apply Kd.R_alloc | apply Kd.R_drewN | apply Kd.R_drew)); exact HO266.out) hb); replace HO269 := mk_ (Kd.V_below (by (with_reducible repeat (first | apply Kd.V_alloc | apply Kd.V_drewN | apply Kd.V_drew)); exact HO269.out) hb); replace HO272 := mk_ (Kd.N_below (by (with_reducible repeat (first | apply Kd.N_alloc | apply Kd.N_drewN | apply Kd.N_drew)); exact HO272.out) hb); replace HB := mk_ (zr3 (by repeat (first | (with_reducible first | exact HB.out | apply zq7 | apply zq8 | apply zq9) | exact HB.out)) hb); (try clear hb); (try clear hb2); (try clear hk); (try clear hi)))
   go_ret
   exact ⟨by first | rfl | (simp [errW_none, errW_some] <;> rfl) | (simp [*, errW_none, errW_some] <;> rfl), by repeat (first | (with_reducible first | exact HB.out | apply zq7 | apply zq8 | apply zq9) | exact HB.out)⟩
 subst c7
 have H1 : (laws_FnSegLost.l0 k t267 0) = some r := by rw [if_pos rfl] at H; exact H
 clear H
 have H := H1
 clear H1
 have H' := mk_ H
 clear H
 go_enter Try.func6, Try.ntmps6
 go_wp2_with (first | ((with_reducible refine gate_callee (f := 23) rfl ?_); refine goesL_ (some 14) rfl rfl Try.func23 (by kernel_rfl) rfl #[.slice A0 l0.length c0] rfl (by (try simp only [List.map_toArray, List.map_cons, List.map_nil]); first | done | rfl | (simp only [List.length_drop, List.length_take]; rfl)) ?_; (with_reducible refine (spec_DrawSegCut.calls k _ _ l0 t263 t264 _ ?side1 ?side2 A3.out).mono ?_); (case side1 => repeat (first | exact HR0.out | (with_reducible refine Kd.C_alloc ?_ _) | (with_reducible refine Kd.C_drewN ?_ _) | (with_reducible refine Kd.C_drew ?_))); (case side2 => exact HC0.out); rintro e w8 ⟨v265, rfl, ho0, hb⟩; refine ⟨_, rfl, ?_⟩; have HO266 := mk_ (Kd.R_lower ho0 (zr2 (by repeat (first | (with_reducible first | exact HB.out | apply zq7 | apply zq8 | apply zq9) | exact HB.out)))); replace HB := mk_ (zr3 (by repeat (first | (with_reducible first | exact HB.out | apply zq7 | apply zq8 | apply zq9) | exact HB.out)) hb); (try clear hb); (try clear hb2); (try clear hk); (try clear hi); (try clear ho0); obtain ⟨Ao9, co9, eo9⟩ := Kd.R_slice HO266.out; subst eo9) | ((with_reducible refine gate_callee (f := 17) rfl ?_); refine goesL_ (some 19) rfl rfl Try.func17 (by kernel_rfl) rfl #[.slice Ao9 t263.length co9, .int .i64 t264] rfl (by (try simp only [List.map_toArray, List.map_cons, List.map_nil]); first | done | rfl | (simp only [List.length_drop, List.length_take]; rfl)) ?_; (with_reducible refine (impl_SegCut.calls k _ _ t263 t264 t267 _ ?side1 ?side2 A4.out).mono ?_); (case side1 => repeat (first | exact (Kd.R_reads' HO266.out).2.2 | (with_reducible refine Kd.C_alloc ?_ _) | (with_reducible refine Kd.C_drewN ?_ _) | (with_reducible refine Kd.C_drew ?_))); (case side2 => exact (Kd.R_reads' HO266.out).2.1); rintro e w10 ⟨v268, rfl, ho0, hb⟩; refine ⟨_, rfl, ?_⟩; have HO269 := mk_ (Kd.V_lower (Kd.V_mono (ok' := fun k_ => some k_ ≠ (.slice Ao9 t263.length co9 : Value).ownBlock) ho0 (fun k_ hk_ => (Kd.fresh' (Kd.R_lt (by (with_reducible repeat (first | apply Kd.R_alloc | apply Kd.R_drewN | apply Kd.R_drew)); exact HO266.out)) k_ hk_))) (zr2 (by repeat (first | (with_reducible first | exact HB.out | apply zq7 | apply zq8 | apply zq9) | exact HB.out)))); replace HO266 := mk_ (Kd.R_below (by (with_reducible repeat (first | apply Kd.R_alloc | apply Kd.R_drewN | apply Kd.R_drew)); exact HO266.out) hb); replace HB := mk_ (zr3 (by repeat (first | (with_reducible first | exact HB.out | apply zq7 | apply zq8 | apply zq9) | exact HB.out)) hb); (try clear hb); (try clear hb2); (try clear hk); (try clear hi); (try clear ho0)) | ((with_reducible refine gate_callee (f := 15) rfl ?_); refine goesL_ (some 23) rfl rfl Try.func15 (by kernel_rfl) rfl #[.slice Ao9 t263.length co9, .int .i64 t264] rfl (by (try simp only [List.map_toArray, List.map_cons, List.map_nil]); first | done | rfl | (simp only [List.length_drop, List.length_take]; rfl)) ?_; (with_reducible refine (spec_SegCut.calls k _ _ t263 t264 t270 _ ?side1 ?side2 A5.out).mono ?_); (case side1 => repeat (first | exact (Kd.R_reads' HO266.out).2.2 | (with_reducible refine Kd.C_alloc ?_ _) | (with_reducible refine Kd.C_drewN ?_ _) | (with_reducible refine Kd.C_drew ?_))); (case side2 => exact (Kd.R_reads' HO266.out).2.1); rintro e w11 ⟨v271, rfl, ho0, hb⟩; refine ⟨_, rfl, ?_⟩; replace HO269 := mk_ (Kd.V_elder' (by (with_reducible repeat (first | apply Kd.V_alloc | apply Kd.V_drewN | apply Kd.V_drew)); exact HO269.out) (by first | exact Kd.N_base ho0 | exact Kd.S_base ho0) hb); have HO272 := mk_ (Kd.N_lower (Kd.N_mono (ok' := fun k_ => some k_ ≠ (.slice Ao9 t263.length co9 : Value).ownBlock) (Kd.S_N (Kd.S_bound ho0)) (fun k_ hk_ => (Kd.fresh' (Kd.R_lt (by (with_reducible repeat (first | apply Kd.R_alloc | apply Kd.R_drewN | apply Kd.R_drew)); exact HO266.out)) k_ hk_.2.1))) (zr2 (by repeat (first | (with_reducible first | exact HB.out | apply zq7 | apply zq8 | apply zq9) | exact HB.out)))); replace HO266 := mk_ (Kd.R_below (by (with_reducible repeat (first | apply Kd.R_alloc | apply Kd.R_drewN | apply Kd.R_drew)); exact HO266.out) hb); replace HB := mk_ (zr3 (by repeat (first | (with_reducible first | exact HB.out | apply zq7 | apply zq8 | apply zq9) | exact HB.out)) hb); (try clear hb); (try clear hb2); (try clear hk); (try clear hi); (try clear ho0); obtain ⟨Ao12, co12, eo12⟩ := Kd.V_slice HO269.out; subst eo12; obtain ⟨Ao13, co13, eo13⟩ := Kd.N_slice HO272.out; subst eo13) | ((with_reducible refine gate_callee (f := 24) rfl ?_); refine goesL_ (some 24) rfl rfl Try.func24 (by kernel_rfl) rfl #[.slice Ao12 t267.length co12, .slice Ao13 t270.length co13] rfl (by (try simp only [List.map_toArray, List.map_cons, List.map_nil]); first | done | rfl | (simp only [List.length_drop, List.length_take]; rfl)) ?_; (with_reducible refine (laws_liParts.calls k _ _ t267 _ _ t270 true _ ?side1 ?side2 ?side3 ?side4 A6.out).mono ?_); (case side1 => repeat (first | exact (Kd.V_reads' HO269.out).2.2 | (with_reducible refine Kd.C_alloc ?_ _) | (with_reducible refine Kd.C_drewN ?_ _) | (with_reducible refine Kd.C_drew ?_))); (case side2 => exact (Kd.V_reads' HO269.out).2.1); (case side3 => repeat (first | exact (Kd.N_reads' HO272.out).2.2 | (with_reducible refine Kd.C_alloc ?_ _) | (with_reducible refine Kd.C_drewN ?_ _) | (with_reducible refine Kd.C_drew ?_))); (case side4 => exact (Kd.N_reads' HO272.out).2.1); rintro e w14 ⟨rfl, hb⟩; refine ⟨_, rfl, ?_⟩; replace HO266 := mk_ (Kd.R_below (by (with_reducible repeat (first | apply Kd.R_alloc | apply Kd.R_drewN | apply Kd.R_drew)); exact HO266.out) hb); replace HO269 := mk_ (Kd.V_below (by (with_reducible repeat (first | apply Kd.V_alloc | apply Kd.V_drewN | apply Kd.V_drew)); exact HO269.out) hb); replace HO272 := mk_ (Kd.N_below (by (with_reducible repeat (first | apply Kd.N_alloc | apply Kd.N_drewN | apply Kd.N_drew)); exact HO272.out) hb); replace HB := mk_ (zr3 (by repeat (first | (with_reducible first | exact HB.out | apply zq7 | apply zq8 | apply zq9) | exact HB.out)) hb); (try clear hb); (try clear hb2); (try clear hk); (try clear hi)))
 go_loopg [6] k (fun kq v6 w' => ∃ (x6_1 : Int), v6 = .int .i64 x6_1 ∧ Aside0 (laws_FnSegLost.l0 kq t267 x6_1 = some r) ∧ Aside0 (kq ≤ k) ∧ Aside0 (Kd.V k39 39 w' w.heap.size (fun _ => True) (.slice Ao12 t267.length co12) t267) ∧ Aside0 (Below w.heap.size w w'))
 case atStart => exact ⟨(0), (by first | rfl | (simp; done) | (simp [*]; done)), H', ⟨Nat.le_refl _⟩, ⟨by (with_reducible repeat (first | apply Kd.V_alloc | apply Kd.V_drewN | apply Kd.V_drew)); exact Kd.V_mono HO269.out (fun _ hk => trivial)⟩, ⟨by repeat (first | (with_reducible first | exact HB.out | apply zq7 | apply zq8 | apply zq9) | exact HB.out)⟩⟩
 case round =>
   clear H'
   try clear c1
   try clear c2
   try clear c2b0
   try clear c2b1
   try clear p2
   try clear c6
   try clear c7
   obtain ⟨x6_1, rfl, HA, HK1, HO_5, HB⟩ := hrel
   cases gk with
   | zero => exact absurd HA.out (by simp [laws_FnSegLost.l0])
   | succ k1 =>
     have H := HA.out
     clear HA
     simp only [laws_FnSegLost.l0] at H
     by_cases c15 : x6_1 < (t267.length : Int)
     rotate_left
     · rw [if_neg c15] at H
       have c15b0 : decide (x6_1 < (t267.length : Int)) = false := decide_eq_false c15
       clear c15
       replace H := Option.bind_eq_some_iff.mp H
       obtain ⟨t274, A1440, H⟩ := H
       try dsimp only at H
       have A144 := mk_ A1440
       clear A1440
       obtain rfl := Option.some.inj H
       go_wp2_with (first | ((with_reducible refine gate_callee (f := 25) rfl ?_); refine goesL_ (some 76) rfl rfl Try.func25 (by kernel_rfl) rfl #[] rfl (by (try simp only [List.map_toArray, List.map_cons, List.map_nil]); first | done | rfl | (simp only [List.length_drop, List.length_take]; rfl)) ?_; (with_reducible refine (laws_liOk.calls  t274 _ A144.out).mono ?_); rintro e w145 ⟨rfl, hb⟩; refine ⟨_, rfl, ?_⟩; replace HO_5 := mk_ (Kd.V_below (by (with_reducible repeat (first | apply Kd.V_alloc | apply Kd.V_drewN | apply Kd.V_drew)); exact HO_5.out) hb); replace HB := mk_ (zr3 (by repeat (first | (with_reducible first | exact HB.out | apply zq7 | apply zq8 | apply zq9) | exact HB.out)) hb); (try clear hb); (try clear hb2); (try clear hk); (try clear hi)))
       go_ret
       exact ⟨by first | rfl | (simp [errW_none, errW_some] <;> rfl) | (simp [*, errW_none, errW_some] <;> rfl), by repeat (first | (with_reducible first | exact HB.out | apply zq7 | apply zq8 | apply zq9) | exact HB.out)⟩
     rw [if_pos c15] at H
     have c15b0 : decide (x6_1 < (t267.length : Int)) = true := decide_eq_true c15
     clear c15
     obtain ⟨y275, hy275⟩ : ∃ y_ : List (S39), y_ = (([] : List (S39))) := ⟨_, rfl⟩
     replace H : (if 0 ≤ x6_1 then (if x6_1 ≤ (t267.length : Int) then ((some (t267.take (x6_1 : Int).toNat : List (S39))).bind fun y278 => (if y275.length + y278.length < 3518437208883 then ((some (y275 ++ y278 : List (S39))).bind fun y283 => (if 0 ≤ (wrap64 (x6_1 + 1)) then (if (wrap64 (x6_1 + 1)) ≤ (t267.length : Int) then ((some (t267.drop ((wrap64 (x6_1 + 1)) : Int).toNat : List (S39))).bind fun y286 => (if y283.length + y286.length < 3518437208883 then ((laws_liFeed.f k1 (y283 ++ y286)).bind fun t294 => (if (t294.length : Int) > 0 then (some false) else ((some (([] : List (S39)) : List (S39))).bind fun y297 => ((some (t267.take ((wrap64 (x6_1 + 1)) : Int).toNat : List (S39))).bind fun y300 => (if y297.length + y300.length < 3518437208883 then ((some (y297 ++ y300 : List (S39))).bind fun y305 => ((some (t267.drop (x6_1 : Int).toNat : List (S39))).bind fun y308 => (if y305.length + y308.length < 3518437208883 then ((some (y305 ++ y308 : List (S39))).bind fun y313 => (if ((rd_T39 t267 x6_1).f0) = 1 then ((laws_liFeed.f k1 y313).bind fun t317 => (if (t317.length : Int) > 0 then (some false) else (laws_FnSegLost.l0 k1 t267 (wrap64 (x6_1 + 1))))) else (if ((rd_T39 t267 x6_1).f0) = 2 then ((laws_liFeed.f k1 y313).bind fun t321 => (if (t321.length : Int) > 0 then (some false) else (laws_FnSegLost.l0 k1 t267 (wrap64 (x6_1 + 1))))) else (laws_FnSegLost.l0 k1 t267 (wrap64 (x6_1 + 1)))))) else (none)))) else (none)))))) else (none))) else (none)) else (none))) else (none))) else (none)) else (none)) = some r := by first | (rw [hy275]; with_reducible exact H) | (have H2_ := (Option.bind_some _ _).symm.trans H; rw [hy275]; with_reducible exact H2_) | (have H2_ := (Option.bind_some _ _).symm.trans H; with_reducible exact H2_) | with_reducible exact H | (rw [hy275]; exact H) | exact H
     have Ny275 := mk_ hy275
     clear hy275
     by_cases c16 : 0 ≤ x6_1
     rotate_left
     · rw [if_neg c16] at H
       exact absurd H (by simp)
     rw [if_pos c16] at H
     have c16b0 := eq_true c16
     have c16b1 : decide (0 ≤ x6_1) = true := decide_eq_true c16
     clear c16
     by_cases c17 : x6_1 ≤ (t267.length : Int)
     rotate_left
     · rw [if_neg c17] at H
       exact absurd H (by simp)
     rw [if_pos c17] at H
     have c17b0 := eq_true c17
     have c17b1 : decide (x6_1 ≤ (t267.length : Int)) = true := decide_eq_true c17
     clear c17
     obtain ⟨y278, hy278⟩ : ∃ y_ : List (S39), y_ = (t267.take (x6_1 : Int).toNat) := ⟨_, rfl⟩
     replace H : (if y275.length + y278.length < 3518437208883 then ((some (y275 ++ y278 : List (S39))).bind fun y283 => (if 0 ≤ (wrap64 (x6_1 + 1)) then (if (wrap64 (x6_1 + 1)) ≤ (t267.length : Int) then ((some (t267.drop ((wrap64 (x6_1 + 1)) : Int).toNat : List (S39))).bind fun y286 => (if y283.length + y286.length < 3518437208883 then ((laws_liFeed.f k1 (y283 ++ y286)).bind fun t294 => (if (t294.length : Int) > 0 then (some false) else ((some (([] : List (S39)) : List (S39))).bind fun y297 => ((some (t267.take ((wrap64 (x6_1 + 1)) : Int).toNat : List (S39))).bind fun y300 => (if y297.length + y300.length < 3518437208883 then ((some (y297 ++ y300 : List (S39))).bind fun y305 => ((some (t267.drop (x6_1 : Int).toNat : List (S39))).bind fun y308 => (if y305.length + y308.length < 3518437208883 then ((some (y305 ++ y308 : List (S39))).bind fun y313 => (if ((rd_T39 t267 x6_1).f0) = 1 then ((laws_liFeed.f k1 y313).bind fun t317 => (if (t317.length : Int) > 0 then (some false) else (laws_FnSegLost.l0 k1 t267 (wrap64 (x6_1 + 1))))) else (if ((rd_T39 t267 x6_1).f0) = 2 then ((laws_liFeed.f k1 y313).bind fun t321 => (if (t321.length : Int) > 0 then (some false) else (laws_FnSegLost.l0 k1 t267 (wrap64 (x6_1 + 1))))) else (laws_FnSegLost.l0 k1 t267 (wrap64 (x6_1 + 1)))))) else (none)))) else (none)))))) else (none))) else (none)) else (none))) else (none)) = some r := by first | (rw [hy278]; with_reducible exact H) | (have H2_ := (Option.bind_some _ _).symm.trans H; rw [hy278]; with_reducible exact H2_) | (have H2_ := (Option.bind_some _ _).symm.trans H; with_reducible exact H2_) | with_reducible exact H | (rw [hy278]; exact H) | exact H
     have Ny278 := mk_ hy278
     clear hy278
     by_cases c18 : y275.length + y278.length < 3518437208883
     rotate_left
     · rw [if_neg c18] at H
       exact absurd H (by simp)
     rw [if_pos c18] at H
     have LMc18 := mk_ c18
     clear c18
     obtain ⟨y283, hy283⟩ : ∃ y_ : List (S39), y_ = (y275 ++ y278) := ⟨_, rfl⟩
     replace H : (if 0 ≤ (wrap64 (x6_1 + 1)) then (if (wrap64 (x6_1 + 1)) ≤ (t267.length : Int) then ((some (t267.drop ((wrap64 (x6_1 + 1)) : Int).toNat : List (S39))).bind fun y286 => (if y283.length + y286.length < 3518437208883 then ((laws_liFeed.f k1 (y283 ++ y286)).bind fun t294 => (if (t294.length : Int) > 0 then (some false) else ((some (([] : List (S39)) : List (S39))).bind fun y297 => ((some (t267.take ((wrap64 (x6_1 + 1)) : Int).toNat : List (S39))).bind fun y300 => (if y297.length + y300.length < 3518437208883 then ((some (y297 ++ y300 : List (S39))).bind fun y305 => ((some (t267.drop (x6_1 : Int).toNat : List (S39))).bind fun y308 => (if y305.length + y308.length < 3518437208883 then ((some (y305 ++ y308 : List (S39))).bind fun y313 => (if ((rd_T39 t267 x6_1).f0) = 1 then ((laws_liFeed.f k1 y313).bind fun t317 => (if (t317.length : Int) > 0 then (some false) else (laws_FnSegLost.l0 k1 t267 (wrap64 (x6_1 + 1))))) else (if ((rd_T39 t267 x6_1).f0) = 2 then ((laws_liFeed.f k1 y313).bind fun t321 => (if (t321.length : Int) > 0 then (some false) else (laws_FnSegLost.l0 k1 t267 (wrap64 (x6_1 + 1))))) else (laws_FnSegLost.l0 k1 t267 (wrap64 (x6_1 + 1)))))) else (none)))) else (none)))))) else (none))) else (none)) else (none)) = some r := by first | (rw [hy283]; with_reducible exact H) | (have H2_ := (Option.bind_some _ _).symm.trans H; rw [hy283]; with_reducible exact H2_) | (have H2_ := (Option.bind_some _ _).symm.trans H; with_reducible exact H2_) | with_reducible exact H | (rw [hy283]; exact H) | exact H
     have Ny283 := mk_ hy283
     clear hy283
     obtain ⟨ji19, hji19⟩ : ∃ j_ : Int, (wrap64 (x6_1 + 1)) = j_ := ⟨_, rfl⟩
     replace H : (if 0 ≤ (ji19) then (if (ji19) ≤ (t267.length : Int) then ((some (t267.drop ((ji19) : Int).toNat : List (S39))).bind fun y286 => (if y283.length + y286.length < 3518437208883 then ((laws_liFeed.f k1 (y283 ++ y286)).bind fun t294 => (if (t294.length : Int) > 0 then (some false) else ((some (([] : List (S39)) : List (S39))).bind fun y297 => ((some (t267.take ((ji19) : Int).toNat : List (S39))).bind fun y300 => (if y297.length + y300.length < 3518437208883 then ((some (y297 ++ y300 : List (S39))).bind fun y305 => ((some (t267.drop (x6_1 : Int).toNat : List (S39))).bind fun y308 => (if y305.length + y308.length < 3518437208883 then ((some (y305 ++ y308 : List (S39))).bind fun y313 => (if ((rd_T39 t267 x6_1).f0) = 1 then ((laws_liFeed.f k1 y313).bind fun t317 => (if (t317.length : Int) > 0 then (some false) else (laws_FnSegLost.l0 k1 t267 ji19))) else (if ((rd_T39 t267 x6_1).f0) = 2 then ((laws_liFeed.f k1 y313).bind fun t321 => (if (t321.length : Int) > 0 then (some false) else (laws_FnSegLost.l0 k1 t267 ji19))) else (laws_FnSegLost.l0 k1 t267 ji19)))) else (none)))) else (none)))))) else (none))) else (none)) else (none)) = some r := by first | (rw [hji19] at H; exact H) | (simp only [hji19] at H ⊢; exact H)
     have hji19w : (IntKind.i64.wrap (x6_1 + 1)) = ji19 := (i64_w _).trans hji19
     by_cases c20 : 0 ≤ (ji19)
     rotate_left
     · rw [if_neg c20] at H
       exact absurd H (by simp)
     rw [if_pos c20] at H
     have c20b0 := eq_true c20
     have c20b1 : decide (0 ≤ (ji19)) = true := decide_eq_true c20
     clear c20
     by_cases c21 : (ji19) ≤ (t267.length : Int)
     rotate_left
     · rw [if_neg c21] at H
       exact absurd H (by simp)
     rw [if_pos c21] at H
     have c21b0 := eq_true c21
     have c21b1 : decide ((ji19) ≤ (t267.length : Int)) = true := decide_eq_true c21
     clear c21
     obtain ⟨y286, hy286⟩ : ∃ y_ : List (S39), y_ = (t267.drop ((ji19) : Int).toNat) := ⟨_, rfl⟩
     replace H : (if y283.length + y286.length < 3518437208883 then ((laws_liFeed.f k1 (y283 ++ y286)).bind fun t294 => (if (t294.length : Int) > 0 then (some false) else ((some (([] : List (S39)) : List (S39))).bind fun y297 => ((some (t267.take ((ji19) : Int).toNat : List (S39))).bind fun y300 => (if y297.length + y300.length < 3518437208883 then ((some (y297 ++ y300 : List (S39))).bind fun y305 => ((some (t267.drop (x6_1 : Int).toNat : List (S39))).bind fun y308 => (if y305.length + y308.length < 3518437208883 then ((some (y305 ++ y308 : List (S39))).bind fun y313 => (if ((rd_T39 t267 x6_1).f0) = 1 then ((laws_liFeed.f k1 y313).bind fun t317 => (if (t317.length : Int) > 0 then (some false) else (laws_FnSegLost.l0 k1 t267 ji19))) else (if ((rd_T39 t267 x6_1).f0) = 2 then ((laws_liFeed.f k1 y313).bind fun t321 => (if (t321.length : Int) > 0 then (some false) else (laws_FnSegLost.l0 k1 t267 ji19))) else (laws_FnSegLost.l0 k1 t267 ji19)))) else (none)))) else (none)))))) else (none)) = some r := by first | (rw [hy286]; with_reducible exact H) | (have H2_ := (Option.bind_some _ _).symm.trans H; rw [hy286]; with_reducible exact H2_) | (have H2_ := (Option.bind_some _ _).symm.trans H; with_reducible exact H2_) | with_reducible exact H | (rw [hy286]; exact H) | exact H
     have Ny286 := mk_ hy286
     clear hy286
     by_cases c22 : y283.length + y286.length < 3518437208883
     rotate_left
     · rw [if_neg c22] at H
       exact absurd H (by simp)
     rw [if_pos c22] at H
     have LMc22 := mk_ c22
     clear c22
     obtain ⟨y291, hy291⟩ : ∃ y_ : List (S39), y_ = (y283 ++ y286) := ⟨_, rfl⟩
     replace H : ((laws_liFeed.f k1 y291).bind fun t294 => (if (t294.length : Int) > 0 then (some false) else ((some (([] : List (S39)) : List (S39))).bind fun y297 => ((some (t267.take ((ji19) : Int).toNat : List (S39))).bind fun y300 => (if y297.length + y300.length < 3518437208883 then ((some (y297 ++ y300 : List (S39))).bind fun y305 => ((some (t267.drop (x6_1 : Int).toNat : List (S39))).bind fun y308 => (if y305.length + y308.length < 3518437208883 then ((some (y305 ++ y308 : List (S39))).bind fun y313 => (if ((rd_T39 t267 x6_1).f0) = 1 then ((laws_liFeed.f k1 y313).bind fun t317 => (if (t317.length : Int) > 0 then (some false) else (laws_FnSegLost.l0 k1 t267 ji19))) else (if ((rd_T39 t267 x6_1).f0) = 2 then ((laws_liFeed.f k1 y313).bind fun t321 => (if (t321.length : Int) > 0 then (some false) else (laws_FnSegLost.l0 k1 t267 ji19))) else (laws_FnSegLost.l0 k1 t267 ji19)))) else (none)))) else (none)))))) = some r := by first | (rw [hy291]; with_reducible exact H) | (have H2_ := (Option.bind_some _ _).symm.trans H; rw [hy291]; with_reducible exact H2_) | (have H2_ := (Option.bind_some _ _).symm.trans H; with_reducible exact H2_) | with_reducible exact H | (rw [hy291]; exact H) | exact H
     have Ny291 := mk_ hy291
     clear hy291
     replace H := Option.bind_eq_some_iff.mp H
     obtain ⟨t294, A230, H⟩ := H
     try dsimp only at H
     have A23 := mk_ A230
     clear A230
     by_cases c24 : (t294.length : Int) > 0
     · rw [if_pos c24] at H
       have c24b0 : decide (0 < (t294.length : Int)) = true := decide_eq_true c24
       have c24b1 : decide (0 < t294.length) = true := decide_eq_true (by omega)
       clear c24
       obtain rfl := Option.some.inj H
       try go_wp2
       replace HO_5 := mk_ (Kd.V_drew HO_5.out)
       replace HB := mk_ (zq9 HB.out)
       have q26 : (x6_1 : Int) ≤ ((t267.length : Int) : Int) := of_decide_eq_true (by first | (with_reducible assumption) | assumption)
       obtain ⟨i026, hi026, _, hsz26, _⟩ := info_parts info39
       have hroom26 : t267.length ≤ co12 := (Kd.V_reads' HO_5.out).2.1
       have hC26 : Kd.F k39 _ _ Ao12 t267.length t267 := (Kd.V_at (base := w.heap.size) HO_5.out).2.2
       have hcut26 := cut_to (P := Try.prog) 23 39 .i64 Try.underlying23 hi026 Ao12 t267.length co12 x6_1 (of_decide_eq_true (by first | (with_reducible assumption) | assumption)) q26 hroom26
       have hr26 := Kd.F_take (m := (x6_1 : Int).toNat) hC26 (by omega)
       have hy26 : y278.length = (x6_1 : Int).toNat := (by rw [Ny278.out, List.length_take]; omega)
       rw [← Ny278.out] at hr26
       rw [← hy26] at hcut26
       have HO282 := mk_ (show Kd.V k39 39 _ w.heap.size _ (.slice Ao12 y278.length co12) y278 from Kd.V_mk (by omega) hr26)
       have HC282 := mk_ (show y278.length ≤ co12 from by omega)
       clear hr26 hC26 hroom26 hi026 hsz26
       have KY26 := mk_ hy26
       clear hy26
       replace q26 := eq_true q26
       have q27 : ((ji19) : Int) ≤ ((t267.length : Int) : Int) := of_decide_eq_true (by first | (with_reducible assumption) | assumption)
       obtain ⟨i027, hi027, _, hsz27, _⟩ := info_parts info39
       have hroom27 : t267.length ≤ co12 := (Kd.V_reads' HO_5.out).2.1
       have hC27 : Kd.F k39 _ _ Ao12 t267.length t267 := (Kd.V_at (base := w.heap.size) HO_5.out).2.2
       have q027 : (0 : Int) ≤ ((ji19) : Int) := of_decide_eq_true (by first | (with_reducible assumption) | assumption)
       have hcut27 := cut_from (P := Try.prog) 23 39 .i64 Try.underlying23 hi027 3 hsz27 Ao12 t267.length co12 (ji19) q027 q27
       have hr27 := Kd.F_cut (m := ((ji19) : Int).toNat) (c := co12) hC27 (by omega) hroom27
       obtain ⟨A27, hA27⟩ : ∃ A1, A1 = (if co12 = ((ji19) : Int).toNat then Ao12 else (Ao12 : Option Addr).map (·.add (((ji19) : Int).toNat * 3))) := ⟨_, rfl⟩
       obtain ⟨c27, hc27⟩ : ∃ c1, c1 = co12 - ((ji19) : Int).toNat := ⟨_, rfl⟩
       have hy27 : y286.length = t267.length - ((ji19) : Int).toNat := (by rw [Ny286.out, List.length_drop] <;> omega)
       rw [show (t267).drop ((ji19) : Int).toNat = y286 from Ny286.out.symm] at hr27
       replace hr27 : Kd.F k39 _ _ A27 y286.length y286 := (by rw [hA27]; exact hr27)
       rw [← hy27, ← hA27, ← hc27] at hcut27
       have HO290 := mk_ (show Kd.V k39 39 _ w.heap.size _ (.slice A27 y286.length c27) y286 from Kd.V_mk (by rw [hy27, hc27]; exact Nat.sub_le_sub_right hroom27 _) hr27)
       have HC290 := mk_ (show y286.length ≤ c27 from by rw [hy27, hc27]; exact Nat.sub_le_sub_right hroom27 _)
       clear hr27 hC27 hroom27 hi027 hsz27 hc27
       have KY27 := mk_ hy27
       have KA27 := mk_ hA27
       clear hy27 hA27
       replace q27 := eq_true q27
       refine start_ (n := 11) (S := fun w' => True) (ds := []) (bm 11 0) (by kernel_rfl) rfl rfl trivial (fun hHeld => ?_); refine with_tabW laws_FnSegLost.tab10 laws_FnSegLost.bits10 (fun HT_ HW_ => ?_)
       generalize wr.drew = w25 at HO_5 HB HO282 HO290 hHeld ⊢
       refine pA 1 (some 33) (bm 11 2) rfl rfl HT_.out (by kernel_rfl) (fun _ _ _ h => h) (by rfl) (by intro w'; go_simp; with_reducible rfl) (by simp only [Act.put, zs1, zs2, zs3, i64_w, i32_w]; rfl) ?_
       refine pA 2 (some 34) (bm 11 6) rfl rfl HT_.out (by kernel_rfl) (fun _ _ _ h => h) (by rfl) (by intro w'; go_simp; with_reducible rfl) (by simp only [Act.put, zs1, zs2, zs3, i64_w, i32_w]; rfl) ?_
       refine pA 3 (some 35) (bm 11 14) rfl rfl HT_.out (by kernel_rfl) (fun _ _ _ h => h) (by rfl) (by intro w'; go_simp; with_reducible rfl) (by simp only [Act.put, zs1, zs2, zs3, i64_w, i32_w]; rfl) ?_
       refine pA 5 (some 37) (bm 11 46) rfl rfl HT_.out (by kernel_rfl) (fun _ _ _ h => h) (by rfl) (by intro w'; go_simp; with_reducible rfl) (by simp only [Act.put, zs1, zs2, zs3, i64_w, i32_w]; rfl) ?_
       refine pA 6 (some 38) (bm 11 110) rfl rfl HT_.out (by kernel_rfl) (fun _ _ _ h => h) (by rfl) (by intro w'; go_simp; with_reducible rfl) (by simp only [Act.put, zs1, zs2, zs3, i64_w, i32_w]; rfl) ?_
       refine pA 7 (some 39) (bm 11 238) rfl rfl HT_.out (by kernel_rfl) (fun _ _ _ h => h) (by rfl) (by intro w'; go_simp; with_reducible rfl) (by simp only [Act.put, zs1, zs2, zs3, i64_w, i32_w]; rfl) ?_
       refine pA 8 (some 40) (bm 11 494) rfl rfl HT_.out (by kernel_rfl) (fun _ _ _ h => h) (by rfl) (by intro w'; go_simp; with_reducible rfl) (by simp only [Act.put, zs1, zs2, zs3, i64_w, i32_w]; rfl) ?_
       refine one_ (i := 0) (N := some 32) (bm 11 495) rfl rfl (one_of HT_.out (by kernel_rfl)) (by decide) (fun K hK => ?_)
       refine Kd.N_lit_step k39 _ 39 ?hg (N' := 32) ?hd (xs := ([] : List (S39))) (inner := []) (ok := (fun _ => True)) (okp := (fun _ => True)) ?hr ?hp (fun _ hk => hk) ((show ∀ k_, w25.heap.size ≤ k_ → (fun _ => True) k_ from fun k_ hk => trivial) _ (Nat.le_refl _)) (Below.refl _ _) (Nat.le_refl _) (by simp) ?_; (case hd => rfl); (case hg => rfl); (case hr => first | (go_simp; done) | (go_simp; rfl)); (case hp => exact (Reps.none _ _))
       intro v276 w28 ho29 hb hg_ hnew_
       clear hg_ hnew_
       (first | rw [← Ny275.out] at ho29 | (simp only [Int.reduceToNat] at ho29; rw [← Ny275.out] at ho29))
       replace HO_5 := mk_ (Kd.V_elder' (by (with_reducible repeat (first | apply Kd.V_alloc | apply Kd.V_drewN | apply Kd.V_drew)); exact HO_5.out) (Kd.N_base ho29) hb)
       replace HO282 := mk_ (Kd.V_elder' (by (with_reducible repeat (first | apply Kd.V_alloc | apply Kd.V_drewN | apply Kd.V_drew)); exact HO282.out) (Kd.N_base ho29) hb)
       replace HO290 := mk_ (Kd.V_elder' (by (with_reducible repeat (first | apply Kd.V_alloc | apply Kd.V_drewN | apply Kd.V_drew)); exact HO290.out) (Kd.N_base ho29) hb)
       have HO277 := mk_ (Kd.N_lower ho29 (zr2 (by repeat (first | (with_reducible first | exact HB.out | apply zq7 | apply zq8 | apply zq9) | exact HB.out))))
       replace HB := mk_ (zr3 (by repeat (first | (with_reducible first | exact HB.out | apply zq7 | apply zq8 | apply zq9) | exact HB.out)) hb)
       clear hb ho29
       refine hK.out _ _ trivial (fun hHeld => ?_)
       clear hK K
       refine norm_ (a' := ?_) ?_ ?_
       rotate_left
       · show Act.put _ (some 32) _ = _
         simp only [Act.put, zs1, zs2, zs3, i64_w, i32_w]
         rfl
       refine one_ (i := 4) (N := some 36) (bm 11 511) rfl rfl (one_of HT_.out (by kernel_rfl)) (by decide) (fun K hK => ?_)
       refine Kd.N_append_rows_step k39 (w0 := w) w.heap.size (by rfl) (.tmp 32) (.tmp 35) 23 39 (.agg #[(.int .i64 0), (.int .i64 0), (.slice none 0 0)]) 40 rfl Try.underlying23 info39 rfl (by decide) (by omega) v276 y275 y278 _ _ _ (fun _ => True) (fun k_ => ((fun _ => True)) k_ ∧ some k_ ≠ (v276 : Value).ownBlock) rfl rfl ?aO ?aR (fun _ hk => hk) ?aF ?aB ?aS ?aL ?_
       (case aR => exact (by skip; exact Kd.V_F (Kd.V_mono (ok' := (fun k_ => ((fun _ => True)) k_ ∧ some k_ ≠ (v276 : Value).ownBlock)) (HO282.out) (fun k_ hk => ⟨trivial, hk.2⟩))))
       (case aB => exact (by repeat (first | (with_reducible first | exact HB.out | apply zq7 | apply zq8 | apply zq9) | exact HB.out)))
       (case aF => exact (fun _ _ => trivial))
       (case aO => exact (by (with_reducible repeat (first | apply Kd.N_alloc | apply Kd.N_drewN | apply Kd.N_drew)); exact HO277.out))
       (case aS => exact (zr2 (by repeat (first | (with_reducible first | exact HB.out | apply zq7 | apply zq8 | apply zq9) | exact HB.out))))
       (case aL => have := LMc18.out; omega)
       intro v284 w30 ho hb hg hat
       rw [← Ny283.out] at ho
       have n0_ := mk_ (Kd.V_afterv (ok := (fun _ => True)) (by (with_reducible repeat (first | apply Kd.V_alloc | apply Kd.V_drewN | apply Kd.V_drew)); exact HO_5.out) hg hat)
       have n1_ := mk_ (Kd.V_afterv (ok := (fun _ => True)) (by (with_reducible repeat (first | apply Kd.V_alloc | apply Kd.V_drewN | apply Kd.V_drew)); exact HO282.out) hg hat)
       have n2_ := mk_ (Kd.V_afterv (ok := (fun _ => True)) (by (with_reducible repeat (first | apply Kd.V_alloc | apply Kd.V_drewN | apply Kd.V_drew)); exact HO290.out) hg hat)
       have n3_ := mk_ (hb)
       have n4_ := mk_ (ho)
       clear HO_5
       clear HO282
       clear HO290
       clear HB
       clear HO277
       have HO_5 := n0_
       have HO282 := n1_
       have HO290 := n2_
       have HB := n3_
       have HO285 := n4_
       clear n0_ n1_ n2_ n3_ n4_
       clear ho hb hg hat
       refine hK.out _ _ trivial (fun hHeld => ?_)
       clear hK K
       refine norm_ (a' := ?_) ?_ ?_
       rotate_left
       · show Act.put _ (some 36) _ = _
         simp only [Act.put, zs1, zs2, zs3, i64_w, i32_w]
         rfl
       refine one_ (i := 9) (N := some 41) (bm 11 1023) rfl rfl (one_of HT_.out (by kernel_rfl)) (by decide) (fun K hK => ?_)
       refine Kd.N_append_rows_step k39 (w0 := w) w.heap.size (by rfl) (.tmp 36) (.tmp 40) 23 39 (.agg #[(.int .i64 0), (.int .i64 0), (.slice none 0 0)]) 40 rfl Try.underlying23 info39 rfl (by decide) (by omega) v284 y283 y286 _ _ _ (fun _ => True) (fun k_ => ((fun _ => True)) k_ ∧ some k_ ≠ (v284 : Value).ownBlock) rfl rfl ?aO ?aR (fun _ hk => hk) ?aF ?aB ?aS ?aL ?_
       (case aR => exact (by skip; exact Kd.V_F (Kd.V_mono (ok' := (fun k_ => ((fun _ => True)) k_ ∧ some k_ ≠ (v284 : Value).ownBlock)) (HO290.out) (fun k_ hk => ⟨trivial, hk.2⟩))))
       (case aB => exact (by repeat (first | (with_reducible first | exact HB.out | apply zq7 | apply zq8 | apply zq9) | exact HB.out)))
       (case aF => exact (fun _ _ => trivial))
       (case aO => exact (by (with_reducible repeat (first | apply Kd.N_alloc | apply Kd.N_drewN | apply Kd.N_drew)); exact HO285.out))
       (case aS => exact (zr2 (by repeat (first | (with_reducible first | exact HB.out | apply zq7 | apply zq8 | apply zq9) | exact HB.out))))
       (case aL => have := LMc22.out; omega)
       intro v292 w31 ho hb hg hat
       rw [← Ny291.out] at ho
       have n0_ := mk_ (Kd.V_afterv (ok := (fun _ => True)) (by (with_reducible repeat (first | apply Kd.V_alloc | apply Kd.V_drewN | apply Kd.V_drew)); exact HO_5.out) hg hat)
       have n1_ := mk_ (Kd.V_afterv (ok := (fun _ => True)) (by (with_reducible repeat (first | apply Kd.V_alloc | apply Kd.V_drewN | apply Kd.V_drew)); exact HO282.out) hg hat)
       have n2_ := mk_ (Kd.V_afterv (ok := (fun _ => True)) (by (with_reducible repeat (first | apply Kd.V_alloc | apply Kd.V_drewN | apply Kd.V_drew)); exact HO290.out) hg hat)
       have n3_ := mk_ (hb)
       have n4_ := mk_ (ho)
       clear HO_5
       clear HO282
       clear HO290
       clear HB
       clear HO285
       have HO_5 := n0_
       have HO282 := n1_
       have HO290 := n2_
       have HB := n3_
       have HO293 := n4_
       clear n0_ n1_ n2_ n3_ n4_
       clear ho hb hg hat
       refine hK.out _ _ trivial (fun hHeld => ?_)
       clear hK K
       refine norm_ (a' := ?_) ?_ ?_
       rotate_left
       · show Act.put _ (some 41) _ = _
         simp only [Act.put, zs1, zs2, zs3, i64_w, i32_w]
         rfl
       refine pA 10 (some 7) (bm 11 2047) rfl rfl HT_.out (by kernel_rfl) (fun _ _ _ h => h) (by rfl) (by intro w'; go_simp; with_reducible rfl) (by simp only [Act.put, zs1, zs2, zs3, i64_w, i32_w]; rfl) ?_
       refine done_ (done_of HT_.out (by kernel_rfl)) ?_
       obtain ⟨Ao32, co32, eo32⟩ := Kd.N_slice HO293.out
       subst eo32
       try go_wp2_with (first | ((with_reducible refine gate_callee (f := 30) rfl ?_); refine goesL_ (some 43) rfl rfl Try.func30 (by kernel_rfl) rfl #[.slice Ao32 y291.length co32] rfl (by (try simp only [List.map_toArray, List.map_cons, List.map_nil]); first | done | rfl | (simp only [List.length_drop, List.length_take]; rfl)) ?_; (with_reducible refine (laws_liFeed.calls k1 _ _ y291 t294 _ ?side1 ?side2 A23.out).mono ?_); (case side1 => repeat (first | exact (Kd.N_reads' HO293.out).2.2 | (with_reducible refine Kd.C_alloc ?_ _) | (with_reducible refine Kd.C_drewN ?_ _) | (with_reducible refine Kd.C_drew ?_))); (case side2 => exact (Kd.N_reads' HO293.out).2.1); rintro e w33 ⟨v295, rfl, ho0, hb⟩; refine ⟨_, rfl, ?_⟩; replace HO_5 := mk_ (Kd.V_elder' (by (with_reducible repeat (first | apply Kd.V_alloc | apply Kd.V_drewN | apply Kd.V_drew)); exact HO_5.out) (by first | exact Kd.N_base ho0 | exact Kd.S_base ho0) hb); replace HO282 := mk_ (Kd.V_elder' (by (with_reducible repeat (first | apply Kd.V_alloc | apply Kd.V_drewN | apply Kd.V_drew)); exact HO282.out) (by first | exact Kd.N_base ho0 | exact Kd.S_base ho0) hb); replace HO290 := mk_ (Kd.V_elder' (by (with_reducible repeat (first | apply Kd.V_alloc | apply Kd.V_drewN | apply Kd.V_drew)); exact HO290.out) (by first | exact Kd.N_base ho0 | exact Kd.S_base ho0) hb); have HO296 := mk_ (Kd.N_lower (Kd.N_mono (ok' := fun k_ => some k_ ≠ (.slice Ao32 y291.length co32 : Value).ownBlock) ho0 (fun k_ hk_ => (Kd.fresh' (Kd.N_lt (by (with_reducible repeat (first | apply Kd.N_alloc | apply Kd.N_drewN | apply Kd.N_drew)); exact HO293.out)) k_ hk_))) (zr2 (by repeat (first | (with_reducible first | exact HB.out | apply zq7 | apply zq8 | apply zq9) | exact HB.out)))); replace HO293 := mk_ (Kd.N_elder' (by (with_reducible repeat (first | apply Kd.N_alloc | apply Kd.N_drewN | apply Kd.N_drew)); exact HO293.out) (by first | exact Kd.N_base ho0 | exact Kd.S_base ho0) hb); replace HB := mk_ (zr3 (by repeat (first | (with_reducible first | exact HB.out | apply zq7 | apply zq8 | apply zq9) | exact HB.out)) hb); (try clear hb); (try clear hb2); (try clear hk); (try clear hi); (try clear ho0); obtain ⟨Ao34, co34, eo34⟩ := Kd.N_slice HO296.out; subst eo34))
       go_ret
       exact ⟨by first | rfl | (simp [errW_none, errW_some] <;> rfl) | (simp only [← hji19]; first | rfl | (simp [errW_none, errW_some] <;> rfl)) | (simp [*, errW_none, errW_some] <;> rfl), by repeat (first | (with_reducible first | exact HB.out | apply zq7 | apply zq8 | apply zq9) | exact HB.out)⟩
     rw [if_neg c24] at H
     have c24b0 : decide (0 < (t294.length : Int)) = false := decide_eq_false c24
     have c24b1 : decide (0 < t294.length) = false := decide_eq_false (by omega)
     clear c24
     obtain ⟨y297, hy297⟩ : ∃ y_ : List (S39), y_ = (([] : List (S39))) := ⟨_, rfl⟩
     replace H : ((some (t267.take ((ji19) : Int).toNat : List (S39))).bind fun y300 => (if y297.length + y300.length < 3518437208883 then ((some (y297 ++ y300 : List (S39))).bind fun y305 => ((some (t267.drop (x6_1 : Int).toNat : List (S39))).bind fun y308 => (if y305.length + y308.length < 3518437208883 then ((some (y305 ++ y308 : List (S39))).bind fun y313 => (if ((rd_T39 t267 x6_1).f0) = 1 then ((laws_liFeed.f k1 y313).bind fun t317 => (if (t317.length : Int) > 0 then (some false) else (laws_FnSegLost.l0 k1 t267 ji19))) else (if ((rd_T39 t267 x6_1).f0) = 2 then ((laws_liFeed.f k1 y313).bind fun t321 => (if (t321.length : Int) > 0 then (some false) else (laws_FnSegLost.l0 k1 t267 ji19))) else (laws_FnSegLost.l0 k1 t267 ji19)))) else (none)))) else (none))) = some r := by first | (rw [hy297]; with_reducible exact H) | (have H2_ := (Option.bind_some _ _).symm.trans H; rw [hy297]; with_reducible exact H2_) | (have H2_ := (Option.bind_some _ _).symm.trans H; with_reducible exact H2_) | with_reducible exact H | (rw [hy297]; exact H) | exact H
     have Ny297 := mk_ hy297
     clear hy297
     have c35b0 := eq_true (of_decide_eq_true (by first | (with_reducible assumption) | assumption) : 0 ≤ (ji19))
     have c36b0 := eq_true (of_decide_eq_true (by first | (with_reducible assumption) | assumption) : (ji19) ≤ (t267.length : Int))
     obtain ⟨y300, hy300⟩ : ∃ y_ : List (S39), y_ = (t267.take ((ji19) : Int).toNat) := ⟨_, rfl⟩
     replace H : (if y297.length + y300.length < 3518437208883 then ((some (y297 ++ y300 : List (S39))).bind fun y305 => ((some (t267.drop (x6_1 : Int).toNat : List (S39))).bind fun y308 => (if y305.length + y308.length < 3518437208883 then ((some (y305 ++ y308 : List (S39))).bind fun y313 => (if ((rd_T39 t267 x6_1).f0) = 1 then ((laws_liFeed.f k1 y313).bind fun t317 => (if (t317.length : Int) > 0 then (some false) else (laws_FnSegLost.l0 k1 t267 ji19))) else (if ((rd_T39 t267 x6_1).f0) = 2 then ((laws_liFeed.f k1 y313).bind fun t321 => (if (t321.length : Int) > 0 then (some false) else (laws_FnSegLost.l0 k1 t267 ji19))) else (laws_FnSegLost.l0 k1 t267 ji19)))) else (none)))) else (none)) = some r := by first | (rw [hy300]; with_reducible exact H) | (have H2_ := (Option.bind_some _ _).symm.trans H; rw [hy300]; with_reducible exact H2_) | (have H2_ := (Option.bind_some _ _).symm.trans H; with_reducible exact H2_) | with_reducible exact H | (rw [hy300]; exact H) | exact H
     have Ny300 := mk_ hy300
     clear hy300
     by_cases c37 : y297.length + y300.length < 3518437208883
     rotate_left
     · rw [if_neg c37] at H
       exact absurd H (by simp)
     rw [if_pos c37] at H
     have LMc37 := mk_ c37
     clear c37
     obtain ⟨y305, hy305⟩ : ∃ y_ : List (S39), y_ = (y297 ++ y300) := ⟨_, rfl⟩
     replace H : ((some (t267.drop (x6_1 : Int).toNat : List (S39))).bind fun y308 => (if y305.length + y308.length < 3518437208883 then ((some (y305 ++ y308 : List (S39))).bind fun y313 => (if ((rd_T39 t267 x6_1).f0) = 1 then ((laws_liFeed.f k1 y313).bind fun t317 => (if (t317.length : Int) > 0 then (some false) else (laws_FnSegLost.l0 k1 t267 ji19))) else (if ((rd_T39 t267 x6_1).f0) = 2 then ((laws_liFeed.f k1 y313).bind fun t321 => (if (t321.length : Int) > 0 then (some false) else (laws_FnSegLost.l0 k1 t267 ji19))) else (laws_FnSegLost.l0 k1 t267 ji19)))) else (none))) = some r := by first | (rw [hy305]; with_reducible exact H) | (have H2_ := (Option.bind_some _ _).symm.trans H; rw [hy305]; with_reducible exact H2_) | (have H2_ := (Option.bind_some _ _).symm.trans H; with_reducible exact H2_) | with_reducible exact H | (rw [hy305]; exact H) | exact H
     have Ny305 := mk_ hy305
     clear hy305
     have c38b0 := eq_true (of_decide_eq_true (by first | (with_reducible assumption) | assumption) : 0 ≤ x6_1)
     have c39b0 := eq_true (of_decide_eq_true (by first | (with_reducible assumption) | assumption) : x6_1 ≤ (t267.length : Int))
     obtain ⟨y308, hy308⟩ : ∃ y_ : List (S39), y_ = (t267.drop (x6_1 : Int).toNat) := ⟨_, rfl⟩
     replace H : (if y305.length + y308.length < 3518437208883 then ((some (y305 ++ y308 : List (S39))).bind fun y313 => (if ((rd_T39 t267 x6_1).f0) = 1 then ((laws_liFeed.f k1 y313).bind fun t317 => (if (t317.length : Int) > 0 then (some false) else (laws_FnSegLost.l0 k1 t267 ji19))) else (if ((rd_T39 t267 x6_1).f0) = 2 then ((laws_liFeed.f k1 y313).bind fun t321 => (if (t321.length : Int) > 0 then (some false) else (laws_FnSegLost.l0 k1 t267 ji19))) else (laws_FnSegLost.l0 k1 t267 ji19)))) else (none)) = some r := by first | (rw [hy308]; with_reducible exact H) | (have H2_ := (Option.bind_some _ _).symm.trans H; rw [hy308]; with_reducible exact H2_) | (have H2_ := (Option.bind_some _ _).symm.trans H; with_reducible exact H2_) | with_reducible exact H | (rw [hy308]; exact H) | exact H
     have Ny308 := mk_ hy308
     clear hy308
     by_cases c40 : y305.length + y308.length < 3518437208883
     rotate_left
     · rw [if_neg c40] at H
       exact absurd H (by simp)
     rw [if_pos c40] at H
     have LMc40 := mk_ c40
     clear c40
     obtain ⟨y313, hy313⟩ : ∃ y_ : List (S39), y_ = (y305 ++ y308) := ⟨_, rfl⟩
     replace H : (if ((rd_T39 t267 x6_1).f0) = 1 then ((laws_liFeed.f k1 y313).bind fun t317 => (if (t317.length : Int) > 0 then (some false) else (laws_FnSegLost.l0 k1 t267 ji19))) else (if ((rd_T39 t267 x6_1).f0) = 2 then ((laws_liFeed.f k1 y313).bind fun t321 => (if (t321.length : Int) > 0 then (some false) else (laws_FnSegLost.l0 k1 t267 ji19))) else (laws_FnSegLost.l0 k1 t267 ji19))) = some r := by first | (rw [hy313]; with_reducible exact H) | (have H2_ := (Option.bind_some _ _).symm.trans H; rw [hy313]; with_reducible exact H2_) | (have H2_ := (Option.bind_some _ _).symm.trans H; with_reducible exact H2_) | with_reducible exact H | (rw [hy313]; exact H) | exact H
     have Ny313 := mk_ hy313
     clear hy313
     by_cases c41 : ((rd_T39 t267 x6_1).f0) = 1
     · rw [if_pos c41] at H
       have c41b0 : (((rd_T39 t267 x6_1).f0) == 1) = true := beq_iff_eq.mpr c41
       have c41b1 : (((rd_T39 t267 x6_1).f0) != 1) = false := bne_eq_false_iff_eq.mpr c41
       clear c41
       replace H := Option.bind_eq_some_iff.mp H
       obtain ⟨t317, A420, H⟩ := H
       try dsimp only at H
       have A42 := mk_ A420
       clear A420
       by_cases c43 : (t317.length : Int) > 0
       · rw [if_pos c43] at H
         have c43b0 : decide (0 < (t317.length : Int)) = true := decide_eq_true c43
         have c43b1 : decide (0 < t317.length) = true := decide_eq_true (by omega)
         clear c43
         obtain rfl := Option.some.inj H
         try go_wp2
         replace HO_5 := mk_ (Kd.V_drew HO_5.out)
         replace HB := mk_ (zq9 HB.out)
         have q45 : (x6_1 : Int) ≤ ((t267.length : Int) : Int) := of_decide_eq_true (by first | (with_reducible assumption) | assumption)
         obtain ⟨i045, hi045, _, hsz45, _⟩ := info_parts info39
         have hroom45 : t267.length ≤ co12 := (Kd.V_reads' HO_5.out).2.1
         have hC45 : Kd.F k39 _ _ Ao12 t267.length t267 := (Kd.V_at (base := w.heap.size) HO_5.out).2.2
         have hcut45 := cut_to (P := Try.prog) 23 39 .i64 Try.underlying23 hi045 Ao12 t267.length co12 x6_1 (of_decide_eq_true (by first | (with_reducible assumption) | assumption)) q45 hroom45
         have hr45 := Kd.F_take (m := (x6_1 : Int).toNat) hC45 (by omega)
         have hy45 : y278.length = (x6_1 : Int).toNat := (by rw [Ny278.out, List.length_take]; omega)
         rw [← Ny278.out] at hr45
         rw [← hy45] at hcut45
         have HO282 := mk_ (show Kd.V k39 39 _ w.heap.size _ (.slice Ao12 y278.length co12) y278 from Kd.V_mk (by omega) hr45)
         have HC282 := mk_ (show y278.length ≤ co12 from by omega)
         clear hr45 hC45 hroom45 hi045 hsz45
         have KY45 := mk_ hy45
         clear hy45
         replace q45 := eq_true q45
         have q46 : ((ji19) : Int) ≤ ((t267.length : Int) : Int) := of_decide_eq_true (by first | (with_reducible assumption) | assumption)
         obtain ⟨i046, hi046, _, hsz46, _⟩ := info_parts info39
         have hroom46 : t267.length ≤ co12 := (Kd.V_reads' HO_5.out).2.1
         have hC46 : Kd.F k39 _ _ Ao12 t267.length t267 := (Kd.V_at (base := w.heap.size) HO_5.out).2.2
         have q046 : (0 : Int) ≤ ((ji19) : Int) := of_decide_eq_true (by first | (with_reducible assumption) | assumption)
         have hcut46 := cut_from (P := Try.prog) 23 39 .i64 Try.underlying23 hi046 3 hsz46 Ao12 t267.length co12 (ji19) q046 q46
         have hr46 := Kd.F_cut (m := ((ji19) : Int).toNat) (c := co12) hC46 (by omega) hroom46
         obtain ⟨A46, hA46⟩ : ∃ A1, A1 = (if co12 = ((ji19) : Int).toNat then Ao12 else (Ao12 : Option Addr).map (·.add (((ji19) : Int).toNat * 3))) := ⟨_, rfl⟩
         obtain ⟨c46, hc46⟩ : ∃ c1, c1 = co12 - ((ji19) : Int).toNat := ⟨_, rfl⟩
         have hy46 : y286.length = t267.length - ((ji19) : Int).toNat := (by rw [Ny286.out, List.length_drop] <;> omega)
         rw [show (t267).drop ((ji19) : Int).toNat = y286 from Ny286.out.symm] at hr46
         replace hr46 : Kd.F k39 _ _ A46 y286.length y286 := (by rw [hA46]; exact hr46)
         rw [← hy46, ← hA46, ← hc46] at hcut46
         have HO290 := mk_ (show Kd.V k39 39 _ w.heap.size _ (.slice A46 y286.length c46) y286 from Kd.V_mk (by rw [hy46, hc46]; exact Nat.sub_le_sub_right hroom46 _) hr46)
         have HC290 := mk_ (show y286.length ≤ c46 from by rw [hy46, hc46]; exact Nat.sub_le_sub_right hroom46 _)
         clear hr46 hC46 hroom46 hi046 hsz46 hc46
         have KY46 := mk_ hy46
         have KA46 := mk_ hA46
         clear hy46 hA46
         replace q46 := eq_true q46
         refine start_ (n := 11) (S := fun w' => True) (ds := []) (bm 11 0) (by kernel_rfl) rfl rfl trivial (fun hHeld => ?_); refine with_tabW laws_FnSegLost.tab10 laws_FnSegLost.bits10 (fun HT_ HW_ => ?_)
         generalize wr.drew = w44 at HO_5 HB HO282 HO290 hHeld ⊢
         refine pA 1 (some 33) (bm 11 2) rfl rfl HT_.out (by kernel_rfl) (fun _ _ _ h => h) (by rfl) (by intro w'; go_simp; with_reducible rfl) (by simp only [Act.put, zs1, zs2, zs3, i64_w, i32_w]; rfl) ?_
         refine pA 2 (some 34) (bm 11 6) rfl rfl HT_.out (by kernel_rfl) (fun _ _ _ h => h) (by rfl) (by intro w'; go_simp; with_reducible rfl) (by simp only [Act.put, zs1, zs2, zs3, i64_w, i32_w]; rfl) ?_
         refine pA 3 (some 35) (bm 11 14) rfl rfl HT_.out (by kernel_rfl) (fun _ _ _ h => h) (by rfl) (by intro w'; go_simp; with_reducible rfl) (by simp only [Act.put, zs1, zs2, zs3, i64_w, i32_w]; rfl) ?_
         refine pA 5 (some 37) (bm 11 46) rfl rfl HT_.out (by kernel_rfl) (fun _ _ _ h => h) (by rfl) (by intro w'; go_simp; with_reducible rfl) (by simp only [Act.put, zs1, zs2, zs3, i64_w, i32_w]; rfl) ?_
         refine pA 6 (some 38) (bm 11 110) rfl rfl HT_.out (by kernel_rfl) (fun _ _ _ h => h) (by rfl) (by intro w'; go_simp; with_reducible rfl) (by simp only [Act.put, zs1, zs2, zs3, i64_w, i32_w]; rfl) ?_
         refine pA 7 (some 39) (bm 11 238) rfl rfl HT_.out (by kernel_rfl) (fun _ _ _ h => h) (by rfl) (by intro w'; go_simp; with_reducible rfl) (by simp only [Act.put, zs1, zs2, zs3, i64_w, i32_w]; rfl) ?_
         refine pA 8 (some 40) (bm 11 494) rfl rfl HT_.out (by kernel_rfl) (fun _ _ _ h => h) (by rfl) (by intro w'; go_simp; with_reducible rfl) (by simp only [Act.put, zs1, zs2, zs3, i64_w, i32_w]; rfl) ?_
         refine one_ (i := 0) (N := some 32) (bm 11 495) rfl rfl (one_of HT_.out (by kernel_rfl)) (by decide) (fun K hK => ?_)
         refine Kd.N_lit_step k39 _ 39 ?hg (N' := 32) ?hd (xs := ([] : List (S39))) (inner := []) (ok := (fun _ => True)) (okp := (fun _ => True)) ?hr ?hp (fun _ hk => hk) ((show ∀ k_, w44.heap.size ≤ k_ → (fun _ => True) k_ from fun k_ hk => trivial) _ (Nat.le_refl _)) (Below.refl _ _) (Nat.le_refl _) (by simp) ?_; (case hd => rfl); (case hg => rfl); (case hr => first | (go_simp; done) | (go_simp; rfl)); (case hp => exact (Reps.none _ _))
         intro v276 w47 ho48 hb hg_ hnew_
         clear hg_ hnew_
         (first | rw [← Ny275.out] at ho48 | (simp only [Int.reduceToNat] at ho48; rw [← Ny275.out] at ho48))
         replace HO_5 := mk_ (Kd.V_elder' (by (with_reducible repeat (first | apply Kd.V_alloc | apply Kd.V_drewN | apply Kd.V_drew)); exact HO_5.out) (Kd.N_base ho48) hb)
         replace HO282 := mk_ (Kd.V_elder' (by (with_reducible repeat (first | apply Kd.V_alloc | apply Kd.V_drewN | apply Kd.V_drew)); exact HO282.out) (Kd.N_base ho48) hb)
         replace HO290 := mk_ (Kd.V_elder' (by (with_reducible repeat (first | apply Kd.V_alloc | apply Kd.V_drewN | apply Kd.V_drew)); exact HO290.out) (Kd.N_base ho48) hb)
         have HO277 := mk_ (Kd.N_lower ho48 (zr2 (by repeat (first | (with_reducible first | exact HB.out | apply zq7 | apply zq8 | apply zq9) | exact HB.out))))
         replace HB := mk_ (zr3 (by repeat (first | (with_reducible first | exact HB.out | apply zq7 | apply zq8 | apply zq9) | exact HB.out)) hb)
         clear hb ho48
         refine hK.out _ _ trivial (fun hHeld => ?_)
         clear hK K
         refine norm_ (a' := ?_) ?_ ?_
         rotate_left
         · show Act.put _ (some 32) _ = _
           simp only [Act.put, zs1, zs2, zs3, i64_w, i32_w]
           rfl
         refine one_ (i := 4) (N := some 36) (bm 11 511) rfl rfl (one_of HT_.out (by kernel_rfl)) (by decide) (fun K hK => ?_)
         refine Kd.N_append_rows_step k39 (w0 := w) w.heap.size (by rfl) (.tmp 32) (.tmp 35) 23 39 (.agg #[(.int .i64 0), (.int .i64 0), (.slice none 0 0)]) 40 rfl Try.underlying23 info39 rfl (by decide) (by omega) v276 y275 y278 _ _ _ (fun _ => True) (fun k_ => ((fun _ => True)) k_ ∧ some k_ ≠ (v276 : Value).ownBlock) rfl rfl ?aO ?aR (fun _ hk => hk) ?aF ?aB ?aS ?aL ?_
         (case aR => exact (by skip; exact Kd.V_F (Kd.V_mono (ok' := (fun k_ => ((fun _ => True)) k_ ∧ some k_ ≠ (v276 : Value).ownBlock)) (HO282.out) (fun k_ hk => ⟨trivial, hk.2⟩))))
         (case aB => exact (by repeat (first | (with_reducible first | exact HB.out | apply zq7 | apply zq8 | apply zq9) | exact HB.out)))
         (case aF => exact (fun _ _ => trivial))
         (case aO => exact (by (with_reducible repeat (first | apply Kd.N_alloc | apply Kd.N_drewN | apply Kd.N_drew)); exact HO277.out))
         (case aS => exact (zr2 (by repeat (first | (with_reducible first | exact HB.out | apply zq7 | apply zq8 | apply zq9) | exact HB.out))))
         (case aL => have := LMc18.out; omega)
         intro v284 w49 ho hb hg hat
         rw [← Ny283.out] at ho
         have n0_ := mk_ (Kd.V_afterv (ok := (fun _ => True)) (by (with_reducible repeat (first | apply Kd.V_alloc | apply Kd.V_drewN | apply Kd.V_drew)); exact HO_5.out) hg hat)
         have n1_ := mk_ (Kd.V_afterv (ok := (fun _ => True)) (by (with_reducible repeat (first | apply Kd.V_alloc | apply Kd.V_drewN | apply Kd.V_drew)); exact HO282.out) hg hat)
         have n2_ := mk_ (Kd.V_afterv (ok := (fun _ => True)) (by (with_reducible repeat (first | apply Kd.V_alloc | apply Kd.V_drewN | apply Kd.V_drew)); exact HO290.out) hg hat)
         have n3_ := mk_ (hb)
         have n4_ := mk_ (ho)
         clear HO_5
         clear HO282
         clear HO290
         clear HB
         clear HO277
         have HO_5 := n0_
         have HO282 := n1_
         have HO290 := n2_
         have HB := n3_
         have HO285 := n4_
         clear n0_ n1_ n2_ n3_ n4_
         clear ho hb hg hat
         refine hK.out _ _ trivial (fun hHeld => ?_)
         clear hK K
         refine norm_ (a' := ?_) ?_ ?_
         rotate_left
         · show Act.put _ (some 36) _ = _
           simp only [Act.put, zs1, zs2, zs3, i64_w, i32_w]
           rfl
         refine one_ (i := 9) (N := some 41) (bm 11 1023) rfl rfl (one_of HT_.out (by kernel_rfl)) (by decide) (fun K hK => ?_)
         refine Kd.N_append_rows_step k39 (w0 := w) w.heap.size (by rfl) (.tmp 36) (.tmp 40) 23 39 (.agg #[(.int .i64 0), (.int .i64 0), (.slice none 0 0)]) 40 rfl Try.underlying23 info39 rfl (by decide) (by omega) v284 y283 y286 _ _ _ (fun _ => True) (fun k_ => ((fun _ => True)) k_ ∧ some k_ ≠ (v284 : Value).ownBlock) rfl rfl ?aO ?aR (fun _ hk => hk) ?aF ?aB ?aS ?aL ?_
         (case aR => exact (by skip; exact Kd.V_F (Kd.V_mono (ok' := (fun k_ => ((fun _ => True)) k_ ∧ some k_ ≠ (v284 : Value).ownBlock)) (HO290.out) (fun k_ hk => ⟨trivial, hk.2⟩))))
         (case aB => exact (by repeat (first | (with_reducible first | exact HB.out | apply zq7 | apply zq8 | apply zq9) | exact HB.out)))
         (case aF => exact (fun _ _ => trivial))
         (case aO => exact (by (with_reducible repeat (first | apply Kd.N_alloc | apply Kd.N_drewN | apply Kd.N_drew)); exact HO285.out))
         (case aS => exact (zr2 (by repeat (first | (with_reducible first | exact HB.out | apply zq7 | apply zq8 | apply zq9) | exact HB.out))))
         (case aL => have := LMc22.out; omega)
         intro v292 w50 ho hb hg hat
         rw [← Ny291.out] at ho
         have n0_ := mk_ (Kd.V_afterv (ok := (fun _ => True)) (by (with_reducible repeat (first | apply Kd.V_alloc | apply Kd.V_drewN | apply Kd.V_drew)); exact HO_5.out) hg hat)
         have n1_ := mk_ (Kd.V_afterv (ok := (fun _ => True)) (by (with_reducible repeat (first | apply Kd.V_alloc | apply Kd.V_drewN | apply Kd.V_drew)); exact HO282.out) hg hat)
         have n2_ := mk_ (Kd.V_afterv (ok := (fun _ => True)) (by (with_reducible repeat (first | apply Kd.V_alloc | apply Kd.V_drewN | apply Kd.V_drew)); exact HO290.out) hg hat)
         have n3_ := mk_ (hb)
         have n4_ := mk_ (ho)
         clear HO_5
         clear HO282
         clear HO290
         clear HB
         clear HO285
         have HO_5 := n0_
         have HO282 := n1_
         have HO290 := n2_
         have HB := n3_
         have HO293 := n4_
         clear n0_ n1_ n2_ n3_ n4_
         clear ho hb hg hat
         refine hK.out _ _ trivial (fun hHeld => ?_)
         clear hK K
         refine norm_ (a' := ?_) ?_ ?_
         rotate_left
         · show Act.put _ (some 41) _ = _
           simp only [Act.put, zs1, zs2, zs3, i64_w, i32_w]
           rfl
         refine pA 10 (some 7) (bm 11 2047) rfl rfl HT_.out (by kernel_rfl) (fun _ _ _ h => h) (by rfl) (by intro w'; go_simp; with_reducible rfl) (by simp only [Act.put, zs1, zs2, zs3, i64_w, i32_w]; rfl) ?_
         refine done_ (done_of HT_.out (by kernel_rfl)) ?_
         obtain ⟨Ao51, co51, eo51⟩ := Kd.N_slice HO293.out
         subst eo51
         try go_wp2_with (first | ((with_reducible refine gate_callee (f := 30) rfl ?_); refine goesL_ (some 43) rfl rfl Try.func30 (by kernel_rfl) rfl #[.slice Ao51 y291.length co51] rfl (by (try simp only [List.map_toArray, List.map_cons, List.map_nil]); first | done | rfl | (simp only [List.length_drop, List.length_take]; rfl)) ?_; (with_reducible refine (laws_liFeed.calls k1 _ _ y291 t294 _ ?side1 ?side2 A23.out).mono ?_); (case side1 => repeat (first | exact (Kd.N_reads' HO293.out).2.2 | (with_reducible refine Kd.C_alloc ?_ _) | (with_reducible refine Kd.C_drewN ?_ _) | (with_reducible refine Kd.C_drew ?_))); (case side2 => exact (Kd.N_reads' HO293.out).2.1); rintro e w52 ⟨v295, rfl, ho0, hb⟩; refine ⟨_, rfl, ?_⟩; replace HO_5 := mk_ (Kd.V_elder' (by (with_reducible repeat (first | apply Kd.V_alloc | apply Kd.V_drewN | apply Kd.V_drew)); exact HO_5.out) (by first | exact Kd.N_base ho0 | exact Kd.S_base ho0) hb); replace HO282 := mk_ (Kd.V_elder' (by (with_reducible repeat (first | apply Kd.V_alloc | apply Kd.V_drewN | apply Kd.V_drew)); exact HO282.out) (by first | exact Kd.N_base ho0 | exact Kd.S_base ho0) hb); replace HO290 := mk_ (Kd.V_elder' (by (with_reducible repeat (first | apply Kd.V_alloc | apply Kd.V_drewN | apply Kd.V_drew)); exact HO290.out) (by first | exact Kd.N_base ho0 | exact Kd.S_base ho0) hb); have HO296 := mk_ (Kd.N_lower (Kd.N_mono (ok' := fun k_ => some k_ ≠ (.slice Ao51 y291.length co51 : Value).ownBlock) ho0 (fun k_ hk_ => (Kd.fresh' (Kd.N_lt (by (with_reducible repeat (first | apply Kd.N_alloc | apply Kd.N_drewN | apply Kd.N_drew)); exact HO293.out)) k_ hk_))) (zr2 (by repeat (first | (with_reducible first | exact HB.out | apply zq7 | apply zq8 | apply zq9) | exact HB.out)))); replace HO293 := mk_ (Kd.N_elder' (by (with_reducible repeat (first | apply Kd.N_alloc | apply Kd.N_drewN | apply Kd.N_drew)); exact HO293.out) (by first | exact Kd.N_base ho0 | exact Kd.S_base ho0) hb); replace HB := mk_ (zr3 (by repeat (first | (with_reducible first | exact HB.out | apply zq7 | apply zq8 | apply zq9) | exact HB.out)) hb); (try clear hb); (try clear hb2); (try clear hk); (try clear hi); (try clear ho0); obtain ⟨Ao53, co53, eo53⟩ := Kd.N_slice HO296.out; subst eo53))
         replace HO_5 := mk_ (Kd.V_drew HO_5.out)
         replace HO282 := mk_ (Kd.V_drew HO282.out)
         replace HO290 := mk_ (Kd.V_drew HO290.out)
         replace HO293 := mk_ (Kd.N_drew HO293.out)
         replace HO296 := mk_ (Kd.N_drew HO296.out)
         replace HB := mk_ (zq9 HB.out)
         have q55 : ((ji19) : Int) ≤ ((t267.length : Int) : Int) := of_decide_eq_true (by first | (with_reducible assumption) | assumption)
         obtain ⟨i055, hi055, _, hsz55, _⟩ := info_parts info39
         have hroom55 : t267.length ≤ co12 := (Kd.V_reads' HO_5.out).2.1
         have hC55 : Kd.F k39 _ _ Ao12 t267.length t267 := (Kd.V_at (base := w.heap.size) HO_5.out).2.2
         have hcut55 := cut_to (P := Try.prog) 23 39 .i64 Try.underlying23 hi055 Ao12 t267.length co12 (ji19) (of_decide_eq_true (by first | (with_reducible assumption) | assumption)) q55 hroom55
         have hr55 := Kd.F_take (m := ((ji19) : Int).toNat) hC55 (by omega)
         have hy55 : y300.length = ((ji19) : Int).toNat := (by rw [Ny300.out, List.length_take]; omega)
         rw [← Ny300.out] at hr55
         rw [← hy55] at hcut55
         have HO304 := mk_ (show Kd.V k39 39 _ w.heap.size _ (.slice Ao12 y300.length co12) y300 from Kd.V_mk (by omega) hr55)
         have HC304 := mk_ (show y300.length ≤ co12 from by omega)
         clear hr55 hC55 hroom55 hi055 hsz55
         have KY55 := mk_ hy55
         clear hy55
         replace q55 := eq_true q55
         have q56 : (x6_1 : Int) ≤ ((t267.length : Int) : Int) := of_decide_eq_true (by first | (with_reducible assumption) | assumption)
         obtain ⟨i056, hi056, _, hsz56, _⟩ := info_parts info39
         have hroom56 : t267.length ≤ co12 := (Kd.V_reads' HO_5.out).2.1
         have hC56 : Kd.F k39 _ _ Ao12 t267.length t267 := (Kd.V_at (base := w.heap.size) HO_5.out).2.2
         have q056 : (0 : Int) ≤ (x6_1 : Int) := of_decide_eq_true (by first | (with_reducible assumption) | assumption)
         have hcut56 := cut_from (P := Try.prog) 23 39 .i64 Try.underlying23 hi056 3 hsz56 Ao12 t267.length co12 x6_1 q056 q56
         have hr56 := Kd.F_cut (m := (x6_1 : Int).toNat) (c := co12) hC56 (by omega) hroom56
         obtain ⟨A56, hA56⟩ : ∃ A1, A1 = (if co12 = (x6_1 : Int).toNat then Ao12 else (Ao12 : Option Addr).map (·.add ((x6_1 : Int).toNat * 3))) := ⟨_, rfl⟩
         obtain ⟨c56, hc56⟩ : ∃ c1, c1 = co12 - (x6_1 : Int).toNat := ⟨_, rfl⟩
         have hy56 : y308.length = t267.length - (x6_1 : Int).toNat := (by rw [Ny308.out, List.length_drop] <;> omega)
         rw [show (t267).drop (x6_1 : Int).toNat = y308 from Ny308.out.symm] at hr56
         replace hr56 : Kd.F k39 _ _ A56 y308.length y308 := (by rw [hA56]; exact hr56)
         rw [← hy56, ← hA56, ← hc56] at hcut56
         have HO312 := mk_ (show Kd.V k39 39 _ w.heap.size _ (.slice A56 y308.length c56) y308 from Kd.V_mk (by rw [hy56, hc56]; exact Nat.sub_le_sub_right hroom56 _) hr56)
         have HC312 := mk_ (show y308.length ≤ c56 from by rw [hy56, hc56]; exact Nat.sub_le_sub_right hroom56 _)
         clear hr56 hC56 hroom56 hi056 hsz56 hc56
         have KY56 := mk_ hy56
         have KA56 := mk_ hA56
         clear hy56 hA56
         replace q56 := eq_true q56
         refine start_ (n := 11) (S := fun w' => True) (ds := []) (bm 11 0) (by kernel_rfl) rfl rfl trivial (fun hHeld => ?_); refine with_tabW laws_FnSegLost.tab13 laws_FnSegLost.bits13 (fun HT_ HW_ => ?_)
         generalize w52.drew = w54 at HO_5 HO282 HO290 HO293 HO296 HB HO304 HO312 hHeld ⊢
         refine pA 1 (some 47) (bm 11 2) rfl rfl HT_.out (by kernel_rfl) (fun _ _ _ h => h) (by rfl) (by intro w'; go_simp; with_reducible rfl) (by simp only [Act.put, zs1, zs2, zs3, i64_w, i32_w]; rfl) ?_
         refine pA 2 (some 48) (bm 11 6) rfl rfl HT_.out (by kernel_rfl) (fun _ _ _ h => h) (by rfl) (by intro w'; go_simp; with_reducible rfl) (by simp only [Act.put, zs1, zs2, zs3, i64_w, i32_w]; rfl) ?_
         refine pA 3 (some 49) (bm 11 14) rfl rfl HT_.out (by kernel_rfl) (fun _ _ _ h => h) (by rfl) (by intro w'; go_simp; with_reducible rfl) (by simp only [Act.put, zs1, zs2, zs3, i64_w, i32_w]; rfl) ?_
         refine pA 4 (some 50) (bm 11 30) rfl rfl HT_.out (by kernel_rfl) (fun _ _ _ h => h) (by rfl) (by intro w'; go_simp; with_reducible rfl) (by simp only [Act.put, zs1, zs2, zs3, i64_w, i32_w]; rfl) ?_
         refine pA 6 (some 52) (bm 11 94) rfl rfl HT_.out (by kernel_rfl) (fun _ _ _ h => h) (by rfl) (by intro w'; go_simp; with_reducible rfl) (by simp only [Act.put, zs1, zs2, zs3, i64_w, i32_w]; rfl) ?_
         refine pA 7 (some 53) (bm 11 222) rfl rfl HT_.out (by kernel_rfl) (fun _ _ _ h => h) (by rfl) (by intro w'; go_simp; with_reducible rfl) (by simp only [Act.put, zs1, zs2, zs3, i64_w, i32_w]; rfl) ?_
         refine pA 8 (some 54) (bm 11 478) rfl rfl HT_.out (by kernel_rfl) (fun _ _ _ h => h) (by rfl) (by intro w'; go_simp; with_reducible rfl) (by simp only [Act.put, zs1, zs2, zs3, i64_w, i32_w]; rfl) ?_
         refine one_ (i := 0) (N := some 46) (bm 11 479) rfl rfl (one_of HT_.out (by kernel_rfl)) (by decide) (fun K hK => ?_)
         refine Kd.N_lit_step k39 _ 39 ?hg (N' := 46) ?hd (xs := ([] : List (S39))) (inner := []) (ok := (fun k_ => some k_ ≠ (.slice Ao51 y291.length co51 : Value).ownBlock ∧ some k_ ≠ (.slice Ao53 t294.length co53 : Value).ownBlock)) (okp := (fun k_ => some k_ ≠ (.slice Ao51 y291.length co51 : Value).ownBlock ∧ some k_ ≠ (.slice Ao53 t294.length co53 : Value).ownBlock)) ?hr ?hp (fun _ hk => hk) ((show ∀ k_, w54.heap.size ≤ k_ → (fun k_ => some k_ ≠ (.slice Ao51 y291.length co51 : Value).ownBlock ∧ some k_ ≠ (.slice Ao53 t294.length co53 : Value).ownBlock) k_ from fun k_ hk => ⟨Kd.fresh' (Kd.N_lt (by (with_reducible repeat (first | apply Kd.N_alloc | apply Kd.N_drewN | apply Kd.N_drew)); exact HO293.out)) k_ hk, Kd.fresh' (Kd.N_lt (by (with_reducible repeat (first | apply Kd.N_alloc | apply Kd.N_drewN | apply Kd.N_drew)); exact HO296.out)) k_ hk⟩) _ (Nat.le_refl _)) (Below.refl _ _) (Nat.le_refl _) (by simp) ?_; (case hd => rfl); (case hg => rfl); (case hr => first | (go_simp; done) | (go_simp; rfl)); (case hp => exact (Reps.none _ _))
         intro v298 w57 ho58 hb hg_ hnew_
         clear hg_ hnew_
         (first | rw [← Ny297.out] at ho58 | (simp only [Int.reduceToNat] at ho58; rw [← Ny297.out] at ho58))
         replace HO_5 := mk_ (Kd.V_elder' (by (with_reducible repeat (first | apply Kd.V_alloc | apply Kd.V_drewN | apply Kd.V_drew)); exact HO_5.out) (Kd.N_base ho58) hb)
         replace HO282 := mk_ (Kd.V_elder' (by (with_reducible repeat (first | apply Kd.V_alloc | apply Kd.V_drewN | apply Kd.V_drew)); exact HO282.out) (Kd.N_base ho58) hb)
         replace HO290 := mk_ (Kd.V_elder' (by (with_reducible repeat (first | apply Kd.V_alloc | apply Kd.V_drewN | apply Kd.V_drew)); exact HO290.out) (Kd.N_base ho58) hb)
         replace HO293 := mk_ (Kd.N_elder' (by (with_reducible repeat (first | apply Kd.N_alloc | apply Kd.N_drewN | apply Kd.N_drew)); exact HO293.out) (Kd.N_base ho58) hb)
         replace HO296 := mk_ (Kd.N_elder' (by (with_reducible repeat (first | apply Kd.N_alloc | apply Kd.N_drewN | apply Kd.N_drew)); exact HO296.out) (Kd.N_base ho58) hb)
         replace HO304 := mk_ (Kd.V_elder' (by (with_reducible repeat (first | apply Kd.V_alloc | apply Kd.V_drewN | apply Kd.V_drew)); exact HO304.out) (Kd.N_base ho58) hb)
         replace HO312 := mk_ (Kd.V_elder' (by (with_reducible repeat (first | apply Kd.V_alloc | apply Kd.V_drewN | apply Kd.V_drew)); exact HO312.out) (Kd.N_base ho58) hb)
         have HO299 := mk_ (Kd.N_lower ho58 (zr2 (by repeat (first | (with_reducible first | exact HB.out | apply zq7 | apply zq8 | apply zq9) | exact HB.out))))
         replace HB := mk_ (zr3 (by repeat (first | (with_reducible first | exact HB.out | apply zq7 | apply zq8 | apply zq9) | exact HB.out)) hb)
         clear hb ho58
         refine hK.out _ _ trivial (fun hHeld => ?_)
         clear hK K
         refine norm_ (a' := ?_) ?_ ?_
         rotate_left
         · show Act.put _ (some 46) _ = _
           simp only [Act.put, zs1, zs2, zs3, i64_w, i32_w]
           rfl
         refine one_ (i := 5) (N := some 51) (bm 11 511) rfl rfl (one_of HT_.out (by kernel_rfl)) (by decide) (fun K hK => ?_)
         refine Kd.N_append_rows_step k39 (w0 := w) w.heap.size (by rfl) (.tmp 46) (.tmp 50) 23 39 (.agg #[(.int .i64 0), (.int .i64 0), (.slice none 0 0)]) 40 rfl Try.underlying23 info39 rfl (by decide) (by omega) v298 y297 y300 _ _ _ (fun k_ => some k_ ≠ (.slice Ao51 y291.length co51 : Value).ownBlock ∧ some k_ ≠ (.slice Ao53 t294.length co53 : Value).ownBlock) (fun k_ => ((fun k_ => some k_ ≠ (.slice Ao51 y291.length co51 : Value).ownBlock ∧ some k_ ≠ (.slice Ao53 t294.length co53 : Value).ownBlock)) k_ ∧ some k_ ≠ (v298 : Value).ownBlock) rfl rfl ?aO ?aR (fun _ hk => hk) ?aF ?aB ?aS ?aL ?_
         (case aR => exact (by skip; exact Kd.V_F (Kd.V_mono (ok' := (fun k_ => ((fun k_ => some k_ ≠ (.slice Ao51 y291.length co51 : Value).ownBlock ∧ some k_ ≠ (.slice Ao53 t294.length co53 : Value).ownBlock)) k_ ∧ some k_ ≠ (v298 : Value).ownBlock)) (HO304.out) (fun k_ hk => ⟨⟨hk.1.1.2, hk.1.2⟩, hk.2⟩))))
         (case aB => exact (by repeat (first | (with_reducible first | exact HB.out | apply zq7 | apply zq8 | apply zq9) | exact HB.out)))
         (case aF => exact (fun k_ hk => ⟨Kd.fresh' (Kd.N_lt (by (with_reducible repeat (first | apply Kd.N_alloc | apply Kd.N_drewN | apply Kd.N_drew)); exact HO293.out)) k_ hk, Kd.fresh' (Kd.N_lt (by (with_reducible repeat (first | apply Kd.N_alloc | apply Kd.N_drewN | apply Kd.N_drew)); exact HO296.out)) k_ hk⟩))
         (case aO => exact (by (with_reducible repeat (first | apply Kd.N_alloc | apply Kd.N_drewN | apply Kd.N_drew)); exact HO299.out))
         (case aS => exact (zr2 (by repeat (first | (with_reducible first | exact HB.out | apply zq7 | apply zq8 | apply zq9) | exact HB.out))))
         (case aL => have := LMc37.out; omega)
         intro v306 w59 ho hb hg hat
         rw [← Ny305.out] at ho
         have n0_ := mk_ (Kd.V_afterv (ok := (fun k_ => some k_ ≠ (.slice Ao51 y291.length co51 : Value).ownBlock ∧ some k_ ≠ (.slice Ao53 t294.length co53 : Value).ownBlock)) (by (with_reducible repeat (first | apply Kd.V_alloc | apply Kd.V_drewN | apply Kd.V_drew)); exact Kd.V_mono HO_5.out (fun _ hk => ⟨⟨hk.1.1.2, hk.1.2⟩, hk.2⟩)) hg hat)
         have n1_ := mk_ (Kd.V_afterv (ok := (fun k_ => some k_ ≠ (.slice Ao51 y291.length co51 : Value).ownBlock ∧ some k_ ≠ (.slice Ao53 t294.length co53 : Value).ownBlock)) (by (with_reducible repeat (first | apply Kd.V_alloc | apply Kd.V_drewN | apply Kd.V_drew)); exact Kd.V_mono HO282.out (fun _ hk => ⟨⟨hk.1.1.2, hk.1.2⟩, hk.2⟩)) hg hat)
         have n2_ := mk_ (Kd.V_afterv (ok := (fun k_ => some k_ ≠ (.slice Ao51 y291.length co51 : Value).ownBlock ∧ some k_ ≠ (.slice Ao53 t294.length co53 : Value).ownBlock)) (by (with_reducible repeat (first | apply Kd.V_alloc | apply Kd.V_drewN | apply Kd.V_drew)); exact Kd.V_mono HO290.out (fun _ hk => ⟨⟨hk.1.1.2, hk.1.2⟩, hk.2⟩)) hg hat)
         have n3_ := mk_ (Kd.N_afterv (ok := (fun k_ => some k_ ≠ (.slice Ao53 t294.length co53 : Value).ownBlock)) (by (with_reducible repeat (first | apply Kd.N_alloc | apply Kd.N_drewN | apply Kd.N_drew)); exact Kd.N_mono HO293.out (fun _ hk => ⟨hk.1.2, hk.2⟩)) hg hat)
         have n4_ := mk_ (Kd.N_afterv (ok := (fun k_ => some k_ ≠ (.slice Ao51 y291.length co51 : Value).ownBlock)) (by (with_reducible repeat (first | apply Kd.N_alloc | apply Kd.N_drewN | apply Kd.N_drew)); exact HO296.out) hg hat)
         have n5_ := mk_ (Kd.V_afterv (ok := (fun k_ => some k_ ≠ (.slice Ao51 y291.length co51 : Value).ownBlock ∧ some k_ ≠ (.slice Ao53 t294.length co53 : Value).ownBlock)) (by (with_reducible repeat (first | apply Kd.V_alloc | apply Kd.V_drewN | apply Kd.V_drew)); exact Kd.V_mono HO304.out (fun _ hk => ⟨⟨hk.1.1.2, hk.1.2⟩, hk.2⟩)) hg hat)
         have n6_ := mk_ (Kd.V_afterv (ok := (fun k_ => some k_ ≠ (.slice Ao51 y291.length co51 : Value).ownBlock ∧ some k_ ≠ (.slice Ao53 t294.length co53 : Value).ownBlock)) (by (with_reducible repeat (first | apply Kd.V_alloc | apply Kd.V_drewN | apply Kd.V_drew)); exact Kd.V_mono HO312.out (fun _ hk => ⟨⟨hk.1.1.2, hk.1.2⟩, hk.2⟩)) hg hat)
         have n7_ := mk_ (hb)
         have n8_ := mk_ (ho)
         clear HO_5
         clear HO282
         clear HO290
         clear HO293
         clear HO296
         clear HO304
         clear HO312
         clear HB
         clear HO299
         have HO_5 := n0_
         have HO282 := n1_
         have HO290 := n2_
         have HO293 := n3_
         have HO296 := n4_
         have HO304 := n5_
         have HO312 := n6_
         have HB := n7_
         have HO307 := n8_
         clear n0_ n1_ n2_ n3_ n4_ n5_ n6_ n7_ n8_
         clear ho hb hg hat
         refine hK.out _ _ trivial (fun hHeld => ?_)
         clear hK K
         refine norm_ (a' := ?_) ?_ ?_
         rotate_left
         · show Act.put _ (some 51) _ = _
           simp only [Act.put, zs1, zs2, zs3, i64_w, i32_w]
           rfl
         refine one_ (i := 9) (N := some 55) (bm 11 1023) rfl rfl (one_of HT_.out (by kernel_rfl)) (by decide) (fun K hK => ?_)
         refine Kd.N_append_rows_step k39 (w0 := w) w.heap.size (by rfl) (.tmp 51) (.tmp 54) 23 39 (.agg #[(.int .i64 0), (.int .i64 0), (.slice none 0 0)]) 40 rfl Try.underlying23 info39 rfl (by decide) (by omega) v306 y305 y308 _ _ _ (fun k_ => some k_ ≠ (.slice Ao51 y291.length co51 : Value).ownBlock ∧ some k_ ≠ (.slice Ao53 t294.length co53 : Value).ownBlock) (fun k_ => ((fun k_ => some k_ ≠ (.slice Ao51 y291.length co51 : Value).ownBlock ∧ some k_ ≠ (.slice Ao53 t294.length co53 : Value).ownBlock)) k_ ∧ some k_ ≠ (v306 : Value).ownBlock) rfl rfl ?aO ?aR (fun _ hk => hk) ?aF ?aB ?aS ?aL ?_
         (case aR => exact (by skip; exact Kd.V_F (Kd.V_mono (ok' := (fun k_ => ((fun k_ => some k_ ≠ (.slice Ao51 y291.length co51 : Value).ownBlock ∧ some k_ ≠ (.slice Ao53 t294.length co53 : Value).ownBlock)) k_ ∧ some k_ ≠ (v306 : Value).ownBlock)) (HO312.out) (fun k_ hk => ⟨⟨hk.1.1, hk.1.2⟩, hk.2⟩))))
         (case aB => exact (by repeat (first | (with_reducible first | exact HB.out | apply zq7 | apply zq8 | apply zq9) | exact HB.out)))
         (case aF => exact (fun k_ hk => ⟨Kd.fresh' (Kd.N_lt (by (with_reducible repeat (first | apply Kd.N_alloc | apply Kd.N_drewN | apply Kd.N_drew)); exact HO293.out)) k_ hk, Kd.fresh' (Kd.N_lt (by (with_reducible repeat (first | apply Kd.N_alloc | apply Kd.N_drewN | apply Kd.N_drew)); exact HO296.out)) k_ hk⟩))
         (case aO => exact (by (with_reducible repeat (first | apply Kd.N_alloc | apply Kd.N_drewN | apply Kd.N_drew)); exact HO307.out))
         (case aS => exact (zr2 (by repeat (first | (with_reducible first | exact HB.out | apply zq7 | apply zq8 | apply zq9) | exact HB.out))))
         (case aL => have := LMc40.out; omega)
         intro v314 w60 ho hb hg hat
         rw [← Ny313.out] at ho
         have n0_ := mk_ (Kd.V_afterv (ok := (fun k_ => some k_ ≠ (.slice Ao51 y291.length co51 : Value).ownBlock ∧ some k_ ≠ (.slice Ao53 t294.length co53 : Value).ownBlock)) (by (with_reducible repeat (first | apply Kd.V_alloc | apply Kd.V_drewN | apply Kd.V_drew)); exact HO_5.out) hg hat)
         have n1_ := mk_ (Kd.V_afterv (ok := (fun k_ => some k_ ≠ (.slice Ao51 y291.length co51 : Value).ownBlock ∧ some k_ ≠ (.slice Ao53 t294.length co53 : Value).ownBlock)) (by (with_reducible repeat (first | apply Kd.V_alloc | apply Kd.V_drewN | apply Kd.V_drew)); exact HO282.out) hg hat)
         have n2_ := mk_ (Kd.V_afterv (ok := (fun k_ => some k_ ≠ (.slice Ao51 y291.length co51 : Value).ownBlock ∧ some k_ ≠ (.slice Ao53 t294.length co53 : Value).ownBlock)) (by (with_reducible repeat (first | apply Kd.V_alloc | apply Kd.V_drewN | apply Kd.V_drew)); exact HO290.out) hg hat)
         have n3_ := mk_ (Kd.N_afterv (ok := (fun k_ => some k_ ≠ (.slice Ao53 t294.length co53 : Value).ownBlock)) (by (with_reducible repeat (first | apply Kd.N_alloc | apply Kd.N_drewN | apply Kd.N_drew)); exact HO293.out) hg hat)
         have n4_ := mk_ (Kd.N_afterv (ok := (fun k_ => some k_ ≠ (.slice Ao51 y291.length co51 : Value).ownBlock)) (by (with_reducible repeat (first | apply Kd.N_alloc | apply Kd.N_drewN | apply Kd.N_drew)); exact HO296.out) hg hat)
         have n5_ := mk_ (Kd.V_afterv (ok := (fun k_ => some k_ ≠ (.slice Ao51 y291.length co51 : Value).ownBlock ∧ some k_ ≠ (.slice Ao53 t294.length co53 : Value).ownBlock)) (by (with_reducible repeat (first | apply Kd.V_alloc | apply Kd.V_drewN | apply Kd.V_drew)); exact HO304.out) hg hat)
         have n6_ := mk_ (Kd.V_afterv (ok := (fun k_ => some k_ ≠ (.slice Ao51 y291.length co51 : Value).ownBlock ∧ some k_ ≠ (.slice Ao53 t294.length co53 : Value).ownBlock)) (by (with_reducible repeat (first | apply Kd.V_alloc | apply Kd.V_drewN | apply Kd.V_drew)); exact HO312.out) hg hat)
         have n7_ := mk_ (hb)
         have n8_ := mk_ (ho)
         clear HO_5
         clear HO282
         clear HO290
         clear HO293
         clear HO296
         clear HO304
         clear HO312
         clear HB
         clear HO307
         have HO_5 := n0_
         have HO282 := n1_
         have HO290 := n2_
         have HO293 := n3_
         have HO296 := n4_
         have HO304 := n5_
         have HO312 := n6_
         have HB := n7_
         have HO315 := n8_
         clear n0_ n1_ n2_ n3_ n4_ n5_ n6_ n7_ n8_
         clear ho hb hg hat
         refine hK.out _ _ trivial (fun hHeld => ?_)
         clear hK K
         refine norm_ (a' := ?_) ?_ ?_
         rotate_left
         · show Act.put _ (some 55) _ = _
           simp only [Act.put, zs1, zs2, zs3, i64_w, i32_w]
           rfl
         refine pA 10 (some 8) (bm 11 2047) rfl rfl HT_.out (by kernel_rfl) (fun _ _ _ h => h) (by rfl) (by intro w'; go_simp; with_reducible rfl) (by simp only [Act.put, zs1, zs2, zs3, i64_w, i32_w]; rfl) ?_
         refine done_ (done_of HT_.out (by kernel_rfl)) ?_
         have p316 : 0 ≤ (x6_1 : Int) := of_decide_eq_true (by first | (with_reducible assumption) | assumption)
         have q316 : x6_1 < (t267.length : Int) := of_decide_eq_true (by first | (with_reducible assumption) | assumption)
         obtain ⟨ad316, A316_2, c316_2, e316, hx316_0, hx316_1, hx316_2, hl316_2, hi316_2⟩ := at_T39 (Kd.V_reads' HO_5.out).2.2 x6_1 p316 q316
         cases e316
         obtain ⟨ce316, hce316, hMe316, hcc316⟩ := Kd.V_get HO_5.out z39 x6_1 p316 (by first | exact q316 | exact of_decide_eq_true (by first | (with_reducible assumption) | assumption) | (have e_ := (Kd.V_reads' HO_5.out).1; omega))
         obtain ⟨ua316_2, uc316_2, rfl, ul316_2, ge316_2⟩ := k39_openF hMe316
         have hv316_2 := hcc316 2 _ rfl
         rw [add_field _ _ 2 (by omega)] at hv316_2
         replace hv316_2 := Option.some.inj (hv316_2.symm.trans hx316_2)
         injection hv316_2 with hva_ hvn_ hvc_
         rw [hva_] at ge316_2
         rw [hvc_] at ul316_2
         have HL316_2 := mk_ (show Kd.V (Kd.int .u8) 5 _ w.heap.size _ _ ((rd_T39 t267 x6_1).f2) from Kd.V_mk ul316_2 ge316_2)
         clear hva_ hvn_ hvc_ ge316_2 ul316_2
         clear hcc316 hce316
         have HR316_2 := mk_ hi316_2
         have HC316_2 := mk_ hl316_2
         clear hi316_2 hl316_2
         replace p316 := eq_true p316
         replace q316 := eq_true q316
         obtain ⟨Ao61, co61, eo61⟩ := Kd.N_slice HO315.out
         subst eo61
         try go_wp2_with (first | (go_at_call 30; (with_reducible refine (laws_liFeed.calls k1 _ _ y313 t317 _ ?side1 ?side2 A42.out).mono ?_); (case side1 => repeat (first | exact (Kd.N_reads' HO315.out).2.2 | (with_reducible refine Kd.C_alloc ?_ _) | (with_reducible refine Kd.C_drewN ?_ _) | (with_reducible refine Kd.C_drew ?_))); (case side2 => exact (Kd.N_reads' HO315.out).2.1); rintro e w62 ⟨v318, rfl, ho0, hb⟩; replace HO_5 := mk_ (Kd.V_elder' (by (with_reducible repeat (first | apply Kd.V_alloc | apply Kd.V_drewN | apply Kd.V_drew)); exact HO_5.out) (by first | exact Kd.N_base ho0 | exact Kd.S_base ho0) hb); replace HO282 := mk_ (Kd.V_elder' (by (with_reducible repeat (first | apply Kd.V_alloc | apply Kd.V_drewN | apply Kd.V_drew)); exact HO282.out) (by first | exact Kd.N_base ho0 | exact Kd.S_base ho0) hb); replace HO290 := mk_ (Kd.V_elder' (by (with_reducible repeat (first | apply Kd.V_alloc | apply Kd.V_drewN | apply Kd.V_drew)); exact HO290.out) (by first | exact Kd.N_base ho0 | exact Kd.S_base ho0) hb); replace HO304 := mk_ (Kd.V_elder' (by (with_reducible repeat (first | apply Kd.V_alloc | apply Kd.V_drewN | apply Kd.V_drew)); exact HO304.out) (by first | exact Kd.N_base ho0 | exact Kd.S_base ho0) hb); replace HO312 := mk_ (Kd.V_elder' (by (with_reducible repeat (first | apply Kd.V_alloc | apply Kd.V_drewN | apply Kd.V_drew)); exact HO312.out) (by first | exact Kd.N_base ho0 | exact Kd.S_base ho0) hb); replace HL316_2 := mk_ (Kd.V_elder' (by (with_reducible repeat (first | apply Kd.V_alloc | apply Kd.V_drewN | apply Kd.V_drew)); exact HL316_2.out) (by first | exact Kd.N_base ho0 | exact Kd.S_base ho0) hb); have HO319 := mk_ (Kd.N_lower (Kd.N_mono (ok' := fun k_ => some k_ ≠ (.slice Ao51 y291.length co51 : Value).ownBlock ∧ some k_ ≠ (.slice Ao53 t294.length co53 : Value).ownBlock ∧ some k_ ≠ (.slice Ao61 y313.length co61 : Value).ownBlock) ho0 (fun k_ hk_ => ⟨(Kd.fresh' (Kd.N_lt (by (with_reducible repeat (first | apply Kd.N_alloc | apply Kd.N_drewN | apply Kd.N_drew)); exact HO293.out)) k_ hk_), (Kd.fresh' (Kd.N_lt (by (with_reducible repeat (first | apply Kd.N_alloc | apply Kd.N_drewN | apply Kd.N_drew)); exact HO296.out)) k_ hk_), (Kd.fresh' (Kd.N_lt (by (with_reducible repeat (first | apply Kd.N_alloc | apply Kd.N_drewN | apply Kd.N_drew)); exact HO315.out)) k_ hk_)⟩)) (zr2 (by repeat (first | (with_reducible first | exact HB.out | apply zq7 | apply zq8 | apply zq9) | exact HB.out)))); replace HO293 := mk_ (Kd.N_elder' (by (with_reducible repeat (first | apply Kd.N_alloc | apply Kd.N_drewN | apply Kd.N_drew)); exact HO293.out) (by first | exact Kd.N_base ho0 | exact Kd.S_base ho0) hb); replace HO296 := mk_ (Kd.N_elder' (by (with_reducible repeat (first | apply Kd.N_alloc | apply Kd.N_drewN | apply Kd.N_drew)); exact HO296.out) (by first | exact Kd.N_base ho0 | exact Kd.S_base ho0) hb); replace HO315 := mk_ (Kd.N_elder' (by (with_reducible repeat (first | apply Kd.N_alloc | apply Kd.N_drewN | apply Kd.N_drew)); exact HO315.out) (by first | exact Kd.N_base ho0 | exact Kd.S_base ho0) hb); replace HR316_2 := mk_ (Kd.C_below (by repeat (first | (with_reducible exact HR316_2.out) | (with_reducible refine Kd.C_alloc ?_ _) | (with_reducible refine Kd.C_drewN ?_ _) | (with_reducible refine Kd.C_drew ?_) | exact HR316_2.out)) hb); replace HB := mk_ (zr3 (by repeat (first | (with_reducible first | exact HB.out | apply zq7 | apply zq8 | apply zq9) | exact HB.out)) hb); (try clear hb); (try clear hb2); (try clear hk); (try clear hi); (try clear ho0); obtain ⟨Ao63, co63, eo63⟩ := Kd.N_slice HO319.out; subst eo63))
         go_ret
         exact ⟨by first | rfl | (simp [errW_none, errW_some] <;> rfl) | (simp only [← hji19]; first | rfl | (simp [errW_none, errW_some] <;> rfl)) | (simp [*, errW_none, errW_some] <;> rfl), by repeat (first | (with_reducible first | exact HB.out | apply zq7 | apply zq8 | apply zq9) | exact HB.out)⟩
       rw [if_neg c43] at H
       have c43b0 : decide (0 < (t317.length : Int)) = false := decide_eq_false c43
       have c43b1 : decide (0 < t317.length) = false := decide_eq_false (by omega)
       clear c43
       have H' := mk_ H
       clear H
       try go_wp2
       replace HO_5 := mk_ (Kd.V_drew HO_5.out)
       replace HB := mk_ (zq9 HB.out)
       have q65 : (x6_1 : Int) ≤ ((t267.length : Int) : Int) := of_decide_eq_true (by first | (with_reducible assumption) | assumption)
       obtain ⟨i065, hi065, _, hsz65, _⟩ := info_parts info39
       have hroom65 : t267.length ≤ co12 := (Kd.V_reads' HO_5.out).2.1
       have hC65 : Kd.F k39 _ _ Ao12 t267.length t267 := (Kd.V_at (base := w.heap.size) HO_5.out).2.2
       have hcut65 := cut_to (P := Try.prog) 23 39 .i64 Try.underlying23 hi065 Ao12 t267.length co12 x6_1 (of_decide_eq_true (by first | (with_reducible assumption) | assumption)) q65 hroom65
       have hr65 := Kd.F_take (m := (x6_1 : Int).toNat) hC65 (by omega)
       have hy65 : y278.length = (x6_1 : Int).toNat := (by rw [Ny278.out, List.length_take]; omega)
       rw [← Ny278.out] at hr65
       rw [← hy65] at hcut65
       have HO282 := mk_ (show Kd.V k39 39 _ w.heap.size _ (.slice Ao12 y278.length co12) y278 from Kd.V_mk (by omega) hr65)
       have HC282 := mk_ (show y278.length ≤ co12 from by omega)
       clear hr65 hC65 hroom65 hi065 hsz65
       have KY65 := mk_ hy65
       clear hy65
       replace q65 := eq_true q65
       have q66 : ((ji19) : Int) ≤ ((t267.length : Int) : Int) := of_decide_eq_true (by first | (with_reducible assumption) | assumption)
       obtain ⟨i066, hi066, _, hsz66, _⟩ := info_parts info39
       have hroom66 : t267.length ≤ co12 := (Kd.V_reads' HO_5.out).2.1
       have hC66 : Kd.F k39 _ _ Ao12 t267.length t267 := (Kd.V_at (base := w.heap.size) HO_5.out).2.2
       have q066 : (0 : Int) ≤ ((ji19) : Int) := of_decide_eq_true (by first | (with_reducible assumption) | assumption)
       have hcut66 := cut_from (P := Try.prog) 23 39 .i64 Try.underlying23 hi066 3 hsz66 Ao12 t267.length co12 (ji19) q066 q66
       have hr66 := Kd.F_cut (m := ((ji19) : Int).toNat) (c := co12) hC66 (by omega) hroom66
       obtain ⟨A66, hA66⟩ : ∃ A1, A1 = (if co12 = ((ji19) : Int).toNat then Ao12 else (Ao12 : Option Addr).map (·.add (((ji19) : Int).toNat * 3))) := ⟨_, rfl⟩
       obtain ⟨c66, hc66⟩ : ∃ c1, c1 = co12 - ((ji19) : Int).toNat := ⟨_, rfl⟩
       have hy66 : y286.length = t267.length - ((ji19) : Int).toNat := (by rw [Ny286.out, List.length_drop] <;> omega)
       rw [show (t267).drop ((ji19) : Int).toNat = y286 from Ny286.out.symm] at hr66
       replace hr66 : Kd.F k39 _ _ A66 y286.length y286 := (by rw [hA66]; exact hr66)
       rw [← hy66, ← hA66, ← hc66] at hcut66
       have HO290 := mk_ (show Kd.V k39 39 _ w.heap.size _ (.slice A66 y286.length c66) y286 from Kd.V_mk (by rw [hy66, hc66]; exact Nat.sub_le_sub_right hroom66 _) hr66)
       have HC290 := mk_ (show y286.length ≤ c66 from by rw [hy66, hc66]; exact Nat.sub_le_sub_right hroom66 _)
       clear hr66 hC66 hroom66 hi066 hsz66 hc66
       have KY66 := mk_ hy66
       have KA66 := mk_ hA66
       clear hy66 hA66
       replace q66 := eq_true q66
       refine start_ (n := 11) (S := fun w' => True) (ds := []) (bm 11 0) (by kernel_rfl) rfl rfl trivial (fun hHeld => ?_); refine with_tabW laws_FnSegLost.tab10 laws_FnSegLost.bits10 (fun HT_ HW_ => ?_)
       generalize wr.drew = w64 at HO_5 HB HO282 HO290 hHeld ⊢
       refine pA 1 (some 33) (bm 11 2) rfl rfl HT_.out (by kernel_rfl) (fun _ _ _ h => h) (by rfl) (by intro w'; go_simp; with_reducible rfl) (by simp only [Act.put, zs1, zs2, zs3, i64_w, i32_w]; rfl) ?_
       refine pA 2 (some 34) (bm 11 6) rfl rfl HT_.out (by kernel_rfl) (fun _ _ _ h => h) (by rfl) (by intro w'; go_simp; with_reducible rfl) (by simp only [Act.put, zs1, zs2, zs3, i64_w, i32_w]; rfl) ?_
       refine pA 3 (some 35) (bm 11 14) rfl rfl HT_.out (by kernel_rfl) (fun _ _ _ h => h) (by rfl) (by intro w'; go_simp; with_reducible rfl) (by simp only [Act.put, zs1, zs2, zs3, i64_w, i32_w]; rfl) ?_
       refine pA 5 (some 37) (bm 11 46) rfl rfl HT_.out (by kernel_rfl) (fun _ _ _ h => h) (by rfl) (by intro w'; go_simp; with_reducible rfl) (by simp only [Act.put, zs1, zs2, zs3, i64_w, i32_w]; rfl) ?_
       refine pA 6 (some 38) (bm 11 110) rfl rfl HT_.out (by kernel_rfl) (fun _ _ _ h => h) (by rfl) (by intro w'; go_simp; with_reducible rfl) (by simp only [Act.put, zs1, zs2, zs3, i64_w, i32_w]; rfl) ?_
       refine pA 7 (some 39) (bm 11 238) rfl rfl HT_.out (by kernel_rfl) (fun _ _ _ h => h) (by rfl) (by intro w'; go_simp; with_reducible rfl) (by simp only [Act.put, zs1, zs2, zs3, i64_w, i32_w]; rfl) ?_
       refine pA 8 (some 40) (bm 11 494) rfl rfl HT_.out (by kernel_rfl) (fun _ _ _ h => h) (by rfl) (by intro w'; go_simp; with_reducible rfl) (by simp only [Act.put, zs1, zs2, zs3, i64_w, i32_w]; rfl) ?_
       refine one_ (i := 0) (N := some 32) (bm 11 495) rfl rfl (one_of HT_.out (by kernel_rfl)) (by decide) (fun K hK => ?_)
       refine Kd.N_lit_step k39 _ 39 ?hg (N' := 32) ?hd (xs := ([] : List (S39))) (inner := []) (ok := (fun _ => True)) (okp := (fun _ => True)) ?hr ?hp (fun _ hk => hk) ((show ∀ k_, w64.heap.size ≤ k_ → (fun _ => True) k_ from fun k_ hk => trivial) _ (Nat.le_refl _)) (Below.refl _ _) (Nat.le_refl _) (by simp) ?_; (case hd => rfl); (case hg => rfl); (case hr => first | (go_simp; done) | (go_simp; rfl)); (case hp => exact (Reps.none _ _))
       intro v276 w67 ho68 hb hg_ hnew_
       clear hg_ hnew_
       (first | rw [← Ny275.out] at ho68 | (simp only [Int.reduceToNat] at ho68; rw [← Ny275.out] at ho68))
       replace HO_5 := mk_ (Kd.V_elder' (by (with_reducible repeat (first | apply Kd.V_alloc | apply Kd.V_drewN | apply Kd.V_drew)); exact HO_5.out) (Kd.N_base ho68) hb)
       replace HO282 := mk_ (Kd.V_elder' (by (with_reducible repeat (first | apply Kd.V_alloc | apply Kd.V_drewN | apply Kd.V_drew)); exact HO282.out) (Kd.N_base ho68) hb)
       replace HO290 := mk_ (Kd.V_elder' (by (with_reducible repeat (first | apply Kd.V_alloc | apply Kd.V_drewN | apply Kd.V_drew)); exact HO290.out) (Kd.N_base ho68) hb)
       have HO277 := mk_ (Kd.N_lower ho68 (zr2 (by repeat (first | (with_reducible first | exact HB.out | apply zq7 | apply zq8 | apply zq9) | exact HB.out))))
       replace HB := mk_ (zr3 (by repeat (first | (with_reducible first | exact HB.out | apply zq7 | apply zq8 | apply zq9) | exact HB.out)) hb)
       clear hb ho68
       refine hK.out _ _ trivial (fun hHeld => ?_)
       clear hK K
       refine norm_ (a' := ?_) ?_ ?_
       rotate_left
       · show Act.put _ (some 32) _ = _
         simp only [Act.put, zs1, zs2, zs3, i64_w, i32_w]
         rfl
       refine one_ (i := 4) (N := some 36) (bm 11 511) rfl rfl (one_of HT_.out (by kernel_rfl)) (by decide) (fun K hK => ?_)
       refine Kd.N_append_rows_step k39 (w0 := w) w.heap.size (by rfl) (.tmp 32) (.tmp 35) 23 39 (.agg #[(.int .i64 0), (.int .i64 0), (.slice none 0 0)]) 40 rfl Try.underlying23 info39 rfl (by decide) (by omega) v276 y275 y278 _ _ _ (fun _ => True) (fun k_ => ((fun _ => True)) k_ ∧ some k_ ≠ (v276 : Value).ownBlock) rfl rfl ?aO ?aR (fun _ hk => hk) ?aF ?aB ?aS ?aL ?_
       (case aR => exact (by skip; exact Kd.V_F (Kd.V_mono (ok' := (fun k_ => ((fun _ => True)) k_ ∧ some k_ ≠ (v276 : Value).ownBlock)) (HO282.out) (fun k_ hk => ⟨trivial, hk.2⟩))))
       (case aB => exact (by repeat (first | (with_reducible first | exact HB.out | apply zq7 | apply zq8 | apply zq9) | exact HB.out)))
       (case aF => exact (fun _ _ => trivial))
       (case aO => exact (by (with_reducible repeat (first | apply Kd.N_alloc | apply Kd.N_drewN | apply Kd.N_drew)); exact HO277.out))
       (case aS => exact (zr2 (by repeat (first | (with_reducible first | exact HB.out | apply zq7 | apply zq8 | apply zq9) | exact HB.out))))
       (case aL => have := LMc18.out; omega)
       intro v284 w69 ho hb hg hat
       rw [← Ny283.out] at ho
       have n0_ := mk_ (Kd.V_afterv (ok := (fun _ => True)) (by (with_reducible repeat (first | apply Kd.V_alloc | apply Kd.V_drewN | apply Kd.V_drew)); exact HO_5.out) hg hat)
       have n1_ := mk_ (Kd.V_afterv (ok := (fun _ => True)) (by (with_reducible repeat (first | apply Kd.V_alloc | apply Kd.V_drewN | apply Kd.V_drew)); exact HO282.out) hg hat)
       have n2_ := mk_ (Kd.V_afterv (ok := (fun _ => True)) (by (with_reducible repeat (first | apply Kd.V_alloc | apply Kd.V_drewN | apply Kd.V_drew)); exact HO290.out) hg hat)
       have n3_ := mk_ (hb)
       have n4_ := mk_ (ho)
       clear HO_5
       clear HO282
       clear HO290
       clear HB
       clear HO277
       have HO_5 := n0_
       have HO282 := n1_
       have HO290 := n2_
       have HB := n3_
       have HO285 := n4_
       clear n0_ n1_ n2_ n3_ n4_
       clear ho hb hg hat
       refine hK.out _ _ trivial (fun hHeld => ?_)
       clear hK K
       refine norm_ (a' := ?_) ?_ ?_
       rotate_left
       · show Act.put _ (some 36) _ = _
         simp only [Act.put, zs1, zs2, zs3, i64_w, i32_w]
         rfl
       refine one_ (i := 9) (N := some 41) (bm 11 1023) rfl rfl (one_of HT_.out (by kernel_rfl)) (by decide) (fun K hK => ?_)
       refine Kd.N_append_rows_step k39 (w0 := w) w.heap.size (by rfl) (.tmp 36) (.tmp 40) 23 39 (.agg #[(.int .i64 0), (.int .i64 0), (.slice none 0 0)]) 40 rfl Try.underlying23 info39 rfl (by decide) (by omega) v284 y283 y286 _ _ _ (fun _ => True) (fun k_ => ((fun _ => True)) k_ ∧ some k_ ≠ (v284 : Value).ownBlock) rfl rfl ?aO ?aR (fun _ hk => hk) ?aF ?aB ?aS ?aL ?_
       (case aR => exact (by skip; exact Kd.V_F (Kd.V_mono (ok' := (fun k_ => ((fun _ => True)) k_ ∧ some k_ ≠ (v284 : Value).ownBlock)) (HO290.out) (fun k_ hk => ⟨trivial, hk.2⟩))))
       (case aB => exact (by repeat (first | (with_reducible first | exact HB.out | apply zq7 | apply zq8 | apply zq9) | exact HB.out)))
       (case aF => exact (fun _ _ => trivial))
       (case aO => exact (by (with_reducible repeat (first | apply Kd.N_alloc | apply Kd.N_drewN | apply Kd.N_drew)); exact HO285.out))
       (case aS => exact (zr2 (by repeat (first | (with_reducible first | exact HB.out | apply zq7 | apply zq8 | apply zq9) | exact HB.out))))
       (case aL => have := LMc22.out; omega)
       intro v292 w70 ho hb hg hat
       rw [← Ny291.out] at ho
       have n0_ := mk_ (Kd.V_afterv (ok := (fun _ => True)) (by (with_reducible repeat (first | apply Kd.V_alloc | apply Kd.V_drewN | apply Kd.V_drew)); exact HO_5.out) hg hat)
       have n1_ := mk_ (Kd.V_afterv (ok := (fun _ => True)) (by (with_reducible repeat (first | apply Kd.V_alloc | apply Kd.V_drewN | apply Kd.V_drew)); exact HO282.out) hg hat)
       have n2_ := mk_ (Kd.V_afterv (ok := (fun _ => True)) (by (with_reducible repeat (first | apply Kd.V_alloc | apply Kd.V_drewN | apply Kd.V_drew)); exact HO290.out) hg hat)
       have n3_ := mk_ (hb)
       have n4_ := mk_ (ho)
       clear HO_5
       clear HO282
       clear HO290
       clear HB
       clear HO285
       have HO_5 := n0_
       have HO282 := n1_
       have HO290 := n2_
       have HB := n3_
       have HO293 := n4_
       clear n0_ n1_ n2_ n3_ n4_
       clear ho hb hg hat
       refine hK.out _ _ trivial (fun hHeld => ?_)
       clear hK K
       refine norm_ (a' := ?_) ?_ ?_
       rotate_left
       · show Act.put _ (some 41) _ = _
         simp only [Act.put, zs1, zs2, zs3, i64_w, i32_w]
         rfl
       refine pA 10 (some 7) (bm 11 2047) rfl rfl HT_.out (by kernel_rfl) (fun _ _ _ h => h) (by rfl) (by intro w'; go_simp; with_reducible rfl) (by simp only [Act.put, zs1, zs2, zs3, i64_w, i32_w]; rfl) ?_
       refine done_ (done_of HT_.out (by kernel_rfl)) ?_
       obtain ⟨Ao71, co71, eo71⟩ := Kd.N_slice HO293.out
       subst eo71
       try go_wp2_with (first | ((with_reducible refine gate_callee (f := 30) rfl ?_); refine goesL_ (some 43) rfl rfl Try.func30 (by kernel_rfl) rfl #[.slice Ao71 y291.length co71] rfl (by (try simp only [List.map_toArray, List.map_cons, List.map_nil]); first | done | rfl | (simp only [List.length_drop, List.length_take]; rfl)) ?_; (with_reducible refine (laws_liFeed.calls k1 _ _ y291 t294 _ ?side1 ?side2 A23.out).mono ?_); (case side1 => repeat (first | exact (Kd.N_reads' HO293.out).2.2 | (with_reducible refine Kd.C_alloc ?_ _) | (with_reducible refine Kd.C_drewN ?_ _) | (with_reducible refine Kd.C_drew ?_))); (case side2 => exact (Kd.N_reads' HO293.out).2.1); rintro e w72 ⟨v295, rfl, ho0, hb⟩; refine ⟨_, rfl, ?_⟩; replace HO_5 := mk_ (Kd.V_elder' (by (with_reducible repeat (first | apply Kd.V_alloc | apply Kd.V_drewN | apply Kd.V_drew)); exact HO_5.out) (by first | exact Kd.N_base ho0 | exact Kd.S_base ho0) hb); replace HO282 := mk_ (Kd.V_elder' (by (with_reducible repeat (first | apply Kd.V_alloc | apply Kd.V_drewN | apply Kd.V_drew)); exact HO282.out) (by first | exact Kd.N_base ho0 | exact Kd.S_base ho0) hb); replace HO290 := mk_ (Kd.V_elder' (by (with_reducible repeat (first | apply Kd.V_alloc | apply Kd.V_drewN | apply Kd.V_drew)); exact HO290.out) (by first | exact Kd.N_base ho0 | exact Kd.S_base ho0) hb); have HO296 := mk_ (Kd.N_lower (Kd.N_mono (ok' := fun k_ => some k_ ≠ (.slice Ao71 y291.length co71 : Value).ownBlock) ho0 (fun k_ hk_ => (Kd.fresh' (Kd.N_lt (by (with_reducible repeat (first | apply Kd.N_alloc | apply Kd.N_drewN | apply Kd.N_drew)); exact HO293.out)) k_ hk_))) (zr2 (by repeat (first | (with_reducible first | exact HB.out | apply zq7 | apply zq8 | apply zq9) | exact HB.out)))); replace HO293 := mk_ (Kd.N_elder' (by (with_reducible repeat (first | apply Kd.N_alloc | apply Kd.N_drewN | apply Kd.N_drew)); exact HO293.out) (by first | exact Kd.N_base ho0 | exact Kd.S_base ho0) hb); replace HB := mk_ (zr3 (by repeat (first | (with_reducible first | exact HB.out | apply zq7 | apply zq8 | apply zq9) | exact HB.out)) hb); (try clear hb); (try clear hb2); (try clear hk); (try clear hi); (try clear ho0); obtain ⟨Ao73, co73, eo73⟩ := Kd.N_slice HO296.out; subst eo73))
       replace HO_5 := mk_ (Kd.V_drew HO_5.out)
       replace HO282 := mk_ (Kd.V_drew HO282.out)
       replace HO290 := mk_ (Kd.V_drew HO290.out)
       replace HO293 := mk_ (Kd.N_drew HO293.out)
       replace HO296 := mk_ (Kd.N_drew HO296.out)
       replace HB := mk_ (zq9 HB.out)
       have q75 : ((ji19) : Int) ≤ ((t267.length : Int) : Int) := of_decide_eq_true (by first | (with_reducible assumption) | assumption)
       obtain ⟨i075, hi075, _, hsz75, _⟩ := info_parts info39
       have hroom75 : t267.length ≤ co12 := (Kd.V_reads' HO_5.out).2.1
       have hC75 : Kd.F k39 _ _ Ao12 t267.length t267 := (Kd.V_at (base := w.heap.size) HO_5.out).2.2
       have hcut75 := cut_to (P := Try.prog) 23 39 .i64 Try.underlying23 hi075 Ao12 t267.length co12 (ji19) (of_decide_eq_true (by first | (with_reducible assumption) | assumption)) q75 hroom75
       have hr75 := Kd.F_take (m := ((ji19) : Int).toNat) hC75 (by omega)
       have hy75 : y300.length = ((ji19) : Int).toNat := (by rw [Ny300.out, List.length_take]; omega)
       rw [← Ny300.out] at hr75
       rw [← hy75] at hcut75
       have HO304 := mk_ (show Kd.V k39 39 _ w.heap.size _ (.slice Ao12 y300.length co12) y300 from Kd.V_mk (by omega) hr75)
       have HC304 := mk_ (show y300.length ≤ co12 from by omega)
       clear hr75 hC75 hroom75 hi075 hsz75
       have KY75 := mk_ hy75
       clear hy75
       replace q75 := eq_true q75
       have q76 : (x6_1 : Int) ≤ ((t267.length : Int) : Int) := of_decide_eq_true (by first | (with_reducible assumption) | assumption)
       obtain ⟨i076, hi076, _, hsz76, _⟩ := info_parts info39
       have hroom76 : t267.length ≤ co12 := (Kd.V_reads' HO_5.out).2.1
       have hC76 : Kd.F k39 _ _ Ao12 t267.length t267 := (Kd.V_at (base := w.heap.size) HO_5.out).2.2
       have q076 : (0 : Int) ≤ (x6_1 : Int) := of_decide_eq_true (by first | (with_reducible assumption) | assumption)
       have hcut76 := cut_from (P := Try.prog) 23 39 .i64 Try.underlying23 hi076 3 hsz76 Ao12 t267.length co12 x6_1 q076 q76
       have hr76 := Kd.F_cut (m := (x6_1 : Int).toNat) (c := co12) hC76 (by omega) hroom76
       obtain ⟨A76, hA76⟩ : ∃ A1, A1 = (if co12 = (x6_1 : Int).toNat then Ao12 else (Ao12 : Option Addr).map (·.add ((x6_1 : Int).toNat * 3))) := ⟨_, rfl⟩
       obtain ⟨c76, hc76⟩ : ∃ c1, c1 = co12 - (x6_1 : Int).toNat := ⟨_, rfl⟩
       have hy76 : y308.length = t267.length - (x6_1 : Int).toNat := (by rw [Ny308.out, List.length_drop] <;> omega)
       rw [show (t267).drop (x6_1 : Int).toNat = y308 from Ny308.out.symm] at hr76
       replace hr76 : Kd.F k39 _ _ A76 y308.length y308 := (by rw [hA76]; exact hr76)
       rw [← hy76, ← hA76, ← hc76] at hcut76
       have HO312 := mk_ (show Kd.V k39 39 _ w.heap.size _ (.slice A76 y308.length c76) y308 from Kd.V_mk (by rw [hy76, hc76]; exact Nat.sub_le_sub_right hroom76 _) hr76)
       have HC312 := mk_ (show y308.length ≤ c76 from by rw [hy76, hc76]; exact Nat.sub_le_sub_right hroom76 _)
       clear hr76 hC76 hroom76 hi076 hsz76 hc76
       have KY76 := mk_ hy76
       have KA76 := mk_ hA76
       clear hy76 hA76
       replace q76 := eq_true q76
       refine start_ (n := 11) (S := fun w' => True) (ds := []) (bm 11 0) (by kernel_rfl) rfl rfl trivial (fun hHeld => ?_); refine with_tabW laws_FnSegLost.tab13 laws_FnSegLost.bits13 (fun HT_ HW_ => ?_)
       generalize w72.drew = w74 at HO_5 HO282 HO290 HO293 HO296 HB HO304 HO312 hHeld ⊢
       refine pA 1 (some 47) (bm 11 2) rfl rfl HT_.out (by kernel_rfl) (fun _ _ _ h => h) (by rfl) (by intro w'; go_simp; with_reducible rfl) (by simp only [Act.put, zs1, zs2, zs3, i64_w, i32_w]; rfl) ?_
       refine pA 2 (some 48) (bm 11 6) rfl rfl HT_.out (by kernel_rfl) (fun _ _ _ h => h) (by rfl) (by intro w'; go_simp; with_reducible rfl) (by simp only [Act.put, zs1, zs2, zs3, i64_w, i32_w]; rfl) ?_
       refine pA 3 (some 49) (bm 11 14) rfl rfl HT_.out (by kernel_rfl) (fun _ _ _ h => h) (by rfl) (by intro w'; go_simp; with_reducible rfl) (by simp only [Act.put, zs1, zs2, zs3, i64_w, i32_w]; rfl) ?_
       refine pA 4 (some 50) (bm 11 30) rfl rfl HT_.out (by kernel_rfl) (fun _ _ _ h => h) (by rfl) (by intro w'; go_simp; with_reducible rfl) (by simp only [Act.put, zs1, zs2, zs3, i64_w, i32_w]; rfl) ?_
       refine pA 6 (some 52) (bm 11 94) rfl rfl HT_.out (by kernel_rfl) (fun _ _ _ h => h) (by rfl) (by intro w'; go_simp; with_reducible rfl) (by simp only [Act.put, zs1, zs2, zs3, i64_w, i32_w]; rfl) ?_
       refine pA 7 (some 53) (bm 11 222) rfl rfl HT_.out (by kernel_rfl) (fun _ _ _ h => h) (by rfl) (by intro w'; go_simp; with_reducible rfl) (by simp only [Act.put, zs1, zs2, zs3, i64_w, i32_w]; rfl) ?_
       refine pA 8 (some 54) (bm 11 478) rfl rfl HT_.out (by kernel_rfl) (fun _ _ _ h => h) (by rfl) (by intro w'; go_simp; with_reducible rfl) (by simp only [Act.put, zs1, zs2, zs3, i64_w, i32_w]; rfl) ?_
       refine one_ (i := 0) (N := some 46) (bm 11 479) rfl rfl (one_of HT_.out (by kernel_rfl)) (by decide) (fun K hK => ?_)
       refine Kd.N_lit_step k39 _ 39 ?hg (N' := 46) ?hd (xs := ([] : List (S39))) (inner := []) (ok := (fun k_ => some k_ ≠ (.slice Ao71 y291.length co71 : Value).ownBlock ∧ some k_ ≠ (.slice Ao73 t294.length co73 : Value).ownBlock)) (okp := (fun k_ => some k_ ≠ (.slice Ao71 y291.length co71 : Value).ownBlock ∧ some k_ ≠ (.slice Ao73 t294.length co73 : Value).ownBlock)) ?hr ?hp (fun _ hk => hk) ((show ∀ k_, w74.heap.size ≤ k_ → (fun k_ => some k_ ≠ (.slice Ao71 y291.length co71 : Value).ownBlock ∧ some k_ ≠ (.slice Ao73 t294.length co73 : Value).ownBlock) k_ from fun k_ hk => ⟨Kd.fresh' (Kd.N_lt (by (with_reducible repeat (first | apply Kd.N_alloc | apply Kd.N_drewN | apply Kd.N_drew)); exact HO293.out)) k_ hk, Kd.fresh' (Kd.N_lt (by (with_reducible repeat (first | apply Kd.N_alloc | apply Kd.N_drewN | apply Kd.N_drew)); exact HO296.out)) k_ hk⟩) _ (Nat.le_refl _)) (Below.refl _ _) (Nat.le_refl _) (by simp) ?_; (case hd => rfl); (case hg => rfl); (case hr => first | (go_simp; done) | (go_simp; rfl)); (case hp => exact (Reps.none _ _))
       intro v298 w77 ho78 hb hg_ hnew_
       clear hg_ hnew_
       (first | rw [← Ny297.out] at ho78 | (simp only [Int.reduceToNat] at ho78; rw [← Ny297.out] at ho78))
       replace HO_5 := mk_ (Kd.V_elder' (by (with_reducible repeat (first | apply Kd.V_alloc | apply Kd.V_drewN | apply Kd.V_drew)); exact HO_5.out) (Kd.N_base ho78) hb)
       replace HO282 := mk_ (Kd.V_elder' (by (with_reducible repeat (first | apply Kd.V_alloc | apply Kd.V_drewN | apply Kd.V_drew)); exact HO282.out) (Kd.N_base ho78) hb)
       replace HO290 := mk_ (Kd.V_elder' (by (with_reducible repeat (first | apply Kd.V_alloc | apply Kd.V_drewN | apply Kd.V_drew)); exact HO290.out) (Kd.N_base ho78) hb)
       replace HO293 := mk_ (Kd.N_elder' (by (with_reducible repeat (first | apply Kd.N_alloc | apply Kd.N_drewN | apply Kd.N_drew)); exact HO293.out) (Kd.N_base ho78) hb)
       replace HO296 := mk_ (Kd.N_elder' (by (with_reducible repeat (first | apply Kd.N_alloc | apply Kd.N_drewN | apply Kd.N_drew)); exact HO296.out) (Kd.N_base ho78) hb)
       replace HO304 := mk_ (Kd.V_elder' (by (with_reducible repeat (first | apply Kd.V_alloc | apply Kd.V_drewN | apply Kd.V_drew)); exact HO304.out) (Kd.N_base ho78) hb)
       replace HO312 := mk_ (Kd.V_elder' (by (with_reducible repeat (first | apply Kd.V_alloc | apply Kd.V_drewN | apply Kd.V_drew)); exact HO312.out) (Kd.N_base ho78) hb)
       have HO299 := mk_ (Kd.N_lower ho78 (zr2 (by repeat (first | (with_reducible first | exact HB.out | apply zq7 | apply zq8 | apply zq9) | exact HB.out))))
       replace HB := mk_ (zr3 (by repeat (first | (with_reducible first | exact HB.out | apply zq7 | apply zq8 | apply zq9) | exact HB.out)) hb)
       clear hb ho78
       refine hK.out _ _ trivial (fun hHeld => ?_)
       clear hK K
       refine norm_ (a' := ?_) ?_ ?_
       rotate_left
       · show Act.put _ (some 46) _ = _
         simp only [Act.put, zs1, zs2, zs3, i64_w, i32_w]
         rfl
       refine one_ (i := 5) (N := some 51) (bm 11 511) rfl rfl (one_of HT_.out (by kernel_rfl)) (by decide) (fun K hK => ?_)
       refine Kd.N_append_rows_step k39 (w0 := w) w.heap.size (by rfl) (.tmp 46) (.tmp 50) 23 39 (.agg #[(.int .i64 0), (.int .i64 0), (.slice none 0 0)]) 40 rfl Try.underlying23 info39 rfl (by decide) (by omega) v298 y297 y300 _ _ _ (fun k_ => some k_ ≠ (.slice Ao71 y291.length co71 : Value).ownBlock ∧ some k_ ≠ (.slice Ao73 t294.length co73 : Value).ownBlock) (fun k_ => ((fun k_ => some k_ ≠ (.slice Ao71 y291.length co71 : Value).ownBlock ∧ some k_ ≠ (.slice Ao73 t294.length co73 : Value).ownBlock)) k_ ∧ some k_ ≠ (v298 : Value).ownBlock) rfl rfl ?aO ?aR (fun _ hk => hk) ?aF ?aB ?aS ?aL ?_
       (case aR => exact (by skip; exact Kd.V_F (Kd.V_mono (ok' := (fun k_ => ((fun k_ => some k_ ≠ (.slice Ao71 y291.length co71 : Value).ownBlock ∧ some k_ ≠ (.slice Ao73 t294.length co73 : Value).ownBlock)) k_ ∧ some k_ ≠ (v298 : Value).ownBlock)) (HO304.out) (fun k_ hk => ⟨⟨hk.1.1.2, hk.1.2⟩, hk.2⟩))))
       (case aB => exact (by repeat (first | (with_reducible first | exact HB.out | apply zq7 | apply zq8 | apply zq9) | exact HB.out)))
       (case aF => exact (fun k_ hk => ⟨Kd.fresh' (Kd.N_lt (by (with_reducible repeat (first | apply Kd.N_alloc | apply Kd.N_drewN | apply Kd.N_drew)); exact HO293.out)) k_ hk, Kd.fresh' (Kd.N_lt (by (with_reducible repeat (first | apply Kd.N_alloc | apply Kd.N_drewN | apply Kd.N_drew)); exact HO296.out)) k_ hk⟩))
       (case aO => exact (by (with_reducible repeat (first | apply Kd.N_alloc | apply Kd.N_drewN | apply Kd.N_drew)); exact HO299.out))
       (case aS => exact (zr2 (by repeat (first | (with_reducible first | exact HB.out | apply zq7 | apply zq8 | apply zq9) | exact HB.out))))
       (case aL => have := LMc37.out; omega)
       intro v306 w79 ho hb hg hat
       rw [← Ny305.out] at ho
       have n0_ := mk_ (Kd.V_afterv (ok := (fun k_ => some k_ ≠ (.slice Ao71 y291.length co71 : Value).ownBlock ∧ some k_ ≠ (.slice Ao73 t294.length co73 : Value).ownBlock)) (by (with_reducible repeat (first | apply Kd.V_alloc | apply Kd.V_drewN | apply Kd.V_drew)); exact Kd.V_mono HO_5.out (fun _ hk => ⟨⟨hk.1.1.2, hk.1.2⟩, hk.2⟩)) hg hat)
       have n1_ := mk_ (Kd.V_afterv (ok := (fun k_ => some k_ ≠ (.slice Ao71 y291.length co71 : Value).ownBlock ∧ some k_ ≠ (.slice Ao73 t294.length co73 : Value).ownBlock)) (by (with_reducible repeat (first | apply Kd.V_alloc | apply Kd.V_drewN | apply Kd.V_drew)); exact Kd.V_mono HO282.out (fun _ hk => ⟨⟨hk.1.1.2, hk.1.2⟩, hk.2⟩)) hg hat)
       have n2_ := mk_ (Kd.V_afterv (ok := (fun k_ => some k_ ≠ (.slice Ao71 y291.length co71 : Value).ownBlock ∧ some k_ ≠ (.slice Ao73 t294.length co73 : Value).ownBlock)) (by (with_reducible repeat (first | apply Kd.V_alloc | apply Kd.V_drewN | apply Kd.V_drew)); exact Kd.V_mono HO290.out (fun _ hk => ⟨⟨hk.1.1.2, hk.1.2⟩, hk.2⟩)) hg hat)
       have n3_ := mk_ (Kd.N_afterv (ok := (fun k_ => some k_ ≠ (.slice Ao73 t294.length co73 : Value).ownBlock)) (by (with_reducible repeat (first | apply Kd.N_alloc | apply Kd.N_drewN | apply Kd.N_drew)); exact Kd.N_mono HO293.out (fun _ hk => ⟨hk.1.2, hk.2⟩)) hg hat)
       have n4_ := mk_ (Kd.N_afterv (ok := (fun k_ => some k_ ≠ (.slice Ao71 y291.length co71 : Value).ownBlock)) (by (with_reducible repeat (first | apply Kd.N_alloc | apply Kd.N_drewN | apply Kd.N_drew)); exact HO296.out) hg hat)
       have n5_ := mk_ (Kd.V_afterv (ok := (fun k_ => some k_ ≠ (.slice Ao71 y291.length co71 : Value).ownBlock ∧ some k_ ≠ (.slice Ao73 t294.length co73 : Value).ownBlock)) (by (with_reducible repeat (first | apply Kd.V_alloc | apply Kd.V_drewN | apply Kd.V_drew)); exact Kd.V_mono HO304.out (fun _ hk => ⟨⟨hk.1.1.2, hk.1.2⟩, hk.2⟩)) hg hat)
       have n6_ := mk_ (Kd.V_afterv (ok := (fun k_ => some k_ ≠ (.slice Ao71 y291.length co71 : Value).ownBlock ∧ some k_ ≠ (.slice Ao73 t294.length co73 : Value).ownBlock)) (by (with_reducible repeat (first | apply Kd.V_alloc | apply Kd.V_drewN | apply Kd.V_drew)); exact Kd.V_mono HO312.out (fun _ hk => ⟨⟨hk.1.1.2, hk.1.2⟩, hk.2⟩)) hg hat)
       have n7_ := mk_ (hb)
       have n8_ := mk_ (ho)
       clear HO_5
       clear HO282
       clear HO290
       clear HO293
       clear HO296
       clear HO304
       clear HO312
       clear HB
       clear HO299
       have HO_5 := n0_
       have HO282 := n1_
       have HO290 := n2_
       have HO293 := n3_
       have HO296 := n4_
       have HO304 := n5_
       have HO312 := n6_
       have HB := n7_
       have HO307 := n8_
       clear n0_ n1_ n2_ n3_ n4_ n5_ n6_ n7_ n8_
       clear ho hb hg hat
       refine hK.out _ _ trivial (fun hHeld => ?_)
       clear hK K
       refine norm_ (a' := ?_) ?_ ?_
       rotate_left
       · show Act.put _ (some 51) _ = _
         simp only [Act.put, zs1, zs2, zs3, i64_w, i32_w]
         rfl
       refine one_ (i := 9) (N := some 55) (bm 11 1023) rfl rfl (one_of HT_.out (by kernel_rfl)) (by decide) (fun K hK => ?_)
       refine Kd.N_append_rows_step k39 (w0 := w) w.heap.size (by rfl) (.tmp 51) (.tmp 54) 23 39 (.agg #[(.int .i64 0), (.int .i64 0), (.slice none 0 0)]) 40 rfl Try.underlying23 info39 rfl (by decide) (by omega) v306 y305 y308 _ _ _ (fun k_ => some k_ ≠ (.slice Ao71 y291.length co71 : Value).ownBlock ∧ some k_ ≠ (.slice Ao73 t294.length co73 : Value).ownBlock) (fun k_ => ((fun k_ => some k_ ≠ (.slice Ao71 y291.length co71 : Value).ownBlock ∧ some k_ ≠ (.slice Ao73 t294.length co73 : Value).ownBlock)) k_ ∧ some k_ ≠ (v306 : Value).ownBlock) rfl rfl ?aO ?aR (fun _ hk => hk) ?aF ?aB ?aS ?aL ?_
       (case aR => exact (by skip; exact Kd.V_F (Kd.V_mono (ok' := (fun k_ => ((fun k_ => some k_ ≠ (.slice Ao71 y291.length co71 : Value).ownBlock ∧ some k_ ≠ (.slice Ao73 t294.length co73 : Value).ownBlock)) k_ ∧ some k_ ≠ (v306 : Value).ownBlock)) (HO312.out) (fun k_ hk => ⟨⟨hk.1.1, hk.1.2⟩, hk.2⟩))))
       (case aB => exact (by repeat (first | (with_reducible first | exact HB.out | apply zq7 | apply zq8 | apply zq9) | exact HB.out)))
       (case aF => exact (fun k_ hk => ⟨Kd.fresh' (Kd.N_lt (by (with_reducible repeat (first | apply Kd.N_alloc | apply Kd.N_drewN | apply Kd.N_drew)); exact HO293.out)) k_ hk, Kd.fresh' (Kd.N_lt (by (with_reducible repeat (first | apply Kd.N_alloc | apply Kd.N_drewN | apply Kd.N_drew)); exact HO296.out)) k_ hk⟩))
       (case aO => exact (by (with_reducible repeat (first | apply Kd.N_alloc | apply Kd.N_drewN | apply Kd.N_drew)); exact HO307.out))
       (case aS => exact (zr2 (by repeat (first | (with_reducible first | exact HB.out | apply zq7 | apply zq8 | apply zq9) | exact HB.out))))
       (case aL => have := LMc40.out; omega)
       intro v314 w80 ho hb hg hat
       rw [← Ny313.out] at ho
       have n0_ := mk_ (Kd.V_afterv (ok := (fun k_ => some k_ ≠ (.slice Ao71 y291.length co71 : Value).ownBlock ∧ some k_ ≠ (.slice Ao73 t294.length co73 : Value).ownBlock)) (by (with_reducible repeat (first | apply Kd.V_alloc | apply Kd.V_drewN | apply Kd.V_drew)); exact HO_5.out) hg hat)
       have n1_ := mk_ (Kd.V_afterv (ok := (fun k_ => some k_ ≠ (.slice Ao71 y291.length co71 : Value).ownBlock ∧ some k_ ≠ (.slice Ao73 t294.length co73 : Value).ownBlock)) (by (with_reducible repeat (first | apply Kd.V_alloc | apply Kd.V_drewN | apply Kd.V_drew)); exact HO282.out) hg hat)
       have n2_ := mk_ (Kd.V_afterv (ok := (fun k_ => some k_ ≠ (.slice Ao71 y291.length co71 : Value).ownBlock ∧ some k_ ≠ (.slice Ao73 t294.length co73 : Value).ownBlock)) (by (with_reducible repeat (first | apply Kd.V_alloc | apply Kd.V_drewN | apply Kd.V_drew)); exact HO290.out) hg hat)
       have n3_ := mk_ (Kd.N_afterv (ok := (fun k_ => some k_ ≠ (.slice Ao73 t294.length co73 : Value).ownBlock)) (by (with_reducible repeat (first | apply Kd.N_alloc | apply Kd.N_drewN | apply Kd.N_drew)); exact HO293.out) hg hat)
       have n4_ := mk_ (Kd.N_afterv (ok := (fun k_ => some k_ ≠ (.slice Ao71 y291.length co71 : Value).ownBlock)) (by (with_reducible repeat (first | apply Kd.N_alloc | apply Kd.N_drewN | apply Kd.N_drew)); exact HO296.out) hg hat)
       have n5_ := mk_ (Kd.V_afterv (ok := (fun k_ => some k_ ≠ (.slice Ao71 y291.length co71 : Value).ownBlock ∧ some k_ ≠ (.slice Ao73 t294.length co73 : Value).ownBlock)) (by (with_reducible repeat (first | apply Kd.V_alloc | apply Kd.V_drewN | apply Kd.V_drew)); exact HO304.out) hg hat)
       have n6_ := mk_ (Kd.V_afterv (ok := (fun k_ => some k_ ≠ (.slice Ao71 y291.length co71 : Value).ownBlock ∧ some k_ ≠ (.slice Ao73 t294.length co73 : Value).ownBlock)) (by (with_reducible repeat (first | apply Kd.V_alloc | apply Kd.V_drewN | apply Kd.V_drew)); exact HO312.out) hg hat)
       have n7_ := mk_ (hb)
       have n8_ := mk_ (ho)
       clear HO_5
       clear HO282
       clear HO290
       clear HO293
       clear HO296
       clear HO304
       clear HO312
       clear HB
       clear HO307
       have HO_5 := n0_
       have HO282 := n1_
       have HO290 := n2_
       have HO293 := n3_
       have HO296 := n4_
       have HO304 := n5_
       have HO312 := n6_
       have HB := n7_
       have HO315 := n8_
       clear n0_ n1_ n2_ n3_ n4_ n5_ n6_ n7_ n8_
       clear ho hb hg hat
       refine hK.out _ _ trivial (fun hHeld => ?_)
       clear hK K
       refine norm_ (a' := ?_) ?_ ?_
       rotate_left
       · show Act.put _ (some 55) _ = _
         simp only [Act.put, zs1, zs2, zs3, i64_w, i32_w]
         rfl
       refine pA 10 (some 8) (bm 11 2047) rfl rfl HT_.out (by kernel_rfl) (fun _ _ _ h => h) (by rfl) (by intro w'; go_simp; with_reducible rfl) (by simp only [Act.put, zs1, zs2, zs3, i64_w, i32_w]; rfl) ?_
       refine done_ (done_of HT_.out (by kernel_rfl)) ?_
       have p316 : 0 ≤ (x6_1 : Int) := of_decide_eq_true (by first | (with_reducible assumption) | assumption)
       have q316 : x6_1 < (t267.length : Int) := of_decide_eq_true (by first | (with_reducible assumption) | assumption)
       obtain ⟨ad316, A316_2, c316_2, e316, hx316_0, hx316_1, hx316_2, hl316_2, hi316_2⟩ := at_T39 (Kd.V_reads' HO_5.out).2.2 x6_1 p316 q316
       cases e316
       obtain ⟨ce316, hce316, hMe316, hcc316⟩ := Kd.V_get HO_5.out z39 x6_1 p316 (by first | exact q316 | exact of_decide_eq_true (by first | (with_reducible assumption) | assumption) | (have e_ := (Kd.V_reads' HO_5.out).1; omega))
       obtain ⟨ua316_2, uc316_2, rfl, ul316_2, ge316_2⟩ := k39_openF hMe316
       have hv316_2 := hcc316 2 _ rfl
       rw [add_field _ _ 2 (by omega)] at hv316_2
       replace hv316_2 := Option.some.inj (hv316_2.symm.trans hx316_2)
       injection hv316_2 with hva_ hvn_ hvc_
       rw [hva_] at ge316_2
       rw [hvc_] at ul316_2
       have HL316_2 := mk_ (show Kd.V (Kd.int .u8) 5 _ w.heap.size _ _ ((rd_T39 t267 x6_1).f2) from Kd.V_mk ul316_2 ge316_2)
       clear hva_ hvn_ hvc_ ge316_2 ul316_2
       clear hcc316 hce316
       have HR316_2 := mk_ hi316_2
       have HC316_2 := mk_ hl316_2
       clear hi316_2 hl316_2
       replace p316 := eq_true p316
       replace q316 := eq_true q316
       obtain ⟨Ao81, co81, eo81⟩ := Kd.N_slice HO315.out
       subst eo81
       try go_wp2_with (first | (go_at_call 30; (with_reducible refine (laws_liFeed.calls k1 _ _ y313 t317 _ ?side1 ?side2 A42.out).mono ?_); (case side1 => repeat (first | exact (Kd.N_reads' HO315.out).2.2 | (with_reducible refine Kd.C_alloc ?_ _) | (with_reducible refine Kd.C_drewN ?_ _) | (with_reducible refine Kd.C_drew ?_))); (case side2 => exact (Kd.N_reads' HO315.out).2.1); rintro e w82 ⟨v318, rfl, ho0, hb⟩; replace HO_5 := mk_ (Kd.V_elder' (by (with_reducible repeat (first | apply Kd.V_alloc | apply Kd.V_drewN | apply Kd.V_drew)); exact HO_5.out) (by first | exact Kd.N_base ho0 | exact Kd.S_base ho0) hb); replace HO282 := mk_ (Kd.V_elder' (by (with_reducible repeat (first | apply Kd.V_alloc | apply Kd.V_drewN | apply Kd.V_drew)); exact HO282.out) (by first | exact Kd.N_base ho0 | exact Kd.S_base ho0) hb); replace HO290 := mk_ (Kd.V_elder' (by (with_reducible repeat (first | apply Kd.V_alloc | apply Kd.V_drewN | apply Kd.V_drew)); exact HO290.out) (by first | exact Kd.N_base ho0 | exact Kd.S_base ho0) hb); replace HO304 := mk_ (Kd.V_elder' (by (with_reducible repeat (first | apply Kd.V_alloc | apply Kd.V_drewN | apply Kd.V_drew)); exact HO304.out) (by first | exact Kd.N_base ho0 | exact Kd.S_base ho0) hb); replace HO312 := mk_ (Kd.V_elder' (by (with_reducible repeat (first | apply Kd.V_alloc | apply Kd.V_drewN | apply Kd.V_drew)); exact HO312.out) (by first | exact Kd.N_base ho0 | exact Kd.S_base ho0) hb); replace HL316_2 := mk_ (Kd.V_elder' (by (with_reducible repeat (first | apply Kd.V_alloc | apply Kd.V_drewN | apply Kd.V_drew)); exact HL316_2.out) (by first | exact Kd.N_base ho0 | exact Kd.S_base ho0) hb); have HO319 := mk_ (Kd.N_lower (Kd.N_mono (ok' := fun k_ => some k_ ≠ (.slice Ao71 y291.length co71 : Value).ownBlock ∧ some k_ ≠ (.slice Ao73 t294.length co73 : Value).ownBlock ∧ some k_ ≠ (.slice Ao81 y313.length co81 : Value).ownBlock) ho0 (fun k_ hk_ => ⟨(Kd.fresh' (Kd.N_lt (by (with_reducible repeat (first | apply Kd.N_alloc | apply Kd.N_drewN | apply Kd.N_drew)); exact HO293.out)) k_ hk_), (Kd.fresh' (Kd.N_lt (by (with_reducible repeat (first | apply Kd.N_alloc | apply Kd.N_drewN | apply Kd.N_drew)); exact HO296.out)) k_ hk_), (Kd.fresh' (Kd.N_lt (by (with_reducible repeat (first | apply Kd.N_alloc | apply Kd.N_drewN | apply Kd.N_drew)); exact HO315.out)) k_ hk_)⟩)) (zr2 (by repeat (first | (with_reducible first | exact HB.out | apply zq7 | apply zq8 | apply zq9) | exact HB.out)))); replace HO293 := mk_ (Kd.N_elder' (by (with_reducible repeat (first | apply Kd.N_alloc | apply Kd.N_drewN | apply Kd.N_drew)); exact HO293.out) (by first | exact Kd.N_base ho0 | exact Kd.S_base ho0) hb); replace HO296 := mk_ (Kd.N_elder' (by (with_reducible repeat (first | apply Kd.N_alloc | apply Kd.N_drewN | apply Kd.N_drew)); exact HO296.out) (by first | exact Kd.N_base ho0 | exact Kd.S_base ho0) hb); replace HO315 := mk_ (Kd.N_elder' (by (with_reducible repeat (first | apply Kd.N_alloc | apply Kd.N_drewN | apply Kd.N_drew)); exact HO315.out) (by first | exact Kd.N_base ho0 | exact Kd.S_base ho0) hb); replace HR316_2 := mk_ (Kd.C_below (by repeat (first | (with_reducible exact HR316_2.out) | (with_reducible refine Kd.C_alloc ?_ _) | (with_reducible refine Kd.C_drewN ?_ _) | (with_reducible refine Kd.C_drew ?_) | exact HR316_2.out)) hb); replace HB := mk_ (zr3 (by repeat (first | (with_reducible first | exact HB.out | apply zq7 | apply zq8 | apply zq9) | exact HB.out)) hb); (try clear hb); (try clear hb2); (try clear hk); (try clear hi); (try clear ho0); obtain ⟨Ao83, co83, eo83⟩ := Kd.N_slice HO319.out; subst eo83))
       go_roundg k1
       case measure => have := HK1.out; omega
       case rel => exact ⟨(ji19), (by first | rfl | (simp; done) | (simp only [← hji19] <;> (first | rfl | simp)) | (simp [*]; done)), H', ⟨by have := HK1.out; omega⟩, ⟨by (with_reducible repeat (first | apply Kd.V_alloc | apply Kd.V_drewN | apply Kd.V_drew)); exact Kd.V_mono HO_5.out (fun _ hk => trivial)⟩, ⟨by repeat (first | (with_reducible first | exact HB.out | apply zq7 | apply zq8 | apply zq9) | exact HB.out)⟩⟩
     rw [if_neg c41] at H
     have c41b0 : (((rd_T39 t267 x6_1).f0) == 1) = false := beq_eq_false_iff_ne.mpr c41
     have c41b1 : (((rd_T39 t267 x6_1).f0) != 1) = true := bne_iff_ne.mpr c41
     by_cases c84 : ((rd_T39 t267 x6_1).f0) = 2
     rotate_left
     · rw [if_neg c84] at H
       have c84b0 : (((rd_T39 t267 x6_1).f0) == 2) = false := beq_eq_false_iff_ne.mpr c84
       have c84b1 : (((rd_T39 t267 x6_1).f0) != 2) = true := bne_iff_ne.mpr c84
       have H' := mk_ H
       clear H
       try go_wp2
       replace HO_5 := mk_ (Kd.V_drew HO_5.out)
       replace HB := mk_ (zq9 HB.out)
       have q128 : (x6_1 : Int) ≤ ((t267.length : Int) : Int) := of_decide_eq_true (by first | (with_reducible assumption) | assumption)
       obtain ⟨i0128, hi0128, _, hsz128, _⟩ := info_parts info39
       have hroom128 : t267.length ≤ co12 := (Kd.V_reads' HO_5.out).2.1
       have hC128 : Kd.F k39 _ _ Ao12 t267.length t267 := (Kd.V_at (base := w.heap.size) HO_5.out).2.2
       have hcut128 := cut_to (P := Try.prog) 23 39 .i64 Try.underlying23 hi0128 Ao12 t267.length co12 x6_1 (of_decide_eq_true (by first | (with_reducible assumption) | assumption)) q128 hroom128
       have hr128 := Kd.F_take (m := (x6_1 : Int).toNat) hC128 (by omega)
       have hy128 : y278.length = (x6_1 : Int).toNat := (by rw [Ny278.out, List.length_take]; omega)
       rw [← Ny278.out] at hr128
       rw [← hy128] at hcut128
       have HO282 := mk_ (show Kd.V k39 39 _ w.heap.size _ (.slice Ao12 y278.length co12) y278 from Kd.V_mk (by omega) hr128)
       have HC282 := mk_ (show y278.length ≤ co12 from by omega)
       clear hr128 hC128 hroom128 hi0128 hsz128
       have KY128 := mk_ hy128
       clear hy128
       replace q128 := eq_true q128
       have q129 : ((ji19) : Int) ≤ ((t267.length : Int) : Int) := of_decide_eq_true (by first | (with_reducible assumption) | assumption)
       obtain ⟨i0129, hi0129, _, hsz129, _⟩ := info_parts info39
       have hroom129 : t267.length ≤ co12 := (Kd.V_reads' HO_5.out).2.1
       have hC129 : Kd.F k39 _ _ Ao12 t267.length t267 := (Kd.V_at (base := w.heap.size) HO_5.out).2.2
       have q0129 : (0 : Int) ≤ ((ji19) : Int) := of_decide_eq_true (by first | (with_reducible assumption) | assumption)
       have hcut129 := cut_from (P := Try.prog) 23 39 .i64 Try.underlying23 hi0129 3 hsz129 Ao12 t267.length co12 (ji19) q0129 q129
       have hr129 := Kd.F_cut (m := ((ji19) : Int).toNat) (c := co12) hC129 (by omega) hroom129
       obtain ⟨A129, hA129⟩ : ∃ A1, A1 = (if co12 = ((ji19) : Int).toNat then Ao12 else (Ao12 : Option Addr).map (·.add (((ji19) : Int).toNat * 3))) := ⟨_, rfl⟩
       obtain ⟨c129, hc129⟩ : ∃ c1, c1 = co12 - ((ji19) : Int).toNat := ⟨_, rfl⟩
       have hy129 : y286.length = t267.length - ((ji19) : Int).toNat := (by rw [Ny286.out, List.length_drop] <;> omega)
       rw [show (t267).drop ((ji19) : Int).toNat = y286 from Ny286.out.symm] at hr129
       replace hr129 : Kd.F k39 _ _ A129 y286.length y286 := (by rw [hA129]; exact hr129)
       rw [← hy129, ← hA129, ← hc129] at hcut129
       have HO290 := mk_ (show Kd.V k39 39 _ w.heap.size _ (.slice A129 y286.length c129) y286 from Kd.V_mk (by rw [hy129, hc129]; exact Nat.sub_le_sub_right hroom129 _) hr129)
       have HC290 := mk_ (show y286.length ≤ c129 from by rw [hy129, hc129]; exact Nat.sub_le_sub_right hroom129 _)
       clear hr129 hC129 hroom129 hi0129 hsz129 hc129
       have KY129 := mk_ hy129
       have KA129 := mk_ hA129
       clear hy129 hA129
       replace q129 := eq_true q129
       refine start_ (n := 11) (S := fun w' => True) (ds := []) (bm 11 0) (by kernel_rfl) rfl rfl trivial (fun hHeld => ?_); refine with_tabW laws_FnSegLost.tab10 laws_FnSegLost.bits10 (fun HT_ HW_ => ?_)
       generalize wr.drew = w127 at HO_5 HB HO282 HO290 hHeld ⊢
       refine pA 1 (some 33) (bm 11 2) rfl rfl HT_.out (by kernel_rfl) (fun _ _ _ h => h) (by rfl) (by intro w'; go_simp; with_reducible rfl) (by simp only [Act.put, zs1, zs2, zs3, i64_w, i32_w]; rfl) ?_
       refine pA 2 (some 34) (bm 11 6) rfl rfl HT_.out (by kernel_rfl) (fun _ _ _ h => h) (by rfl) (by intro w'; go_simp; with_reducible rfl) (by simp only [Act.put, zs1, zs2, zs3, i64_w, i32_w]; rfl) ?_
       refine pA 3 (some 35) (bm 11 14) rfl rfl HT_.out (by kernel_rfl) (fun _ _ _ h => h) (by rfl) (by intro w'; go_simp; with_reducible rfl) (by simp only [Act.put, zs1, zs2, zs3, i64_w, i32_w]; rfl) ?_
       refine pA 5 (some 37) (bm 11 46) rfl rfl HT_.out (by kernel_rfl) (fun _ _ _ h => h) (by rfl) (by intro w'; go_simp; with_reducible rfl) (by simp only [Act.put, zs1, zs2, zs3, i64_w, i32_w]; rfl) ?_
       refine pA 6 (some 38) (bm 11 110) rfl rfl HT_.out (by kernel_rfl) (fun _ _ _ h => h) (by rfl) (by intro w'; go_simp; with_reducible rfl) (by simp only [Act.put, zs1, zs2, zs3, i64_w, i32_w]; rfl) ?_
       refine pA 7 (some 39) (bm 11 238) rfl rfl HT_.out (by kernel_rfl) (fun _ _ _ h => h) (by rfl) (by intro w'; go_simp; with_reducible rfl) (by simp only [Act.put, zs1, zs2, zs3, i64_w, i32_w]; rfl) ?_
       refine pA 8 (some 40) (bm 11 494) rfl rfl HT_.out (by kernel_rfl) (fun _ _ _ h => h) (by rfl) (by intro w'; go_simp; with_reducible rfl) (by simp only [Act.put, zs1, zs2, zs3, i64_w, i32_w]; rfl) ?_
       refine one_ (i := 0) (N := some 32) (bm 11 495) rfl rfl (one_of HT_.out (by kernel_rfl)) (by decide) (fun K hK => ?_)
       refine Kd.N_lit_step k39 _ 39 ?hg (N' := 32) ?hd (xs := ([] : List (S39))) (inner := []) (ok := (fun _ => True)) (okp := (fun _ => True)) ?hr ?hp (fun _ hk => hk) ((show ∀ k_, w127.heap.size ≤ k_ → (fun _ => True) k_ from fun k_ hk => trivial) _ (Nat.le_refl _)) (Below.refl _ _) (Nat.le_refl _) (by simp) ?_; (case hd => rfl); (case hg => rfl); (case hr => first | (go_simp; done) | (go_simp; rfl)); (case hp => exact (Reps.none _ _))
       intro v276 w130 ho131 hb hg_ hnew_
       clear hg_ hnew_
       (first | rw [← Ny275.out] at ho131 | (simp only [Int.reduceToNat] at ho131; rw [← Ny275.out] at ho131))
       replace HO_5 := mk_ (Kd.V_elder' (by (with_reducible repeat (first | apply Kd.V_alloc | apply Kd.V_drewN | apply Kd.V_drew)); exact HO_5.out) (Kd.N_base ho131) hb)
       replace HO282 := mk_ (Kd.V_elder' (by (with_reducible repeat (first | apply Kd.V_alloc | apply Kd.V_drewN | apply Kd.V_drew)); exact HO282.out) (Kd.N_base ho131) hb)
       replace HO290 := mk_ (Kd.V_elder' (by (with_reducible repeat (first | apply Kd.V_alloc | apply Kd.V_drewN | apply Kd.V_drew)); exact HO290.out) (Kd.N_base ho131) hb)
       have HO277 := mk_ (Kd.N_lower ho131 (zr2 (by repeat (first | (with_reducible first | exact HB.out | apply zq7 | apply zq8 | apply zq9) | exact HB.out))))
       replace HB := mk_ (zr3 (by repeat (first | (with_reducible first | exact HB.out | apply zq7 | apply zq8 | apply zq9) | exact HB.out)) hb)
       clear hb ho131
       refine hK.out _ _ trivial (fun hHeld => ?_)
       clear hK K
       refine norm_ (a' := ?_) ?_ ?_
       rotate_left
       · show Act.put _ (some 32) _ = _
         simp only [Act.put, zs1, zs2, zs3, i64_w, i32_w]
         rfl
       refine one_ (i := 4) (N := some 36) (bm 11 511) rfl rfl (one_of HT_.out (by kernel_rfl)) (by decide) (fun K hK => ?_)
       refine Kd.N_append_rows_step k39 (w0 := w) w.heap.size (by rfl) (.tmp 32) (.tmp 35) 23 39 (.agg #[(.int .i64 0), (.int .i64 0), (.slice none 0 0)]) 40 rfl Try.underlying23 info39 rfl (by decide) (by omega) v276 y275 y278 _ _ _ (fun _ => True) (fun k_ => ((fun _ => True)) k_ ∧ some k_ ≠ (v276 : Value).ownBlock) rfl rfl ?aO ?aR (fun _ hk => hk) ?aF ?aB ?aS ?aL ?_
       (case aR => exact (by skip; exact Kd.V_F (Kd.V_mono (ok' := (fun k_ => ((fun _ => True)) k_ ∧ some k_ ≠ (v276 : Value).ownBlock)) (HO282.out) (fun k_ hk => ⟨trivial, hk.2⟩))))
       (case aB => exact (by repeat (first | (with_reducible first | exact HB.out | apply zq7 | apply zq8 | apply zq9) | exact HB.out)))
       (case aF => exact (fun _ _ => trivial))
       (case aO => exact (by (with_reducible repeat (first | apply Kd.N_alloc | apply Kd.N_drewN | apply Kd.N_drew)); exact HO277.out))
       (case aS => exact (zr2 (by repeat (first | (with_reducible first | exact HB.out | apply zq7 | apply zq8 | apply zq9) | exact HB.out))))
       (case aL => have := LMc18.out; omega)
       intro v284 w132 ho hb hg hat
       rw [← Ny283.out] at ho
       have n0_ := mk_ (Kd.V_afterv (ok := (fun _ => True)) (by (with_reducible repeat (first | apply Kd.V_alloc | apply Kd.V_drewN | apply Kd.V_drew)); exact HO_5.out) hg hat)
       have n1_ := mk_ (Kd.V_afterv (ok := (fun _ => True)) (by (with_reducible repeat (first | apply Kd.V_alloc | apply Kd.V_drewN | apply Kd.V_drew)); exact HO282.out) hg hat)
       have n2_ := mk_ (Kd.V_afterv (ok := (fun _ => True)) (by (with_reducible repeat (first | apply Kd.V_alloc | apply Kd.V_drewN | apply Kd.V_drew)); exact HO290.out) hg hat)
       have n3_ := mk_ (hb)
       have n4_ := mk_ (ho)
       clear HO_5
       clear HO282
       clear HO290
       clear HB
       clear HO277
       have HO_5 := n0_
       have HO282 := n1_
       have HO290 := n2_
       have HB := n3_
       have HO285 := n4_
       clear n0_ n1_ n2_ n3_ n4_
       clear ho hb hg hat
       refine hK.out _ _ trivial (fun hHeld => ?_)
       clear hK K
       refine norm_ (a' := ?_) ?_ ?_
       rotate_left
       · show Act.put _ (some 36) _ = _
         simp only [Act.put, zs1, zs2, zs3, i64_w, i32_w]
         rfl
       refine one_ (i := 9) (N := some 41) (bm 11 1023) rfl rfl (one_of HT_.out (by kernel_rfl)) (by decide) (fun K hK => ?_)
       refine Kd.N_append_rows_step k39 (w0 := w) w.heap.size (by rfl) (.tmp 36) (.tmp 40) 23 39 (.agg #[(.int .i64 0), (.int .i64 0), (.slice none 0 0)]) 40 rfl Try.underlying23 info39 rfl (by decide) (by omega) v284 y283 y286 _ _ _ (fun _ => True) (fun k_ => ((fun _ => True)) k_ ∧ some k_ ≠ (v284 : Value).ownBlock) rfl rfl ?aO ?aR (fun _ hk => hk) ?aF ?aB ?aS ?aL ?_
       (case aR => exact (by skip; exact Kd.V_F (Kd.V_mono (ok' := (fun k_ => ((fun _ => True)) k_ ∧ some k_ ≠ (v284 : Value).ownBlock)) (HO290.out) (fun k_ hk => ⟨trivial, hk.2⟩))))
       (case aB => exact (by repeat (first | (with_reducible first | exact HB.out | apply zq7 | apply zq8 | apply zq9) | exact HB.out)))
       (case aF => exact (fun _ _ => trivial))
       (case aO => exact (by (with_reducible repeat (first | apply Kd.N_alloc | apply Kd.N_drewN | apply Kd.N_drew)); exact HO285.out))
       (case aS => exact (zr2 (by repeat (first | (with_reducible first | exact HB.out | apply zq7 | apply zq8 | apply zq9) | exact HB.out))))
       (case aL => have := LMc22.out; omega)
       intro v292 w133 ho hb hg hat
       rw [← Ny291.out] at ho
       have n0_ := mk_ (Kd.V_afterv (ok := (fun _ => True)) (by (with_reducible repeat (first | apply Kd.V_alloc | apply Kd.V_drewN | apply Kd.V_drew)); exact HO_5.out) hg hat)
       have n1_ := mk_ (Kd.V_afterv (ok := (fun _ => True)) (by (with_reducible repeat (first | apply Kd.V_alloc | apply Kd.V_drewN | apply Kd.V_drew)); exact HO282.out) hg hat)
       have n2_ := mk_ (Kd.V_afterv (ok := (fun _ => True)) (by (with_reducible repeat (first | apply Kd.V_alloc | apply Kd.V_drewN | apply Kd.V_drew)); exact HO290.out) hg hat)
       have n3_ := mk_ (hb)
       have n4_ := mk_ (ho)
       clear HO_5
       clear HO282
       clear HO290
       clear HB
       clear HO285
       have HO_5 := n0_
       have HO282 := n1_
       have HO290 := n2_
       have HB := n3_
       have HO293 := n4_
       clear n0_ n1_ n2_ n3_ n4_
       clear ho hb hg hat
       refine hK.out _ _ trivial (fun hHeld => ?_)
       clear hK K
       refine norm_ (a' := ?_) ?_ ?_
       rotate_left
       · show Act.put _ (some 41) _ = _
         simp only [Act.put, zs1, zs2, zs3, i64_w, i32_w]
         rfl
       refine pA 10 (some 7) (bm 11 2047) rfl rfl HT_.out (by kernel_rfl) (fun _ _ _ h => h) (by rfl) (by intro w'; go_simp; with_reducible rfl) (by simp only [Act.put, zs1, zs2, zs3, i64_w, i32_w]; rfl) ?_
       refine done_ (done_of HT_.out (by kernel_rfl)) ?_
       obtain ⟨Ao134, co134, eo134⟩ := Kd.N_slice HO293.out
       subst eo134
       try go_wp2_with (first | ((with_reducible refine gate_callee (f := 30) rfl ?_); refine goesL_ (some 43) rfl rfl Try.func30 (by kernel_rfl) rfl #[.slice Ao134 y291.length co134] rfl (by (try simp only [List.map_toArray, List.map_cons, List.map_nil]); first | done | rfl | (simp only [List.length_drop, List.length_take]; rfl)) ?_; (with_reducible refine (laws_liFeed.calls k1 _ _ y291 t294 _ ?side1 ?side2 A23.out).mono ?_); (case side1 => repeat (first | exact (Kd.N_reads' HO293.out).2.2 | (with_reducible refine Kd.C_alloc ?_ _) | (with_reducible refine Kd.C_drewN ?_ _) | (with_reducible refine Kd.C_drew ?_))); (case side2 => exact (Kd.N_reads' HO293.out).2.1); rintro e w135 ⟨v295, rfl, ho0, hb⟩; refine ⟨_, rfl, ?_⟩; replace HO_5 := mk_ (Kd.V_elder' (by (with_reducible repeat (first | apply Kd.V_alloc | apply Kd.V_drewN | apply Kd.V_drew)); exact HO_5.out) (by first | exact Kd.N_base ho0 | exact Kd.S_base ho0) hb); replace HO282 := mk_ (Kd.V_elder' (by (with_reducible repeat (first | apply Kd.V_alloc | apply Kd.V_drewN | apply Kd.V_drew)); exact HO282.out) (by first | exact Kd.N_base ho0 | exact Kd.S_base ho0) hb); replace HO290 := mk_ (Kd.V_elder' (by (with_reducible repeat (first | apply Kd.V_alloc | apply Kd.V_drewN | apply Kd.V_drew)); exact HO290.out) (by first | exact Kd.N_base ho0 | exact Kd.S_base ho0) hb); have HO296 := mk_ (Kd.N_lower (Kd.N_mono (ok' := fun k_ => some k_ ≠ (.slice Ao134 y291.length co134 : Value).ownBlock) ho0 (fun k_ hk_ => (Kd.fresh' (Kd.N_lt (by (with_reducible repeat (first | apply Kd.N_alloc | apply Kd.N_drewN | apply Kd.N_drew)); exact HO293.out)) k_ hk_))) (zr2 (by repeat (first | (with_reducible first | exact HB.out | apply zq7 | apply zq8 | apply zq9) | exact HB.out)))); replace HO293 := mk_ (Kd.N_elder' (by (with_reducible repeat (first | apply Kd.N_alloc | apply Kd.N_drewN | apply Kd.N_drew)); exact HO293.out) (by first | exact Kd.N_base ho0 | exact Kd.S_base ho0) hb); replace HB := mk_ (zr3 (by repeat (first | (with_reducible first | exact HB.out | apply zq7 | apply zq8 | apply zq9) | exact HB.out)) hb); (try clear hb); (try clear hb2); (try clear hk); (try clear hi); (try clear ho0); obtain ⟨Ao136, co136, eo136⟩ := Kd.N_slice HO296.out; subst eo136))
       replace HO_5 := mk_ (Kd.V_drew HO_5.out)
       replace HO282 := mk_ (Kd.V_drew HO282.out)
       replace HO290 := mk_ (Kd.V_drew HO290.out)
       replace HO293 := mk_ (Kd.N_drew HO293.out)
       replace HO296 := mk_ (Kd.N_drew HO296.out)
       replace HB := mk_ (zq9 HB.out)
       have q138 : ((ji19) : Int) ≤ ((t267.length : Int) : Int) := of_decide_eq_true (by first | (with_reducible assumption) | assumption)
       obtain ⟨i0138, hi0138, _, hsz138, _⟩ := info_parts info39
       have hroom138 : t267.length ≤ co12 := (Kd.V_reads' HO_5.out).2.1
       have hC138 : Kd.F k39 _ _ Ao12 t267.length t267 := (Kd.V_at (base := w.heap.size) HO_5.out).2.2
       have hcut138 := cut_to (P := Try.prog) 23 39 .i64 Try.underlying23 hi0138 Ao12 t267.length co12 (ji19) (of_decide_eq_true (by first | (with_reducible assumption) | assumption)) q138 hroom138
       have hr138 := Kd.F_take (m := ((ji19) : Int).toNat) hC138 (by omega)
       have hy138 : y300.length = ((ji19) : Int).toNat := (by rw [Ny300.out, List.length_take]; omega)
       rw [← Ny300.out] at hr138
       rw [← hy138] at hcut138
       have HO304 := mk_ (show Kd.V k39 39 _ w.heap.size _ (.slice Ao12 y300.length co12) y300 from Kd.V_mk (by omega) hr138)
       have HC304 := mk_ (show y300.length ≤ co12 from by omega)
       clear hr138 hC138 hroom138 hi0138 hsz138
       have KY138 := mk_ hy138
       clear hy138
       replace q138 := eq_true q138
       have q139 : (x6_1 : Int) ≤ ((t267.length : Int) : Int) := of_decide_eq_true (by first | (with_reducible assumption) | assumption)
       obtain ⟨i0139, hi0139, _, hsz139, _⟩ := info_parts info39
       have hroom139 : t267.length ≤ co12 := (Kd.V_reads' HO_5.out).2.1
       have hC139 : Kd.F k39 _ _ Ao12 t267.length t267 := (Kd.V_at (base := w.heap.size) HO_5.out).2.2
       have q0139 : (0 : Int) ≤ (x6_1 : Int) := of_decide_eq_true (by first | (with_reducible assumption) | assumption)
       have hcut139 := cut_from (P := Try.prog) 23 39 .i64 Try.underlying23 hi0139 3 hsz139 Ao12 t267.length co12 x6_1 q0139 q139
       have hr139 := Kd.F_cut (m := (x6_1 : Int).toNat) (c := co12) hC139 (by omega) hroom139
       obtain ⟨A139, hA139⟩ : ∃ A1, A1 = (if co12 = (x6_1 : Int).toNat then Ao12 else (Ao12 : Option Addr).map (·.add ((x6_1 : Int).toNat * 3))) := ⟨_, rfl⟩
       obtain ⟨c139, hc139⟩ : ∃ c1, c1 = co12 - (x6_1 : Int).toNat := ⟨_, rfl⟩
       have hy139 : y308.length = t267.length - (x6_1 : Int).toNat := (by rw [Ny308.out, List.length_drop] <;> omega)
       rw [show (t267).drop (x6_1 : Int).toNat = y308 from Ny308.out.symm] at hr139
       replace hr139 : Kd.F k39 _ _ A139 y308.length y308 := (by rw [hA139]; exact hr139)
       rw [← hy139, ← hA139, ← hc139] at hcut139
       have HO312 := mk_ (show Kd.V k39 39 _ w.heap.size _ (.slice A139 y308.length c139) y308 from Kd.V_mk (by rw [hy139, hc139]; exact Nat.sub_le_sub_right hroom139 _) hr139)
       have HC312 := mk_ (show y308.length ≤ c139 from by rw [hy139, hc139]; exact Nat.sub_le_sub_right hroom139 _)
       clear hr139 hC139 hroom139 hi0139 hsz139 hc139
       have KY139 := mk_ hy139
       have KA139 := mk_ hA139
       clear hy139 hA139
       replace q139 := eq_true q139
       refine start_ (n := 11) (S := fun w' => True) (ds := []) (bm 11 0) (by kernel_rfl) rfl rfl trivial (fun hHeld => ?_); refine with_tabW laws_FnSegLost.tab13 laws_FnSegLost.bits13 (fun HT_ HW_ => ?_)
       generalize w135.drew = w137 at HO_5 HO282 HO290 HO293 HO296 HB HO304 HO312 hHeld ⊢
       refine pA 1 (some 47) (bm 11 2) rfl rfl HT_.out (by kernel_rfl) (fun _ _ _ h => h) (by rfl) (by intro w'; go_simp; with_reducible rfl) (by simp only [Act.put, zs1, zs2, zs3, i64_w, i32_w]; rfl) ?_
       refine pA 2 (some 48) (bm 11 6) rfl rfl HT_.out (by kernel_rfl) (fun _ _ _ h => h) (by rfl) (by intro w'; go_simp; with_reducible rfl) (by simp only [Act.put, zs1, zs2, zs3, i64_w, i32_w]; rfl) ?_
       refine pA 3 (some 49) (bm 11 14) rfl rfl HT_.out (by kernel_rfl) (fun _ _ _ h => h) (by rfl) (by intro w'; go_simp; with_reducible rfl) (by simp only [Act.put, zs1, zs2, zs3, i64_w, i32_w]; rfl) ?_
       refine pA 4 (some 50) (bm 11 30) rfl rfl HT_.out (by kernel_rfl) (fun _ _ _ h => h) (by rfl) (by intro w'; go_simp; with_reducible rfl) (by simp only [Act.put, zs1, zs2, zs3, i64_w, i32_w]; rfl) ?_
       refine pA 6 (some 52) (bm 11 94) rfl rfl HT_.out (by kernel_rfl) (fun _ _ _ h => h) (by rfl) (by intro w'; go_simp; with_reducible rfl) (by simp only [Act.put, zs1, zs2, zs3, i64_w, i32_w]; rfl) ?_
       refine pA 7 (some 53) (bm 11 222) rfl rfl HT_.out (by kernel_rfl) (fun _ _ _ h => h) (by rfl) (by intro w'; go_simp; with_reducible rfl) (by simp only [Act.put, zs1, zs2, zs3, i64_w, i32_w]; rfl) ?_
       refine pA 8 (some 54) (bm 11 478) rfl rfl HT_.out (by kernel_rfl) (fun _ _ _ h => h) (by rfl) (by intro w'; go_simp; with_reducible rfl) (by simp only [Act.put, zs1, zs2, zs3, i64_w, i32_w]; rfl) ?_
       refine one_ (i := 0) (N := some 46) (bm 11 479) rfl rfl (one_of HT_.out (by kernel_rfl)) (by decide) (fun K hK => ?_)
       refine Kd.N_lit_step k39 _ 39 ?hg (N' := 46) ?hd (xs := ([] : List (S39))) (inner := []) (ok := (fun k_ => some k_ ≠ (.slice Ao134 y291.length co134 : Value).ownBlock ∧ some k_ ≠ (.slice Ao136 t294.length co136 : Value).ownBlock)) (okp := (fun k_ => some k_ ≠ (.slice Ao134 y291.length co134 : Value).ownBlock ∧ some k_ ≠ (.slice Ao136 t294.length co136 : Value).ownBlock)) ?hr ?hp (fun _ hk => hk) ((show ∀ k_, w137.heap.size ≤ k_ → (fun k_ => some k_ ≠ (.slice Ao134 y291.length co134 : Value).ownBlock ∧ some k_ ≠ (.slice Ao136 t294.length co136 : Value).ownBlock) k_ from fun k_ hk => ⟨Kd.fresh' (Kd.N_lt (by (with_reducible repeat (first | apply Kd.N_alloc | apply Kd.N_drewN | apply Kd.N_drew)); exact HO293.out)) k_ hk, Kd.fresh' (Kd.N_lt (by (with_reducible repeat (first | apply Kd.N_alloc | apply Kd.N_drewN | apply Kd.N_drew)); exact HO296.out)) k_ hk⟩) _ (Nat.le_refl _)) (Below.refl _ _) (Nat.le_refl _) (by simp) ?_; (case hd => rfl); (case hg => rfl); (case hr => first | (go_simp; done) | (go_simp; rfl)); (case hp => exact (Reps.none _ _))
       intro v298 w140 ho141 hb hg_ hnew_
       clear hg_ hnew_
       (first | rw [← Ny297.out] at ho141 | (simp only [Int.reduceToNat] at ho141; rw [← Ny297.out] at ho141))
       replace HO_5 := mk_ (Kd.V_elder' (by (with_reducible repeat (first | apply Kd.V_alloc | apply Kd.V_drewN | apply Kd.V_drew)); exact HO_5.out) (Kd.N_base ho141) hb)
       replace HO282 := mk_ (Kd.V_elder' (by (with_reducible repeat (first | apply Kd.V_alloc | apply Kd.V_drewN | apply Kd.V_drew)); exact HO282.out) (Kd.N_base ho141) hb)
       replace HO290 := mk_ (Kd.V_elder' (by (with_reducible repeat (first | apply Kd.V_alloc | apply Kd.V_drewN | apply Kd.V_drew)); exact HO290.out) (Kd.N_base ho141) hb)
       replace HO293 := mk_ (Kd.N_elder' (by (with_reducible repeat (first | apply Kd.N_alloc | apply Kd.N_drewN | apply Kd.N_drew)); exact HO293.out) (Kd.N_base ho141) hb)
       replace HO296 := mk_ (Kd.N_elder' (by (with_reducible repeat (first | apply Kd.N_alloc | apply Kd.N_drewN | apply Kd.N_drew)); exact HO296.out) (Kd.N_base ho141) hb)
       replace HO304 := mk_ (Kd.V_elder' (by (with_reducible repeat (first | apply Kd.V_alloc | apply Kd.V_drewN | apply Kd.V_drew)); exact HO304.out) (Kd.N_base ho141) hb)
       replace HO312 := mk_ (Kd.V_elder' (by (with_reducible repeat (first | apply Kd.V_alloc | apply Kd.V_drewN | apply Kd.V_drew)); exact HO312.out) (Kd.N_base ho141) hb)
       have HO299 := mk_ (Kd.N_lower ho141 (zr2 (by repeat (first | (with_reducible first | exact HB.out | apply zq7 | apply zq8 | apply zq9) | exact HB.out))))
       replace HB := mk_ (zr3 (by repeat (first | (with_reducible first | exact HB.out | apply zq7 | apply zq8 | apply zq9) | exact HB.out)) hb)
       clear hb ho141
       refine hK.out _ _ trivial (fun hHeld => ?_)
       clear hK K
       refine norm_ (a' := ?_) ?_ ?_
       rotate_left
       · show Act.put _ (some 46) _ = _
         simp only [Act.put, zs1, zs2, zs3, i64_w, i32_w]
         rfl
       refine one_ (i := 5) (N := some 51) (bm 11 511) rfl rfl (one_of HT_.out (by kernel_rfl)) (by decide) (fun K hK => ?_)
       refine Kd.N_append_rows_step k39 (w0 := w) w.heap.size (by rfl) (.tmp 46) (.tmp 50) 23 39 (.agg #[(.int .i64 0), (.int .i64 0), (.slice none 0 0)]) 40 rfl Try.underlying23 info39 rfl (by decide) (by omega) v298 y297 y300 _ _ _ (fun k_ => some k_ ≠ (.slice Ao134 y291.length co134 : Value).ownBlock ∧ some k_ ≠ (.slice Ao136 t294.length co136 : Value).ownBlock) (fun k_ => ((fun k_ => some k_ ≠ (.slice Ao134 y291.length co134 : Value).ownBlock ∧ some k_ ≠ (.slice Ao136 t294.length co136 : Value).ownBlock)) k_ ∧ some k_ ≠ (v298 : Value).ownBlock) rfl rfl ?aO ?aR (fun _ hk => hk) ?aF ?aB ?aS ?aL ?_
       (case aR => exact (by skip; exact Kd.V_F (Kd.V_mono (ok' := (fun k_ => ((fun k_ => some k_ ≠ (.slice Ao134 y291.length co134 : Value).ownBlock ∧ some k_ ≠ (.slice Ao136 t294.length co136 : Value).ownBlock)) k_ ∧ some k_ ≠ (v298 : Value).ownBlock)) (HO304.out) (fun k_ hk => ⟨⟨hk.1.1.2, hk.1.2⟩, hk.2⟩))))
       (case aB => exact (by repeat (first | (with_reducible first | exact HB.out | apply zq7 | apply zq8 | apply zq9) | exact HB.out)))
       (case aF => exact (fun k_ hk => ⟨Kd.fresh' (Kd.N_lt (by (with_reducible repeat (first | apply Kd.N_alloc | apply Kd.N_drewN | apply Kd.N_drew)); exact HO293.out)) k_ hk, Kd.fresh' (Kd.N_lt (by (with_reducible repeat (first | apply Kd.N_alloc | apply Kd.N_drewN | apply Kd.N_drew)); exact HO296.out)) k_ hk⟩))
       (case aO => exact (by (with_reducible repeat (first | apply Kd.N_alloc | apply Kd.N_drewN | apply Kd.N_drew)); exact HO299.out))
       (case aS => exact (zr2 (by repeat (first | (with_reducible first | exact HB.out | apply zq7 | apply zq8 | apply zq9) | exact HB.out))))
       (case aL => have := LMc37.out; omega)
       intro v306 w142 ho hb hg hat
       rw [← Ny305.out] at ho
       have n0_ := mk_ (Kd.V_afterv (ok := (fun k_ => some k_ ≠ (.slice Ao134 y291.length co134 : Value).ownBlock ∧ some k_ ≠ (.slice Ao136 t294.length co136 : Value).ownBlock)) (by (with_reducible repeat (first | apply Kd.V_alloc | apply Kd.V_drewN | apply Kd.V_drew)); exact Kd.V_mono HO_5.out (fun _ hk => ⟨⟨hk.1.1.2, hk.1.2⟩, hk.2⟩)) hg hat)
       have n1_ := mk_ (Kd.V_afterv (ok := (fun k_ => some k_ ≠ (.slice Ao134 y291.length co134 : Value).ownBlock ∧ some k_ ≠ (.slice Ao136 t294.length co136 : Value).ownBlock)) (by (with_reducible repeat (first | apply Kd.V_alloc | apply Kd.V_drewN | apply Kd.V_drew)); exact Kd.V_mono HO282.out (fun _ hk => ⟨⟨hk.1.1.2, hk.1.2⟩, hk.2⟩)) hg hat)
       have n2_ := mk_ (Kd.V_afterv (ok := (fun k_ => some k_ ≠ (.slice Ao134 y291.length co134 : Value).ownBlock ∧ some k_ ≠ (.slice Ao136 t294.length co136 : Value).ownBlock)) (by (with_reducible repeat (first | apply Kd.V_alloc | apply Kd.V_drewN | apply Kd.V_drew)); exact Kd.V_mono HO290.out (fun _ hk => ⟨⟨hk.1.1.2, hk.1.2⟩, hk.2⟩)) hg hat)
       have n3_ := mk_ (Kd.N_afterv (ok := (fun k_ => some k_ ≠ (.slice Ao136 t294.length co136 : Value).ownBlock)) (by (with_reducible repeat (first | apply Kd.N_alloc | apply Kd.N_drewN | apply Kd.N_drew)); exact Kd.N_mono HO293.out (fun _ hk => ⟨hk.1.2, hk.2⟩)) hg hat)
       have n4_ := mk_ (Kd.N_afterv (ok := (fun k_ => some k_ ≠ (.slice Ao134 y291.length co134 : Value).ownBlock)) (by (with_reducible repeat (first | apply Kd.N_alloc | apply Kd.N_drewN | apply Kd.N_drew)); exact HO296.out) hg hat)
       have n5_ := mk_ (Kd.V_afterv (ok := (fun k_ => some k_ ≠ (.slice Ao134 y291.length co134 : Value).ownBlock ∧ some k_ ≠ (.slice Ao136 t294.length co136 : Value).ownBlock)) (by (with_reducible repeat (first | apply Kd.V_alloc | apply Kd.V_drewN | apply Kd.V_drew)); exact Kd.V_mono HO304.out (fun _ hk => ⟨⟨hk.1.1.2, hk.1.2⟩, hk.2⟩)) hg hat)
       have n6_ := mk_ (Kd.V_afterv (ok := (fun k_ => some k_ ≠ (.slice Ao134 y291.length co134 : Value).ownBlock ∧ some k_ ≠ (.slice Ao136 t294.length co136 : Value).ownBlock)) (by (with_reducible repeat (first | apply Kd.V_alloc | apply Kd.V_drewN | apply Kd.V_drew)); exact Kd.V_mono HO312.out (fun _ hk => ⟨⟨hk.1.1.2, hk.1.2⟩, hk.2⟩)) hg hat)
       have n7_ := mk_ (hb)
       have n8_ := mk_ (ho)
       clear HO_5
       clear HO282
       clear HO290
       clear HO293
       clear HO296
       clear HO304
       clear HO312
       clear HB
       clear HO299
       have HO_5 := n0_
       have HO282 := n1_
       have HO290 := n2_
       have HO293 := n3_
       have HO296 := n4_
       have HO304 := n5_
       have HO312 := n6_
       have HB := n7_
       have HO307 := n8_
       clear n0_ n1_ n2_ n3_ n4_ n5_ n6_ n7_ n8_
       clear ho hb hg hat
       refine hK.out _ _ trivial (fun hHeld => ?_)
       clear hK K
       refine norm_ (a' := ?_) ?_ ?_
       rotate_left
       · show Act.put _ (some 51) _ = _
         simp only [Act.put, zs1, zs2, zs3, i64_w, i32_w]
         rfl
       refine one_ (i := 9) (N := some 55) (bm 11 1023) rfl rfl (one_of HT_.out (by kernel_rfl)) (by decide) (fun K hK => ?_)
       refine Kd.N_append_rows_step k39 (w0 := w) w.heap.size (by rfl) (.tmp 51) (.tmp 54) 23 39 (.agg #[(.int .i64 0), (.int .i64 0), (.slice none 0 0)]) 40 rfl Try.underlying23 info39 rfl (by decide) (by omega) v306 y305 y308 _ _ _ (fun k_ => some k_ ≠ (.slice Ao134 y291.length co134 : Value).ownBlock ∧ some k_ ≠ (.slice Ao136 t294.length co136 : Value).ownBlock) (fun k_ => ((fun k_ => some k_ ≠ (.slice Ao134 y291.length co134 : Value).ownBlock ∧ some k_ ≠ (.slice Ao136 t294.length co136 : Value).ownBlock)) k_ ∧ some k_ ≠ (v306 : Value).ownBlock) rfl rfl ?aO ?aR (fun _ hk => hk) ?aF ?aB ?aS ?aL ?_
       (case aR => exact (by skip; exact Kd.V_F (Kd.V_mono (ok' := (fun k_ => ((fun k_ => some k_ ≠ (.slice Ao134 y291.length co134 : Value).ownBlock ∧ some k_ ≠ (.slice Ao136 t294.length co136 : Value).ownBlock)) k_ ∧ some k_ ≠ (v306 : Value).ownBlock)) (HO312.out) (fun k_ hk => ⟨⟨hk.1.1, hk.1.2⟩, hk.2⟩))))
       (case aB => exact (by repeat (first | (with_reducible first | exact HB.out | apply zq7 | apply zq8 | apply zq9) | exact HB.out)))
       (case aF => exact (fun k_ hk => ⟨Kd.fresh' (Kd.N_lt (by (with_reducible repeat (first | apply Kd.N_alloc | apply Kd.N_drewN | apply Kd.N_drew)); exact HO293.out)) k_ hk, Kd.fresh' (Kd.N_lt (by (with_reducible repeat (first | apply Kd.N_alloc | apply Kd.N_drewN | apply Kd.N_drew)); exact HO296.out)) k_ hk⟩))
       (case aO => exact (by (with_reducible repeat (first | apply Kd.N_alloc | apply Kd.N_drewN | apply Kd.N_drew)); exact HO307.out))
       (case aS => exact (zr2 (by repeat (first | (with_reducible first | exact HB.out | apply zq7 | apply zq8 | apply zq9) | exact HB.out))))
       (case aL => have := LMc40.out; omega)
       intro v314 w143 ho hb hg hat
       rw [← Ny313.out] at ho
       have n0_ := mk_ (Kd.V_afterv (ok := (fun k_ => some k_ ≠ (.slice Ao134 y291.length co134 : Value).ownBlock ∧ some k_ ≠ (.slice Ao136 t294.length co136 : Value).ownBlock)) (by (with_reducible repeat (first | apply Kd.V_alloc | apply Kd.V_drewN | apply Kd.V_drew)); exact HO_5.out) hg hat)
       have n1_ := mk_ (Kd.V_afterv (ok := (fun k_ => some k_ ≠ (.slice Ao134 y291.length co134 : Value).ownBlock ∧ some k_ ≠ (.slice Ao136 t294.length co136 : Value).ownBlock)) (by (with_reducible repeat (first | apply Kd.V_alloc | apply Kd.V_drewN | apply Kd.V_drew)); exact HO282.out) hg hat)
       have n2_ := mk_ (Kd.V_afterv (ok := (fun k_ => some k_ ≠ (.slice Ao134 y291.length co134 : Value).ownBlock ∧ some k_ ≠ (.slice Ao136 t294.length co136 : Value).ownBlock)) (by (with_reducible repeat (first | apply Kd.V_alloc | apply Kd.V_drewN | apply Kd.V_drew)); exact HO290.out) hg hat)
       have n3_ := mk_ (Kd.N_afterv (ok := (fun k_ => some k_ ≠ (.slice Ao136 t294.length co136 : Value).ownBlock)) (by (with_reducible repeat (first | apply Kd.N_alloc | apply Kd.N_drewN | apply Kd.N_drew)); exact HO293.out) hg hat)
       have n4_ := mk_ (Kd.N_afterv (ok := (fun k_ => some k_ ≠ (.slice Ao134 y291.length co134 : Value).ownBlock)) (by (with_reducible repeat (first | apply Kd.N_alloc | apply Kd.N_drewN | apply Kd.N_drew)); exact HO296.out) hg hat)
       have n5_ := mk_ (Kd.V_afterv (ok := (fun k_ => some k_ ≠ (.slice Ao134 y291.length co134 : Value).ownBlock ∧ some k_ ≠ (.slice Ao136 t294.length co136 : Value).ownBlock)) (by (with_reducible repeat (first | apply Kd.V_alloc | apply Kd.V_drewN | apply Kd.V_drew)); exact HO304.out) hg hat)
       have n6_ := mk_ (Kd.V_afterv (ok := (fun k_ => some k_ ≠ (.slice Ao134 y291.length co134 : Value).ownBlock ∧ some k_ ≠ (.slice Ao136 t294.length co136 : Value).ownBlock)) (by (with_reducible repeat (first | apply Kd.V_alloc | apply Kd.V_drewN | apply Kd.V_drew)); exact HO312.out) hg hat)
       have n7_ := mk_ (hb)
       have n8_ := mk_ (ho)
       clear HO_5
       clear HO282
       clear HO290
       clear HO293
       clear HO296
       clear HO304
       clear HO312
       clear HB
       clear HO307
       have HO_5 := n0_
       have HO282 := n1_
       have HO290 := n2_
       have HO293 := n3_
       have HO296 := n4_
       have HO304 := n5_
       have HO312 := n6_
       have HB := n7_
       have HO315 := n8_
       clear n0_ n1_ n2_ n3_ n4_ n5_ n6_ n7_ n8_
       clear ho hb hg hat
       refine hK.out _ _ trivial (fun hHeld => ?_)
       clear hK K
       refine norm_ (a' := ?_) ?_ ?_
       rotate_left
       · show Act.put _ (some 55) _ = _
         simp only [Act.put, zs1, zs2, zs3, i64_w, i32_w]
         rfl
       refine pA 10 (some 8) (bm 11 2047) rfl rfl HT_.out (by kernel_rfl) (fun _ _ _ h => h) (by rfl) (by intro w'; go_simp; with_reducible rfl) (by simp only [Act.put, zs1, zs2, zs3, i64_w, i32_w]; rfl) ?_
       refine done_ (done_of HT_.out (by kernel_rfl)) ?_
       have p316 : 0 ≤ (x6_1 : Int) := of_decide_eq_true (by first | (with_reducible assumption) | assumption)
       have q316 : x6_1 < (t267.length : Int) := of_decide_eq_true (by first | (with_reducible assumption) | assumption)
       obtain ⟨ad316, A316_2, c316_2, e316, hx316_0, hx316_1, hx316_2, hl316_2, hi316_2⟩ := at_T39 (Kd.V_reads' HO_5.out).2.2 x6_1 p316 q316
       cases e316
       obtain ⟨ce316, hce316, hMe316, hcc316⟩ := Kd.V_get HO_5.out z39 x6_1 p316 (by first | exact q316 | exact of_decide_eq_true (by first | (with_reducible assumption) | assumption) | (have e_ := (Kd.V_reads' HO_5.out).1; omega))
       obtain ⟨ua316_2, uc316_2, rfl, ul316_2, ge316_2⟩ := k39_openF hMe316
       have hv316_2 := hcc316 2 _ rfl
       rw [add_field _ _ 2 (by omega)] at hv316_2
       replace hv316_2 := Option.some.inj (hv316_2.symm.trans hx316_2)
       injection hv316_2 with hva_ hvn_ hvc_
       rw [hva_] at ge316_2
       rw [hvc_] at ul316_2
       have HL316_2 := mk_ (show Kd.V (Kd.int .u8) 5 _ w.heap.size _ _ ((rd_T39 t267 x6_1).f2) from Kd.V_mk ul316_2 ge316_2)
       clear hva_ hvn_ hvc_ ge316_2 ul316_2
       clear hcc316 hce316
       have HR316_2 := mk_ hi316_2
       have HC316_2 := mk_ hl316_2
       clear hi316_2 hl316_2
       replace p316 := eq_true p316
       replace q316 := eq_true q316
       have p320 : 0 ≤ (x6_1 : Int) := of_decide_eq_true (by first | (with_reducible assumption) | assumption)
       have q320 : x6_1 < (t267.length : Int) := of_decide_eq_true (by first | (with_reducible assumption) | assumption)
       obtain ⟨ad320, A320_2, c320_2, e320, hx320_0, hx320_1, hx320_2, hl320_2, hi320_2⟩ := at_T39 (Kd.V_reads' HO_5.out).2.2 x6_1 p320 q320
       obtain rfl : ad316 = ad320 := (by injection e320)
       obtain ⟨ce320, hce320, hMe320, hcc320⟩ := Kd.V_get HO_5.out z39 x6_1 p320 (by first | exact q320 | exact of_decide_eq_true (by first | (with_reducible assumption) | assumption) | (have e_ := (Kd.V_reads' HO_5.out).1; omega))
       obtain ⟨ua320_2, uc320_2, rfl, ul320_2, ge320_2⟩ := k39_openF hMe320
       have hv320_2 := hcc320 2 _ rfl
       rw [add_field _ _ 2 (by omega)] at hv320_2
       replace hv320_2 := Option.some.inj (hv320_2.symm.trans hx320_2)
       injection hv320_2 with hva_ hvn_ hvc_
       rw [hva_] at ge320_2
       rw [hvc_] at ul320_2
       have HL320_2 := mk_ (show Kd.V (Kd.int .u8) 5 _ w.heap.size _ _ ((rd_T39 t267 x6_1).f2) from Kd.V_mk ul320_2 ge320_2)
       clear hva_ hvn_ hvc_ ge320_2 ul320_2
       clear hcc320 hce320
       have HR320_2 := mk_ hi320_2
       have HC320_2 := mk_ hl320_2
       clear hi320_2 hl320_2
       replace p320 := eq_true p320
       replace q320 := eq_true q320
       have ea_ := Option.some.inj (hx316_2.symm.trans hx320_2)
       injection ea_ with ea_ en_ ec_
       subst ea_
       subst ec_
       clear en_
       try go_wp2
       go_roundg k1
       case measure => have := HK1.out; omega
       case rel => exact ⟨(ji19), (by first | rfl | (simp; done) | (simp only [← hji19] <;> (first | rfl | simp)) | (simp [*]; done)), H', ⟨by have := HK1.out; omega⟩, ⟨by (with_reducible repeat (first | apply Kd.V_alloc | apply Kd.V_drewN | apply Kd.V_drew)); exact Kd.V_mono HO_5.out (fun _ hk => trivial)⟩, ⟨by repeat (first | (with_reducible first | exact HB.out | apply zq7 | apply zq8 | apply zq9) | exact HB.out)⟩⟩
     rw [if_pos c84] at H
     have c84b0 : (((rd_T39 t267 x6_1).f0) == 2) = true := beq_iff_eq.mpr c84
     have c84b1 : (((rd_T39 t267 x6_1).f0) != 2) = false := bne_eq_false_iff_eq.mpr c84
     clear c84
     replace H := Option.bind_eq_some_iff.mp H
     obtain ⟨t321, A850, H⟩ := H
     try dsimp only at H
     have A85 := mk_ A850
     clear A850
     by_cases c86 : (t321.length : Int) > 0
     · rw [if_pos c86] at H
       have c86b0 : decide (0 < (t321.length : Int)) = true := decide_eq_true c86
       have c86b1 : decide (0 < t321.length) = true := decide_eq_true (by omega)
       clear c86
       obtain rfl := Option.some.inj H
       try go_wp2
       replace HO_5 := mk_ (Kd.V_drew HO_5.out)
       replace HB := mk_ (zq9 HB.out)
       have q88 : (x6_1 : Int) ≤ ((t267.length : Int) : Int) := of_decide_eq_true (by first | (with_reducible assumption) | assumption)
       obtain ⟨i088, hi088, _, hsz88, _⟩ := info_parts info39
       have hroom88 : t267.length ≤ co12 := (Kd.V_reads' HO_5.out).2.1
       have hC88 : Kd.F k39 _ _ Ao12 t267.length t267 := (Kd.V_at (base := w.heap.size) HO_5.out).2.2
       have hcut88 := cut_to (P := Try.prog) 23 39 .i64 Try.underlying23 hi088 Ao12 t267.length co12 x6_1 (of_decide_eq_true (by first | (with_reducible assumption) | assumption)) q88 hroom88
       have hr88 := Kd.F_take (m := (x6_1 : Int).toNat) hC88 (by omega)
       have hy88 : y278.length = (x6_1 : Int).toNat := (by rw [Ny278.out, List.length_take]; omega)
       rw [← Ny278.out] at hr88
       rw [← hy88] at hcut88
       have HO282 := mk_ (show Kd.V k39 39 _ w.heap.size _ (.slice Ao12 y278.length co12) y278 from Kd.V_mk (by omega) hr88)
       have HC282 := mk_ (show y278.length ≤ co12 from by omega)
       clear hr88 hC88 hroom88 hi088 hsz88
       have KY88 := mk_ hy88
       clear hy88
       replace q88 := eq_true q88
       have q89 : ((ji19) : Int) ≤ ((t267.length : Int) : Int) := of_decide_eq_true (by first | (with_reducible assumption) | assumption)
       obtain ⟨i089, hi089, _, hsz89, _⟩ := info_parts info39
       have hroom89 : t267.length ≤ co12 := (Kd.V_reads' HO_5.out).2.1
       have hC89 : Kd.F k39 _ _ Ao12 t267.length t267 := (Kd.V_at (base := w.heap.size) HO_5.out).2.2
       have q089 : (0 : Int) ≤ ((ji19) : Int) := of_decide_eq_true (by first | (with_reducible assumption) | assumption)
       have hcut89 := cut_from (P := Try.prog) 23 39 .i64 Try.underlying23 hi089 3 hsz89 Ao12 t267.length co12 (ji19) q089 q89
       have hr89 := Kd.F_cut (m := ((ji19) : Int).toNat) (c := co12) hC89 (by omega) hroom89
       obtain ⟨A89, hA89⟩ : ∃ A1, A1 = (if co12 = ((ji19) : Int).toNat then Ao12 else (Ao12 : Option Addr).map (·.add (((ji19) : Int).toNat * 3))) := ⟨_, rfl⟩
       obtain ⟨c89, hc89⟩ : ∃ c1, c1 = co12 - ((ji19) : Int).toNat := ⟨_, rfl⟩
       have hy89 : y286.length = t267.length - ((ji19) : Int).toNat := (by rw [Ny286.out, List.length_drop] <;> omega)
       rw [show (t267).drop ((ji19) : Int).toNat = y286 from Ny286.out.symm] at hr89
       replace hr89 : Kd.F k39 _ _ A89 y286.length y286 := (by rw [hA89]; exact hr89)
       rw [← hy89, ← hA89, ← hc89] at hcut89
       have HO290 := mk_ (show Kd.V k39 39 _ w.heap.size _ (.slice A89 y286.length c89) y286 from Kd.V_mk (by rw [hy89, hc89]; exact Nat.sub_le_sub_right hroom89 _) hr89)
       have HC290 := mk_ (show y286.length ≤ c89 from by rw [hy89, hc89]; exact Nat.sub_le_sub_right hroom89 _)
       clear hr89 hC89 hroom89 hi089 hsz89 hc89
       have KY89 := mk_ hy89
       have KA89 := mk_ hA89
       clear hy89 hA89
       replace q89 := eq_true q89
       refine start_ (n := 11) (S := fun w' => True) (ds := []) (bm 11 0) (by kernel_rfl) rfl rfl trivial (fun hHeld => ?_); refine with_tabW laws_FnSegLost.tab10 laws_FnSegLost.bits10 (fun HT_ HW_ => ?_)
       generalize wr.drew = w87 at HO_5 HB HO282 HO290 hHeld ⊢
       refine pA 1 (some 33) (bm 11 2) rfl rfl HT_.out (by kernel_rfl) (fun _ _ _ h => h) (by rfl) (by intro w'; go_simp; with_reducible rfl) (by simp only [Act.put, zs1, zs2, zs3, i64_w, i32_w]; rfl) ?_
       refine pA 2 (some 34) (bm 11 6) rfl rfl HT_.out (by kernel_rfl) (fun _ _ _ h => h) (by rfl) (by intro w'; go_simp; with_reducible rfl) (by simp only [Act.put, zs1, zs2, zs3, i64_w, i32_w]; rfl) ?_
       refine pA 3 (some 35) (bm 11 14) rfl rfl HT_.out (by kernel_rfl) (fun _ _ _ h => h) (by rfl) (by intro w'; go_simp; with_reducible rfl) (by simp only [Act.put, zs1, zs2, zs3, i64_w, i32_w]; rfl) ?_
       refine pA 5 (some 37) (bm 11 46) rfl rfl HT_.out (by kernel_rfl) (fun _ _ _ h => h) (by rfl) (by intro w'; go_simp; with_reducible rfl) (by simp only [Act.put, zs1, zs2, zs3, i64_w, i32_w]; rfl) ?_
       refine pA 6 (some 38) (bm 11 110) rfl rfl HT_.out (by kernel_rfl) (fun _ _ _ h => h) (by rfl) (by intro w'; go_simp; with_reducible rfl) (by simp only [Act.put, zs1, zs2, zs3, i64_w, i32_w]; rfl) ?_
       refine pA 7 (some 39) (bm 11 238) rfl rfl HT_.out (by kernel_rfl) (fun _ _ _ h => h) (by rfl) (by intro w'; go_simp; with_reducible rfl) (by simp only [Act.put, zs1, zs2, zs3, i64_w, i32_w]; rfl) ?_
       refine pA 8 (some 40) (bm 11 494) rfl rfl HT_.out (by kernel_rfl) (fun _ _ _ h => h) (by rfl) (by intro w'; go_simp; with_reducible rfl) (by simp only [Act.put, zs1, zs2, zs3, i64_w, i32_w]; rfl) ?_
       refine one_ (i := 0) (N := some 32) (bm 11 495) rfl rfl (one_of HT_.out (by kernel_rfl)) (by decide) (fun K hK => ?_)
       refine Kd.N_lit_step k39 _ 39 ?hg (N' := 32) ?hd (xs := ([] : List (S39))) (inner := []) (ok := (fun _ => True)) (okp := (fun _ => True)) ?hr ?hp (fun _ hk => hk) ((show ∀ k_, w87.heap.size ≤ k_ → (fun _ => True) k_ from fun k_ hk => trivial) _ (Nat.le_refl _)) (Below.refl _ _) (Nat.le_refl _) (by simp) ?_; (case hd => rfl); (case hg => rfl); (case hr => first | (go_simp; done) | (go_simp; rfl)); (case hp => exact (Reps.none _ _))
       intro v276 w90 ho91 hb hg_ hnew_
       clear hg_ hnew_
       (first | rw [← Ny275.out] at ho91 | (simp only [Int.reduceToNat] at ho91; rw [← Ny275.out] at ho91))
       replace HO_5 := mk_ (Kd.V_elder' (by (with_reducible repeat (first | apply Kd.V_alloc | apply Kd.V_drewN | apply Kd.V_drew)); exact HO_5.out) (Kd.N_base ho91) hb)
       replace HO282 := mk_ (Kd.V_elder' (by (with_reducible repeat (first | apply Kd.V_alloc | apply Kd.V_drewN | apply Kd.V_drew)); exact HO282.out) (Kd.N_base ho91) hb)
       replace HO290 := mk_ (Kd.V_elder' (by (with_reducible repeat (first | apply Kd.V_alloc | apply Kd.V_drewN | apply Kd.V_drew)); exact HO290.out) (Kd.N_base ho91) hb)
       have HO277 := mk_ (Kd.N_lower ho91 (zr2 (by repeat (first | (with_reducible first | exact HB.out | apply zq7 | apply zq8 | apply zq9) | exact HB.out))))
       replace HB := mk_ (zr3 (by repeat (first | (with_reducible first | exact HB.out | apply zq7 | apply zq8 | apply zq9) | exact HB.out)) hb)
       clear hb ho91
       refine hK.out _ _ trivial (fun hHeld => ?_)
       clear hK K
       refine norm_ (a' := ?_) ?_ ?_
       rotate_left
       · show Act.put _ (some 32) _ = _
         simp only [Act.put, zs1, zs2, zs3, i64_w, i32_w]
         rfl
       refine one_ (i := 4) (N := some 36) (bm 11 511) rfl rfl (one_of HT_.out (by kernel_rfl)) (by decide) (fun K hK => ?_)
       refine Kd.N_append_rows_step k39 (w0 := w) w.heap.size (by rfl) (.tmp 32) (.tmp 35) 23 39 (.agg #[(.int .i64 0), (.int .i64 0), (.slice none 0 0)]) 40 rfl Try.underlying23 info39 rfl (by decide) (by omega) v276 y275 y278 _ _ _ (fun _ => True) (fun k_ => ((fun _ => True)) k_ ∧ some k_ ≠ (v276 : Value).ownBlock) rfl rfl ?aO ?aR (fun _ hk => hk) ?aF ?aB ?aS ?aL ?_
       (case aR => exact (by skip; exact Kd.V_F (Kd.V_mono (ok' := (fun k_ => ((fun _ => True)) k_ ∧ some k_ ≠ (v276 : Value).ownBlock)) (HO282.out) (fun k_ hk => ⟨trivial, hk.2⟩))))
       (case aB => exact (by repeat (first | (with_reducible first | exact HB.out | apply zq7 | apply zq8 | apply zq9) | exact HB.out)))
       (case aF => exact (fun _ _ => trivial))
       (case aO => exact (by (with_reducible repeat (first | apply Kd.N_alloc | apply Kd.N_drewN | apply Kd.N_drew)); exact HO277.out))
       (case aS => exact (zr2 (by repeat (first | (with_reducible first | exact HB.out | apply zq7 | apply zq8 | apply zq9) | exact HB.out))))
       (case aL => have := LMc18.out; omega)
       intro v284 w92 ho hb hg hat
       rw [← Ny283.out] at ho
       have n0_ := mk_ (Kd.V_afterv (ok := (fun _ => True)) (by (with_reducible repeat (first | apply Kd.V_alloc | apply Kd.V_drewN | apply Kd.V_drew)); exact HO_5.out) hg hat)
       have n1_ := mk_ (Kd.V_afterv (ok := (fun _ => True)) (by (with_reducible repeat (first | apply Kd.V_alloc | apply Kd.V_drewN | apply Kd.V_drew)); exact HO282.out) hg hat)
       have n2_ := mk_ (Kd.V_afterv (ok := (fun _ => True)) (by (with_reducible repeat (first | apply Kd.V_alloc | apply Kd.V_drewN | apply Kd.V_drew)); exact HO290.out) hg hat)
       have n3_ := mk_ (hb)
       have n4_ := mk_ (ho)
       clear HO_5
       clear HO282
       clear HO290
       clear HB
       clear HO277
       have HO_5 := n0_
       have HO282 := n1_
       have HO290 := n2_
       have HB := n3_
       have HO285 := n4_
       clear n0_ n1_ n2_ n3_ n4_
       clear ho hb hg hat
       refine hK.out _ _ trivial (fun hHeld => ?_)
       clear hK K
       refine norm_ (a' := ?_) ?_ ?_
       rotate_left
       · show Act.put _ (some 36) _ = _
         simp only [Act.put, zs1, zs2, zs3, i64_w, i32_w]
         rfl
       refine one_ (i := 9) (N := some 41) (bm 11 1023) rfl rfl (one_of HT_.out (by kernel_rfl)) (by decide) (fun K hK => ?_)
       refine Kd.N_append_rows_step k39 (w0 := w) w.heap.size (by rfl) (.tmp 36) (.tmp 40) 23 39 (.agg #[(.int .i64 0), (.int .i64 0), (.slice none 0 0)]) 40 rfl Try.underlying23 info39 rfl (by decide) (by omega) v284 y283 y286 _ _ _ (fun _ => True) (fun k_ => ((fun _ => True)) k_ ∧ some k_ ≠ (v284 : Value).ownBlock) rfl rfl ?aO ?aR (fun _ hk => hk) ?aF ?aB ?aS ?aL ?_
       (case aR => exact (by skip; exact Kd.V_F (Kd.V_mono (ok' := (fun k_ => ((fun _ => True)) k_ ∧ some k_ ≠ (v284 : Value).ownBlock)) (HO290.out) (fun k_ hk => ⟨trivial, hk.2⟩))))
       (case aB => exact (by repeat (first | (with_reducible first | exact HB.out | apply zq7 | apply zq8 | apply zq9) | exact HB.out)))
       (case aF => exact (fun _ _ => trivial))
       (case aO => exact (by (with_reducible repeat (first | apply Kd.N_alloc | apply Kd.N_drewN | apply Kd.N_drew)); exact HO285.out))
       (case aS => exact (zr2 (by repeat (first | (with_reducible first | exact HB.out | apply zq7 | apply zq8 | apply zq9) | exact HB.out))))
       (case aL => have := LMc22.out; omega)
       intro v292 w93 ho hb hg hat
       rw [← Ny291.out] at ho
       have n0_ := mk_ (Kd.V_afterv (ok := (fun _ => True)) (by (with_reducible repeat (first | apply Kd.V_alloc | apply Kd.V_drewN | apply Kd.V_drew)); exact HO_5.out) hg hat)
       have n1_ := mk_ (Kd.V_afterv (ok := (fun _ => True)) (by (with_reducible repeat (first | apply Kd.V_alloc | apply Kd.V_drewN | apply Kd.V_drew)); exact HO282.out) hg hat)
       have n2_ := mk_ (Kd.V_afterv (ok := (fun _ => True)) (by (with_reducible repeat (first | apply Kd.V_alloc | apply Kd.V_drewN | apply Kd.V_drew)); exact HO290.out) hg hat)
       have n3_ := mk_ (hb)
       have n4_ := mk_ (ho)
       clear HO_5
       clear HO282
       clear HO290
       clear HB
       clear HO285
       have HO_5 := n0_
       have HO282 := n1_
       have HO290 := n2_
       have HB := n3_
       have HO293 := n4_
       clear n0_ n1_ n2_ n3_ n4_
       clear ho hb hg hat
       refine hK.out _ _ trivial (fun hHeld => ?_)
       clear hK K
       refine norm_ (a' := ?_) ?_ ?_
       rotate_left
       · show Act.put _ (some 41) _ = _
         simp only [Act.put, zs1, zs2, zs3, i64_w, i32_w]
         rfl
       refine pA 10 (some 7) (bm 11 2047) rfl rfl HT_.out (by kernel_rfl) (fun _ _ _ h => h) (by rfl) (by intro w'; go_simp; with_reducible rfl) (by simp only [Act.put, zs1, zs2, zs3, i64_w, i32_w]; rfl) ?_
       refine done_ (done_of HT_.out (by kernel_rfl)) ?_
       obtain ⟨Ao94, co94, eo94⟩ := Kd.N_slice HO293.out
       subst eo94
       try go_wp2_with (first | ((with_reducible refine gate_callee (f := 30) rfl ?_); refine goesL_ (some 43) rfl rfl Try.func30 (by kernel_rfl) rfl #[.slice Ao94 y291.length co94] rfl (by (try simp only [List.map_toArray, List.map_cons, List.map_nil]); first | done | rfl | (simp only [List.length_drop, List.length_take]; rfl)) ?_; (with_reducible refine (laws_liFeed.calls k1 _ _ y291 t294 _ ?side1 ?side2 A23.out).mono ?_); (case side1 => repeat (first | exact (Kd.N_reads' HO293.out).2.2 | (with_reducible refine Kd.C_alloc ?_ _) | (with_reducible refine Kd.C_drewN ?_ _) | (with_reducible refine Kd.C_drew ?_))); (case side2 => exact (Kd.N_reads' HO293.out).2.1); rintro e w95 ⟨v295, rfl, ho0, hb⟩; refine ⟨_, rfl, ?_⟩; replace HO_5 := mk_ (Kd.V_elder' (by (with_reducible repeat (first | apply Kd.V_alloc | apply Kd.V_drewN | apply Kd.V_drew)); exact HO_5.out) (by first | exact Kd.N_base ho0 | exact Kd.S_base ho0) hb); replace HO282 := mk_ (Kd.V_elder' (by (with_reducible repeat (first | apply Kd.V_alloc | apply Kd.V_drewN | apply Kd.V_drew)); exact HO282.out) (by first | exact Kd.N_base ho0 | exact Kd.S_base ho0) hb); replace HO290 := mk_ (Kd.V_elder' (by (with_reducible repeat (first | apply Kd.V_alloc | apply Kd.V_drewN | apply Kd.V_drew)); exact HO290.out) (by first | exact Kd.N_base ho0 | exact Kd.S_base ho0) hb); have HO296 := mk_ (Kd.N_lower (Kd.N_mono (ok' := fun k_ => some k_ ≠ (.slice Ao94 y291.length co94 : Value).ownBlock) ho0 (fun k_ hk_ => (Kd.fresh' (Kd.N_lt (by (with_reducible repeat (first | apply Kd.N_alloc | apply Kd.N_drewN | apply Kd.N_drew)); exact HO293.out)) k_ hk_))) (zr2 (by repeat (first | (with_reducible first | exact HB.out | apply zq7 | apply zq8 | apply zq9) | exact HB.out)))); replace HO293 := mk_ (Kd.N_elder' (by (with_reducible repeat (first | apply Kd.N_alloc | apply Kd.N_drewN | apply Kd.N_drew)); exact HO293.out) (by first | exact Kd.N_base ho0 | exact Kd.S_base ho0) hb); replace HB := mk_ (zr3 (by repeat (first | (with_reducible first | exact HB.out | apply zq7 | apply zq8 | apply zq9) | exact HB.out)) hb); (try clear hb); (try clear hb2); (try clear hk); (try clear hi); (try clear ho0); obtain ⟨Ao96, co96, eo96⟩ := Kd.N_slice HO296.out; subst eo96))
       replace HO_5 := mk_ (Kd.V_drew HO_5.out)
       replace HO282 := mk_ (Kd.V_drew HO282.out)
       replace HO290 := mk_ (Kd.V_drew HO290.out)
       replace HO293 := mk_ (Kd.N_drew HO293.out)
       replace HO296 := mk_ (Kd.N_drew HO296.out)
       replace HB := mk_ (zq9 HB.out)
       have q98 : ((ji19) : Int) ≤ ((t267.length : Int) : Int) := of_decide_eq_true (by first | (with_reducible assumption) | assumption)
       obtain ⟨i098, hi098, _, hsz98, _⟩ := info_parts info39
       have hroom98 : t267.length ≤ co12 := (Kd.V_reads' HO_5.out).2.1
       have hC98 : Kd.F k39 _ _ Ao12 t267.length t267 := (Kd.V_at (base := w.heap.size) HO_5.out).2.2
       have hcut98 := cut_to (P := Try.prog) 23 39 .i64 Try.underlying23 hi098 Ao12 t267.length co12 (ji19) (of_decide_eq_true (by first | (with_reducible assumption) | assumption)) q98 hroom98
       have hr98 := Kd.F_take (m := ((ji19) : Int).toNat) hC98 (by omega)
       have hy98 : y300.length = ((ji19) : Int).toNat := (by rw [Ny300.out, List.length_take]; omega)
       rw [← Ny300.out] at hr98
       rw [← hy98] at hcut98
       have HO304 := mk_ (show Kd.V k39 39 _ w.heap.size _ (.slice Ao12 y300.length co12) y300 from Kd.V_mk (by omega) hr98)
       have HC304 := mk_ (show y300.length ≤ co12 from by omega)
       clear hr98 hC98 hroom98 hi098 hsz98
       have KY98 := mk_ hy98
       clear hy98
       replace q98 := eq_true q98
       have q99 : (x6_1 : Int) ≤ ((t267.length : Int) : Int) := of_decide_eq_true (by first | (with_reducible assumption) | assumption)
       obtain ⟨i099, hi099, _, hsz99, _⟩ := info_parts info39
       have hroom99 : t267.length ≤ co12 := (Kd.V_reads' HO_5.out).2.1
       have hC99 : Kd.F k39 _ _ Ao12 t267.length t267 := (Kd.V_at (base := w.heap.size) HO_5.out).2.2
       have q099 : (0 : Int) ≤ (x6_1 : Int) := of_decide_eq_true (by first | (with_reducible assumption) | assumption)
       have hcut99 := cut_from (P := Try.prog) 23 39 .i64 Try.underlying23 hi099 3 hsz99 Ao12 t267.length co12 x6_1 q099 q99
       have hr99 := Kd.F_cut (m := (x6_1 : Int).toNat) (c := co12) hC99 (by omega) hroom99
       obtain ⟨A99, hA99⟩ : ∃ A1, A1 = (if co12 = (x6_1 : Int).toNat then Ao12 else (Ao12 : Option Addr).map (·.add ((x6_1 : Int).toNat * 3))) := ⟨_, rfl⟩
       obtain ⟨c99, hc99⟩ : ∃ c1, c1 = co12 - (x6_1 : Int).toNat := ⟨_, rfl⟩
       have hy99 : y308.length = t267.length - (x6_1 : Int).toNat := (by rw [Ny308.out, List.length_drop] <;> omega)
       rw [show (t267).drop (x6_1 : Int).toNat = y308 from Ny308.out.symm] at hr99
       replace hr99 : Kd.F k39 _ _ A99 y308.length y308 := (by rw [hA99]; exact hr99)
       rw [← hy99, ← hA99, ← hc99] at hcut99
       have HO312 := mk_ (show Kd.V k39 39 _ w.heap.size _ (.slice A99 y308.length c99) y308 from Kd.V_mk (by rw [hy99, hc99]; exact Nat.sub_le_sub_right hroom99 _) hr99)
       have HC312 := mk_ (show y308.length ≤ c99 from by rw [hy99, hc99]; exact Nat.sub_le_sub_right hroom99 _)
       clear hr99 hC99 hroom99 hi099 hsz99 hc99
       have KY99 := mk_ hy99
       have KA99 := mk_ hA99
       clear hy99 hA99
       replace q99 := eq_true q99
       refine start_ (n := 11) (S := fun w' => True) (ds := []) (bm 11 0) (by kernel_rfl) rfl rfl trivial (fun hHeld => ?_); refine with_tabW laws_FnSegLost.tab13 laws_FnSegLost.bits13 (fun HT_ HW_ => ?_)
       generalize w95.drew = w97 at HO_5 HO282 HO290 HO293 HO296 HB HO304 HO312 hHeld ⊢
       refine pA 1 (some 47) (bm 11 2) rfl rfl HT_.out (by kernel_rfl) (fun _ _ _ h => h) (by rfl) (by intro w'; go_simp; with_reducible rfl) (by simp only [Act.put, zs1, zs2, zs3, i64_w, i32_w]; rfl) ?_
       refine pA 2 (some 48) (bm 11 6) rfl rfl HT_.out (by kernel_rfl) (fun _ _ _ h => h) (by rfl) (by intro w'; go_simp; with_reducible rfl) (by simp only [Act.put, zs1, zs2, zs3, i64_w, i32_w]; rfl) ?_
       refine pA 3 (some 49) (bm 11 14) rfl rfl HT_.out (by kernel_rfl) (fun _ _ _ h => h) (by rfl) (by intro w'; go_simp; with_reducible rfl) (by simp only [Act.put, zs1, zs2, zs3, i64_w, i32_w]; rfl) ?_
       refine pA 4 (some 50) (bm 11 30) rfl rfl HT_.out (by kernel_rfl) (fun _ _ _ h => h) (by rfl) (by intro w'; go_simp; with_reducible rfl) (by simp only [Act.put, zs1, zs2, zs3, i64_w, i32_w]; rfl) ?_
       refine pA 6 (some 52) (bm 11 94) rfl rfl HT_.out (by kernel_rfl) (fun _ _ _ h => h) (by rfl) (by intro w'; go_simp; with_reducible rfl) (by simp only [Act.put, zs1, zs2, zs3, i64_w, i32_w]; rfl) ?_
       refine pA 7 (some 53) (bm 11 222) rfl rfl HT_.out (by kernel_rfl) (fun _ _ _ h => h) (by rfl) (by intro w'; go_simp; with_reducible rfl) (by simp only [Act.put, zs1, zs2, zs3, i64_w, i32_w]; rfl) ?_
       refine pA 8 (some 54) (bm 11 478) rfl rfl HT_.out (by kernel_rfl) (fun _ _ _ h => h) (by rfl) (by intro w'; go_simp; with_reducible rfl) (by simp only [Act.put, zs1, zs2, zs3, i64_w, i32_w]; rfl) ?_
       refine one_ (i := 0) (N := some 46) (bm 11 479) rfl rfl (one_of HT_.out (by kernel_rfl)) (by decide) (fun K hK => ?_)
       refine Kd.N_lit_step k39 _ 39 ?hg (N' := 46) ?hd (xs := ([] : List (S39))) (inner := []) (ok := (fun k_ => some k_ ≠ (.slice Ao94 y291.length co94 : Value).ownBlock ∧ some k_ ≠ (.slice Ao96 t294.length co96 : Value).ownBlock)) (okp := (fun k_ => some k_ ≠ (.slice Ao94 y291.length co94 : Value).ownBlock ∧ some k_ ≠ (.slice Ao96 t294.length co96 : Value).ownBlock)) ?hr ?hp (fun _ hk => hk) ((show ∀ k_, w97.heap.size ≤ k_ → (fun k_ => some k_ ≠ (.slice Ao94 y291.length co94 : Value).ownBlock ∧ some k_ ≠ (.slice Ao96 t294.length co96 : Value).ownBlock) k_ from fun k_ hk => ⟨Kd.fresh' (Kd.N_lt (by (with_reducible repeat (first | apply Kd.N_alloc | apply Kd.N_drewN | apply Kd.N_drew)); exact HO293.out)) k_ hk, Kd.fresh' (Kd.N_lt (by (with_reducible repeat (first | apply Kd.N_alloc | apply Kd.N_drewN | apply Kd.N_drew)); exact HO296.out)) k_ hk⟩) _ (Nat.le_refl _)) (Below.refl _ _) (Nat.le_refl _) (by simp) ?_; (case hd => rfl); (case hg => rfl); (case hr => first | (go_simp; done) | (go_simp; rfl)); (case hp => exact (Reps.none _ _))
       intro v298 w100 ho101 hb hg_ hnew_
       clear hg_ hnew_
       (first | rw [← Ny297.out] at ho101 | (simp only [Int.reduceToNat] at ho101; rw [← Ny297.out] at ho101))
       replace HO_5 := mk_ (Kd.V_elder' (by (with_reducible repeat (first | apply Kd.V_alloc | apply Kd.V_drewN | apply Kd.V_drew)); exact HO_5.out) (Kd.N_base ho101) hb)
       replace HO282 := mk_ (Kd.V_elder' (by (with_reducible repeat (first | apply Kd.V_alloc | apply Kd.V_drewN | apply Kd.V_drew)); exact HO282.out) (Kd.N_base ho101) hb)
       replace HO290 := mk_ (Kd.V_elder' (by (with_reducible repeat (first | apply Kd.V_alloc | apply Kd.V_drewN | apply Kd.V_drew)); exact HO290.out) (Kd.N_base ho101) hb)
       replace HO293 := mk_ (Kd.N_elder' (by (with_reducible repeat (first | apply Kd.N_alloc | apply Kd.N_drewN | apply Kd.N_drew)); exact HO293.out) (Kd.N_base ho101) hb)
       replace HO296 := mk_ (Kd.N_elder' (by (with_reducible repeat (first | apply Kd.N_alloc | apply Kd.N_drewN | apply Kd.N_drew)); exact HO296.out) (Kd.N_base ho101) hb)
       replace HO304 := mk_ (Kd.V_elder' (by (with_reducible repeat (first | apply Kd.V_alloc | apply Kd.V_drewN | apply Kd.V_drew)); exact HO304.out) (Kd.N_base ho101) hb)
       replace HO312 := mk_ (Kd.V_elder' (by (with_reducible repeat (first | apply Kd.V_alloc | apply Kd.V_drewN | apply Kd.V_drew)); exact HO312.out) (Kd.N_base ho101) hb)
       have HO299 := mk_ (Kd.N_lower ho101 (zr2 (by repeat (first | (with_reducible first | exact HB.out | apply zq7 | apply zq8 | apply zq9) | exact HB.out))))
       replace HB := mk_ (zr3 (by repeat (first | (with_reducible first | exact HB.out | apply zq7 | apply zq8 | apply zq9) | exact HB.out)) hb)
       clear hb ho101
       refine hK.out _ _ trivial (fun hHeld => ?_)
       clear hK K
       refine norm_ (a' := ?_) ?_ ?_
       rotate_left
       · show Act.put _ (some 46) _ = _
         simp only [Act.put, zs1, zs2, zs3, i64_w, i32_w]
         rfl
       refine one_ (i := 5) (N := some 51) (bm 11 511) rfl rfl (one_of HT_.out (by kernel_rfl)) (by decide) (fun K hK => ?_)
       refine Kd.N_append_rows_step k39 (w0 := w) w.heap.size (by rfl) (.tmp 46) (.tmp 50) 23 39 (.agg #[(.int .i64 0), (.int .i64 0), (.slice none 0 0)]) 40 rfl Try.underlying23 info39 rfl (by decide) (by omega) v298 y297 y300 _ _ _ (fun k_ => some k_ ≠ (.slice Ao94 y291.length co94 : Value).ownBlock ∧ some k_ ≠ (.slice Ao96 t294.length co96 : Value).ownBlock) (fun k_ => ((fun k_ => some k_ ≠ (.slice Ao94 y291.length co94 : Value).ownBlock ∧ some k_ ≠ (.slice Ao96 t294.length co96 : Value).ownBlock)) k_ ∧ some k_ ≠ (v298 : Value).ownBlock) rfl rfl ?aO ?aR (fun _ hk => hk) ?aF ?aB ?aS ?aL ?_
       (case aR => exact (by skip; exact Kd.V_F (Kd.V_mono (ok' := (fun k_ => ((fun k_ => some k_ ≠ (.slice Ao94 y291.length co94 : Value).ownBlock ∧ some k_ ≠ (.slice Ao96 t294.length co96 : Value).ownBlock)) k_ ∧ some k_ ≠ (v298 : Value).ownBlock)) (HO304.out) (fun k_ hk => ⟨⟨hk.1.1.2, hk.1.2⟩, hk.2⟩))))
       (case aB => exact (by repeat (first | (with_reducible first | exact HB.out | apply zq7 | apply zq8 | apply zq9) | exact HB.out)))
       (case aF => exact (fun k_ hk => ⟨Kd.fresh' (Kd.N_lt (by (with_reducible repeat (first | apply Kd.N_alloc | apply Kd.N_drewN | apply Kd.N_drew)); exact HO293.out)) k_ hk, Kd.fresh' (Kd.N_lt (by (with_reducible repeat (first | apply Kd.N_alloc | apply Kd.N_drewN | apply Kd.N_drew)); exact HO296.out)) k_ hk⟩))
       (case aO => exact (by (with_reducible repeat (first | apply Kd.N_alloc | apply Kd.N_drewN | apply Kd.N_drew)); exact HO299.out))
       (case aS => exact (zr2 (by repeat (first | (with_reducible first | exact HB.out | apply zq7 | apply zq8 | apply zq9) | exact HB.out))))
       (case aL => have := LMc37.out; omega)
       intro v306 w102 ho hb hg hat
       rw [← Ny305.out] at ho
       have n0_ := mk_ (Kd.V_afterv (ok := (fun k_ => some k_ ≠ (.slice Ao94 y291.length co94 : Value).ownBlock ∧ some k_ ≠ (.slice Ao96 t294.length co96 : Value).ownBlock)) (by (with_reducible repeat (first | apply Kd.V_alloc | apply Kd.V_drewN | apply Kd.V_drew)); exact Kd.V_mono HO_5.out (fun _ hk => ⟨⟨hk.1.1.2, hk.1.2⟩, hk.2⟩)) hg hat)
       have n1_ := mk_ (Kd.V_afterv (ok := (fun k_ => some k_ ≠ (.slice Ao94 y291.length co94 : Value).ownBlock ∧ some k_ ≠ (.slice Ao96 t294.length co96 : Value).ownBlock)) (by (with_reducible repeat (first | apply Kd.V_alloc | apply Kd.V_drewN | apply Kd.V_drew)); exact Kd.V_mono HO282.out (fun _ hk => ⟨⟨hk.1.1.2, hk.1.2⟩, hk.2⟩)) hg hat)
       have n2_ := mk_ (Kd.V_afterv (ok := (fun k_ => some k_ ≠ (.slice Ao94 y291.length co94 : Value).ownBlock ∧ some k_ ≠ (.slice Ao96 t294.length co96 : Value).ownBlock)) (by (with_reducible repeat (first | apply Kd.V_alloc | apply Kd.V_drewN | apply Kd.V_drew)); exact Kd.V_mono HO290.out (fun _ hk => ⟨⟨hk.1.1.2, hk.1.2⟩, hk.2⟩)) hg hat)
       have n3_ := mk_ (Kd.N_afterv (ok := (fun k_ => some k_ ≠ (.slice Ao96 t294.length co96 : Value).ownBlock)) (by (with_reducible repeat (first | apply Kd.N_alloc | apply Kd.N_drewN | apply Kd.N_drew)); exact Kd.N_mono HO293.out (fun _ hk => ⟨hk.1.2, hk.2⟩)) hg hat)
       have n4_ := mk_ (Kd.N_afterv (ok := (fun k_ => some k_ ≠ (.slice Ao94 y291.length co94 : Value).ownBlock)) (by (with_reducible repeat (first | apply Kd.N_alloc | apply Kd.N_drewN | apply Kd.N_drew)); exact HO296.out) hg hat)
       have n5_ := mk_ (Kd.V_afterv (ok := (fun k_ => some k_ ≠ (.slice Ao94 y291.length co94 : Value).ownBlock ∧ some k_ ≠ (.slice Ao96 t294.length co96 : Value).ownBlock)) (by (with_reducible repeat (first | apply Kd.V_alloc | apply Kd.V_drewN | apply Kd.V_drew)); exact Kd.V_mono HO304.out (fun _ hk => ⟨⟨hk.1.1.2, hk.1.2⟩, hk.2⟩)) hg hat)
       have n6_ := mk_ (Kd.V_afterv (ok := (fun k_ => some k_ ≠ (.slice Ao94 y291.length co94 : Value).ownBlock ∧ some k_ ≠ (.slice Ao96 t294.length co96 : Value).ownBlock)) (by (with_reducible repeat (first | apply Kd.V_alloc | apply Kd.V_drewN | apply Kd.V_drew)); exact Kd.V_mono HO312.out (fun _ hk => ⟨⟨hk.1.1.2, hk.1.2⟩, hk.2⟩)) hg hat)
       have n7_ := mk_ (hb)
       have n8_ := mk_ (ho)
       clear HO_5
       clear HO282
       clear HO290
       clear HO293
       clear HO296
       clear HO304
       clear HO312
       clear HB
       clear HO299
       have HO_5 := n0_
       have HO282 := n1_
       have HO290 := n2_
       have HO293 := n3_
       have HO296 := n4_
       have HO304 := n5_
       have HO312 := n6_
       have HB := n7_
       have HO307 := n8_
       clear n0_ n1_ n2_ n3_ n4_ n5_ n6_ n7_ n8_
       clear ho hb hg hat
       refine hK.out _ _ trivial (fun hHeld => ?_)
       clear hK K
       refine norm_ (a' := ?_) ?_ ?_
       rotate_left
       · show Act.put _ (some 51) _ = _
         simp only [Act.put, zs1, zs2, zs3, i64_w, i32_w]
         rfl
       refine one_ (i := 9) (N := some 55) (bm 11 1023) rfl rfl (one_of HT_.out (by kernel_rfl)) (by decide) (fun K hK => ?_)
       refine Kd.N_append_rows_step k39 (w0 := w) w.heap.size (by rfl) (.tmp 51) (.tmp 54) 23 39 (.agg #[(.int .i64 0), (.int .i64 0), (.slice none 0 0)]) 40 rfl Try.underlying23 info39 rfl (by decide) (by omega) v306 y305 y308 _ _ _ (fun k_ => some k_ ≠ (.slice Ao94 y291.length co94 : Value).ownBlock ∧ some k_ ≠ (.slice Ao96 t294.length co96 : Value).ownBlock) (fun k_ => ((fun k_ => some k_ ≠ (.slice Ao94 y291.length co94 : Value).ownBlock ∧ some k_ ≠ (.slice Ao96 t294.length co96 : Value).ownBlock)) k_ ∧ some k_ ≠ (v306 : Value).ownBlock) rfl rfl ?aO ?aR (fun _ hk => hk) ?aF ?aB ?aS ?aL ?_
       (case aR => exact (by skip; exact Kd.V_F (Kd.V_mono (ok' := (fun k_ => ((fun k_ => some k_ ≠ (.slice Ao94 y291.length co94 : Value).ownBlock ∧ some k_ ≠ (.slice Ao96 t294.length co96 : Value).ownBlock)) k_ ∧ some k_ ≠ (v306 : Value).ownBlock)) (HO312.out) (fun k_ hk => ⟨⟨hk.1.1, hk.1.2⟩, hk.2⟩))))
       (case aB => exact (by repeat (first | (with_reducible first | exact HB.out | apply zq7 | apply zq8 | apply zq9) | exact HB.out)))
       (case aF => exact (fun k_ hk => ⟨Kd.fresh' (Kd.N_lt (by (with_reducible repeat (first | apply Kd.N_alloc | apply Kd.N_drewN | apply Kd.N_drew)); exact HO293.out)) k_ hk, Kd.fresh' (Kd.N_lt (by (with_reducible repeat (first | apply Kd.N_alloc | apply Kd.N_drewN | apply Kd.N_drew)); exact HO296.out)) k_ hk⟩))
       (case aO => exact (by (with_reducible repeat (first | apply Kd.N_alloc | apply Kd.N_drewN | apply Kd.N_drew)); exact HO307.out))
       (case aS => exact (zr2 (by repeat (first | (with_reducible first | exact HB.out | apply zq7 | apply zq8 | apply zq9) | exact HB.out))))
       (case aL => have := LMc40.out; omega)
       intro v314 w103 ho hb hg hat
       rw [← Ny313.out] at ho
       have n0_ := mk_ (Kd.V_afterv (ok := (fun k_ => some k_ ≠ (.slice Ao94 y291.length co94 : Value).ownBlock ∧ some k_ ≠ (.slice Ao96 t294.length co96 : Value).ownBlock)) (by (with_reducible repeat (first | apply Kd.V_alloc | apply Kd.V_drewN | apply Kd.V_drew)); exact HO_5.out) hg hat)
       have n1_ := mk_ (Kd.V_afterv (ok := (fun k_ => some k_ ≠ (.slice Ao94 y291.length co94 : Value).ownBlock ∧ some k_ ≠ (.slice Ao96 t294.length co96 : Value).ownBlock)) (by (with_reducible repeat (first | apply Kd.V_alloc | apply Kd.V_drewN | apply Kd.V_drew)); exact HO282.out) hg hat)
       have n2_ := mk_ (Kd.V_afterv (ok := (fun k_ => some k_ ≠ (.slice Ao94 y291.length co94 : Value).ownBlock ∧ some k_ ≠ (.slice Ao96 t294.length co96 : Value).ownBlock)) (by (with_reducible repeat (first | apply Kd.V_alloc | apply Kd.V_drewN | apply Kd.V_drew)); exact HO290.out) hg hat)
       have n3_ := mk_ (Kd.N_afterv (ok := (fun k_ => some k_ ≠ (.slice Ao96 t294.length co96 : Value).ownBlock)) (by (with_reducible repeat (first | apply Kd.N_alloc | apply Kd.N_drewN | apply Kd.N_drew)); exact HO293.out) hg hat)
       have n4_ := mk_ (Kd.N_afterv (ok := (fun k_ => some k_ ≠ (.slice Ao94 y291.length co94 : Value).ownBlock)) (by (with_reducible repeat (first | apply Kd.N_alloc | apply Kd.N_drewN | apply Kd.N_drew)); exact HO296.out) hg hat)
       have n5_ := mk_ (Kd.V_afterv (ok := (fun k_ => some k_ ≠ (.slice Ao94 y291.length co94 : Value).ownBlock ∧ some k_ ≠ (.slice Ao96 t294.length co96 : Value).ownBlock)) (by (with_reducible repeat (first | apply Kd.V_alloc | apply Kd.V_drewN | apply Kd.V_drew)); exact HO304.out) hg hat)
       have n6_ := mk_ (Kd.V_afterv (ok := (fun k_ => some k_ ≠ (.slice Ao94 y291.length co94 : Value).ownBlock ∧ some k_ ≠ (.slice Ao96 t294.length co96 : Value).ownBlock)) (by (with_reducible repeat (first | apply Kd.V_alloc | apply Kd.V_drewN | apply Kd.V_drew)); exact HO312.out) hg hat)
       have n7_ := mk_ (hb)
       have n8_ := mk_ (ho)
       clear HO_5
       clear HO282
       clear HO290
       clear HO293
       clear HO296
       clear HO304
       clear HO312
       clear HB
       clear HO307
       have HO_5 := n0_
       have HO282 := n1_
       have HO290 := n2_
       have HO293 := n3_
       have HO296 := n4_
       have HO304 := n5_
       have HO312 := n6_
       have HB := n7_
       have HO315 := n8_
       clear n0_ n1_ n2_ n3_ n4_ n5_ n6_ n7_ n8_
       clear ho hb hg hat
       refine hK.out _ _ trivial (fun hHeld => ?_)
       clear hK K
       refine norm_ (a' := ?_) ?_ ?_
       rotate_left
       · show Act.put _ (some 55) _ = _
         simp only [Act.put, zs1, zs2, zs3, i64_w, i32_w]
         rfl
       refine pA 10 (some 8) (bm 11 2047) rfl rfl HT_.out (by kernel_rfl) (fun _ _ _ h => h) (by rfl) (by intro w'; go_simp; with_reducible rfl) (by simp only [Act.put, zs1, zs2, zs3, i64_w, i32_w]; rfl) ?_
       refine done_ (done_of HT_.out (by kernel_rfl)) ?_
       have p316 : 0 ≤ (x6_1 : Int) := of_decide_eq_true (by first | (with_reducible assumption) | assumption)
       have q316 : x6_1 < (t267.length : Int) := of_decide_eq_true (by first | (with_reducible assumption) | assumption)
       obtain ⟨ad316, A316_2, c316_2, e316, hx316_0, hx316_1, hx316_2, hl316_2, hi316_2⟩ := at_T39 (Kd.V_reads' HO_5.out).2.2 x6_1 p316 q316
       cases e316
       obtain ⟨ce316, hce316, hMe316, hcc316⟩ := Kd.V_get HO_5.out z39 x6_1 p316 (by first | exact q316 | exact of_decide_eq_true (by first | (with_reducible assumption) | assumption) | (have e_ := (Kd.V_reads' HO_5.out).1; omega))
       obtain ⟨ua316_2, uc316_2, rfl, ul316_2, ge316_2⟩ := k39_openF hMe316
       have hv316_2 := hcc316 2 _ rfl
       rw [add_field _ _ 2 (by omega)] at hv316_2
       replace hv316_2 := Option.some.inj (hv316_2.symm.trans hx316_2)
       injection hv316_2 with hva_ hvn_ hvc_
       rw [hva_] at ge316_2
       rw [hvc_] at ul316_2
       have HL316_2 := mk_ (show Kd.V (Kd.int .u8) 5 _ w.heap.size _ _ ((rd_T39 t267 x6_1).f2) from Kd.V_mk ul316_2 ge316_2)
       clear hva_ hvn_ hvc_ ge316_2 ul316_2
       clear hcc316 hce316
       have HR316_2 := mk_ hi316_2
       have HC316_2 := mk_ hl316_2
       clear hi316_2 hl316_2
       replace p316 := eq_true p316
       replace q316 := eq_true q316
       have p320 : 0 ≤ (x6_1 : Int) := of_decide_eq_true (by first | (with_reducible assumption) | assumption)
       have q320 : x6_1 < (t267.length : Int) := of_decide_eq_true (by first | (with_reducible assumption) | assumption)
       obtain ⟨ad320, A320_2, c320_2, e320, hx320_0, hx320_1, hx320_2, hl320_2, hi320_2⟩ := at_T39 (Kd.V_reads' HO_5.out).2.2 x6_1 p320 q320
       obtain rfl : ad316 = ad320 := (by injection e320)
       obtain ⟨ce320, hce320, hMe320, hcc320⟩ := Kd.V_get HO_5.out z39 x6_1 p320 (by first | exact q320 | exact of_decide_eq_true (by first | (with_reducible assumption) | assumption) | (have e_ := (Kd.V_reads' HO_5.out).1; omega))
       obtain ⟨ua320_2, uc320_2, rfl, ul320_2, ge320_2⟩ := k39_openF hMe320
       have hv320_2 := hcc320 2 _ rfl
       rw [add_field _ _ 2 (by omega)] at hv320_2
       replace hv320_2 := Option.some.inj (hv320_2.symm.trans hx320_2)
       injection hv320_2 with hva_ hvn_ hvc_
       rw [hva_] at ge320_2
       rw [hvc_] at ul320_2
       have HL320_2 := mk_ (show Kd.V (Kd.int .u8) 5 _ w.heap.size _ _ ((rd_T39 t267 x6_1).f2) from Kd.V_mk ul320_2 ge320_2)
       clear hva_ hvn_ hvc_ ge320_2 ul320_2
       clear hcc320 hce320
       have HR320_2 := mk_ hi320_2
       have HC320_2 := mk_ hl320_2
       clear hi320_2 hl320_2
       replace p320 := eq_true p320
       replace q320 := eq_true q320
       have ea_ := Option.some.inj (hx316_2.symm.trans hx320_2)
       injection ea_ with ea_ en_ ec_
       subst ea_
       subst ec_
       clear en_
       obtain ⟨Ao104, co104, eo104⟩ := Kd.N_slice HO315.out
       subst eo104
       try go_wp2_with (first | (go_at_call 30; (with_reducible refine (laws_liFeed.calls k1 _ _ y313 t321 _ ?side1 ?side2 A85.out).mono ?_); (case side1 => repeat (first | exact (Kd.N_reads' HO315.out).2.2 | (with_reducible refine Kd.C_alloc ?_ _) | (with_reducible refine Kd.C_drewN ?_ _) | (with_reducible refine Kd.C_drew ?_))); (case side2 => exact (Kd.N_reads' HO315.out).2.1); rintro e w105 ⟨v322, rfl, ho0, hb⟩; replace HO_5 := mk_ (Kd.V_elder' (by (with_reducible repeat (first | apply Kd.V_alloc | apply Kd.V_drewN | apply Kd.V_drew)); exact HO_5.out) (by first | exact Kd.N_base ho0 | exact Kd.S_base ho0) hb); replace HO282 := mk_ (Kd.V_elder' (by (with_reducible repeat (first | apply Kd.V_alloc | apply Kd.V_drewN | apply Kd.V_drew)); exact HO282.out) (by first | exact Kd.N_base ho0 | exact Kd.S_base ho0) hb); replace HO290 := mk_ (Kd.V_elder' (by (with_reducible repeat (first | apply Kd.V_alloc | apply Kd.V_drewN | apply Kd.V_drew)); exact HO290.out) (by first | exact Kd.N_base ho0 | exact Kd.S_base ho0) hb); replace HO304 := mk_ (Kd.V_elder' (by (with_reducible repeat (first | apply Kd.V_alloc | apply Kd.V_drewN | apply Kd.V_drew)); exact HO304.out) (by first | exact Kd.N_base ho0 | exact Kd.S_base ho0) hb); replace HO312 := mk_ (Kd.V_elder' (by (with_reducible repeat (first | apply Kd.V_alloc | apply Kd.V_drewN | apply Kd.V_drew)); exact HO312.out) (by first | exact Kd.N_base ho0 | exact Kd.S_base ho0) hb); replace HL316_2 := mk_ (Kd.V_elder' (by (with_reducible repeat (first | apply Kd.V_alloc | apply Kd.V_drewN | apply Kd.V_drew)); exact HL316_2.out) (by first | exact Kd.N_base ho0 | exact Kd.S_base ho0) hb); replace HL320_2 := mk_ (Kd.V_elder' (by (with_reducible repeat (first | apply Kd.V_alloc | apply Kd.V_drewN | apply Kd.V_drew)); exact HL320_2.out) (by first | exact Kd.N_base ho0 | exact Kd.S_base ho0) hb); have HO323 := mk_ (Kd.N_lower (Kd.N_mono (ok' := fun k_ => some k_ ≠ (.slice Ao94 y291.length co94 : Value).ownBlock ∧ some k_ ≠ (.slice Ao96 t294.length co96 : Value).ownBlock ∧ some k_ ≠ (.slice Ao104 y313.length co104 : Value).ownBlock) ho0 (fun k_ hk_ => ⟨(Kd.fresh' (Kd.N_lt (by (with_reducible repeat (first | apply Kd.N_alloc | apply Kd.N_drewN | apply Kd.N_drew)); exact HO293.out)) k_ hk_), (Kd.fresh' (Kd.N_lt (by (with_reducible repeat (first | apply Kd.N_alloc | apply Kd.N_drewN | apply Kd.N_drew)); exact HO296.out)) k_ hk_), (Kd.fresh' (Kd.N_lt (by (with_reducible repeat (first | apply Kd.N_alloc | apply Kd.N_drewN | apply Kd.N_drew)); exact HO315.out)) k_ hk_)⟩)) (zr2 (by repeat (first | (with_reducible first | exact HB.out | apply zq7 | apply zq8 | apply zq9) | exact HB.out)))); replace HO293 := mk_ (Kd.N_elder' (by (with_reducible repeat (first | apply Kd.N_alloc | apply Kd.N_drewN | apply Kd.N_drew)); exact HO293.out) (by first | exact Kd.N_base ho0 | exact Kd.S_base ho0) hb); replace HO296 := mk_ (Kd.N_elder' (by (with_reducible repeat (first | apply Kd.N_alloc | apply Kd.N_drewN | apply Kd.N_drew)); exact HO296.out) (by first | exact Kd.N_base ho0 | exact Kd.S_base ho0) hb); replace HO315 := mk_ (Kd.N_elder' (by (with_reducible repeat (first | apply Kd.N_alloc | apply Kd.N_drewN | apply Kd.N_drew)); exact HO315.out) (by first | exact Kd.N_base ho0 | exact Kd.S_base ho0) hb); replace HR316_2 := mk_ (Kd.C_below (by repeat (first | (with_reducible exact HR316_2.out) | (with_reducible refine Kd.C_alloc ?_ _) | (with_reducible refine Kd.C_drewN ?_ _) | (with_reducible refine Kd.C_drew ?_) | exact HR316_2.out)) hb); replace HR320_2 := mk_ (Kd.C_below (by repeat (first | (with_reducible exact HR320_2.out) | (with_reducible refine Kd.C_alloc ?_ _) | (with_reducible refine Kd.C_drewN ?_ _) | (with_reducible refine Kd.C_drew ?_) | exact HR320_2.out)) hb); replace HB := mk_ (zr3 (by repeat (first | (with_reducible first | exact HB.out | apply zq7 | apply zq8 | apply zq9) | exact HB.out)) hb); (try clear hb); (try clear hb2); (try clear hk); (try clear hi); (try clear ho0); obtain ⟨Ao106, co106, eo106⟩ := Kd.N_slice HO323.out; subst eo106))
       go_ret
       exact ⟨by first | rfl | (simp [errW_none, errW_some] <;> rfl) | (simp only [← hji19]; first | rfl | (simp [errW_none, errW_some] <;> rfl)) | (simp [*, errW_none, errW_some] <;> rfl), by repeat (first | (with_reducible first | exact HB.out | apply zq7 | apply zq8 | apply zq9) | exact HB.out)⟩
     rw [if_neg c86] at H
     have c86b0 : decide (0 < (t321.length : Int)) = false := decide_eq_false c86
     have c86b1 : decide (0 < t321.length) = false := decide_eq_false (by omega)
     clear c86
     have H' := mk_ H
     clear H
     try go_wp2
     replace HO_5 := mk_ (Kd.V_drew HO_5.out)
     replace HB := mk_ (zq9 HB.out)
     have q108 : (x6_1 : Int) ≤ ((t267.length : Int) : Int) := of_decide_eq_true (by first | (with_reducible assumption) | assumption)
     obtain ⟨i0108, hi0108, _, hsz108, _⟩ := info_parts info39
     have hroom108 : t267.length ≤ co12 := (Kd.V_reads' HO_5.out).2.1
     have hC108 : Kd.F k39 _ _ Ao12 t267.length t267 := (Kd.V_at (base := w.heap.size) HO_5.out).2.2
     have hcut108 := cut_to (P := Try.prog) 23 39 .i64 Try.underlying23 hi0108 Ao12 t267.length co12 x6_1 (of_decide_eq_true (by first | (with_reducible assumption) | assumption)) q108 hroom108
     have hr108 := Kd.F_take (m := (x6_1 : Int).toNat) hC108 (by omega)
     have hy108 : y278.length = (x6_1 : Int).toNat := (by rw [Ny278.out, List.length_take]; omega)
     rw [← Ny278.out] at hr108
     rw [← hy108] at hcut108
     have HO282 := mk_ (show Kd.V k39 39 _ w.heap.size _ (.slice Ao12 y278.length co12) y278 from Kd.V_mk (by omega) hr108)
     have HC282 := mk_ (show y278.length ≤ co12 from by omega)
     clear hr108 hC108 hroom108 hi0108 hsz108
     have KY108 := mk_ hy108
     clear hy108
     replace q108 := eq_true q108
     have q109 : ((ji19) : Int) ≤ ((t267.length : Int) : Int) := of_decide_eq_true (by first | (with_reducible assumption) | assumption)
     obtain ⟨i0109, hi0109, _, hsz109, _⟩ := info_parts info39
     have hroom109 : t267.length ≤ co12 := (Kd.V_reads' HO_5.out).2.1
     have hC109 : Kd.F k39 _ _ Ao12 t267.length t267 := (Kd.V_at (base := w.heap.size) HO_5.out).2.2
     have q0109 : (0 : Int) ≤ ((ji19) : Int) := of_decide_eq_true (by first | (with_reducible assumption) | assumption)
     have hcut109 := cut_from (P := Try.prog) 23 39 .i64 Try.underlying23 hi0109 3 hsz109 Ao12 t267.length co12 (ji19) q0109 q109
     have hr109 := Kd.F_cut (m := ((ji19) : Int).toNat) (c := co12) hC109 (by omega) hroom109
     obtain ⟨A109, hA109⟩ : ∃ A1, A1 = (if co12 = ((ji19) : Int).toNat then Ao12 else (Ao12 : Option Addr).map (·.add (((ji19) : Int).toNat * 3))) := ⟨_, rfl⟩
     obtain ⟨c109, hc109⟩ : ∃ c1, c1 = co12 - ((ji19) : Int).toNat := ⟨_, rfl⟩
     have hy109 : y286.length = t267.length - ((ji19) : Int).toNat := (by rw [Ny286.out, List.length_drop] <;> omega)
     rw [show (t267).drop ((ji19) : Int).toNat = y286 from Ny286.out.symm] at hr109
     replace hr109 : Kd.F k39 _ _ A109 y286.length y286 := (by rw [hA109]; exact hr109)
     rw [← hy109, ← hA109, ← hc109] at hcut109
     have HO290 := mk_ (show Kd.V k39 39 _ w.heap.size _ (.slice A109 y286.length c109) y286 from Kd.V_mk (by rw [hy109, hc109]; exact Nat.sub_le_sub_right hroom109 _) hr109)
     have HC290 := mk_ (show y286.length ≤ c109 from by rw [hy109, hc109]; exact Nat.sub_le_sub_right hroom109 _)
     clear hr109 hC109 hroom109 hi0109 hsz109 hc109
     have KY109 := mk_ hy109
     have KA109 := mk_ hA109
     clear hy109 hA109
     replace q109 := eq_true q109
     refine start_ (n := 11) (S := fun w' => True) (ds := []) (bm 11 0) (by kernel_rfl) rfl rfl trivial (fun hHeld => ?_); refine with_tabW laws_FnSegLost.tab10 laws_FnSegLost.bits10 (fun HT_ HW_ => ?_)
     generalize wr.drew = w107 at HO_5 HB HO282 HO290 hHeld ⊢
     refine pA 1 (some 33) (bm 11 2) rfl rfl HT_.out (by kernel_rfl) (fun _ _ _ h => h) (by rfl) (by intro w'; go_simp; with_reducible rfl) (by simp only [Act.put, zs1, zs2, zs3, i64_w, i32_w]; rfl) ?_
     refine pA 2 (some 34) (bm 11 6) rfl rfl HT_.out (by kernel_rfl) (fun _ _ _ h => h) (by rfl) (by intro w'; go_simp; with_reducible rfl) (by simp only [Act.put, zs1, zs2, zs3, i64_w, i32_w]; rfl) ?_
     refine pA 3 (some 35) (bm 11 14) rfl rfl HT_.out (by kernel_rfl) (fun _ _ _ h => h) (by rfl) (by intro w'; go_simp; with_reducible rfl) (by simp only [Act.put, zs1, zs2, zs3, i64_w, i32_w]; rfl) ?_
     refine pA 5 (some 37) (bm 11 46) rfl rfl HT_.out (by kernel_rfl) (fun _ _ _ h => h) (by rfl) (by intro w'; go_simp; with_reducible rfl) (by simp only [Act.put, zs1, zs2, zs3, i64_w, i32_w]; rfl) ?_
     refine pA 6 (some 38) (bm 11 110) rfl rfl HT_.out (by kernel_rfl) (fun _ _ _ h => h) (by rfl) (by intro w'; go_simp; with_reducible rfl) (by simp only [Act.put, zs1, zs2, zs3, i64_w, i32_w]; rfl) ?_
     refine pA 7 (some 39) (bm 11 238) rfl rfl HT_.out (by kernel_rfl) (fun _ _ _ h => h) (by rfl) (by intro w'; go_simp; with_reducible rfl) (by simp only [Act.put, zs1, zs2, zs3, i64_w, i32_w]; rfl) ?_
     refine pA 8 (some 40) (bm 11 494) rfl rfl HT_.out (by kernel_rfl) (fun _ _ _ h => h) (by rfl) (by intro w'; go_simp; with_reducible rfl) (by simp only [Act.put, zs1, zs2, zs3, i64_w, i32_w]; rfl) ?_
     refine one_ (i := 0) (N := some 32) (bm 11 495) rfl rfl (one_of HT_.out (by kernel_rfl)) (by decide) (fun K hK => ?_)
     refine Kd.N_lit_step k39 _ 39 ?hg (N' := 32) ?hd (xs := ([] : List (S39))) (inner := []) (ok := (fun _ => True)) (okp := (fun _ => True)) ?hr ?hp (fun _ hk => hk) ((show ∀ k_, w107.heap.size ≤ k_ → (fun _ => True) k_ from fun k_ hk => trivial) _ (Nat.le_refl _)) (Below.refl _ _) (Nat.le_refl _) (by simp) ?_; (case hd => rfl); (case hg => rfl); (case hr => first | (go_simp; done) | (go_simp; rfl)); (case hp => exact (Reps.none _ _))
     intro v276 w110 ho111 hb hg_ hnew_
     clear hg_ hnew_
     (first | rw [← Ny275.out] at ho111 | (simp only [Int.reduceToNat] at ho111; rw [← Ny275.out] at ho111))
     replace HO_5 := mk_ (Kd.V_elder' (by (with_reducible repeat (first | apply Kd.V_alloc | apply Kd.V_drewN | apply Kd.V_drew)); exact HO_5.out) (Kd.N_base ho111) hb)
     replace HO282 := mk_ (Kd.V_elder' (by (with_reducible repeat (first | apply Kd.V_alloc | apply Kd.V_drewN | apply Kd.V_drew)); exact HO282.out) (Kd.N_base ho111) hb)
     replace HO290 := mk_ (Kd.V_elder' (by (with_reducible repeat (first | apply Kd.V_alloc | apply Kd.V_drewN | apply Kd.V_drew)); exact HO290.out) (Kd.N_base ho111) hb)
     have HO277 := mk_ (Kd.N_lower ho111 (zr2 (by repeat (first | (with_reducible first | exact HB.out | apply zq7 | apply zq8 | apply zq9) | exact HB.out))))
     replace HB := mk_ (zr3 (by repeat (first | (with_reducible first | exact HB.out | apply zq7 | apply zq8 | apply zq9) | exact HB.out)) hb)
     clear hb ho111
     refine hK.out _ _ trivial (fun hHeld => ?_)
     clear hK K
     refine norm_ (a' := ?_) ?_ ?_
     rotate_left
     · show Act.put _ (some 32) _ = _
       simp only [Act.put, zs1, zs2, zs3, i64_w, i32_w]
       rfl
     refine one_ (i := 4) (N := some 36) (bm 11 511) rfl rfl (one_of HT_.out (by kernel_rfl)) (by decide) (fun K hK => ?_)
     refine Kd.N_append_rows_step k39 (w0 := w) w.heap.size (by rfl) (.tmp 32) (.tmp 35) 23 39 (.agg #[(.int .i64 0), (.int .i64 0), (.slice none 0 0)]) 40 rfl Try.underlying23 info39 rfl (by decide) (by omega) v276 y275 y278 _ _ _ (fun _ => True) (fun k_ => ((fun _ => True)) k_ ∧ some k_ ≠ (v276 : Value).ownBlock) rfl rfl ?aO ?aR (fun _ hk => hk) ?aF ?aB ?aS ?aL ?_
     (case aR => exact (by skip; exact Kd.V_F (Kd.V_mono (ok' := (fun k_ => ((fun _ => True)) k_ ∧ some k_ ≠ (v276 : Value).ownBlock)) (HO282.out) (fun k_ hk => ⟨trivial, hk.2⟩))))
     (case aB => exact (by repeat (first | (with_reducible first | exact HB.out | apply zq7 | apply zq8 | apply zq9) | exact HB.out)))
     (case aF => exact (fun _ _ => trivial))
     (case aO => exact (by (with_reducible repeat (first | apply Kd.N_alloc | apply Kd.N_drewN | apply Kd.N_drew)); exact HO277.out))
     (case aS => exact (zr2 (by repeat (first | (with_reducible first | exact HB.out | apply zq7 | apply zq8 | apply zq9) | exact HB.out))))
     (case aL => have := LMc18.out; omega)
     intro v284 w112 ho hb hg hat
     rw [← Ny283.out] at ho
     have n0_ := mk_ (Kd.V_afterv (ok := (fun _ => True)) (by (with_reducible repeat (first | apply Kd.V_alloc | apply Kd.V_drewN | apply Kd.V_drew)); exact HO_5.out) hg hat)
     have n1_ := mk_ (Kd.V_afterv (ok := (fun _ => True)) (by (with_reducible repeat (first | apply Kd.V_alloc | apply Kd.V_drewN | apply Kd.V_drew)); exact HO282.out) hg hat)
     have n2_ := mk_ (Kd.V_afterv (ok := (fun _ => True)) (by (with_reducible repeat (first | apply Kd.V_alloc | apply Kd.V_drewN | apply Kd.V_drew)); exact HO290.out) hg hat)
     have n3_ := mk_ (hb)
     have n4_ := mk_ (ho)
     clear HO_5
     clear HO282
     clear HO290
     clear HB
     clear HO277
     have HO_5 := n0_
     have HO282 := n1_
     have HO290 := n2_
     have HB := n3_
     have HO285 := n4_
     clear n0_ n1_ n2_ n3_ n4_
     clear ho hb hg hat
     refine hK.out _ _ trivial (fun hHeld => ?_)
     clear hK K
     refine norm_ (a' := ?_) ?_ ?_
     rotate_left
     · show Act.put _ (some 36) _ = _
       simp only [Act.put, zs1, zs2, zs3, i64_w, i32_w]
       rfl
     refine one_ (i := 9) (N := some 41) (bm 11 1023) rfl rfl (one_of HT_.out (by kernel_rfl)) (by decide) (fun K hK => ?_)
     refine Kd.N_append_rows_step k39 (w0 := w) w.heap.size (by rfl) (.tmp 36) (.tmp 40) 23 39 (.agg #[(.int .i64 0), (.int .i64 0), (.slice none 0 0)]) 40 rfl Try.underlying23 info39 rfl (by decide) (by omega) v284 y283 y286 _ _ _ (fun _ => True) (fun k_ => ((fun _ => True)) k_ ∧ some k_ ≠ (v284 : Value).ownBlock) rfl rfl ?aO ?aR (fun _ hk => hk) ?aF ?aB ?aS ?aL ?_
     (case aR => exact (by skip; exact Kd.V_F (Kd.V_mono (ok' := (fun k_ => ((fun _ => True)) k_ ∧ some k_ ≠ (v284 : Value).ownBlock)) (HO290.out) (fun k_ hk => ⟨trivial, hk.2⟩))))
     (case aB => exact (by repeat (first | (with_reducible first | exact HB.out | apply zq7 | apply zq8 | apply zq9) | exact HB.out)))
     (case aF => exact (fun _ _ => trivial))
     (case aO => exact (by (with_reducible repeat (first | apply Kd.N_alloc | apply Kd.N_drewN | apply Kd.N_drew)); exact HO285.out))
     (case aS => exact (zr2 (by repeat (first | (with_reducible first | exact HB.out | apply zq7 | apply zq8 | apply zq9) | exact HB.out))))
     (case aL => have := LMc22.out; omega)
     intro v292 w113 ho hb hg hat
     rw [← Ny291.out] at ho
     have n0_ := mk_ (Kd.V_afterv (ok := (fun _ => True)) (by (with_reducible repeat (first | apply Kd.V_alloc | apply Kd.V_drewN | apply Kd.V_drew)); exact HO_5.out) hg hat)
     have n1_ := mk_ (Kd.V_afterv (ok := (fun _ => True)) (by (with_reducible repeat (first | apply Kd.V_alloc | apply Kd.V_drewN | apply Kd.V_drew)); exact HO282.out) hg hat)
     have n2_ := mk_ (Kd.V_afterv (ok := (fun _ => True)) (by (with_reducible repeat (first | apply Kd.V_alloc | apply Kd.V_drewN | apply Kd.V_drew)); exact HO290.out) hg hat)
     have n3_ := mk_ (hb)
     have n4_ := mk_ (ho)
     clear HO_5
     clear HO282
     clear HO290
     clear HB
     clear HO285
     have HO_5 := n0_
     have HO282 := n1_
     have HO290 := n2_
     have HB := n3_
     have HO293 := n4_
     clear n0_ n1_ n2_ n3_ n4_
     clear ho hb hg hat
     refine hK.out _ _ trivial (fun hHeld => ?_)
     clear hK K
     refine norm_ (a' := ?_) ?_ ?_
     rotate_left
     · show Act.put _ (some 41) _ = _
       simp only [Act.put, zs1, zs2, zs3, i64_w, i32_w]
       rfl
     refine pA 10 (some 7) (bm 11 2047) rfl rfl HT_.out (by kernel_rfl) (fun _ _ _ h => h) (by rfl) (by intro w'; go_simp; with_reducible rfl) (by simp only [Act.put, zs1, zs2, zs3, i64_w, i32_w]; rfl) ?_
     refine done_ (done_of HT_.out (by kernel_rfl)) ?_
     obtain ⟨Ao114, co114, eo114⟩ := Kd.N_slice HO293.out
     subst eo114
     try go_wp2_with (first | ((with_reducible refine gate_callee (f := 30) rfl ?_); refine goesL_ (some 43) rfl rfl Try.func30 (by kernel_rfl) rfl #[.slice Ao114 y291.length co114] rfl (by (try simp only [List.map_toArray, List.map_cons, List.map_nil]); first | done | rfl | (simp only [List.length_drop, List.length_take]; rfl)) ?_; (with_reducible refine (laws_liFeed.calls k1 _ _ y291 t294 _ ?side1 ?side2 A23.out).mono ?_); (case side1 => repeat (first | exact (Kd.N_reads' HO293.out).2.2 | (with_reducible refine Kd.C_alloc ?_ _) | (with_reducible refine Kd.C_drewN ?_ _) | (with_reducible refine Kd.C_drew ?_))); (case side2 => exact (Kd.N_reads' HO293.out).2.1); rintro e w115 ⟨v295, rfl, ho0, hb⟩; refine ⟨_, rfl, ?_⟩; replace HO_5 := mk_ (Kd.V_elder' (by (with_reducible repeat (first | apply Kd.V_alloc | apply Kd.V_drewN | apply Kd.V_drew)); exact HO_5.out) (by first | exact Kd.N_base ho0 | exact Kd.S_base ho0) hb); replace HO282 := mk_ (Kd.V_elder' (by (with_reducible repeat (first | apply Kd.V_alloc | apply Kd.V_drewN | apply Kd.V_drew)); exact HO282.out) (by first | exact Kd.N_base ho0 | exact Kd.S_base ho0) hb); replace HO290 := mk_ (Kd.V_elder' (by (with_reducible repeat (first | apply Kd.V_alloc | apply Kd.V_drewN | apply Kd.V_drew)); exact HO290.out) (by first | exact Kd.N_base ho0 | exact Kd.S_base ho0) hb); have HO296 := mk_ (Kd.N_lower (Kd.N_mono (ok' := fun k_ => some k_ ≠ (.slice Ao114 y291.length co114 : Value).ownBlock) ho0 (fun k_ hk_ => (Kd.fresh' (Kd.N_lt (by (with_reducible repeat (first | apply Kd.N_alloc | apply Kd.N_drewN | apply Kd.N_drew)); exact HO293.out)) k_ hk_))) (zr2 (by repeat (first | (with_reducible first | exact HB.out | apply zq7 | apply zq8 | apply zq9) | exact HB.out)))); replace HO293 := mk_ (Kd.N_elder' (by (with_reducible repeat (first | apply Kd.N_alloc | apply Kd.N_drewN | apply Kd.N_drew)); exact HO293.out) (by first | exact Kd.N_base ho0 | exact Kd.S_base ho0) hb); replace HB := mk_ (zr3 (by repeat (first | (with_reducible first | exact HB.out | apply zq7 | apply zq8 | apply zq9) | exact HB.out)) hb); (try clear hb); (try clear hb2); (try clear hk); (try clear hi); (try clear ho0); obtain ⟨Ao116, co116, eo116⟩ := Kd.N_slice HO296.out; subst eo116))
     replace HO_5 := mk_ (Kd.V_drew HO_5.out)
     replace HO282 := mk_ (Kd.V_drew HO282.out)
     replace HO290 := mk_ (Kd.V_drew HO290.out)
     replace HO293 := mk_ (Kd.N_drew HO293.out)
     replace HO296 := mk_ (Kd.N_drew HO296.out)
     replace HB := mk_ (zq9 HB.out)
     have q118 : ((ji19) : Int) ≤ ((t267.length : Int) : Int) := of_decide_eq_true (by first | (with_reducible assumption) | assumption)
     obtain ⟨i0118, hi0118, _, hsz118, _⟩ := info_parts info39
     have hroom118 : t267.length ≤ co12 := (Kd.V_reads' HO_5.out).2.1
     have hC118 : Kd.F k39 _ _ Ao12 t267.length t267 := (Kd.V_at (base := w.heap.size) HO_5.out).2.2
     have hcut118 := cut_to (P := Try.prog) 23 39 .i64 Try.underlying23 hi0118 Ao12 t267.length co12 (ji19) (of_decide_eq_true (by first | (with_reducible assumption) | assumption)) q118 hroom118
     have hr118 := Kd.F_take (m := ((ji19) : Int).toNat) hC118 (by omega)
     have hy118 : y300.length = ((ji19) : Int).toNat := (by rw [Ny300.out, List.length_take]; omega)
     rw [← Ny300.out] at hr118
     rw [← hy118] at hcut118
     have HO304 := mk_ (show Kd.V k39 39 _ w.heap.size _ (.slice Ao12 y300.length co12) y300 from Kd.V_mk (by omega) hr118)
     have HC304 := mk_ (show y300.length ≤ co12 from by omega)
     clear hr118 hC118 hroom118 hi0118 hsz118
     have KY118 := mk_ hy118
     clear hy118
     replace q118 := eq_true q118
     have q119 : (x6_1 : Int) ≤ ((t267.length : Int) : Int) := of_decide_eq_true (by first | (with_reducible assumption) | assumption)
     obtain ⟨i0119, hi0119, _, hsz119, _⟩ := info_parts info39
     have hroom119 : t267.length ≤ co12 := (Kd.V_reads' HO_5.out).2.1
     have hC119 : Kd.F k39 _ _ Ao12 t267.length t267 := (Kd.V_at (base := w.heap.size) HO_5.out).2.2
     have q0119 : (0 : Int) ≤ (x6_1 : Int) := of_decide_eq_true (by first | (with_reducible assumption) | assumption)
     have hcut119 := cut_from (P := Try.prog) 23 39 .i64 Try.underlying23 hi0119 3 hsz119 Ao12 t267.length co12 x6_1 q0119 q119
     have hr119 := Kd.F_cut (m := (x6_1 : Int).toNat) (c := co12) hC119 (by omega) hroom119
     obtain ⟨A119, hA119⟩ : ∃ A1, A1 = (if co12 = (x6_1 : Int).toNat then Ao12 else (Ao12 : Option Addr).map (·.add ((x6_1 : Int).toNat * 3))) := ⟨_, rfl⟩
     obtain ⟨c119, hc119⟩ : ∃ c1, c1 = co12 - (x6_1 : Int).toNat := ⟨_, rfl⟩
     have hy119 : y308.length = t267.length - (x6_1 : Int).toNat := (by rw [Ny308.out, List.length_drop] <;> omega)
     rw [show (t267).drop (x6_1 : Int).toNat = y308 from Ny308.out.symm] at hr119
     replace hr119 : Kd.F k39 _ _ A119 y308.length y308 := (by rw [hA119]; exact hr119)
     rw [← hy119, ← hA119, ← hc119] at hcut119
     have HO312 := mk_ (show Kd.V k39 39 _ w.heap.size _ (.slice A119 y308.length c119) y308 from Kd.V_mk (by rw [hy119, hc119]; exact Nat.sub_le_sub_right hroom119 _) hr119)
     have HC312 := mk_ (show y308.length ≤ c119 from by rw [hy119, hc119]; exact Nat.sub_le_sub_right hroom119 _)
     clear hr119 hC119 hroom119 hi0119 hsz119 hc119
     have KY119 := mk_ hy119
     have KA119 := mk_ hA119
     clear hy119 hA119
     replace q119 := eq_true q119
     refine start_ (n := 11) (S := fun w' => True) (ds := []) (bm 11 0) (by kernel_rfl) rfl rfl trivial (fun hHeld => ?_); refine with_tabW laws_FnSegLost.tab13 laws_FnSegLost.bits13 (fun HT_ HW_ => ?_)
     generalize w115.drew = w117 at HO_5 HO282 HO290 HO293 HO296 HB HO304 HO312 hHeld ⊢
     refine pA 1 (some 47) (bm 11 2) rfl rfl HT_.out (by kernel_rfl) (fun _ _ _ h => h) (by rfl) (by intro w'; go_simp; with_reducible rfl) (by simp only [Act.put, zs1, zs2, zs3, i64_w, i32_w]; rfl) ?_
     refine pA 2 (some 48) (bm 11 6) rfl rfl HT_.out (by kernel_rfl) (fun _ _ _ h => h) (by rfl) (by intro w'; go_simp; with_reducible rfl) (by simp only [Act.put, zs1, zs2, zs3, i64_w, i32_w]; rfl) ?_
     refine pA 3 (some 49) (bm 11 14) rfl rfl HT_.out (by kernel_rfl) (fun _ _ _ h => h) (by rfl) (by intro w'; go_simp; with_reducible rfl) (by simp only [Act.put, zs1, zs2, zs3, i64_w, i32_w]; rfl) ?_
     refine pA 4 (some 50) (bm 11 30) rfl rfl HT_.out (by kernel_rfl) (fun _ _ _ h => h) (by rfl) (by intro w'; go_simp; with_reducible rfl) (by simp only [Act.put, zs1, zs2, zs3, i64_w, i32_w]; rfl) ?_
     refine pA 6 (some 52) (bm 11 94) rfl rfl HT_.out (by kernel_rfl) (fun _ _ _ h => h) (by rfl) (by intro w'; go_simp; with_reducible rfl) (by simp only [Act.put, zs1, zs2, zs3, i64_w, i32_w]; rfl) ?_
     refine pA 7 (some 53) (bm 11 222) rfl rfl HT_.out (by kernel_rfl) (fun _ _ _ h => h) (by rfl) (by intro w'; go_simp; with_reducible rfl) (by simp only [Act.put, zs1, zs2, zs3, i64_w, i32_w]; rfl) ?_
     refine pA 8 (some 54) (bm 11 478) rfl rfl HT_.out (by kernel_rfl) (fun _ _ _ h => h) (by rfl) (by intro w'; go_simp; with_reducible rfl) (by simp only [Act.put, zs1, zs2, zs3, i64_w, i32_w]; rfl) ?_
     refine one_ (i := 0) (N := some 46) (bm 11 479) rfl rfl (one_of HT_.out (by kernel_rfl)) (by decide) (fun K hK => ?_)
     refine Kd.N_lit_step k39 _ 39 ?hg (N' := 46) ?hd (xs := ([] : List (S39))) (inner := []) (ok := (fun k_ => some k_ ≠ (.slice Ao114 y291.length co114 : Value).ownBlock ∧ some k_ ≠ (.slice Ao116 t294.length co116 : Value).ownBlock)) (okp := (fun k_ => some k_ ≠ (.slice Ao114 y291.length co114 : Value).ownBlock ∧ some k_ ≠ (.slice Ao116 t294.length co116 : Value).ownBlock)) ?hr ?hp (fun _ hk => hk) ((show ∀ k_, w117.heap.size ≤ k_ → (fun k_ => some k_ ≠ (.slice Ao114 y291.length co114 : Value).ownBlock ∧ some k_ ≠ (.slice Ao116 t294.length co116 : Value).ownBlock) k_ from fun k_ hk => ⟨Kd.fresh' (Kd.N_lt (by (with_reducible repeat (first | apply Kd.N_alloc | apply Kd.N_drewN | apply Kd.N_drew)); exact HO293.out)) k_ hk, Kd.fresh' (Kd.N_lt (by (with_reducible repeat (first | apply Kd.N_alloc | apply Kd.N_drewN | apply Kd.N_drew)); exact HO296.out)) k_ hk⟩) _ (Nat.le_refl _)) (Below.refl _ _) (Nat.le_refl _) (by simp) ?_; (case hd => rfl); (case hg => rfl); (case hr => first | (go_simp; done) | (go_simp; rfl)); (case hp => exact (Reps.none _ _))
     intro v298 w120 ho121 hb hg_ hnew_
     clear hg_ hnew_
     (first | rw [← Ny297.out] at ho121 | (simp only [Int.reduceToNat] at ho121; rw [← Ny297.out] at ho121))
     replace HO_5 := mk_ (Kd.V_elder' (by (with_reducible repeat (first | apply Kd.V_alloc | apply Kd.V_drewN | apply Kd.V_drew)); exact HO_5.out) (Kd.N_base ho121) hb)
     replace HO282 := mk_ (Kd.V_elder' (by (with_reducible repeat (first | apply Kd.V_alloc | apply Kd.V_drewN | apply Kd.V_drew)); exact HO282.out) (Kd.N_base ho121) hb)
     replace HO290 := mk_ (Kd.V_elder' (by (with_reducible repeat (first | apply Kd.V_alloc | apply Kd.V_drewN | apply Kd.V_drew)); exact HO290.out) (Kd.N_base ho121) hb)
     replace HO293 := mk_ (Kd.N_elder' (by (with_reducible repeat (first | apply Kd.N_alloc | apply Kd.N_drewN | apply Kd.N_drew)); exact HO293.out) (Kd.N_base ho121) hb)
     replace HO296 := mk_ (Kd.N_elder' (by (with_reducible repeat (first | apply Kd.N_alloc | apply Kd.N_drewN | apply Kd.N_drew)); exact HO296.out) (Kd.N_base ho121) hb)
     replace HO304 := mk_ (Kd.V_elder' (by (with_reducible repeat (first | apply Kd.V_alloc | apply Kd.V_drewN | apply Kd.V_drew)); exact HO304.out) (Kd.N_base ho121) hb)
     replace HO312 := mk_ (Kd.V_elder' (by (with_reducible repeat (first | apply Kd.V_alloc | apply Kd.V_drewN | apply Kd.V_drew)); exact HO312.out) (Kd.N_base ho121) hb)
     have HO299 := mk_ (Kd.N_lower ho121 (zr2 (by repeat (first | (with_reducible first | exact HB.out | apply zq7 | apply zq8 | apply zq9) | exact HB.out))))
     replace HB := mk_ (zr3 (by repeat (first | (with_reducible first | exact HB.out | apply zq7 | apply zq8 | apply zq9) | exact HB.out)) hb)
     clear hb ho121
     refine hK.out _ _ trivial (fun hHeld => ?_)
     clear hK K
     refine norm_ (a' := ?_) ?_ ?_
     rotate_left
     · show Act.put _ (some 46) _ = _
       simp only [Act.put, zs1, zs2, zs3, i64_w, i32_w]
       rfl
     refine one_ (i := 5) (N := some 51) (bm 11 511) rfl rfl (one_of HT_.out (by kernel_rfl)) (by decide) (fun K hK => ?_)
     refine Kd.N_append_rows_step k39 (w0 := w) w.heap.size (by rfl) (.tmp 46) (.tmp 50) 23 39 (.agg #[(.int .i64 0), (.int .i64 0), (.slice none 0 0)]) 40 rfl Try.underlying23 info39 rfl (by decide) (by omega) v298 y297 y300 _ _ _ (fun k_ => some k_ ≠ (.slice Ao114 y291.length co114 : Value).ownBlock ∧ some k_ ≠ (.slice Ao116 t294.length co116 : Value).ownBlock) (fun k_ => ((fun k_ => some k_ ≠ (.slice Ao114 y291.length co114 : Value).ownBlock ∧ some k_ ≠ (.slice Ao116 t294.length co116 : Value).ownBlock)) k_ ∧ some k_ ≠ (v298 : Value).ownBlock) rfl rfl ?aO ?aR (fun _ hk => hk) ?aF ?aB ?aS ?aL ?_
     (case aR => exact (by skip; exact Kd.V_F (Kd.V_mono (ok' := (fun k_ => ((fun k_ => some k_ ≠ (.slice Ao114 y291.length co114 : Value).ownBlock ∧ some k_ ≠ (.slice Ao116 t294.length co116 : Value).ownBlock)) k_ ∧ some k_ ≠ (v298 : Value).ownBlock)) (HO304.out) (fun k_ hk => ⟨⟨hk.1.1.2, hk.1.2⟩, hk.2⟩))))
     (case aB => exact (by repeat (first | (with_reducible first | exact HB.out | apply zq7 | apply zq8 | apply zq9) | exact HB.out)))
     (case aF => exact (fun k_ hk => ⟨Kd.fresh' (Kd.N_lt (by (with_reducible repeat (first | apply Kd.N_alloc | apply Kd.N_drewN | apply Kd.N_drew)); exact HO293.out)) k_ hk, Kd.fresh' (Kd.N_lt (by (with_reducible repeat (first | apply Kd.N_alloc | apply Kd.N_drewN | apply Kd.N_drew)); exact HO296.out)) k_ hk⟩))
     (case aO => exact (by (with_reducible repeat (first | apply Kd.N_alloc | apply Kd.N_drewN | apply Kd.N_drew)); exact HO299.out))
     (case aS => exact (zr2 (by repeat (first | (with_reducible first | exact HB.out | apply zq7 | apply zq8 | apply zq9) | exact HB.out))))
     (case aL => have := LMc37.out; omega)
     intro v306 w122 ho hb hg hat
     rw [← Ny305.out] at ho
     have n0_ := mk_ (Kd.V_afterv (ok := (fun k_ => some k_ ≠ (.slice Ao114 y291.length co114 : Value).ownBlock ∧ some k_ ≠ (.slice Ao116 t294.length co116 : Value).ownBlock)) (by (with_reducible repeat (first | apply Kd.V_alloc | apply Kd.V_drewN | apply Kd.V_drew)); exact Kd.V_mono HO_5.out (fun _ hk => ⟨⟨hk.1.1.2, hk.1.2⟩, hk.2⟩)) hg hat)
     have n1_ := mk_ (Kd.V_afterv (ok := (fun k_ => some k_ ≠ (.slice Ao114 y291.length co114 : Value).ownBlock ∧ some k_ ≠ (.slice Ao116 t294.length co116 : Value).ownBlock)) (by (with_reducible repeat (first | apply Kd.V_alloc | apply Kd.V_drewN | apply Kd.V_drew)); exact Kd.V_mono HO282.out (fun _ hk => ⟨⟨hk.1.1.2, hk.1.2⟩, hk.2⟩)) hg hat)
     have n2_ := mk_ (Kd.V_afterv (ok := (fun k_ => some k_ ≠ (.slice Ao114 y291.length co114 : Value).ownBlock ∧ some k_ ≠ (.slice Ao116 t294.length co116 : Value).ownBlock)) (by (with_reducible repeat (first | apply Kd.V_alloc | apply Kd.V_drewN | apply Kd.V_drew)); exact Kd.V_mono HO290.out (fun _ hk => ⟨⟨hk.1.1.2, hk.1.2⟩, hk.2⟩)) hg hat)
     have n3_ := mk_ (Kd.N_afterv (ok := (fun k_ => some k_ ≠ (.slice Ao116 t294.length co116 : Value).ownBlock)) (by (with_reducible repeat (first | apply Kd.N_alloc | apply Kd.N_drewN | apply Kd.N_drew)); exact Kd.N_mono HO293.out (fun _ hk => ⟨hk.1.2, hk.2⟩)) hg hat)
     have n4_ := mk_ (Kd.N_afterv (ok := (fun k_ => some k_ ≠ (.slice Ao114 y291.length co114 : Value).ownBlock)) (by (with_reducible repeat (first | apply Kd.N_alloc | apply Kd.N_drewN | apply Kd.N_drew)); exact HO296.out) hg hat)
     have n5_ := mk_ (Kd.V_afterv (ok := (fun k_ => some k_ ≠ (.slice Ao114 y291.length co114 : Value).ownBlock ∧ some k_ ≠ (.slice Ao116 t294.length co116 : Value).ownBlock)) (by (with_reducible repeat (first | apply Kd.V_alloc | apply Kd.V_drewN | apply Kd.V_drew)); exact Kd.V_mono HO304.out (fun _ hk => ⟨⟨hk.1.1.2, hk.1.2⟩, hk.2⟩)) hg hat)
     have n6_ := mk_ (Kd.V_afterv (ok := (fun k_ => some k_ ≠ (.slice Ao114 y291.length co114 : Value).ownBlock ∧ some k_ ≠ (.slice Ao116 t294.length co116 : Value).ownBlock)) (by (with_reducible repeat (first | apply Kd.V_alloc | apply Kd.V_drewN | apply Kd.V_drew)); exact Kd.V_mono HO312.out (fun _ hk => ⟨⟨hk.1.1.2, hk.1.2⟩, hk.2⟩)) hg hat)
     have n7_ := mk_ (hb)
     have n8_ := mk_ (ho)
     clear HO_5
     clear HO282
     clear HO290
     clear HO293
     clear HO296
     clear HO304
     clear HO312
     clear HB
     clear HO299
     have HO_5 := n0_
     have HO282 := n1_
     have HO290 := n2_
     have HO293 := n3_
     have HO296 := n4_
     have HO304 := n5_
     have HO312 := n6_
     have HB := n7_
     have HO307 := n8_
     clear n0_ n1_ n2_ n3_ n4_ n5_ n6_ n7_ n8_
     clear ho hb hg hat
     refine hK.out _ _ trivial (fun hHeld => ?_)
     clear hK K
     refine norm_ (a' := ?_) ?_ ?_
     rotate_left
     · show Act.put _ (some 51) _ = _
       simp only [Act.put, zs1, zs2, zs3, i64_w, i32_w]
       rfl
     refine one_ (i := 9) (N := some 55) (bm 11 1023) rfl rfl (one_of HT_.out (by kernel_rfl)) (by decide) (fun K hK => ?_)
     refine Kd.N_append_rows_step k39 (w0 := w) w.heap.size (by rfl) (.tmp 51) (.tmp 54) 23 39 (.agg #[(.int .i64 0), (.int .i64 0), (.slice none 0 0)]) 40 rfl Try.underlying23 info39 rfl (by decide) (by omega) v306 y305 y308 _ _ _ (fun k_ => some k_ ≠ (.slice Ao114 y291.length co114 : Value).ownBlock ∧ some k_ ≠ (.slice Ao116 t294.length co116 : Value).ownBlock) (fun k_ => ((fun k_ => some k_ ≠ (.slice Ao114 y291.length co114 : Value).ownBlock ∧ some k_ ≠ (.slice Ao116 t294.length co116 : Value).ownBlock)) k_ ∧ some k_ ≠ (v306 : Value).ownBlock) rfl rfl ?aO ?aR (fun _ hk => hk) ?aF ?aB ?aS ?aL ?_
     (case aR => exact (by skip; exact Kd.V_F (Kd.V_mono (ok' := (fun k_ => ((fun k_ => some k_ ≠ (.slice Ao114 y291.length co114 : Value).ownBlock ∧ some k_ ≠ (.slice Ao116 t294.length co116 : Value).ownBlock)) k_ ∧ some k_ ≠ (v306 : Value).ownBlock)) (HO312.out) (fun k_ hk => ⟨⟨hk.1.1, hk.1.2⟩, hk.2⟩))))
     (case aB => exact (by repeat (first | (with_reducible first | exact HB.out | apply zq7 | apply zq8 | apply zq9) | exact HB.out)))
     (case aF => exact (fun k_ hk => ⟨Kd.fresh' (Kd.N_lt (by (with_reducible repeat (first | apply Kd.N_alloc | apply Kd.N_drewN | apply Kd.N_drew)); exact HO293.out)) k_ hk, Kd.fresh' (Kd.N_lt (by (with_reducible repeat (first | apply Kd.N_alloc | apply Kd.N_drewN | apply Kd.N_drew)); exact HO296.out)) k_ hk⟩))
     (case aO => exact (by (with_reducible repeat (first | apply Kd.N_alloc | apply Kd.N_drewN | apply Kd.N_drew)); exact HO307.out))
     (case aS => exact (zr2 (by repeat (first | (with_reducible first | exact HB.out | apply zq7 | apply zq8 | apply zq9) | exact HB.out))))
     (case aL => have := LMc40.out; omega)
     intro v314 w123 ho hb hg hat
     rw [← Ny313.out] at ho
     have n0_ := mk_ (Kd.V_afterv (ok := (fun k_ => some k_ ≠ (.slice Ao114 y291.length co114 : Value).ownBlock ∧ some k_ ≠ (.slice Ao116 t294.length co116 : Value).ownBlock)) (by (with_reducible repeat (first | apply Kd.V_alloc | apply Kd.V_drewN | apply Kd.V_drew)); exact HO_5.out) hg hat)
     have n1_ := mk_ (Kd.V_afterv (ok := (fun k_ => some k_ ≠ (.slice Ao114 y291.length co114 : Value).ownBlock ∧ some k_ ≠ (.slice Ao116 t294.length co116 : Value).ownBlock)) (by (with_reducible repeat (first | apply Kd.V_alloc | apply Kd.V_drewN | apply Kd.V_drew)); exact HO282.out) hg hat)
     have n2_ := mk_ (Kd.V_afterv (ok := (fun k_ => some k_ ≠ (.slice Ao114 y291.length co114 : Value).ownBlock ∧ some k_ ≠ (.slice Ao116 t294.length co116 : Value).ownBlock)) (by (with_reducible repeat (first | apply Kd.V_alloc | apply Kd.V_drewN | apply Kd.V_drew)); exact HO290.out) hg hat)
     have n3_ := mk_ (Kd.N_afterv (ok := (fun k_ => some k_ ≠ (.slice Ao116 t294.length co116 : Value).ownBlock)) (by (with_reducible repeat (first | apply Kd.N_alloc | apply Kd.N_drewN | apply Kd.N_drew)); exact HO293.out) hg hat)
     have n4_ := mk_ (Kd.N_afterv (ok := (fun k_ => some k_ ≠ (.slice Ao114 y291.length co114 : Value).ownBlock)) (by (with_reducible repeat (first | apply Kd.N_alloc | apply Kd.N_drewN | apply Kd.N_drew)); exact HO296.out) hg hat)
     have n5_ := mk_ (Kd.V_afterv (ok := (fun k_ => some k_ ≠ (.slice Ao114 y291.length co114 : Value).ownBlock ∧ some k_ ≠ (.slice Ao116 t294.length co116 : Value).ownBlock)) (by (with_reducible repeat (first | apply Kd.V_alloc | apply Kd.V_drewN | apply Kd.V_drew)); exact HO304.out) hg hat)
     have n6_ := mk_ (Kd.V_afterv (ok := (fun k_ => some k_ ≠ (.slice Ao114 y291.length co114 : Value).ownBlock ∧ some k_ ≠ (.slice Ao116 t294.length co116 : Value).ownBlock)) (by (with_reducible repeat (first | apply Kd.V_alloc | apply Kd.V_drewN | apply Kd.V_drew)); exact HO312.out) hg hat)
     have n7_ := mk_ (hb)
     have n8_ := mk_ (ho)
     clear HO_5
     clear HO282
     clear HO290
     clear HO293
     clear HO296
     clear HO304
     clear HO312
     clear HB
     clear HO307
     have HO_5 := n0_
     have HO282 := n1_
     have HO290 := n2_
     have HO293 := n3_
     have HO296 := n4_
     have HO304 := n5_
     have HO312 := n6_
     have HB := n7_
     have HO315 := n8_
     clear n0_ n1_ n2_ n3_ n4_ n5_ n6_ n7_ n8_
     clear ho hb hg hat
     refine hK.out _ _ trivial (fun hHeld => ?_)
     clear hK K
     refine norm_ (a' := ?_) ?_ ?_
     rotate_left
     · show Act.put _ (some 55) _ = _
       simp only [Act.put, zs1, zs2, zs3, i64_w, i32_w]
       rfl
     refine pA 10 (some 8) (bm 11 2047) rfl rfl HT_.out (by kernel_rfl) (fun _ _ _ h => h) (by rfl) (by intro w'; go_simp; with_reducible rfl) (by simp only [Act.put, zs1, zs2, zs3, i64_w, i32_w]; rfl) ?_
     refine done_ (done_of HT_.out (by kernel_rfl)) ?_
     have p316 : 0 ≤ (x6_1 : Int) := of_decide_eq_true (by first | (with_reducible assumption) | assumption)
     have q316 : x6_1 < (t267.length : Int) := of_decide_eq_true (by first | (with_reducible assumption) | assumption)
     obtain ⟨ad316, A316_2, c316_2, e316, hx316_0, hx316_1, hx316_2, hl316_2, hi316_2⟩ := at_T39 (Kd.V_reads' HO_5.out).2.2 x6_1 p316 q316
     cases e316
     obtain ⟨ce316, hce316, hMe316, hcc316⟩ := Kd.V_get HO_5.out z39 x6_1 p316 (by first | exact q316 | exact of_decide_eq_true (by first | (with_reducible assumption) | assumption) | (have e_ := (Kd.V_reads' HO_5.out).1; omega))
     obtain ⟨ua316_2, uc316_2, rfl, ul316_2, ge316_2⟩ := k39_openF hMe316
     have hv316_2 := hcc316 2 _ rfl
     rw [add_field _ _ 2 (by omega)] at hv316_2
     replace hv316_2 := Option.some.inj (hv316_2.symm.trans hx316_2)
     injection hv316_2 with hva_ hvn_ hvc_
     rw [hva_] at ge316_2
     rw [hvc_] at ul316_2
     have HL316_2 := mk_ (show Kd.V (Kd.int .u8) 5 _ w.heap.size _ _ ((rd_T39 t267 x6_1).f2) from Kd.V_mk ul316_2 ge316_2)
     clear hva_ hvn_ hvc_ ge316_2 ul316_2
     clear hcc316 hce316
     have HR316_2 := mk_ hi316_2
     have HC316_2 := mk_ hl316_2
     clear hi316_2 hl316_2
     replace p316 := eq_true p316
     replace q316 := eq_true q316
     have p320 : 0 ≤ (x6_1 : Int) := of_decide_eq_true (by first | (with_reducible assumption) | assumption)
     have q320 : x6_1 < (t267.length : Int) := of_decide_eq_true (by first | (with_reducible assumption) | assumption)
     obtain ⟨ad320, A320_2, c320_2, e320, hx320_0, hx320_1, hx320_2, hl320_2, hi320_2⟩ := at_T39 (Kd.V_reads' HO_5.out).2.2 x6_1 p320 q320
     obtain rfl : ad316 = ad320 := (by injection e320)
     obtain ⟨ce320, hce320, hMe320, hcc320⟩ := Kd.V_get HO_5.out z39 x6_1 p320 (by first | exact q320 | exact of_decide_eq_true (by first | (with_reducible assumption) | assumption) | (have e_ := (Kd.V_reads' HO_5.out).1; omega))
     obtain ⟨ua320_2, uc320_2, rfl, ul320_2, ge320_2⟩ := k39_openF hMe320
     have hv320_2 := hcc320 2 _ rfl
     rw [add_field _ _ 2 (by omega)] at hv320_2
     replace hv320_2 := Option.some.inj (hv320_2.symm.trans hx320_2)
     injection hv320_2 with hva_ hvn_ hvc_
     rw [hva_] at ge320_2
     rw [hvc_] at ul320_2
     have HL320_2 := mk_ (show Kd.V (Kd.int .u8) 5 _ w.heap.size _ _ ((rd_T39 t267 x6_1).f2) from Kd.V_mk ul320_2 ge320_2)
     clear hva_ hvn_ hvc_ ge320_2 ul320_2
     clear hcc320 hce320
     have HR320_2 := mk_ hi320_2
     have HC320_2 := mk_ hl320_2
     clear hi320_2 hl320_2
     replace p320 := eq_true p320
     replace q320 := eq_true q320
     have ea_ := Option.some.inj (hx316_2.symm.trans hx320_2)
     injection ea_ with ea_ en_ ec_
     subst ea_
     subst ec_
     clear en_
     obtain ⟨Ao124, co124, eo124⟩ := Kd.N_slice HO315.out
     subst eo124
     try go_wp2_with (first | (go_at_call 30; (with_reducible refine (laws_liFeed.calls k1 _ _ y313 t321 _ ?side1 ?side2 A85.out).mono ?_); (case side1 => repeat (first | exact (Kd.N_reads' HO315.out).2.2 | (with_reducible refine Kd.C_alloc ?_ _) | (with_reducible refine Kd.C_drewN ?_ _) | (with_reducible refine Kd.C_drew ?_))); (case side2 => exact (Kd.N_reads' HO315.out).2.1); rintro e w125 ⟨v322, rfl, ho0, hb⟩; replace HO_5 := mk_ (Kd.V_elder' (by (with_reducible repeat (first | apply Kd.V_alloc | apply Kd.V_drewN | apply Kd.V_drew)); exact HO_5.out) (by first | exact Kd.N_base ho0 | exact Kd.S_base ho0) hb); replace HO282 := mk_ (Kd.V_elder' (by (with_reducible repeat (first | apply Kd.V_alloc | apply Kd.V_drewN | apply Kd.V_drew)); exact HO282.out) (by first | exact Kd.N_base ho0 | exact Kd.S_base ho0) hb); replace HO290 := mk_ (Kd.V_elder' (by (with_reducible repeat (first | apply Kd.V_alloc | apply Kd.V_drewN | apply Kd.V_drew)); exact HO290.out) (by first | exact Kd.N_base ho0 | exact Kd.S_base ho0) hb); replace HO304 := mk_ (Kd.V_elder' (by (with_reducible repeat (first | apply Kd.V_alloc | apply Kd.V_drewN | apply Kd.V_drew)); exact HO304.out) (by first | exact Kd.N_base ho0 | exact Kd.S_base ho0) hb); replace HO312 := mk_ (Kd.V_elder' (by (with_reducible repeat (first | apply Kd.V_alloc | apply Kd.V_drewN | apply Kd.V_drew)); exact HO312.out) (by first | exact Kd.N_base ho0 | exact Kd.S_base ho0) hb); replace HL316_2 := mk_ (Kd.V_elder' (by (with_reducible repeat (first | apply Kd.V_alloc | apply Kd.V_drewN | apply Kd.V_drew)); exact HL316_2.out) (by first | exact Kd.N_base ho0 | exact Kd.S_base ho0) hb); replace HL320_2 := mk_ (Kd.V_elder' (by (with_reducible repeat (first | apply Kd.V_alloc | apply Kd.V_drewN | apply Kd.V_drew)); exact HL320_2.out) (by first | exact Kd.N_base ho0 | exact Kd.S_base ho0) hb); have HO323 := mk_ (Kd.N_lower (Kd.N_mono (ok' := fun k_ => some k_ ≠ (.slice Ao114 y291.length co114 : Value).ownBlock ∧ some k_ ≠ (.slice Ao116 t294.length co116 : Value).ownBlock ∧ some k_ ≠ (.slice Ao124 y313.length co124 : Value).ownBlock) ho0 (fun k_ hk_ => ⟨(Kd.fresh' (Kd.N_lt (by (with_reducible repeat (first | apply Kd.N_alloc | apply Kd.N_drewN | apply Kd.N_drew)); exact HO293.out)) k_ hk_), (Kd.fresh' (Kd.N_lt (by (with_reducible repeat (first | apply Kd.N_alloc | apply Kd.N_drewN | apply Kd.N_drew)); exact HO296.out)) k_ hk_), (Kd.fresh' (Kd.N_lt (by (with_reducible repeat (first | apply Kd.N_alloc | apply Kd.N_drewN | apply Kd.N_drew)); exact HO315.out)) k_ hk_)⟩)) (zr2 (by repeat (first | (with_reducible first | exact HB.out | apply zq7 | apply zq8 | apply zq9) | exact HB.out)))); replace HO293 := mk_ (Kd.N_elder' (by (with_reducible repeat (first | apply Kd.N_alloc | apply Kd.N_drewN | apply Kd.N_drew)); exact HO293.out) (by first | exact Kd.N_base ho0 | exact Kd.S_base ho0) hb); replace HO296 := mk_ (Kd.N_elder' (by (with_reducible repeat (first | apply Kd.N_alloc | apply Kd.N_drewN | apply Kd.N_drew)); exact HO296.out) (by first | exact Kd.N_base ho0 | exact Kd.S_base ho0) hb); replace HO315 := mk_ (Kd.N_elder' (by (with_reducible repeat (first | apply Kd.N_alloc | apply Kd.N_drewN | apply Kd.N_drew)); exact HO315.out) (by first | exact Kd.N_base ho0 | exact Kd.S_base ho0) hb); replace HR316_2 := mk_ (Kd.C_below (by repeat (first | (with_reducible exact HR316_2.out) | (with_reducible refine Kd.C_alloc ?_ _) | (with_reducible refine Kd.C_drewN ?_ _) | (with_reducible refine Kd.C_drew ?_) | exact HR316_2.out)) hb); replace HR320_2 := mk_ (Kd.C_below (by repeat (first | (with_reducible exact HR320_2.out) | (with_reducible refine Kd.C_alloc ?_ _) | (with_reducible refine Kd.C_drewN ?_ _) | (with_reducible refine Kd.C_drew ?_) | exact HR320_2.out)) hb); replace HB := mk_ (zr3 (by repeat (first | (with_reducible first | exact HB.out | apply zq7 | apply zq8 | apply zq9) | exact HB.out)) hb); (try clear hb); (try clear hb2); (try clear hk); (try clear hi); (try clear ho0); obtain ⟨Ao126, co126, eo126⟩ := Kd.N_slice HO323.out; subst eo126))
     go_roundg k1
     case measure => have := HK1.out; omega
     case rel => exact ⟨(ji19), (by first | rfl | (simp; done) | (simp only [← hji19] <;> (first | rfl | simp)) | (simp [*]; done)), H', ⟨by have := HK1.out; omega⟩, ⟨by (with_reducible repeat (first | apply Kd.V_alloc | apply Kd.V_drewN | apply Kd.V_drew)); exact Kd.V_mono HO_5.out (fun _ hk => trivial)⟩, ⟨by repeat (first | (with_reducible first | exact HB.out | apply zq7 | apply zq8 | apply zq9) | exact HB.out)⟩⟩

/-- THE ONE PURE STATEMENT of laws_FnSegLost: yours. -/
def laws_FnSegLost.Pure : Prop := ∀ (l0 : List Int), l0.length ≤ maxLen → l0.length * 1 ≤ 140737488351232 → (∀ x ∈ l0, (Lit.int .u8 x).wf = true) → ∃ k, laws_FnSegLost.f k l0 = some true
theorem laws_FnSegLost.walk (P : laws_FnSegLost.Pure) (a0 : Option Addr) (len0 cap0 : Nat) (z0 : List Int) (w : World) (w0 : (a0 = none ∧ len0 = 0 ∧ cap0 = 0 ∧ z0 = []) ∨ ∃ x, a0 = some x ∧ len0 ≤ cap0 ∧ cap0 ≤ maxLen ∧ z0.length = cap0 ∧ (∀ i, i < z0.length → w.cell? (x.add i) = some (.int .u8 (z0.getD i 0))) ∧ ∀ n ∈ z0, (Lit.int .u8 n).wf = true) (y0 : len0 * 1 ≤ 140737488351232) :
    Calls Try.prog 6 #[.slice a0 len0 cap0] w fun e w' => e = .returned (.bool true) ∧ Below w.heap.size w w' := by
 obtain ⟨l0, rfl, hr0, hm0, hw0, hc0⟩ := ReadsInt.ofRowC w0
 obtain ⟨k, h⟩ := P l0 hm0 y0 hw0
 refine (laws_FnSegLost.calls k _ _ l0 true w (Kd.C_of_reads (d := (0 : Int)) (h1 := fun _ => rfl) hr0) hc0 h).mono ?_
 rintro e w' ⟨rfl, hd⟩
 exact ⟨rfl, hd⟩

end Go.Proofs.Yteknaofnageihaa.QFnSegLost
