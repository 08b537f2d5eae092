-- Written by a program of this session, a turned copy of the print (not by print.sh itself). Lean checks it.
import Derived.Test.YtoigmeiollfklaaQFnExactFrmOkx0
namespace Go.Proofs.Ytoigmeiollfklaa.QFnExactFrmOk
open Go.RowKit Go.Proofs.YtoigmeiollfklaaW.PrintWords Go.Proofs.YtoigmeiollfklaaW.PrintLast Go.Proofs.YtoigmeiollfklaaW.PrintMore Go.Proofs.YtoigmeiollfklaaLoc
attribute [local go_sem] max2_int min2_int max_two min_two max_three min_three max_four min_four   -- for this text's walks alone
set_option linter.unusedVariables false
set_option linter.unusedSimpArgs false

/-! ### laws_szByteS: function 60 -/
def laws_szByteS.f (l0 : List Int) (a1 : Int) : Option (Int) := if (wrap64 (a1 - (l0.length : Int))) < 0 then (some (-1)) else (some (wrap64 (a1 - (l0.length : Int))))
set_option maxHeartbeats 60000000 in
set_option maxRecDepth 100000 in
theorem laws_szByteS.calls (A0 : Option Addr) (c0 : Nat) (l0 : List Int) (a1 : Int) (r : Int) (w : World) (hr0 : Kd.C (Kd.int .u8) w A0 l0.length l0) (hc0 : l0.length ≤ c0) (h : laws_szByteS.f l0 a1 = some r) :
    Calls Try.prog 60 #[.slice A0 l0.length c0, .int .i64 a1] w fun e w' => e = .returned (.int .i64 r) ∧ Drawn0 w w' := by
 have HR0 := mk_ hr0
 have HC0 := mk_ hc0
 clear hr0 hc0
 have H : (if (wrap64 (a1 - (l0.length : Int))) < 0 then (some (-1)) else (some (wrap64 (a1 - (l0.length : Int))))) = some r := h
 clear h
 by_cases c3 : (wrap64 (a1 - (l0.length : Int))) < 0
 · rw [if_pos c3] at H
   have c3b0 : decide ((wrap64 (a1 - (l0.length : Int))) < 0) = true := decide_eq_true c3
   clear c3
   obtain rfl := Option.some.inj H
   go_enter Try.func60, Try.ntmps60
   go_wp2
   go_ret
   exact ⟨by first | rfl | (simp; done) | (simp [*]; done), by repeat (first | exact Drawn0.refl _ | apply Drawn0.step)⟩
 rw [if_neg c3] at H
 have c3b0 : decide ((wrap64 (a1 - (l0.length : Int))) < 0) = false := decide_eq_false c3
 clear c3
 obtain rfl := Option.some.inj H
 go_enter Try.func60, Try.ntmps60
 go_wp2
 go_ret
 exact ⟨by first | rfl | (simp; done) | (simp [*]; done), by repeat (first | exact Drawn0.refl _ | apply Drawn0.step)⟩

/-! ### laws_szFrmFrame: function 38 -/
def laws_szFrmFrame.f (a0_0 : Int) (a0_1 : Int) (a0_2 : Int) (a0_3 : Bool) (a0_4 : Bool) (a0_5 : Int) (a0_6 : Int) (a0_7 : Int) (l0_8 : List Int) (a1 : Int) : Option (Int) := (laws_szByteS.f l0_8 a1).bind fun t102 => (if t102 < 0 then (some (-1)) else (some t102))
set_option maxHeartbeats 60000000 in
set_option maxRecDepth 100000 in
theorem laws_szFrmFrame.calls (a0_0 : Int) (a0_1 : Int) (a0_2 : Int) (a0_3 : Bool) (a0_4 : Bool) (a0_5 : Int) (a0_6 : Int) (a0_7 : Int) (A0_8 : Option Addr) (c0_8 : Nat) (l0_8 : List Int) (a1 : Int) (r : Int) (w : World) (hr0_8 : Kd.C (Kd.int .u8) w A0_8 l0_8.length l0_8) (hc0_8 : l0_8.length ≤ c0_8) (h : laws_szFrmFrame.f a0_0 a0_1 a0_2 a0_3 a0_4 a0_5 a0_6 a0_7 l0_8 a1 = some r) :
    Calls Try.prog 38 #[.agg #[.int .i64 a0_0, .int .i64 a0_1, .int .i64 a0_2, .bool a0_3, .bool a0_4, .int .i64 a0_5, .int .i64 a0_6, .int .i64 a0_7, .slice A0_8 l0_8.length c0_8], .int .i64 a1] w fun e w' => e = .returned (.int .i64 r) ∧ Below w.heap.size w w' := by
 have hu69 := Try.underlying69
 have HR0_8 := mk_ hr0_8
 have HC0_8 := mk_ hc0_8
 clear hr0_8 hc0_8
 have HB := mk_ (Below.refl w.heap.size w)
 have H : ((laws_szByteS.f l0_8 a1).bind fun t102 => (if t102 < 0 then (some (-1)) else (some t102))) = some r := h
 clear h
 replace H := Option.bind_eq_some_iff.mp H
 obtain ⟨t102, A30, H⟩ := H
 try dsimp only at H
 have A3 := mk_ A30
 clear A30
 by_cases c4 : t102 < 0
 · rw [if_pos c4] at H
   have c4b0 : decide (t102 < 0) = true := decide_eq_true c4
   clear c4
   obtain rfl := Option.some.inj H
   go_enter Try.func38, Try.ntmps38
   go_wp2_with (first | ((with_reducible refine gate_dst (N := 2) rfl ?_); refine box_event ?hg (N := 2) ?hd (cs := #[.int .i64 a0_0, .int .i64 a0_1, .int .i64 a0_2, .bool a0_3, .bool a0_4, .int .i64 a0_5, .int .i64 a0_6, .int .i64 a0_7, .slice A0_8 l0_8.length c0_8]) (t := 69) ?hr ?_; (case hd => rfl); (case hg => rfl); (case hr => first | (go_simp; done) | (go_simp; rfl)); intro gb101 hg w5 hbox hb; have BK101 := mk_ (hbox); have GW101 := mk_ ((by rw [hg]; exact (zr2 (by repeat (first | (with_reducible first | exact HB.out | apply zq7 | apply zq8 | apply zq9) | exact HB.out))) : w.heap.size ≤ gb101)); have GE101 := GW101; replace HB := mk_ (zr3 (by repeat (first | (with_reducible first | exact HB.out | apply zq7 | apply zq8 | apply zq9) | exact HB.out)) hb); clear hb hbox hg; obtain ⟨hcz6_0, hcz6_1, hcz6_2, hcz6_3, hcz6_4, hcz6_5, hcz6_6, hcz6_7, hcz6_8⟩ := cz9 BK101.out; obtain ⟨hfz6_0, hfz6_1, hfz6_2, hfz6_3, hfz6_4, hfz6_5, hfz6_6, hfz6_7, hfz6_8⟩ := fz9 BK101.out) | ((with_reducible refine gate_callee (f := 60) rfl ?_); refine goesL_ (some 8) rfl rfl Try.func60 (by kernel_rfl) rfl #[.slice A0_8 l0_8.length c0_8, .int .i64 a1] rfl (by (try simp only [List.map_toArray, List.map_cons, List.map_nil]); first | done | rfl | (simp only [List.length_drop, List.length_take]; rfl)) ?_; (with_reducible refine (laws_szByteS.calls _ _ l0_8 a1 t102 _ ?side1 ?side2 A3.out).mono ?_); (case side1 => repeat (first | exact (Kd.C_below HR0_8.out HB.out) | (with_reducible refine Kd.C_alloc ?_ _) | (with_reducible refine Kd.C_drewN ?_ _) | (with_reducible refine Kd.C_drew ?_))); (case side2 => exact HC0_8.out); rintro e w' ⟨rfl, ⟨nd, rfl⟩⟩; refine ⟨_, rfl, ?_⟩))
   go_ret
   exact ⟨by first | rfl | (simp [errW_none, errW_some] <;> rfl) | (simp [*, errW_none, errW_some] <;> rfl), by repeat (first | (with_reducible first | exact HB.out | apply zq7 | apply zq8 | apply zq9 | refine zr1 ?_ GE101.out) | exact HB.out)⟩
 rw [if_neg c4] at H
 have c4b0 : decide (t102 < 0) = false := decide_eq_false c4
 clear c4
 obtain rfl := Option.some.inj H
 go_enter Try.func38, Try.ntmps38
 go_wp2_with (first | ((with_reducible refine gate_dst (N := 2) rfl ?_); refine box_event ?hg (N := 2) ?hd (cs := #[.int .i64 a0_0, .int .i64 a0_1, .int .i64 a0_2, .bool a0_3, .bool a0_4, .int .i64 a0_5, .int .i64 a0_6, .int .i64 a0_7, .slice A0_8 l0_8.length c0_8]) (t := 69) ?hr ?_; (case hd => rfl); (case hg => rfl); (case hr => first | (go_simp; done) | (go_simp; rfl)); intro gb101 hg w7 hbox hb; have BK101 := mk_ (hbox); have GW101 := mk_ ((by rw [hg]; exact (zr2 (by repeat (first | (with_reducible first | exact HB.out | apply zq7 | apply zq8 | apply zq9) | exact HB.out))) : w.heap.size ≤ gb101)); have GE101 := GW101; replace HB := mk_ (zr3 (by repeat (first | (with_reducible first | exact HB.out | apply zq7 | apply zq8 | apply zq9) | exact HB.out)) hb); clear hb hbox hg; obtain ⟨hcz8_0, hcz8_1, hcz8_2, hcz8_3, hcz8_4, hcz8_5, hcz8_6, hcz8_7, hcz8_8⟩ := cz9 BK101.out; obtain ⟨hfz8_0, hfz8_1, hfz8_2, hfz8_3, hfz8_4, hfz8_5, hfz8_6, hfz8_7, hfz8_8⟩ := fz9 BK101.out) | ((with_reducible refine gate_callee (f := 60) rfl ?_); refine goesL_ (some 8) rfl rfl Try.func60 (by kernel_rfl) rfl #[.slice A0_8 l0_8.length c0_8, .int .i64 a1] rfl (by (try simp only [List.map_toArray, List.map_cons, List.map_nil]); first | done | rfl | (simp only [List.length_drop, List.length_take]; rfl)) ?_; (with_reducible refine (laws_szByteS.calls _ _ l0_8 a1 t102 _ ?side1 ?side2 A3.out).mono ?_); (case side1 => repeat (first | exact (Kd.C_below HR0_8.out HB.out) | (with_reducible refine Kd.C_alloc ?_ _) | (with_reducible refine Kd.C_drewN ?_ _) | (with_reducible refine Kd.C_drew ?_))); (case side2 => exact HC0_8.out); rintro e w' ⟨rfl, ⟨nd, rfl⟩⟩; refine ⟨_, rfl, ?_⟩))
 go_ret
 exact ⟨by first | rfl | (simp [errW_none, errW_some] <;> rfl) | (simp [*, errW_none, errW_some] <;> rfl), by repeat (first | (with_reducible first | exact HB.out | apply zq7 | apply zq8 | apply zq9 | refine zr1 ?_ GE101.out) | exact HB.out)⟩

/-! ### spec_l1In: function 44 -/
def spec_l1In.f (a0 : Int) (a1 : Int) (a2 : Int) : Option (Bool) := if a0 ≥ a1 then (some (decide (a0 ≤ a2))) else (some false)
set_option maxHeartbeats 60000000 in
set_option maxRecDepth 100000 in
theorem spec_l1In.calls (a0 : Int) (a1 : Int) (a2 : Int) (r : Bool) (w : World) (h : spec_l1In.f a0 a1 a2 = some r) :
    Calls Try.prog 44 #[.int .i64 a0, .int .i64 a1, .int .i64 a2] w fun e w' => e = .returned (.bool r) ∧ Drawn0 w w' := by
 have H : (if a0 ≥ a1 then (some (decide (a0 ≤ a2))) else (some false)) = some r := h
 clear h
 by_cases c4 : a0 ≥ a1
 · rw [if_pos c4] at H
   have c4b0 : decide (a1 ≤ a0) = true := decide_eq_true c4
   clear c4
   obtain rfl := Option.some.inj H
   go_enter Try.func44, Try.ntmps44
   go_wp2
   go_ret
   exact ⟨by first | rfl | (simp; done) | (simp [*]; done), by repeat (first | exact Drawn0.refl _ | apply Drawn0.step)⟩
 rw [if_neg c4] at H
 have c4b0 : decide (a1 ≤ a0) = false := decide_eq_false c4
 clear c4
 obtain rfl := Option.some.inj H
 go_enter Try.func44, Try.ntmps44
 go_wp2
 go_ret
 exact ⟨by first | rfl | (simp; done) | (simp [*]; done), by repeat (first | exact Drawn0.refl _ | apply Drawn0.step)⟩

/-! ### spec_l2Seg: function 61 -/
def spec_l2Seg.j0 : Nat → Bool → Int → Int → Int → Bool → Bool → Int → Int → Int → List Int → Option (Bool)
  | 0, _, _, _, _, _, _, _, _, _, _ => none
  | k + 1, x23, x104000, x104001, x104002, x104003, x104004, x104005, x104006, x104007, x104008 => if x23 = true then (some false) else (if x104006 = 0 then (some (x104007 == (x104008.length : Int))) else (if x104006 = 1 then ((spec_l1In.f x104007 (wrap64 ((x104008.length : Int) + 1)) 24).bind fun t105 => (if t105 = true then (some (decide ((x104008.length : Int) > 0))) else (some false))) else (if x104007 = 0 then (some (decide ((x104008.length : Int) > 0))) else (some false))))
def spec_l2Seg.f (k : Nat) (a0_0 : Int) (a0_1 : Int) (a0_2 : Int) (a0_3 : Bool) (a0_4 : Bool) (a0_5 : Int) (a0_6 : Int) (a0_7 : Int) (l0_8 : List Int) : Option (Bool) := (spec_l1In.f a0_6 0 3).bind fun t104 => (if t104 = true then (if (l0_8.length : Int) = 0 then (if a0_7 = 0 then (spec_l2Seg.j0 k (decide ((l0_8.length : Int) > 8)) a0_0 a0_1 a0_2 a0_3 a0_4 a0_5 a0_6 a0_7 l0_8) else (spec_l2Seg.j0 k true a0_0 a0_1 a0_2 a0_3 a0_4 a0_5 a0_6 a0_7 l0_8)) else (spec_l2Seg.j0 k (decide ((l0_8.length : Int) > 8)) a0_0 a0_1 a0_2 a0_3 a0_4 a0_5 a0_6 a0_7 l0_8)) else (spec_l2Seg.j0 k true a0_0 a0_1 a0_2 a0_3 a0_4 a0_5 a0_6 a0_7 l0_8))
theorem spec_l2Seg.mono_l : ∀ k, (∀ y0 y1 y2 y3 y4 y5 y6 y7 y8 y9, LeO (spec_l2Seg.j0 k y0 y1 y2 y3 y4 y5 y6 y7 y8 y9) (spec_l2Seg.j0 (k + 1) y0 y1 y2 y3 y4 y5 y6 y7 y8 y9))
  | 0 => fun _ _ _ _ _ _ _ _ _ _ r h => by simp [spec_l2Seg.j0] at h
  | k + 1 => by
    have ih0 := spec_l2Seg.mono_l k
    · intro y0 y1 y2 y3 y4 y5 y6 y7 y8 y9
      unfold spec_l2Seg.j0
      repeat' first
      | (with_reducible exact ih0 _ _ _ _ _ _ _ _ _ _)
      | (with_reducible exact LeO.refl _)
      | (with_reducible exact LeO.none _)
      | (with_reducible refine LeO.ite ?_ ?_)
      | (with_reducible refine LeO.bind ?_ (fun _ => ?_))
      | exact ih0 _ _ _ _ _ _ _ _ _ _
      | exact LeO.none _
      | refine LeO.ite ?_ ?_
      | refine LeO.bind ?_ (fun _ => ?_)
theorem spec_l2Seg.mono : ∀ a0 a1 a2 a3 a4 a5 a6 a7 a8 k, LeO (spec_l2Seg.f k a0 a1 a2 a3 a4 a5 a6 a7 a8) (spec_l2Seg.f (k + 1) a0 a1 a2 a3 a4 a5 a6 a7 a8) := by
 intro a0 a1 a2 a3 a4 a5 a6 a7 a8 k
 have ih0 := spec_l2Seg.mono_l k
 unfold spec_l2Seg.f
 repeat' first
     | (with_reducible exact ih0 _ _ _ _ _ _ _ _ _ _)
     | (with_reducible exact LeO.refl _)
     | (with_reducible exact LeO.none _)
     | (with_reducible refine LeO.ite ?_ ?_)
     | (with_reducible refine LeO.bind ?_ (fun _ => ?_))
     | exact ih0 _ _ _ _ _ _ _ _ _ _
     | exact LeO.none _
     | refine LeO.ite ?_ ?_
     | refine LeO.bind ?_ (fun _ => ?_)
set_option maxHeartbeats 60000000 in
set_option maxRecDepth 100000 in
theorem spec_l2Seg.calls (k : Nat) (a0_0 : Int) (a0_1 : Int) (a0_2 : Int) (a0_3 : Bool) (a0_4 : Bool) (a0_5 : Int) (a0_6 : Int) (a0_7 : Int) (A0_8 : Option Addr) (c0_8 : Nat) (l0_8 : List Int) (r : Bool) (w : World) (hr0_8 : Kd.C (Kd.int .u8) w A0_8 l0_8.length l0_8) (hc0_8 : l0_8.length ≤ c0_8) (h : spec_l2Seg.f k a0_0 a0_1 a0_2 a0_3 a0_4 a0_5 a0_6 a0_7 l0_8 = some r) :
    Calls Try.prog 61 #[.agg #[.int .i64 a0_0, .int .i64 a0_1, .int .i64 a0_2, .bool a0_3, .bool a0_4, .int .i64 a0_5, .int .i64 a0_6, .int .i64 a0_7, .slice A0_8 l0_8.length c0_8]] w fun e w' => e = .returned (.bool r) ∧ Below w.heap.size w w' := by
  have hu72 := Try.underlying72
  have HR0_8 := mk_ hr0_8
  have HC0_8 := mk_ hc0_8
  clear hr0_8 hc0_8
  have HB := mk_ (Below.refl w.heap.size w)
  have H : ((spec_l1In.f a0_6 0 3).bind fun t104 => (if t104 = true then (if (l0_8.length : Int) = 0 then (if a0_7 = 0 then (spec_l2Seg.j0 k (decide ((l0_8.length : Int) > 8)) a0_0 a0_1 a0_2 a0_3 a0_4 a0_5 a0_6 a0_7 l0_8) else (spec_l2Seg.j0 k true a0_0 a0_1 a0_2 a0_3 a0_4 a0_5 a0_6 a0_7 l0_8)) else (spec_l2Seg.j0 k (decide ((l0_8.length : Int) > 8)) a0_0 a0_1 a0_2 a0_3 a0_4 a0_5 a0_6 a0_7 l0_8)) else (spec_l2Seg.j0 k true a0_0 a0_1 a0_2 a0_3 a0_4 a0_5 a0_6 a0_7 l0_8))) = some r := h
  clear h
  have HC2 := mk_ H
  clear H
  go_enter Try.func61, Try.ntmps61
  go_upto_region 1 with (first | ((with_reducible refine gate_dst (N := 1) rfl ?_); (try (refine gate_guard (by rfl) ?_; dsimp only)); refine box_event ?hg (N := 1) ?hd (cs := #[.int .i64 a0_0, .int .i64 a0_1, .int .i64 a0_2, .bool a0_3, .bool a0_4, .int .i64 a0_5, .int .i64 a0_6, .int .i64 a0_7, .slice A0_8 l0_8.length c0_8]) (t := 72) ?hr ?_; (case hd => rfl); (case hg => rfl); (case hr => first | (go_simp; done) | (go_simp; rfl)); intro gb103 hg w3 hbox hb; have BK103 := mk_ (hbox); have GW103 := mk_ ((by rw [hg]; exact (zr2 (by repeat (first | (with_reducible first | exact HB.out | apply zq7 | apply zq8 | apply zq9) | exact HB.out))) : w.heap.size ≤ gb103)); have GE103 := GW103; replace HB := mk_ (zr3 (by repeat (first | (with_reducible first | exact HB.out | apply zq7 | apply zq8 | apply zq9) | exact HB.out)) hb); clear hb hbox hg))
  (try simp only [Act.put, List.setIfInBounds_toArray, List.set_cons_zero, List.set_cons_succ])
  go_cut [23] (fun v23 wc => ∃ (kq : Nat) (x23_1 : Bool), v23 = .bool x23_1 ∧ Aside0 (spec_l2Seg.j0 kq x23_1 a0_0 a0_1 a0_2 a0_3 a0_4 a0_5 a0_6 a0_7 l0_8 = some r) ∧ Aside0 (kq ≤ k) ∧ Aside0 (wc.heap[gb103]? = some (.cells #[.int .i64 a0_0, .int .i64 a0_1, .int .i64 a0_2, .bool a0_3, .bool a0_4, .int .i64 a0_5, .int .i64 a0_6, .int .i64 a0_7, (.slice A0_8 l0_8.length c0_8)] 72 (0, 0))) ∧ Aside0 (Below w.heap.size w wc))
  case first =>
    have H := HC2.out
    clear HC2
    replace H := Option.bind_eq_some_iff.mp H
    obtain ⟨t104, A40, H⟩ := H
    try dsimp only at H
    have A4 := mk_ A40
    clear A40
    by_cases c5 : t104 = true
    · subst c5
      have H1 : (if (l0_8.length : Int) = 0 then (if a0_7 = 0 then (spec_l2Seg.j0 k (decide ((l0_8.length : Int) > 8)) a0_0 a0_1 a0_2 a0_3 a0_4 a0_5 a0_6 a0_7 l0_8) else (spec_l2Seg.j0 k true a0_0 a0_1 a0_2 a0_3 a0_4 a0_5 a0_6 a0_7 l0_8)) else (spec_l2Seg.j0 k (decide ((l0_8.length : Int) > 8)) a0_0 a0_1 a0_2 a0_3 a0_4 a0_5 a0_6 a0_7 l0_8)) = some r := by rw [if_pos rfl] at H; exact H
      clear H
      have H := H1
      clear H1
      by_cases c6 : (l0_8.length : Int) = 0
      · rw [if_pos c6] at H
        have c6b0 : ((l0_8.length : Int) == 0) = true := beq_iff_eq.mpr c6
        have c6b1 : ((l0_8.length : Int) != 0) = false := bne_eq_false_iff_eq.mpr c6
        clear c6
        (first | rw [c6b0] | (simp only [i64_w, i32_w]; rw [c6b0]) | skip)
        by_cases c7 : a0_7 = 0
        · rw [if_pos c7] at H
          have c7b0 : (a0_7 == 0) = true := beq_iff_eq.mpr c7
          have c7b1 : (a0_7 != 0) = false := bne_eq_false_iff_eq.mpr c7
          clear c7
          have H' := mk_ H
          clear H
          obtain ⟨hcz8_0, hcz8_1, hcz8_2, hcz8_3, hcz8_4, hcz8_5, hcz8_6, hcz8_7, hcz8_8⟩ := cz9 BK103.out
          obtain ⟨hfz8_0, hfz8_1, hfz8_2, hfz8_3, hfz8_4, hfz8_5, hfz8_6, hfz8_7, hfz8_8⟩ := fz9 BK103.out
          go_wp2_with (first | ((with_reducible refine gate_callee (f := 44) rfl ?_); refine goesL_ (some 5) rfl rfl Try.func44 (by kernel_rfl) rfl #[.int .i64 a0_6, .int .i64 0, .int .i64 3] rfl (by (try simp only [List.map_toArray, List.map_cons, List.map_nil]); first | done | rfl | (simp only [List.length_drop, List.length_take]; rfl)) ?_; (with_reducible refine (spec_l1In.calls a0_6 0 3 true _ A4.out).mono ?_); rintro e w' ⟨rfl, ⟨nd, rfl⟩⟩; refine ⟨_, rfl, ?_⟩))
          go_meet
          case rel => exact ⟨_, (decide ((l0_8.length : Int) > 8)), (by first | rfl | (simp; done) | (simp [*]; done)), H', ⟨by first | omega | exact Nat.le_refl _⟩, ⟨by (with_reducible repeat (first | refine zq1 ?_ _ | refine zq2 ?_ | refine zq3 ?_ _)); exact BK103.out⟩, ⟨by repeat (first | (with_reducible first | exact HB.out | apply zq7 | apply zq8 | apply zq9 | refine zr1 ?_ GE103.out) | exact HB.out)⟩⟩
        · rw [if_neg c7] at H
          have c7b0 : (a0_7 == 0) = false := beq_eq_false_iff_ne.mpr c7
          have c7b1 : (a0_7 != 0) = true := bne_iff_ne.mpr c7
          have H' := mk_ H
          clear H
          obtain ⟨hcz9_0, hcz9_1, hcz9_2, hcz9_3, hcz9_4, hcz9_5, hcz9_6, hcz9_7, hcz9_8⟩ := cz9 BK103.out
          obtain ⟨hfz9_0, hfz9_1, hfz9_2, hfz9_3, hfz9_4, hfz9_5, hfz9_6, hfz9_7, hfz9_8⟩ := fz9 BK103.out
          go_wp2_with (first | ((with_reducible refine gate_callee (f := 44) rfl ?_); refine goesL_ (some 5) rfl rfl Try.func44 (by kernel_rfl) rfl #[.int .i64 a0_6, .int .i64 0, .int .i64 3] rfl (by (try simp only [List.map_toArray, List.map_cons, List.map_nil]); first | done | rfl | (simp only [List.length_drop, List.length_take]; rfl)) ?_; (with_reducible refine (spec_l1In.calls a0_6 0 3 true _ A4.out).mono ?_); rintro e w' ⟨rfl, ⟨nd, rfl⟩⟩; refine ⟨_, rfl, ?_⟩))
          go_meet
          case rel => exact ⟨_, (true), (by first | rfl | (simp; done) | (simp [*]; done)), H', ⟨by first | omega | exact Nat.le_refl _⟩, ⟨by (with_reducible repeat (first | refine zq1 ?_ _ | refine zq2 ?_ | refine zq3 ?_ _)); exact BK103.out⟩, ⟨by repeat (first | (with_reducible first | exact HB.out | apply zq7 | apply zq8 | apply zq9 | refine zr1 ?_ GE103.out) | exact HB.out)⟩⟩
      · rw [if_neg c6] at H
        have c6b0 : ((l0_8.length : Int) == 0) = false := beq_eq_false_iff_ne.mpr c6
        have c6b1 : ((l0_8.length : Int) != 0) = true := bne_iff_ne.mpr c6
        have c6b2 : ¬ (l0_8 = []) := fun h_ => c6 (by rw [h_]; rfl)
        (first | rw [c6b0] | (simp only [i64_w, i32_w]; rw [c6b0]) | skip)
        have H' := mk_ H
        clear H
        obtain ⟨hcz10_0, hcz10_1, hcz10_2, hcz10_3, hcz10_4, hcz10_5, hcz10_6, hcz10_7, hcz10_8⟩ := cz9 BK103.out
        obtain ⟨hfz10_0, hfz10_1, hfz10_2, hfz10_3, hfz10_4, hfz10_5, hfz10_6, hfz10_7, hfz10_8⟩ := fz9 BK103.out
        go_wp2_with (first | ((with_reducible refine gate_callee (f := 44) rfl ?_); refine goesL_ (some 5) rfl rfl Try.func44 (by kernel_rfl) rfl #[.int .i64 a0_6, .int .i64 0, .int .i64 3] rfl (by (try simp only [List.map_toArray, List.map_cons, List.map_nil]); first | done | rfl | (simp only [List.length_drop, List.length_take]; rfl)) ?_; (with_reducible refine (spec_l1In.calls a0_6 0 3 true _ A4.out).mono ?_); rintro e w' ⟨rfl, ⟨nd, rfl⟩⟩; refine ⟨_, rfl, ?_⟩))
        go_meet
        case rel => exact ⟨_, (decide ((l0_8.length : Int) > 8)), (by first | rfl | (simp; done) | (simp [*]; done)), H', ⟨by first | omega | exact Nat.le_refl _⟩, ⟨by (with_reducible repeat (first | refine zq1 ?_ _ | refine zq2 ?_ | refine zq3 ?_ _)); exact BK103.out⟩, ⟨by repeat (first | (with_reducible first | exact HB.out | apply zq7 | apply zq8 | apply zq9 | refine zr1 ?_ GE103.out) | exact HB.out)⟩⟩
    · replace c5 := Bool.eq_false_iff.mpr c5
      subst c5
      have H1 : (spec_l2Seg.j0 k true a0_0 a0_1 a0_2 a0_3 a0_4 a0_5 a0_6 a0_7 l0_8) = some r := by rw [if_neg (show ¬ (false = true) by decide)] at H; exact H
      clear H
      have H := H1
      clear H1
      have H' := mk_ H
      clear H
      obtain ⟨hcz11_0, hcz11_1, hcz11_2, hcz11_3, hcz11_4, hcz11_5, hcz11_6, hcz11_7, hcz11_8⟩ := cz9 BK103.out
      obtain ⟨hfz11_0, hfz11_1, hfz11_2, hfz11_3, hfz11_4, hfz11_5, hfz11_6, hfz11_7, hfz11_8⟩ := fz9 BK103.out
      go_wp2_with (first | ((with_reducible refine gate_callee (f := 44) rfl ?_); refine goesL_ (some 5) rfl rfl Try.func44 (by kernel_rfl) rfl #[.int .i64 a0_6, .int .i64 0, .int .i64 3] rfl (by (try simp only [List.map_toArray, List.map_cons, List.map_nil]); first | done | rfl | (simp only [List.length_drop, List.length_take]; rfl)) ?_; (with_reducible refine (spec_l1In.calls a0_6 0 3 false _ A4.out).mono ?_); rintro e w' ⟨rfl, ⟨nd, rfl⟩⟩; refine ⟨_, rfl, ?_⟩))
      go_meet
      case rel => exact ⟨_, (true), (by first | rfl | (simp; done) | (simp [*]; done)), H', ⟨by first | omega | exact Nat.le_refl _⟩, ⟨by (with_reducible repeat (first | refine zq1 ?_ _ | refine zq2 ?_ | refine zq3 ?_ _)); exact BK103.out⟩, ⟨by repeat (first | (with_reducible first | exact HB.out | apply zq7 | apply zq8 | apply zq9 | refine zr1 ?_ GE103.out) | exact HB.out)⟩⟩
  case rest =>
    clear HC2
    try clear p2
    try clear c4
    try clear c5
    try clear c6
    try clear c6b0
    try clear c6b1
    try clear c6b2
    try clear c7
    try clear c7b0
    try clear c7b1
    try clear hcz10_0 hcz10_1 hcz10_2 hcz10_3 hcz10_4 hcz10_5 hcz10_6 hcz10_7 hcz10_8
    try clear hcz11_0 hcz11_1 hcz11_2 hcz11_3 hcz11_4 hcz11_5 hcz11_6 hcz11_7 hcz11_8
    try clear hcz8_0 hcz8_1 hcz8_2 hcz8_3 hcz8_4 hcz8_5 hcz8_6 hcz8_7 hcz8_8
    try clear hcz9_0 hcz9_1 hcz9_2 hcz9_3 hcz9_4 hcz9_5 hcz9_6 hcz9_7 hcz9_8
    try clear hfz10_0 hfz10_1 hfz10_2 hfz10_3 hfz10_4 hfz10_5 hfz10_6 hfz10_7 hfz10_8
    try clear hfz11_0 hfz11_1 hfz11_2 hfz11_3 hfz11_4 hfz11_5 hfz11_6 hfz11_7 hfz11_8
    try clear hfz8_0 hfz8_1 hfz8_2 hfz8_3 hfz8_4 hfz8_5 hfz8_6 hfz8_7 hfz8_8
    try clear hfz9_0 hfz9_1 hfz9_2 hfz9_3 hfz9_4 hfz9_5 hfz9_6 hfz9_7 hfz9_8
    obtain ⟨kq, x23_1, rfl, HA, HJ1, BK103, HB⟩ := hcut
    cases kq with
    | zero => exact absurd HA.out (by simp [spec_l2Seg.j0])
    | succ kj1 =>
      have H := HA.out
      clear HA
      simp only [spec_l2Seg.j0] at H
      by_cases c12 : x23_1 = true
      · subst c12
        have H1 : (some false) = some r := by rw [if_pos rfl] at H; exact H
        clear H
        have H := H1
        clear H1
        obtain rfl := Option.some.inj H
        go_wp2
        go_ret
        exact ⟨by first | rfl | (simp [errW_none, errW_some] <;> rfl) | (simp [*, errW_none, errW_some] <;> rfl), by repeat (first | (with_reducible first | exact HB.out | apply zq7 | apply zq8 | apply zq9 | refine zr1 ?_ GE103.out) | exact HB.out)⟩
      · replace c12 := Bool.eq_false_iff.mpr c12
        subst c12
        have H1 : (if a0_6 = 0 then (some (a0_7 == (l0_8.length : Int))) else (if a0_6 = 1 then ((spec_l1In.f a0_7 (wrap64 ((l0_8.length : Int) + 1)) 24).bind fun t105 => (if t105 = true then (some (decide ((l0_8.length : Int) > 0))) else (some false))) else (if a0_7 = 0 then (some (decide ((l0_8.length : Int) > 0))) else (some false)))) = some r := by rw [if_neg (show ¬ (false = true) by decide)] at H; exact H
        clear H
        have H := H1
        clear H1
        by_cases c13 : a0_6 = 0
        · rw [if_pos c13] at H
          have c13b0 : (a0_6 == 0) = true := beq_iff_eq.mpr c13
          have c13b1 : (a0_6 != 0) = false := bne_eq_false_iff_eq.mpr c13
          clear c13
          obtain rfl := Option.some.inj H
          obtain ⟨hcz14_0, hcz14_1, hcz14_2, hcz14_3, hcz14_4, hcz14_5, hcz14_6, hcz14_7, hcz14_8⟩ := cz9 BK103.out
          obtain ⟨hfz14_0, hfz14_1, hfz14_2, hfz14_3, hfz14_4, hfz14_5, hfz14_6, hfz14_7, hfz14_8⟩ := fz9 BK103.out
          go_wp2
          go_ret
          exact ⟨by first | rfl | (simp [errW_none, errW_some] <;> rfl) | (simp [*, errW_none, errW_some] <;> rfl), by repeat (first | (with_reducible first | exact HB.out | apply zq7 | apply zq8 | apply zq9 | refine zr1 ?_ GE103.out) | exact HB.out)⟩
        · rw [if_neg c13] at H
          have c13b0 : (a0_6 == 0) = false := beq_eq_false_iff_ne.mpr c13
          have c13b1 : (a0_6 != 0) = true := bne_iff_ne.mpr c13
          by_cases c15 : a0_6 = 1
          · rw [if_pos c15] at H
            have c15b0 : (a0_6 == 1) = true := beq_iff_eq.mpr c15
            have c15b1 : (a0_6 != 1) = false := bne_eq_false_iff_eq.mpr c15
            clear c15
            replace H := Option.bind_eq_some_iff.mp H
            obtain ⟨t105, A160, H⟩ := H
            try dsimp only at H
            have A16 := mk_ A160
            clear A160
            by_cases c17 : t105 = true
            · subst c17
              have H1 : (some (decide ((l0_8.length : Int) > 0))) = some r := by rw [if_pos rfl] at H; exact H
              clear H
              have H := H1
              clear H1
              obtain rfl := Option.some.inj H
              obtain ⟨hcz18_0, hcz18_1, hcz18_2, hcz18_3, hcz18_4, hcz18_5, hcz18_6, hcz18_7, hcz18_8⟩ := cz9 BK103.out
              obtain ⟨hfz18_0, hfz18_1, hfz18_2, hfz18_3, hfz18_4, hfz18_5, hfz18_6, hfz18_7, hfz18_8⟩ := fz9 BK103.out
              go_wp2_with (first | ((with_reducible refine gate_callee (f := 44) rfl ?_); refine goesL_ (some 42) rfl rfl Try.func44 (by kernel_rfl) rfl #[.int .i64 a0_7, .int .i64 (wrap64 ((l0_8.length : Int) + 1)), .int .i64 24] rfl (by (try simp only [List.map_toArray, List.map_cons, List.map_nil]); first | done | rfl | (simp only [List.length_drop, List.length_take]; rfl)) ?_; (with_reducible refine (spec_l1In.calls a0_7 (wrap64 ((l0_8.length : Int) + 1)) 24 true _ A16.out).mono ?_); rintro e w' ⟨rfl, ⟨nd, rfl⟩⟩; refine ⟨_, rfl, ?_⟩))
              go_ret
              exact ⟨by first | rfl | (simp [errW_none, errW_some] <;> rfl) | (simp [*, errW_none, errW_some] <;> rfl), by repeat (first | (with_reducible first | exact HB.out | apply zq7 | apply zq8 | apply zq9 | refine zr1 ?_ GE103.out) | exact HB.out)⟩
            · replace c17 := Bool.eq_false_iff.mpr c17
              subst c17
              have H1 : (some false) = some r := by rw [if_neg (show ¬ (false = true) by decide)] at H; exact H
              clear H
              have H := H1
              clear H1
              obtain rfl := Option.some.inj H
              obtain ⟨hcz19_0, hcz19_1, hcz19_2, hcz19_3, hcz19_4, hcz19_5, hcz19_6, hcz19_7, hcz19_8⟩ := cz9 BK103.out
              obtain ⟨hfz19_0, hfz19_1, hfz19_2, hfz19_3, hfz19_4, hfz19_5, hfz19_6, hfz19_7, hfz19_8⟩ := fz9 BK103.out
              go_wp2_with (first | ((with_reducible refine gate_callee (f := 44) rfl ?_); refine goesL_ (some 42) rfl rfl Try.func44 (by kernel_rfl) rfl #[.int .i64 a0_7, .int .i64 (wrap64 ((l0_8.length : Int) + 1)), .int .i64 24] rfl (by (try simp only [List.map_toArray, List.map_cons, List.map_nil]); first | done | rfl | (simp only [List.length_drop, List.length_take]; rfl)) ?_; (with_reducible refine (spec_l1In.calls a0_7 (wrap64 ((l0_8.length : Int) + 1)) 24 false _ A16.out).mono ?_); rintro e w' ⟨rfl, ⟨nd, rfl⟩⟩; refine ⟨_, rfl, ?_⟩))
              go_ret
              exact ⟨by first | rfl | (simp [errW_none, errW_some] <;> rfl) | (simp [*, errW_none, errW_some] <;> rfl), by repeat (first | (with_reducible first | exact HB.out | apply zq7 | apply zq8 | apply zq9 | refine zr1 ?_ GE103.out) | exact HB.out)⟩
          · rw [if_neg c15] at H
            have c15b0 : (a0_6 == 1) = false := beq_eq_false_iff_ne.mpr c15
            have c15b1 : (a0_6 != 1) = true := bne_iff_ne.mpr c15
            by_cases c20 : a0_7 = 0
            · rw [if_pos c20] at H
              have c20b0 : (a0_7 == 0) = true := beq_iff_eq.mpr c20
              have c20b1 : (a0_7 != 0) = false := bne_eq_false_iff_eq.mpr c20
              clear c20
              obtain rfl := Option.some.inj H
              obtain ⟨hcz21_0, hcz21_1, hcz21_2, hcz21_3, hcz21_4, hcz21_5, hcz21_6, hcz21_7, hcz21_8⟩ := cz9 BK103.out
              obtain ⟨hfz21_0, hfz21_1, hfz21_2, hfz21_3, hfz21_4, hfz21_5, hfz21_6, hfz21_7, hfz21_8⟩ := fz9 BK103.out
              go_wp2
              go_ret
              exact ⟨by first | rfl | (simp [errW_none, errW_some] <;> rfl) | (simp [*, errW_none, errW_some] <;> rfl), by repeat (first | (with_reducible first | exact HB.out | apply zq7 | apply zq8 | apply zq9 | refine zr1 ?_ GE103.out) | exact HB.out)⟩
            · rw [if_neg c20] at H
              have c20b0 : (a0_7 == 0) = false := beq_eq_false_iff_ne.mpr c20
              have c20b1 : (a0_7 != 0) = true := bne_iff_ne.mpr c20
              obtain rfl := Option.some.inj H
              obtain ⟨hcz22_0, hcz22_1, hcz22_2, hcz22_3, hcz22_4, hcz22_5, hcz22_6, hcz22_7, hcz22_8⟩ := cz9 BK103.out
              obtain ⟨hfz22_0, hfz22_1, hfz22_2, hfz22_3, hfz22_4, hfz22_5, hfz22_6, hfz22_7, hfz22_8⟩ := fz9 BK103.out
              go_wp2
              go_ret
              exact ⟨by first | rfl | (simp [errW_none, errW_some] <;> rfl) | (simp [*, errW_none, errW_some] <;> rfl), by repeat (first | (with_reducible first | exact HB.out | apply zq7 | apply zq8 | apply zq9 | refine zr1 ?_ GE103.out) | exact HB.out)⟩

/-! ### spec_FrmOk: function 39 -/
def spec_FrmOk.f (k : Nat) (a0_0 : Int) (a0_1 : Int) (a0_2 : Int) (a0_3 : Bool) (a0_4 : Bool) (a0_5 : Int) (a0_6 : Int) (a0_7 : Int) (l0_8 : List Int) : Option (Bool) := if a0_0 = 1 then ((spec_l1In.f a0_1 0 7).bind fun t107 => (if t107 = true then ((spec_l1In.f a0_2 0 7).bind fun t108 => (if t108 = true then (if a0_3 = true then (some false) else (if a0_5 = 0 then ((spec_l2Seg.f k a0_0 a0_1 a0_2 a0_3 a0_4 a0_5 a0_6 a0_7 l0_8).bind fun t109 => (some t109)) else (some false))) else (some false))) else (some false))) else (if a0_0 = 2 then (if a0_1 = 0 then ((spec_l1In.f a0_2 0 7).bind fun t110 => (if t110 = true then (if a0_3 = true then (if a0_4 = true then (some false) else ((spec_l1In.f a0_5 0 2).bind fun t111 => (if t111 = true then (if a0_6 = 0 then (if a0_7 = 0 then (some ((l0_8.length : Int) == 0)) else (some false)) else (some false)) else (some false)))) else ((spec_l1In.f a0_5 0 2).bind fun t112 => (if t112 = true then (if a0_6 = 0 then (if a0_7 = 0 then (some ((l0_8.length : Int) == 0)) else (some false)) else (some false)) else (some false)))) else (some false))) else (some false)) else (if a0_0 = 3 then (if a0_1 = 0 then (if a0_2 = 0 then (if a0_3 = true then (some false) else (if a0_4 = true then (some false) else (if a0_5 = 0 then ((spec_l2Seg.f k a0_0 a0_1 a0_2 a0_3 a0_4 a0_5 a0_6 a0_7 l0_8).bind fun t113 => (some t113)) else (some false)))) else (some false)) else (some false)) else (if a0_0 = 4 then (if a0_1 = 0 then (if a0_2 = 0 then (if a0_3 = true then (some false) else (if a0_4 = true then (some false) else (if a0_5 = 0 then (if a0_6 = 0 then ((spec_l1In.f a0_7 1 255).bind fun t114 => (if t114 = true then (some ((l0_8.length : Int) == 0)) else (some false))) else (some false)) else (some false)))) else (some false)) else (some false)) else (some false))))
theorem spec_FrmOk.mono : ∀ a0 a1 a2 a3 a4 a5 a6 a7 a8 k, LeO (spec_FrmOk.f k a0 a1 a2 a3 a4 a5 a6 a7 a8) (spec_FrmOk.f (k + 1) a0 a1 a2 a3 a4 a5 a6 a7 a8) := by
  intro a0 a1 a2 a3 a4 a5 a6 a7 a8 k
  unfold spec_FrmOk.f
  repeat' first
      | (with_reducible exact spec_l2Seg.mono _ _ _ _ _ _ _ _ _ _)
      | (with_reducible exact LeO.refl _)
      | (with_reducible exact LeO.none _)
      | (with_reducible refine LeO.ite ?_ ?_)
      | (with_reducible refine LeO.bind ?_ (fun _ => ?_))
      | exact spec_l2Seg.mono _ _ _ _ _ _ _ _ _ _
      | exact LeO.none _
      | refine LeO.ite ?_ ?_
      | refine LeO.bind ?_ (fun _ => ?_)
set_option maxHeartbeats 60000000 in
set_option maxRecDepth 100000 in
theorem spec_FrmOk.calls (k : Nat) (a0_0 : Int) (a0_1 : Int) (a0_2 : Int) (a0_3 : Bool) (a0_4 : Bool) (a0_5 : Int) (a0_6 : Int) (a0_7 : Int) (A0_8 : Option Addr) (c0_8 : Nat) (l0_8 : List Int) (r : Bool) (w : World) (hr0_8 : Kd.C (Kd.int .u8) w A0_8 l0_8.length l0_8) (hc0_8 : l0_8.length ≤ c0_8) (h : spec_FrmOk.f k a0_0 a0_1 a0_2 a0_3 a0_4 a0_5 a0_6 a0_7 l0_8 = some r) :
    Calls Try.prog 39 #[.agg #[.int .i64 a0_0, .int .i64 a0_1, .int .i64 a0_2, .bool a0_3, .bool a0_4, .int .i64 a0_5, .int .i64 a0_6, .int .i64 a0_7, .slice A0_8 l0_8.length c0_8]] w fun e w' => e = .returned (.bool r) ∧ Below w.heap.size w w' := by
  have HR0_8 := Aside0.mk hr0_8
  have HC0_8 := Aside0.mk hc0_8
  clear hr0_8 hc0_8
  have H : (if a0_0 = 1 then ((spec_l1In.f a0_1 0 7).bind fun t107 => (if t107 = true then ((spec_l1In.f a0_2 0 7).bind fun t108 => (if t108 = true then (if a0_3 = true then (some false) else (if a0_5 = 0 then ((spec_l2Seg.f k a0_0 a0_1 a0_2 a0_3 a0_4 a0_5 a0_6 a0_7 l0_8).bind fun t109 => (some t109)) else (some false))) else (some false))) else (some false))) else (if a0_0 = 2 then (if a0_1 = 0 then ((spec_l1In.f a0_2 0 7).bind fun t110 => (if t110 = true then (if a0_3 = true then (if a0_4 = true then (some false) else ((spec_l1In.f a0_5 0 2).bind fun t111 => (if t111 = true then (if a0_6 = 0 then (if a0_7 = 0 then (some ((l0_8.length : Int) == 0)) else (some false)) else (some false)) else (some false)))) else ((spec_l1In.f a0_5 0 2).bind fun t112 => (if t112 = true then (if a0_6 = 0 then (if a0_7 = 0 then (some ((l0_8.length : Int) == 0)) else (some false)) else (some false)) else (some false)))) else (some false))) else (some false)) else (if a0_0 = 3 then (if a0_1 = 0 then (if a0_2 = 0 then (if a0_3 = true then (some false) else (if a0_4 = true then (some false) else (if a0_5 = 0 then ((spec_l2Seg.f k a0_0 a0_1 a0_2 a0_3 a0_4 a0_5 a0_6 a0_7 l0_8).bind fun t113 => (some t113)) else (some false)))) else (some false)) else (some false)) else (if a0_0 = 4 then (if a0_1 = 0 then (if a0_2 = 0 then (if a0_3 = true then (some false) else (if a0_4 = true then (some false) else (if a0_5 = 0 then (if a0_6 = 0 then ((spec_l1In.f a0_7 1 255).bind fun t114 => (if t114 = true then (some ((l0_8.length : Int) == 0)) else (some false))) else (some false)) else (some false)))) else (some false)) else (some false)) else (some false))))) = some r := h
  clear h
  by_cases c2 : a0_0 = 1
  · rw [if_pos c2] at H
    have c2b0 : (a0_0 == 1) = true := beq_iff_eq.mpr c2
    have c2b1 : (a0_0 != 1) = false := bne_eq_false_iff_eq.mpr c2
    try dsimp only at H
    clear c2
    replace H := Option.bind_eq_some_iff.mp H
    obtain ⟨t107, A30, H⟩ := H
    try dsimp only at H
    have A3 := mk_ A30
    clear A30
    by_cases c4 : t107 = true
    rotate_left
    · replace c4 := Bool.eq_false_iff.mpr c4
      subst c4
      rw [if_neg Bool.false_ne_true] at H
      try dsimp only at H
      obtain rfl := Option.some.inj H
      have HL := mk_ (Lok.start w)
      go_enter Try.func39, Try.ntmps39
      go_wp2_with (first | ((with_reducible refine gate_dst (N := 9) rfl ?_); (with_reducible refine gate_callee (f := 44) rfl ?_); refine goesL_ (some 9) rfl rfl Try.func44 (by kernel_rfl) rfl #[.int .i64 a0_1, .int .i64 0, .int .i64 7] rfl (by (try simp only [List.map_toArray, List.map_cons, List.map_nil]); first | done | rfl) ?_; (with_reducible refine (spec_l1In.calls a0_1 0 7 false _ A3.out).mono ?_); rintro e w_ ⟨rfl, hb_⟩; refine ⟨_, rfl, ?_⟩; replace HL := mk_ (HL.out.drawn hb_); clear hb_) | ((with_reducible refine gate_gd rfl ?_); first | ((with_reducible refine gd_on rfl ?_ ?_); rfl; dsimp only) | ((with_reducible refine gd_off rfl ?_ ?_); rfl)) | ((with_reducible refine gate_dst (N := 1) rfl ?_); refine loc_box rfl rfl (by first | (go_simp; done) | (go_simp; rfl)) HL.out ?_; intro gb1 w_ HL_; replace HL := mk_ HL_; clear HL_) | ((with_reducible refine gate_ld0 (t := 72) rfl ?_); refine loc_load (n := 9) rfl rfl (by kernel_rfl) rfl (by kernel_rfl) HL.out (by with_reducible repeat (first | exact Sel.done | apply Sel.take | apply Sel.skip | apply Get.here | apply Get.next)) ?_) | ((with_reducible refine gate_ld0 rfl ?_); refine loc_load1 rfl rfl (by kernel_rfl) rfl HL.out (by with_reducible repeat (first | exact Sel.done | apply Sel.take | apply Sel.skip | apply Get.here | apply Get.next)) ?_) | ((with_reducible refine gate_st0 rfl ?_); refine loc_store rfl rfl rfl (by first | (go_simp; done) | (go_simp; rfl)) (by kernel_rfl) (by kernel_rfl) HL.out (by with_reducible repeat (first | exact Spl.done | apply Spl.put | apply Spl.skip | apply Upd.here | apply Upd.next)) ?_; intro w_ HL_; replace HL := mk_ HL_; clear HL_))
      go_ret
      exact ⟨by first | rfl | (simp [errW_none, errW_some] <;> rfl) | (simp [*, errW_none, errW_some] <;> rfl), HL.out.bel⟩
    subst c4
    rw [if_pos rfl] at H
    try dsimp only at H
    replace H := Option.bind_eq_some_iff.mp H
    obtain ⟨t108, A50, H⟩ := H
    try dsimp only at H
    have A5 := mk_ A50
    clear A50
    by_cases c6 : t108 = true
    rotate_left
    · replace c6 := Bool.eq_false_iff.mpr c6
      subst c6
      rw [if_neg Bool.false_ne_true] at H
      try dsimp only at H
      obtain rfl := Option.some.inj H
      have HL := mk_ (Lok.start w)
      go_enter Try.func39, Try.ntmps39
      go_wp2_with (first | ((with_reducible refine gate_dst (N := 9) rfl ?_); (with_reducible refine gate_callee (f := 44) rfl ?_); refine goesL_ (some 9) rfl rfl Try.func44 (by kernel_rfl) rfl #[.int .i64 a0_1, .int .i64 0, .int .i64 7] rfl (by (try simp only [List.map_toArray, List.map_cons, List.map_nil]); first | done | rfl) ?_; (with_reducible refine (spec_l1In.calls a0_1 0 7 true _ A3.out).mono ?_); rintro e w_ ⟨rfl, hb_⟩; refine ⟨_, rfl, ?_⟩; replace HL := mk_ (HL.out.drawn hb_); clear hb_) | ((with_reducible refine gate_dst (N := 13) rfl ?_); (with_reducible refine gate_callee (f := 44) rfl ?_); refine goesL_ (some 13) rfl rfl Try.func44 (by kernel_rfl) rfl #[.int .i64 a0_2, .int .i64 0, .int .i64 7] rfl (by (try simp only [List.map_toArray, List.map_cons, List.map_nil]); first | done | rfl) ?_; (with_reducible refine (spec_l1In.calls a0_2 0 7 false _ A5.out).mono ?_); rintro e w_ ⟨rfl, hb_⟩; refine ⟨_, rfl, ?_⟩; replace HL := mk_ (HL.out.drawn hb_); clear hb_) | ((with_reducible refine gate_gd rfl ?_); first | ((with_reducible refine gd_on rfl ?_ ?_); rfl; dsimp only) | ((with_reducible refine gd_off rfl ?_ ?_); rfl)) | ((with_reducible refine gate_dst (N := 1) rfl ?_); refine loc_box rfl rfl (by first | (go_simp; done) | (go_simp; rfl)) HL.out ?_; intro gb1 w_ HL_; replace HL := mk_ HL_; clear HL_) | ((with_reducible refine gate_ld0 (t := 72) rfl ?_); refine loc_load (n := 9) rfl rfl (by kernel_rfl) rfl (by kernel_rfl) HL.out (by with_reducible repeat (first | exact Sel.done | apply Sel.take | apply Sel.skip | apply Get.here | apply Get.next)) ?_) | ((with_reducible refine gate_ld0 rfl ?_); refine loc_load1 rfl rfl (by kernel_rfl) rfl HL.out (by with_reducible repeat (first | exact Sel.done | apply Sel.take | apply Sel.skip | apply Get.here | apply Get.next)) ?_) | ((with_reducible refine gate_st0 rfl ?_); refine loc_store rfl rfl rfl (by first | (go_simp; done) | (go_simp; rfl)) (by kernel_rfl) (by kernel_rfl) HL.out (by with_reducible repeat (first | exact Spl.done | apply Spl.put | apply Spl.skip | apply Upd.here | apply Upd.next)) ?_; intro w_ HL_; replace HL := mk_ HL_; clear HL_))
      go_ret
      exact ⟨by first | rfl | (simp [errW_none, errW_some] <;> rfl) | (simp [*, errW_none, errW_some] <;> rfl), HL.out.bel⟩
    subst c6
    rw [if_pos rfl] at H
    try dsimp only at H
    by_cases c7 : a0_3 = true
    · subst c7
      rw [if_pos rfl] at H
      try dsimp only at H
      obtain rfl := Option.some.inj H
      have HL := mk_ (Lok.start w)
      go_enter Try.func39, Try.ntmps39
      go_wp2_with (first | ((with_reducible refine gate_dst (N := 9) rfl ?_); (with_reducible refine gate_callee (f := 44) rfl ?_); refine goesL_ (some 9) rfl rfl Try.func44 (by kernel_rfl) rfl #[.int .i64 a0_1, .int .i64 0, .int .i64 7] rfl (by (try simp only [List.map_toArray, List.map_cons, List.map_nil]); first | done | rfl) ?_; (with_reducible refine (spec_l1In.calls a0_1 0 7 true _ A3.out).mono ?_); rintro e w_ ⟨rfl, hb_⟩; refine ⟨_, rfl, ?_⟩; replace HL := mk_ (HL.out.drawn hb_); clear hb_) | ((with_reducible refine gate_dst (N := 13) rfl ?_); (with_reducible refine gate_callee (f := 44) rfl ?_); refine goesL_ (some 13) rfl rfl Try.func44 (by kernel_rfl) rfl #[.int .i64 a0_2, .int .i64 0, .int .i64 7] rfl (by (try simp only [List.map_toArray, List.map_cons, List.map_nil]); first | done | rfl) ?_; (with_reducible refine (spec_l1In.calls a0_2 0 7 true _ A5.out).mono ?_); rintro e w_ ⟨rfl, hb_⟩; refine ⟨_, rfl, ?_⟩; replace HL := mk_ (HL.out.drawn hb_); clear hb_) | ((with_reducible refine gate_gd rfl ?_); first | ((with_reducible refine gd_on rfl ?_ ?_); rfl; dsimp only) | ((with_reducible refine gd_off rfl ?_ ?_); rfl)) | ((with_reducible refine gate_dst (N := 1) rfl ?_); refine loc_box rfl rfl (by first | (go_simp; done) | (go_simp; rfl)) HL.out ?_; intro gb1 w_ HL_; replace HL := mk_ HL_; clear HL_) | ((with_reducible refine gate_ld0 (t := 72) rfl ?_); refine loc_load (n := 9) rfl rfl (by kernel_rfl) rfl (by kernel_rfl) HL.out (by with_reducible repeat (first | exact Sel.done | apply Sel.take | apply Sel.skip | apply Get.here | apply Get.next)) ?_) | ((with_reducible refine gate_ld0 rfl ?_); refine loc_load1 rfl rfl (by kernel_rfl) rfl HL.out (by with_reducible repeat (first | exact Sel.done | apply Sel.take | apply Sel.skip | apply Get.here | apply Get.next)) ?_) | ((with_reducible refine gate_st0 rfl ?_); refine loc_store rfl rfl rfl (by first | (go_simp; done) | (go_simp; rfl)) (by kernel_rfl) (by kernel_rfl) HL.out (by with_reducible repeat (first | exact Spl.done | apply Spl.put | apply Spl.skip | apply Upd.here | apply Upd.next)) ?_; intro w_ HL_; replace HL := mk_ HL_; clear HL_))
      go_ret
      exact ⟨by first | rfl | (simp [errW_none, errW_some] <;> rfl) | (simp [*, errW_none, errW_some] <;> rfl), HL.out.bel⟩
    replace c7 := Bool.eq_false_iff.mpr c7
    subst c7
    rw [if_neg Bool.false_ne_true] at H
    try dsimp only at H
    by_cases c8 : a0_5 = 0
    rotate_left
    · rw [if_neg c8] at H
      have c8b0 : (a0_5 == 0) = false := beq_eq_false_iff_ne.mpr c8
      have c8b1 : (a0_5 != 0) = true := bne_iff_ne.mpr c8
      try dsimp only at H
      obtain rfl := Option.some.inj H
      have HL := mk_ (Lok.start w)
      go_enter Try.func39, Try.ntmps39
      go_wp2_with (first | ((with_reducible refine gate_dst (N := 9) rfl ?_); (with_reducible refine gate_callee (f := 44) rfl ?_); refine goesL_ (some 9) rfl rfl Try.func44 (by kernel_rfl) rfl #[.int .i64 a0_1, .int .i64 0, .int .i64 7] rfl (by (try simp only [List.map_toArray, List.map_cons, List.map_nil]); first | done | rfl) ?_; (with_reducible refine (spec_l1In.calls a0_1 0 7 true _ A3.out).mono ?_); rintro e w_ ⟨rfl, hb_⟩; refine ⟨_, rfl, ?_⟩; replace HL := mk_ (HL.out.drawn hb_); clear hb_) | ((with_reducible refine gate_dst (N := 13) rfl ?_); (with_reducible refine gate_callee (f := 44) rfl ?_); refine goesL_ (some 13) rfl rfl Try.func44 (by kernel_rfl) rfl #[.int .i64 a0_2, .int .i64 0, .int .i64 7] rfl (by (try simp only [List.map_toArray, List.map_cons, List.map_nil]); first | done | rfl) ?_; (with_reducible refine (spec_l1In.calls a0_2 0 7 true _ A5.out).mono ?_); rintro e w_ ⟨rfl, hb_⟩; refine ⟨_, rfl, ?_⟩; replace HL := mk_ (HL.out.drawn hb_); clear hb_) | ((with_reducible refine gate_gd rfl ?_); first | ((with_reducible refine gd_on rfl ?_ ?_); rfl; dsimp only) | ((with_reducible refine gd_off rfl ?_ ?_); rfl)) | ((with_reducible refine gate_dst (N := 1) rfl ?_); refine loc_box rfl rfl (by first | (go_simp; done) | (go_simp; rfl)) HL.out ?_; intro gb1 w_ HL_; replace HL := mk_ HL_; clear HL_) | ((with_reducible refine gate_ld0 (t := 72) rfl ?_); refine loc_load (n := 9) rfl rfl (by kernel_rfl) rfl (by kernel_rfl) HL.out (by with_reducible repeat (first | exact Sel.done | apply Sel.take | apply Sel.skip | apply Get.here | apply Get.next)) ?_) | ((with_reducible refine gate_ld0 rfl ?_); refine loc_load1 rfl rfl (by kernel_rfl) rfl HL.out (by with_reducible repeat (first | exact Sel.done | apply Sel.take | apply Sel.skip | apply Get.here | apply Get.next)) ?_) | ((with_reducible refine gate_st0 rfl ?_); refine loc_store rfl rfl rfl (by first | (go_simp; done) | (go_simp; rfl)) (by kernel_rfl) (by kernel_rfl) HL.out (by with_reducible repeat (first | exact Spl.done | apply Spl.put | apply Spl.skip | apply Upd.here | apply Upd.next)) ?_; intro w_ HL_; replace HL := mk_ HL_; clear HL_))
      go_ret
      exact ⟨by first | rfl | (simp [errW_none, errW_some] <;> rfl) | (simp [*, errW_none, errW_some] <;> rfl), HL.out.bel⟩
    rw [if_pos c8] at H
    have c8b0 : (a0_5 == 0) = true := beq_iff_eq.mpr c8
    have c8b1 : (a0_5 != 0) = false := bne_eq_false_iff_eq.mpr c8
    try dsimp only at H
    clear c8
    replace H := Option.bind_eq_some_iff.mp H
    obtain ⟨t109, A90, H⟩ := H
    try dsimp only at H
    have A9 := mk_ A90
    clear A90
    obtain rfl := Option.some.inj H
    have HL := mk_ (Lok.start w)
    go_enter Try.func39, Try.ntmps39
    go_wp2_with (first | ((with_reducible refine gate_dst (N := 9) rfl ?_); (with_reducible refine gate_callee (f := 44) rfl ?_); refine goesL_ (some 9) rfl rfl Try.func44 (by kernel_rfl) rfl #[.int .i64 a0_1, .int .i64 0, .int .i64 7] rfl (by (try simp only [List.map_toArray, List.map_cons, List.map_nil]); first | done | rfl) ?_; (with_reducible refine (spec_l1In.calls a0_1 0 7 true _ A3.out).mono ?_); rintro e w_ ⟨rfl, hb_⟩; refine ⟨_, rfl, ?_⟩; replace HL := mk_ (HL.out.drawn hb_); clear hb_) | ((with_reducible refine gate_dst (N := 13) rfl ?_); (with_reducible refine gate_callee (f := 44) rfl ?_); refine goesL_ (some 13) rfl rfl Try.func44 (by kernel_rfl) rfl #[.int .i64 a0_2, .int .i64 0, .int .i64 7] rfl (by (try simp only [List.map_toArray, List.map_cons, List.map_nil]); first | done | rfl) ?_; (with_reducible refine (spec_l1In.calls a0_2 0 7 true _ A5.out).mono ?_); rintro e w_ ⟨rfl, hb_⟩; refine ⟨_, rfl, ?_⟩; replace HL := mk_ (HL.out.drawn hb_); clear hb_) | ((with_reducible refine gate_dst (N := 27) rfl ?_); (with_reducible refine gate_callee (f := 61) rfl ?_); refine goesL_ (some 27) rfl rfl Try.func61 (by kernel_rfl) rfl #[.agg #[.int .i64 a0_0, .int .i64 a0_1, .int .i64 a0_2, .bool false, .bool a0_4, .int .i64 a0_5, .int .i64 a0_6, .int .i64 a0_7, .slice A0_8 l0_8.length c0_8]] rfl (by (try simp only [List.map_toArray, List.map_cons, List.map_nil]); first | done | rfl) ?_; (with_reducible refine (spec_l2Seg.calls k a0_0 a0_1 a0_2 false a0_4 a0_5 a0_6 a0_7 A0_8 c0_8 l0_8 t109 _ (Kd.C_below HR0_8.out (HL.out.bel)) HC0_8.out A9.out).mono ?_); rintro e w_ ⟨rfl, hb_⟩; refine ⟨_, rfl, ?_⟩; replace HL := mk_ (HL.out.call hb_); clear hb_) | ((with_reducible refine gate_gd rfl ?_); first | ((with_reducible refine gd_on rfl ?_ ?_); rfl; dsimp only) | ((with_reducible refine gd_off rfl ?_ ?_); rfl)) | ((with_reducible refine gate_dst (N := 1) rfl ?_); refine loc_box rfl rfl (by first | (go_simp; done) | (go_simp; rfl)) HL.out ?_; intro gb1 w_ HL_; replace HL := mk_ HL_; clear HL_) | ((with_reducible refine gate_ld0 (t := 72) rfl ?_); refine loc_load (n := 9) rfl rfl (by kernel_rfl) rfl (by kernel_rfl) HL.out (by with_reducible repeat (first | exact Sel.done | apply Sel.take | apply Sel.skip | apply Get.here | apply Get.next)) ?_) | ((with_reducible refine gate_ld0 rfl ?_); refine loc_load1 rfl rfl (by kernel_rfl) rfl HL.out (by with_reducible repeat (first | exact Sel.done | apply Sel.take | apply Sel.skip | apply Get.here | apply Get.next)) ?_) | ((with_reducible refine gate_st0 rfl ?_); refine loc_store rfl rfl rfl (by first | (go_simp; done) | (go_simp; rfl)) (by kernel_rfl) (by kernel_rfl) HL.out (by with_reducible repeat (first | exact Spl.done | apply Spl.put | apply Spl.skip | apply Upd.here | apply Upd.next)) ?_; intro w_ HL_; replace HL := mk_ HL_; clear HL_))
    go_ret
    exact ⟨by first | rfl | (simp [errW_none, errW_some] <;> rfl) | (simp [*, errW_none, errW_some] <;> rfl), HL.out.bel⟩
  rw [if_neg c2] at H
  have c2b0 : (a0_0 == 1) = false := beq_eq_false_iff_ne.mpr c2
  have c2b1 : (a0_0 != 1) = true := bne_iff_ne.mpr c2
  try dsimp only at H
  by_cases c10 : a0_0 = 2
  rotate_left
  · rw [if_neg c10] at H
    have c10b0 : (a0_0 == 2) = false := beq_eq_false_iff_ne.mpr c10
    have c10b1 : (a0_0 != 2) = true := bne_iff_ne.mpr c10
    try dsimp only at H
    by_cases c24 : a0_0 = 3
    · rw [if_pos c24] at H
      have c24b0 : (a0_0 == 3) = true := beq_iff_eq.mpr c24
      have c24b1 : (a0_0 != 3) = false := bne_eq_false_iff_eq.mpr c24
      try dsimp only at H
      clear c24
      by_cases c25 : a0_1 = 0
      rotate_left
      · rw [if_neg c25] at H
        have c25b0 : (a0_1 == 0) = false := beq_eq_false_iff_ne.mpr c25
        have c25b1 : (a0_1 != 0) = true := bne_iff_ne.mpr c25
        try dsimp only at H
        obtain rfl := Option.some.inj H
        have HL := mk_ (Lok.start w)
        go_enter Try.func39, Try.ntmps39
        go_wp2_with (first | ((with_reducible refine gate_gd rfl ?_); first | ((with_reducible refine gd_on rfl ?_ ?_); rfl; dsimp only) | ((with_reducible refine gd_off rfl ?_ ?_); rfl)) | ((with_reducible refine gate_dst (N := 1) rfl ?_); refine loc_box rfl rfl (by first | (go_simp; done) | (go_simp; rfl)) HL.out ?_; intro gb1 w_ HL_; replace HL := mk_ HL_; clear HL_) | ((with_reducible refine gate_ld0 (t := 72) rfl ?_); refine loc_load (n := 9) rfl rfl (by kernel_rfl) rfl (by kernel_rfl) HL.out (by with_reducible repeat (first | exact Sel.done | apply Sel.take | apply Sel.skip | apply Get.here | apply Get.next)) ?_) | ((with_reducible refine gate_ld0 rfl ?_); refine loc_load1 rfl rfl (by kernel_rfl) rfl HL.out (by with_reducible repeat (first | exact Sel.done | apply Sel.take | apply Sel.skip | apply Get.here | apply Get.next)) ?_) | ((with_reducible refine gate_st0 rfl ?_); refine loc_store rfl rfl rfl (by first | (go_simp; done) | (go_simp; rfl)) (by kernel_rfl) (by kernel_rfl) HL.out (by with_reducible repeat (first | exact Spl.done | apply Spl.put | apply Spl.skip | apply Upd.here | apply Upd.next)) ?_; intro w_ HL_; replace HL := mk_ HL_; clear HL_))
        go_ret
        exact ⟨by first | rfl | (simp [errW_none, errW_some] <;> rfl) | (simp [*, errW_none, errW_some] <;> rfl), HL.out.bel⟩
      rw [if_pos c25] at H
      have c25b0 : (a0_1 == 0) = true := beq_iff_eq.mpr c25
      have c25b1 : (a0_1 != 0) = false := bne_eq_false_iff_eq.mpr c25
      try dsimp only at H
      clear c25
      by_cases c26 : a0_2 = 0
      rotate_left
      · rw [if_neg c26] at H
        have c26b0 : (a0_2 == 0) = false := beq_eq_false_iff_ne.mpr c26
        have c26b1 : (a0_2 != 0) = true := bne_iff_ne.mpr c26
        try dsimp only at H
        obtain rfl := Option.some.inj H
        have HL := mk_ (Lok.start w)
        go_enter Try.func39, Try.ntmps39
        go_wp2_with (first | ((with_reducible refine gate_gd rfl ?_); first | ((with_reducible refine gd_on rfl ?_ ?_); rfl; dsimp only) | ((with_reducible refine gd_off rfl ?_ ?_); rfl)) | ((with_reducible refine gate_dst (N := 1) rfl ?_); refine loc_box rfl rfl (by first | (go_simp; done) | (go_simp; rfl)) HL.out ?_; intro gb1 w_ HL_; replace HL := mk_ HL_; clear HL_) | ((with_reducible refine gate_ld0 (t := 72) rfl ?_); refine loc_load (n := 9) rfl rfl (by kernel_rfl) rfl (by kernel_rfl) HL.out (by with_reducible repeat (first | exact Sel.done | apply Sel.take | apply Sel.skip | apply Get.here | apply Get.next)) ?_) | ((with_reducible refine gate_ld0 rfl ?_); refine loc_load1 rfl rfl (by kernel_rfl) rfl HL.out (by with_reducible repeat (first | exact Sel.done | apply Sel.take | apply Sel.skip | apply Get.here | apply Get.next)) ?_) | ((with_reducible refine gate_st0 rfl ?_); refine loc_store rfl rfl rfl (by first | (go_simp; done) | (go_simp; rfl)) (by kernel_rfl) (by kernel_rfl) HL.out (by with_reducible repeat (first | exact Spl.done | apply Spl.put | apply Spl.skip | apply Upd.here | apply Upd.next)) ?_; intro w_ HL_; replace HL := mk_ HL_; clear HL_))
        go_ret
        exact ⟨by first | rfl | (simp [errW_none, errW_some] <;> rfl) | (simp [*, errW_none, errW_some] <;> rfl), HL.out.bel⟩
      rw [if_pos c26] at H
      have c26b0 : (a0_2 == 0) = true := beq_iff_eq.mpr c26
      have c26b1 : (a0_2 != 0) = false := bne_eq_false_iff_eq.mpr c26
      try dsimp only at H
      clear c26
      by_cases c27 : a0_3 = true
      · subst c27
        rw [if_pos rfl] at H
        try dsimp only at H
        obtain rfl := Option.some.inj H
        have HL := mk_ (Lok.start w)
        go_enter Try.func39, Try.ntmps39
        go_wp2_with (first | ((with_reducible refine gate_gd rfl ?_); first | ((with_reducible refine gd_on rfl ?_ ?_); rfl; dsimp only) | ((with_reducible refine gd_off rfl ?_ ?_); rfl)) | ((with_reducible refine gate_dst (N := 1) rfl ?_); refine loc_box rfl rfl (by first | (go_simp; done) | (go_simp; rfl)) HL.out ?_; intro gb1 w_ HL_; replace HL := mk_ HL_; clear HL_) | ((with_reducible refine gate_ld0 (t := 72) rfl ?_); refine loc_load (n := 9) rfl rfl (by kernel_rfl) rfl (by kernel_rfl) HL.out (by with_reducible repeat (first | exact Sel.done | apply Sel.take | apply Sel.skip | apply Get.here | apply Get.next)) ?_) | ((with_reducible refine gate_ld0 rfl ?_); refine loc_load1 rfl rfl (by kernel_rfl) rfl HL.out (by with_reducible repeat (first | exact Sel.done | apply Sel.take | apply Sel.skip | apply Get.here | apply Get.next)) ?_) | ((with_reducible refine gate_st0 rfl ?_); refine loc_store rfl rfl rfl (by first | (go_simp; done) | (go_simp; rfl)) (by kernel_rfl) (by kernel_rfl) HL.out (by with_reducible repeat (first | exact Spl.done | apply Spl.put | apply Spl.skip | apply Upd.here | apply Upd.next)) ?_; intro w_ HL_; replace HL := mk_ HL_; clear HL_))
        go_ret
        exact ⟨by first | rfl | (simp [errW_none, errW_some] <;> rfl) | (simp [*, errW_none, errW_some] <;> rfl), HL.out.bel⟩
      replace c27 := Bool.eq_false_iff.mpr c27
      subst c27
      rw [if_neg Bool.false_ne_true] at H
      try dsimp only at H
      by_cases c28 : a0_4 = true
      · subst c28
        rw [if_pos rfl] at H
        try dsimp only at H
        obtain rfl := Option.some.inj H
        have HL := mk_ (Lok.start w)
        go_enter Try.func39, Try.ntmps39
        go_wp2_with (first | ((with_reducible refine gate_gd rfl ?_); first | ((with_reducible refine gd_on rfl ?_ ?_); rfl; dsimp only) | ((with_reducible refine gd_off rfl ?_ ?_); rfl)) | ((with_reducible refine gate_dst (N := 1) rfl ?_); refine loc_box rfl rfl (by first | (go_simp; done) | (go_simp; rfl)) HL.out ?_; intro gb1 w_ HL_; replace HL := mk_ HL_; clear HL_) | ((with_reducible refine gate_ld0 (t := 72) rfl ?_); refine loc_load (n := 9) rfl rfl (by kernel_rfl) rfl (by kernel_rfl) HL.out (by with_reducible repeat (first | exact Sel.done | apply Sel.take | apply Sel.skip | apply Get.here | apply Get.next)) ?_) | ((with_reducible refine gate_ld0 rfl ?_); refine loc_load1 rfl rfl (by kernel_rfl) rfl HL.out (by with_reducible repeat (first | exact Sel.done | apply Sel.take | apply Sel.skip | apply Get.here | apply Get.next)) ?_) | ((with_reducible refine gate_st0 rfl ?_); refine loc_store rfl rfl rfl (by first | (go_simp; done) | (go_simp; rfl)) (by kernel_rfl) (by kernel_rfl) HL.out (by with_reducible repeat (first | exact Spl.done | apply Spl.put | apply Spl.skip | apply Upd.here | apply Upd.next)) ?_; intro w_ HL_; replace HL := mk_ HL_; clear HL_))
        go_ret
        exact ⟨by first | rfl | (simp [errW_none, errW_some] <;> rfl) | (simp [*, errW_none, errW_some] <;> rfl), HL.out.bel⟩
      replace c28 := Bool.eq_false_iff.mpr c28
      subst c28
      rw [if_neg Bool.false_ne_true] at H
      try dsimp only at H
      by_cases c29 : a0_5 = 0
      rotate_left
      · rw [if_neg c29] at H
        have c29b0 : (a0_5 == 0) = false := beq_eq_false_iff_ne.mpr c29
        have c29b1 : (a0_5 != 0) = true := bne_iff_ne.mpr c29
        try dsimp only at H
        obtain rfl := Option.some.inj H
        have HL := mk_ (Lok.start w)
        go_enter Try.func39, Try.ntmps39
        go_wp2_with (first | ((with_reducible refine gate_gd rfl ?_); first | ((with_reducible refine gd_on rfl ?_ ?_); rfl; dsimp only) | ((with_reducible refine gd_off rfl ?_ ?_); rfl)) | ((with_reducible refine gate_dst (N := 1) rfl ?_); refine loc_box rfl rfl (by first | (go_simp; done) | (go_simp; rfl)) HL.out ?_; intro gb1 w_ HL_; replace HL := mk_ HL_; clear HL_) | ((with_reducible refine gate_ld0 (t := 72) rfl ?_); refine loc_load (n := 9) rfl rfl (by kernel_rfl) rfl (by kernel_rfl) HL.out (by with_reducible repeat (first | exact Sel.done | apply Sel.take | apply Sel.skip | apply Get.here | apply Get.next)) ?_) | ((with_reducible refine gate_ld0 rfl ?_); refine loc_load1 rfl rfl (by kernel_rfl) rfl HL.out (by with_reducible repeat (first | exact Sel.done | apply Sel.take | apply Sel.skip | apply Get.here | apply Get.next)) ?_) | ((with_reducible refine gate_st0 rfl ?_); refine loc_store rfl rfl rfl (by first | (go_simp; done) | (go_simp; rfl)) (by kernel_rfl) (by kernel_rfl) HL.out (by with_reducible repeat (first | exact Spl.done | apply Spl.put | apply Spl.skip | apply Upd.here | apply Upd.next)) ?_; intro w_ HL_; replace HL := mk_ HL_; clear HL_))
        go_ret
        exact ⟨by first | rfl | (simp [errW_none, errW_some] <;> rfl) | (simp [*, errW_none, errW_some] <;> rfl), HL.out.bel⟩
      rw [if_pos c29] at H
      have c29b0 : (a0_5 == 0) = true := beq_iff_eq.mpr c29
      have c29b1 : (a0_5 != 0) = false := bne_eq_false_iff_eq.mpr c29
      try dsimp only at H
      clear c29
      replace H := Option.bind_eq_some_iff.mp H
      obtain ⟨t113, A300, H⟩ := H
      try dsimp only at H
      have A30 := mk_ A300
      clear A300
      obtain rfl := Option.some.inj H
      have HL := mk_ (Lok.start w)
      go_enter Try.func39, Try.ntmps39
      go_wp2_with (first | ((with_reducible refine gate_dst (N := 96) rfl ?_); (with_reducible refine gate_callee (f := 61) rfl ?_); refine goesL_ (some 96) rfl rfl Try.func61 (by kernel_rfl) rfl #[.agg #[.int .i64 a0_0, .int .i64 a0_1, .int .i64 a0_2, .bool false, .bool false, .int .i64 a0_5, .int .i64 a0_6, .int .i64 a0_7, .slice A0_8 l0_8.length c0_8]] rfl (by (try simp only [List.map_toArray, List.map_cons, List.map_nil]); first | done | rfl) ?_; (with_reducible refine (spec_l2Seg.calls k a0_0 a0_1 a0_2 false false a0_5 a0_6 a0_7 A0_8 c0_8 l0_8 t113 _ (Kd.C_below HR0_8.out (HL.out.bel)) HC0_8.out A30.out).mono ?_); rintro e w_ ⟨rfl, hb_⟩; refine ⟨_, rfl, ?_⟩; replace HL := mk_ (HL.out.call hb_); clear hb_) | ((with_reducible refine gate_gd rfl ?_); first | ((with_reducible refine gd_on rfl ?_ ?_); rfl; dsimp only) | ((with_reducible refine gd_off rfl ?_ ?_); rfl)) | ((with_reducible refine gate_dst (N := 1) rfl ?_); refine loc_box rfl rfl (by first | (go_simp; done) | (go_simp; rfl)) HL.out ?_; intro gb1 w_ HL_; replace HL := mk_ HL_; clear HL_) | ((with_reducible refine gate_ld0 (t := 72) rfl ?_); refine loc_load (n := 9) rfl rfl (by kernel_rfl) rfl (by kernel_rfl) HL.out (by with_reducible repeat (first | exact Sel.done | apply Sel.take | apply Sel.skip | apply Get.here | apply Get.next)) ?_) | ((with_reducible refine gate_ld0 rfl ?_); refine loc_load1 rfl rfl (by kernel_rfl) rfl HL.out (by with_reducible repeat (first | exact Sel.done | apply Sel.take | apply Sel.skip | apply Get.here | apply Get.next)) ?_) | ((with_reducible refine gate_st0 rfl ?_); refine loc_store rfl rfl rfl (by first | (go_simp; done) | (go_simp; rfl)) (by kernel_rfl) (by kernel_rfl) HL.out (by with_reducible repeat (first | exact Spl.done | apply Spl.put | apply Spl.skip | apply Upd.here | apply Upd.next)) ?_; intro w_ HL_; replace HL := mk_ HL_; clear HL_))
      go_ret
      exact ⟨by first | rfl | (simp [errW_none, errW_some] <;> rfl) | (simp [*, errW_none, errW_some] <;> rfl), HL.out.bel⟩
    rw [if_neg c24] at H
    have c24b0 : (a0_0 == 3) = false := beq_eq_false_iff_ne.mpr c24
    have c24b1 : (a0_0 != 3) = true := bne_iff_ne.mpr c24
    try dsimp only at H
    by_cases c31 : a0_0 = 4
    rotate_left
    · rw [if_neg c31] at H
      have c31b0 : (a0_0 == 4) = false := beq_eq_false_iff_ne.mpr c31
      have c31b1 : (a0_0 != 4) = true := bne_iff_ne.mpr c31
      try dsimp only at H
      obtain rfl := Option.some.inj H
      have HL := mk_ (Lok.start w)
      go_enter Try.func39, Try.ntmps39
      go_wp2_with (first | ((with_reducible refine gate_gd rfl ?_); first | ((with_reducible refine gd_on rfl ?_ ?_); rfl; dsimp only) | ((with_reducible refine gd_off rfl ?_ ?_); rfl)) | ((with_reducible refine gate_dst (N := 1) rfl ?_); refine loc_box rfl rfl (by first | (go_simp; done) | (go_simp; rfl)) HL.out ?_; intro gb1 w_ HL_; replace HL := mk_ HL_; clear HL_) | ((with_reducible refine gate_ld0 (t := 72) rfl ?_); refine loc_load (n := 9) rfl rfl (by kernel_rfl) rfl (by kernel_rfl) HL.out (by with_reducible repeat (first | exact Sel.done | apply Sel.take | apply Sel.skip | apply Get.here | apply Get.next)) ?_) | ((with_reducible refine gate_ld0 rfl ?_); refine loc_load1 rfl rfl (by kernel_rfl) rfl HL.out (by with_reducible repeat (first | exact Sel.done | apply Sel.take | apply Sel.skip | apply Get.here | apply Get.next)) ?_) | ((with_reducible refine gate_st0 rfl ?_); refine loc_store rfl rfl rfl (by first | (go_simp; done) | (go_simp; rfl)) (by kernel_rfl) (by kernel_rfl) HL.out (by with_reducible repeat (first | exact Spl.done | apply Spl.put | apply Spl.skip | apply Upd.here | apply Upd.next)) ?_; intro w_ HL_; replace HL := mk_ HL_; clear HL_))
      go_ret
      exact ⟨by first | rfl | (simp [errW_none, errW_some] <;> rfl) | (simp [*, errW_none, errW_some] <;> rfl), HL.out.bel⟩
    rw [if_pos c31] at H
    have c31b0 : (a0_0 == 4) = true := beq_iff_eq.mpr c31
    have c31b1 : (a0_0 != 4) = false := bne_eq_false_iff_eq.mpr c31
    try dsimp only at H
    clear c31
    by_cases c32 : a0_1 = 0
    rotate_left
    · rw [if_neg c32] at H
      have c32b0 : (a0_1 == 0) = false := beq_eq_false_iff_ne.mpr c32
      have c32b1 : (a0_1 != 0) = true := bne_iff_ne.mpr c32
      try dsimp only at H
      obtain rfl := Option.some.inj H
      have HL := mk_ (Lok.start w)
      go_enter Try.func39, Try.ntmps39
      go_wp2_with (first | ((with_reducible refine gate_gd rfl ?_); first | ((with_reducible refine gd_on rfl ?_ ?_); rfl; dsimp only) | ((with_reducible refine gd_off rfl ?_ ?_); rfl)) | ((with_reducible refine gate_dst (N := 1) rfl ?_); refine loc_box rfl rfl (by first | (go_simp; done) | (go_simp; rfl)) HL.out ?_; intro gb1 w_ HL_; replace HL := mk_ HL_; clear HL_) | ((with_reducible refine gate_ld0 (t := 72) rfl ?_); refine loc_load (n := 9) rfl rfl (by kernel_rfl) rfl (by kernel_rfl) HL.out (by with_reducible repeat (first | exact Sel.done | apply Sel.take | apply Sel.skip | apply Get.here | apply Get.next)) ?_) | ((with_reducible refine gate_ld0 rfl ?_); refine loc_load1 rfl rfl (by kernel_rfl) rfl HL.out (by with_reducible repeat (first | exact Sel.done | apply Sel.take | apply Sel.skip | apply Get.here | apply Get.next)) ?_) | ((with_reducible refine gate_st0 rfl ?_); refine loc_store rfl rfl rfl (by first | (go_simp; done) | (go_simp; rfl)) (by kernel_rfl) (by kernel_rfl) HL.out (by with_reducible repeat (first | exact Spl.done | apply Spl.put | apply Spl.skip | apply Upd.here | apply Upd.next)) ?_; intro w_ HL_; replace HL := mk_ HL_; clear HL_))
      go_ret
      exact ⟨by first | rfl | (simp [errW_none, errW_some] <;> rfl) | (simp [*, errW_none, errW_some] <;> rfl), HL.out.bel⟩
    rw [if_pos c32] at H
    have c32b0 : (a0_1 == 0) = true := beq_iff_eq.mpr c32
    have c32b1 : (a0_1 != 0) = false := bne_eq_false_iff_eq.mpr c32
    try dsimp only at H
    clear c32
    by_cases c33 : a0_2 = 0
    rotate_left
    · rw [if_neg c33] at H
      have c33b0 : (a0_2 == 0) = false := beq_eq_false_iff_ne.mpr c33
      have c33b1 : (a0_2 != 0) = true := bne_iff_ne.mpr c33
      try dsimp only at H
      obtain rfl := Option.some.inj H
      have HL := mk_ (Lok.start w)
      go_enter Try.func39, Try.ntmps39
      go_wp2_with (first | ((with_reducible refine gate_gd rfl ?_); first | ((with_reducible refine gd_on rfl ?_ ?_); rfl; dsimp only) | ((with_reducible refine gd_off rfl ?_ ?_); rfl)) | ((with_reducible refine gate_dst (N := 1) rfl ?_); refine loc_box rfl rfl (by first | (go_simp; done) | (go_simp; rfl)) HL.out ?_; intro gb1 w_ HL_; replace HL := mk_ HL_; clear HL_) | ((with_reducible refine gate_ld0 (t := 72) rfl ?_); refine loc_load (n := 9) rfl rfl (by kernel_rfl) rfl (by kernel_rfl) HL.out (by with_reducible repeat (first | exact Sel.done | apply Sel.take | apply Sel.skip | apply Get.here | apply Get.next)) ?_) | ((with_reducible refine gate_ld0 rfl ?_); refine loc_load1 rfl rfl (by kernel_rfl) rfl HL.out (by with_reducible repeat (first | exact Sel.done | apply Sel.take | apply Sel.skip | apply Get.here | apply Get.next)) ?_) | ((with_reducible refine gate_st0 rfl ?_); refine loc_store rfl rfl rfl (by first | (go_simp; done) | (go_simp; rfl)) (by kernel_rfl) (by kernel_rfl) HL.out (by with_reducible repeat (first | exact Spl.done | apply Spl.put | apply Spl.skip | apply Upd.here | apply Upd.next)) ?_; intro w_ HL_; replace HL := mk_ HL_; clear HL_))
      go_ret
      exact ⟨by first | rfl | (simp [errW_none, errW_some] <;> rfl) | (simp [*, errW_none, errW_some] <;> rfl), HL.out.bel⟩
    rw [if_pos c33] at H
    have c33b0 : (a0_2 == 0) = true := beq_iff_eq.mpr c33
    have c33b1 : (a0_2 != 0) = false := bne_eq_false_iff_eq.mpr c33
    try dsimp only at H
    clear c33
    by_cases c34 : a0_3 = true
    · subst c34
      rw [if_pos rfl] at H
      try dsimp only at H
      obtain rfl := Option.some.inj H
      have HL := mk_ (Lok.start w)
      go_enter Try.func39, Try.ntmps39
      go_wp2_with (first | ((with_reducible refine gate_gd rfl ?_); first | ((with_reducible refine gd_on rfl ?_ ?_); rfl; dsimp only) | ((with_reducible refine gd_off rfl ?_ ?_); rfl)) | ((with_reducible refine gate_dst (N := 1) rfl ?_); refine loc_box rfl rfl (by first | (go_simp; done) | (go_simp; rfl)) HL.out ?_; intro gb1 w_ HL_; replace HL := mk_ HL_; clear HL_) | ((with_reducible refine gate_ld0 (t := 72) rfl ?_); refine loc_load (n := 9) rfl rfl (by kernel_rfl) rfl (by kernel_rfl) HL.out (by with_reducible repeat (first | exact Sel.done | apply Sel.take | apply Sel.skip | apply Get.here | apply Get.next)) ?_) | ((with_reducible refine gate_ld0 rfl ?_); refine loc_load1 rfl rfl (by kernel_rfl) rfl HL.out (by with_reducible repeat (first | exact Sel.done | apply Sel.take | apply Sel.skip | apply Get.here | apply Get.next)) ?_) | ((with_reducible refine gate_st0 rfl ?_); refine loc_store rfl rfl rfl (by first | (go_simp; done) | (go_simp; rfl)) (by kernel_rfl) (by kernel_rfl) HL.out (by with_reducible repeat (first | exact Spl.done | apply Spl.put | apply Spl.skip | apply Upd.here | apply Upd.next)) ?_; intro w_ HL_; replace HL := mk_ HL_; clear HL_))
      go_ret
      exact ⟨by first | rfl | (simp [errW_none, errW_some] <;> rfl) | (simp [*, errW_none, errW_some] <;> rfl), HL.out.bel⟩
    replace c34 := Bool.eq_false_iff.mpr c34
    subst c34
    rw [if_neg Bool.false_ne_true] at H
    try dsimp only at H
    by_cases c35 : a0_4 = true
    · subst c35
      rw [if_pos rfl] at H
      try dsimp only at H
      obtain rfl := Option.some.inj H
      have HL := mk_ (Lok.start w)
      go_enter Try.func39, Try.ntmps39
      go_wp2_with (first | ((with_reducible refine gate_gd rfl ?_); first | ((with_reducible refine gd_on rfl ?_ ?_); rfl; dsimp only) | ((with_reducible refine gd_off rfl ?_ ?_); rfl)) | ((with_reducible refine gate_dst (N := 1) rfl ?_); refine loc_box rfl rfl (by first | (go_simp; done) | (go_simp; rfl)) HL.out ?_; intro gb1 w_ HL_; replace HL := mk_ HL_; clear HL_) | ((with_reducible refine gate_ld0 (t := 72) rfl ?_); refine loc_load (n := 9) rfl rfl (by kernel_rfl) rfl (by kernel_rfl) HL.out (by with_reducible repeat (first | exact Sel.done | apply Sel.take | apply Sel.skip | apply Get.here | apply Get.next)) ?_) | ((with_reducible refine gate_ld0 rfl ?_); refine loc_load1 rfl rfl (by kernel_rfl) rfl HL.out (by with_reducible repeat (first | exact Sel.done | apply Sel.take | apply Sel.skip | apply Get.here | apply Get.next)) ?_) | ((with_reducible refine gate_st0 rfl ?_); refine loc_store rfl rfl rfl (by first | (go_simp; done) | (go_simp; rfl)) (by kernel_rfl) (by kernel_rfl) HL.out (by with_reducible repeat (first | exact Spl.done | apply Spl.put | apply Spl.skip | apply Upd.here | apply Upd.next)) ?_; intro w_ HL_; replace HL := mk_ HL_; clear HL_))
      go_ret
      exact ⟨by first | rfl | (simp [errW_none, errW_some] <;> rfl) | (simp [*, errW_none, errW_some] <;> rfl), HL.out.bel⟩
    replace c35 := Bool.eq_false_iff.mpr c35
    subst c35
    rw [if_neg Bool.false_ne_true] at H
    try dsimp only at H
    by_cases c36 : a0_5 = 0
    rotate_left
    · rw [if_neg c36] at H
      have c36b0 : (a0_5 == 0) = false := beq_eq_false_iff_ne.mpr c36
      have c36b1 : (a0_5 != 0) = true := bne_iff_ne.mpr c36
      try dsimp only at H
      obtain rfl := Option.some.inj H
      have HL := mk_ (Lok.start w)
      go_enter Try.func39, Try.ntmps39
      go_wp2_with (first | ((with_reducible refine gate_gd rfl ?_); first | ((with_reducible refine gd_on rfl ?_ ?_); rfl; dsimp only) | ((with_reducible refine gd_off rfl ?_ ?_); rfl)) | ((with_reducible refine gate_dst (N := 1) rfl ?_); refine loc_box rfl rfl (by first | (go_simp; done) | (go_simp; rfl)) HL.out ?_; intro gb1 w_ HL_; replace HL := mk_ HL_; clear HL_) | ((with_reducible refine gate_ld0 (t := 72) rfl ?_); refine loc_load (n := 9) rfl rfl (by kernel_rfl) rfl (by kernel_rfl) HL.out (by with_reducible repeat (first | exact Sel.done | apply Sel.take | apply Sel.skip | apply Get.here | apply Get.next)) ?_) | ((with_reducible refine gate_ld0 rfl ?_); refine loc_load1 rfl rfl (by kernel_rfl) rfl HL.out (by with_reducible repeat (first | exact Sel.done | apply Sel.take | apply Sel.skip | apply Get.here | apply Get.next)) ?_) | ((with_reducible refine gate_st0 rfl ?_); refine loc_store rfl rfl rfl (by first | (go_simp; done) | (go_simp; rfl)) (by kernel_rfl) (by kernel_rfl) HL.out (by with_reducible repeat (first | exact Spl.done | apply Spl.put | apply Spl.skip | apply Upd.here | apply Upd.next)) ?_; intro w_ HL_; replace HL := mk_ HL_; clear HL_))
      go_ret
      exact ⟨by first | rfl | (simp [errW_none, errW_some] <;> rfl) | (simp [*, errW_none, errW_some] <;> rfl), HL.out.bel⟩
    rw [if_pos c36] at H
    have c36b0 : (a0_5 == 0) = true := beq_iff_eq.mpr c36
    have c36b1 : (a0_5 != 0) = false := bne_eq_false_iff_eq.mpr c36
    try dsimp only at H
    clear c36
    by_cases c37 : a0_6 = 0
    rotate_left
    · rw [if_neg c37] at H
      have c37b0 : (a0_6 == 0) = false := beq_eq_false_iff_ne.mpr c37
      have c37b1 : (a0_6 != 0) = true := bne_iff_ne.mpr c37
      try dsimp only at H
      obtain rfl := Option.some.inj H
      have HL := mk_ (Lok.start w)
      go_enter Try.func39, Try.ntmps39
      go_wp2_with (first | ((with_reducible refine gate_gd rfl ?_); first | ((with_reducible refine gd_on rfl ?_ ?_); rfl; dsimp only) | ((with_reducible refine gd_off rfl ?_ ?_); rfl)) | ((with_reducible refine gate_dst (N := 1) rfl ?_); refine loc_box rfl rfl (by first | (go_simp; done) | (go_simp; rfl)) HL.out ?_; intro gb1 w_ HL_; replace HL := mk_ HL_; clear HL_) | ((with_reducible refine gate_ld0 (t := 72) rfl ?_); refine loc_load (n := 9) rfl rfl (by kernel_rfl) rfl (by kernel_rfl) HL.out (by with_reducible repeat (first | exact Sel.done | apply Sel.take | apply Sel.skip | apply Get.here | apply Get.next)) ?_) | ((with_reducible refine gate_ld0 rfl ?_); refine loc_load1 rfl rfl (by kernel_rfl) rfl HL.out (by with_reducible repeat (first | exact Sel.done | apply Sel.take | apply Sel.skip | apply Get.here | apply Get.next)) ?_) | ((with_reducible refine gate_st0 rfl ?_); refine loc_store rfl rfl rfl (by first | (go_simp; done) | (go_simp; rfl)) (by kernel_rfl) (by kernel_rfl) HL.out (by with_reducible repeat (first | exact Spl.done | apply Spl.put | apply Spl.skip | apply Upd.here | apply Upd.next)) ?_; intro w_ HL_; replace HL := mk_ HL_; clear HL_))
      go_ret
      exact ⟨by first | rfl | (simp [errW_none, errW_some] <;> rfl) | (simp [*, errW_none, errW_some] <;> rfl), HL.out.bel⟩
    rw [if_pos c37] at H
    have c37b0 : (a0_6 == 0) = true := beq_iff_eq.mpr c37
    have c37b1 : (a0_6 != 0) = false := bne_eq_false_iff_eq.mpr c37
    try dsimp only at H
    clear c37
    replace H := Option.bind_eq_some_iff.mp H
    obtain ⟨t114, A380, H⟩ := H
    try dsimp only at H
    have A38 := mk_ A380
    clear A380
    by_cases c39 : t114 = true
    · subst c39
      rw [if_pos rfl] at H
      try dsimp only at H
      obtain rfl := Option.some.inj H
      have HL := mk_ (Lok.start w)
      go_enter Try.func39, Try.ntmps39
      go_wp2_with (first | ((with_reducible refine gate_dst (N := 134) rfl ?_); (with_reducible refine gate_callee (f := 44) rfl ?_); refine goesL_ (some 134) rfl rfl Try.func44 (by kernel_rfl) rfl #[.int .i64 a0_7, .int .i64 1, .int .i64 255] rfl (by (try simp only [List.map_toArray, List.map_cons, List.map_nil]); first | done | rfl) ?_; (with_reducible refine (spec_l1In.calls a0_7 1 255 true _ A38.out).mono ?_); rintro e w_ ⟨rfl, hb_⟩; refine ⟨_, rfl, ?_⟩; replace HL := mk_ (HL.out.drawn hb_); clear hb_) | ((with_reducible refine gate_gd rfl ?_); first | ((with_reducible refine gd_on rfl ?_ ?_); rfl; dsimp only) | ((with_reducible refine gd_off rfl ?_ ?_); rfl)) | ((with_reducible refine gate_dst (N := 1) rfl ?_); refine loc_box rfl rfl (by first | (go_simp; done) | (go_simp; rfl)) HL.out ?_; intro gb1 w_ HL_; replace HL := mk_ HL_; clear HL_) | ((with_reducible refine gate_ld0 (t := 72) rfl ?_); refine loc_load (n := 9) rfl rfl (by kernel_rfl) rfl (by kernel_rfl) HL.out (by with_reducible repeat (first | exact Sel.done | apply Sel.take | apply Sel.skip | apply Get.here | apply Get.next)) ?_) | ((with_reducible refine gate_ld0 rfl ?_); refine loc_load1 rfl rfl (by kernel_rfl) rfl HL.out (by with_reducible repeat (first | exact Sel.done | apply Sel.take | apply Sel.skip | apply Get.here | apply Get.next)) ?_) | ((with_reducible refine gate_st0 rfl ?_); refine loc_store rfl rfl rfl (by first | (go_simp; done) | (go_simp; rfl)) (by kernel_rfl) (by kernel_rfl) HL.out (by with_reducible repeat (first | exact Spl.done | apply Spl.put | apply Spl.skip | apply Upd.here | apply Upd.next)) ?_; intro w_ HL_; replace HL := mk_ HL_; clear HL_))
      go_ret
      exact ⟨by first | rfl | (simp [errW_none, errW_some] <;> rfl) | (simp [*, errW_none, errW_some] <;> rfl), HL.out.bel⟩
    replace c39 := Bool.eq_false_iff.mpr c39
    subst c39
    rw [if_neg Bool.false_ne_true] at H
    try dsimp only at H
    obtain rfl := Option.some.inj H
    have HL := mk_ (Lok.start w)
    go_enter Try.func39, Try.ntmps39
    go_wp2_with (first | ((with_reducible refine gate_dst (N := 134) rfl ?_); (with_reducible refine gate_callee (f := 44) rfl ?_); refine goesL_ (some 134) rfl rfl Try.func44 (by kernel_rfl) rfl #[.int .i64 a0_7, .int .i64 1, .int .i64 255] rfl (by (try simp only [List.map_toArray, List.map_cons, List.map_nil]); first | done | rfl) ?_; (with_reducible refine (spec_l1In.calls a0_7 1 255 false _ A38.out).mono ?_); rintro e w_ ⟨rfl, hb_⟩; refine ⟨_, rfl, ?_⟩; replace HL := mk_ (HL.out.drawn hb_); clear hb_) | ((with_reducible refine gate_gd rfl ?_); first | ((with_reducible refine gd_on rfl ?_ ?_); rfl; dsimp only) | ((with_reducible refine gd_off rfl ?_ ?_); rfl)) | ((with_reducible refine gate_dst (N := 1) rfl ?_); refine loc_box rfl rfl (by first | (go_simp; done) | (go_simp; rfl)) HL.out ?_; intro gb1 w_ HL_; replace HL := mk_ HL_; clear HL_) | ((with_reducible refine gate_ld0 (t := 72) rfl ?_); refine loc_load (n := 9) rfl rfl (by kernel_rfl) rfl (by kernel_rfl) HL.out (by with_reducible repeat (first | exact Sel.done | apply Sel.take | apply Sel.skip | apply Get.here | apply Get.next)) ?_) | ((with_reducible refine gate_ld0 rfl ?_); refine loc_load1 rfl rfl (by kernel_rfl) rfl HL.out (by with_reducible repeat (first | exact Sel.done | apply Sel.take | apply Sel.skip | apply Get.here | apply Get.next)) ?_) | ((with_reducible refine gate_st0 rfl ?_); refine loc_store rfl rfl rfl (by first | (go_simp; done) | (go_simp; rfl)) (by kernel_rfl) (by kernel_rfl) HL.out (by with_reducible repeat (first | exact Spl.done | apply Spl.put | apply Spl.skip | apply Upd.here | apply Upd.next)) ?_; intro w_ HL_; replace HL := mk_ HL_; clear HL_))
    go_ret
    exact ⟨by first | rfl | (simp [errW_none, errW_some] <;> rfl) | (simp [*, errW_none, errW_some] <;> rfl), HL.out.bel⟩
  rw [if_pos c10] at H
  have c10b0 : (a0_0 == 2) = true := beq_iff_eq.mpr c10
  have c10b1 : (a0_0 != 2) = false := bne_eq_false_iff_eq.mpr c10
  try dsimp only at H
  clear c10
  by_cases c11 : a0_1 = 0
  rotate_left
  · rw [if_neg c11] at H
    have c11b0 : (a0_1 == 0) = false := beq_eq_false_iff_ne.mpr c11
    have c11b1 : (a0_1 != 0) = true := bne_iff_ne.mpr c11
    try dsimp only at H
    obtain rfl := Option.some.inj H
    have HL := mk_ (Lok.start w)
    go_enter Try.func39, Try.ntmps39
    go_wp2_with (first | ((with_reducible refine gate_gd rfl ?_); first | ((with_reducible refine gd_on rfl ?_ ?_); rfl; dsimp only) | ((with_reducible refine gd_off rfl ?_ ?_); rfl)) | ((with_reducible refine gate_dst (N := 1) rfl ?_); refine loc_box rfl rfl (by first | (go_simp; done) | (go_simp; rfl)) HL.out ?_; intro gb1 w_ HL_; replace HL := mk_ HL_; clear HL_) | ((with_reducible refine gate_ld0 (t := 72) rfl ?_); refine loc_load (n := 9) rfl rfl (by kernel_rfl) rfl (by kernel_rfl) HL.out (by with_reducible repeat (first | exact Sel.done | apply Sel.take | apply Sel.skip | apply Get.here | apply Get.next)) ?_) | ((with_reducible refine gate_ld0 rfl ?_); refine loc_load1 rfl rfl (by kernel_rfl) rfl HL.out (by with_reducible repeat (first | exact Sel.done | apply Sel.take | apply Sel.skip | apply Get.here | apply Get.next)) ?_) | ((with_reducible refine gate_st0 rfl ?_); refine loc_store rfl rfl rfl (by first | (go_simp; done) | (go_simp; rfl)) (by kernel_rfl) (by kernel_rfl) HL.out (by with_reducible repeat (first | exact Spl.done | apply Spl.put | apply Spl.skip | apply Upd.here | apply Upd.next)) ?_; intro w_ HL_; replace HL := mk_ HL_; clear HL_))
    go_ret
    exact ⟨by first | rfl | (simp [errW_none, errW_some] <;> rfl) | (simp [*, errW_none, errW_some] <;> rfl), HL.out.bel⟩
  rw [if_pos c11] at H
  have c11b0 : (a0_1 == 0) = true := beq_iff_eq.mpr c11
  have c11b1 : (a0_1 != 0) = false := bne_eq_false_iff_eq.mpr c11
  try dsimp only at H
  clear c11
  replace H := Option.bind_eq_some_iff.mp H
  obtain ⟨t110, A120, H⟩ := H
  try dsimp only at H
  have A12 := mk_ A120
  clear A120
  by_cases c13 : t110 = true
  rotate_left
  · replace c13 := Bool.eq_false_iff.mpr c13
    subst c13
    rw [if_neg Bool.false_ne_true] at H
    try dsimp only at H
    obtain rfl := Option.some.inj H
    have HL := mk_ (Lok.start w)
    go_enter Try.func39, Try.ntmps39
    go_wp2_with (first | ((with_reducible refine gate_dst (N := 37) rfl ?_); (with_reducible refine gate_callee (f := 44) rfl ?_); refine goesL_ (some 37) rfl rfl Try.func44 (by kernel_rfl) rfl #[.int .i64 a0_2, .int .i64 0, .int .i64 7] rfl (by (try simp only [List.map_toArray, List.map_cons, List.map_nil]); first | done | rfl) ?_; (with_reducible refine (spec_l1In.calls a0_2 0 7 false _ A12.out).mono ?_); rintro e w_ ⟨rfl, hb_⟩; refine ⟨_, rfl, ?_⟩; replace HL := mk_ (HL.out.drawn hb_); clear hb_) | ((with_reducible refine gate_gd rfl ?_); first | ((with_reducible refine gd_on rfl ?_ ?_); rfl; dsimp only) | ((with_reducible refine gd_off rfl ?_ ?_); rfl)) | ((with_reducible refine gate_dst (N := 1) rfl ?_); refine loc_box rfl rfl (by first | (go_simp; done) | (go_simp; rfl)) HL.out ?_; intro gb1 w_ HL_; replace HL := mk_ HL_; clear HL_) | ((with_reducible refine gate_ld0 (t := 72) rfl ?_); refine loc_load (n := 9) rfl rfl (by kernel_rfl) rfl (by kernel_rfl) HL.out (by with_reducible repeat (first | exact Sel.done | apply Sel.take | apply Sel.skip | apply Get.here | apply Get.next)) ?_) | ((with_reducible refine gate_ld0 rfl ?_); refine loc_load1 rfl rfl (by kernel_rfl) rfl HL.out (by with_reducible repeat (first | exact Sel.done | apply Sel.take | apply Sel.skip | apply Get.here | apply Get.next)) ?_) | ((with_reducible refine gate_st0 rfl ?_); refine loc_store rfl rfl rfl (by first | (go_simp; done) | (go_simp; rfl)) (by kernel_rfl) (by kernel_rfl) HL.out (by with_reducible repeat (first | exact Spl.done | apply Spl.put | apply Spl.skip | apply Upd.here | apply Upd.next)) ?_; intro w_ HL_; replace HL := mk_ HL_; clear HL_))
    go_ret
    exact ⟨by first | rfl | (simp [errW_none, errW_some] <;> rfl) | (simp [*, errW_none, errW_some] <;> rfl), HL.out.bel⟩
  subst c13
  rw [if_pos rfl] at H
  try dsimp only at H
  by_cases c14 : a0_3 = true
  rotate_left
  · replace c14 := Bool.eq_false_iff.mpr c14
    subst c14
    rw [if_neg Bool.false_ne_true] at H
    try dsimp only at H
    replace H := Option.bind_eq_some_iff.mp H
    obtain ⟨t112, A200, H⟩ := H
    try dsimp only at H
    have A20 := mk_ A200
    clear A200
    by_cases c21 : t112 = true
    rotate_left
    · replace c21 := Bool.eq_false_iff.mpr c21
      subst c21
      rw [if_neg Bool.false_ne_true] at H
      try dsimp only at H
      obtain rfl := Option.some.inj H
      have HL := mk_ (Lok.start w)
      go_enter Try.func39, Try.ntmps39
      go_wp2_with (first | ((with_reducible refine gate_dst (N := 37) rfl ?_); (with_reducible refine gate_callee (f := 44) rfl ?_); refine goesL_ (some 37) rfl rfl Try.func44 (by kernel_rfl) rfl #[.int .i64 a0_2, .int .i64 0, .int .i64 7] rfl (by (try simp only [List.map_toArray, List.map_cons, List.map_nil]); first | done | rfl) ?_; (with_reducible refine (spec_l1In.calls a0_2 0 7 true _ A12.out).mono ?_); rintro e w_ ⟨rfl, hb_⟩; refine ⟨_, rfl, ?_⟩; replace HL := mk_ (HL.out.drawn hb_); clear hb_) | ((with_reducible refine gate_dst (N := 51) rfl ?_); (with_reducible refine gate_callee (f := 44) rfl ?_); refine goesL_ (some 51) rfl rfl Try.func44 (by kernel_rfl) rfl #[.int .i64 a0_5, .int .i64 0, .int .i64 2] rfl (by (try simp only [List.map_toArray, List.map_cons, List.map_nil]); first | done | rfl) ?_; (with_reducible refine (spec_l1In.calls a0_5 0 2 false _ A20.out).mono ?_); rintro e w_ ⟨rfl, hb_⟩; refine ⟨_, rfl, ?_⟩; replace HL := mk_ (HL.out.drawn hb_); clear hb_) | ((with_reducible refine gate_gd rfl ?_); first | ((with_reducible refine gd_on rfl ?_ ?_); rfl; dsimp only) | ((with_reducible refine gd_off rfl ?_ ?_); rfl)) | ((with_reducible refine gate_dst (N := 1) rfl ?_); refine loc_box rfl rfl (by first | (go_simp; done) | (go_simp; rfl)) HL.out ?_; intro gb1 w_ HL_; replace HL := mk_ HL_; clear HL_) | ((with_reducible refine gate_ld0 (t := 72) rfl ?_); refine loc_load (n := 9) rfl rfl (by kernel_rfl) rfl (by kernel_rfl) HL.out (by with_reducible repeat (first | exact Sel.done | apply Sel.take | apply Sel.skip | apply Get.here | apply Get.next)) ?_) | ((with_reducible refine gate_ld0 rfl ?_); refine loc_load1 rfl rfl (by kernel_rfl) rfl HL.out (by with_reducible repeat (first | exact Sel.done | apply Sel.take | apply Sel.skip | apply Get.here | apply Get.next)) ?_) | ((with_reducible refine gate_st0 rfl ?_); refine loc_store rfl rfl rfl (by first | (go_simp; done) | (go_simp; rfl)) (by kernel_rfl) (by kernel_rfl) HL.out (by with_reducible repeat (first | exact Spl.done | apply Spl.put | apply Spl.skip | apply Upd.here | apply Upd.next)) ?_; intro w_ HL_; replace HL := mk_ HL_; clear HL_))
      go_ret
      exact ⟨by first | rfl | (simp [errW_none, errW_some] <;> rfl) | (simp [*, errW_none, errW_some] <;> rfl), HL.out.bel⟩
    subst c21
    rw [if_pos rfl] at H
    try dsimp only at H
    by_cases c22 : a0_6 = 0
    rotate_left
    · rw [if_neg c22] at H
      have c22b0 : (a0_6 == 0) = false := beq_eq_false_iff_ne.mpr c22
      have c22b1 : (a0_6 != 0) = true := bne_iff_ne.mpr c22
      try dsimp only at H
      obtain rfl := Option.some.inj H
      have HL := mk_ (Lok.start w)
      go_enter Try.func39, Try.ntmps39
      go_wp2_with (first | ((with_reducible refine gate_dst (N := 37) rfl ?_); (with_reducible refine gate_callee (f := 44) rfl ?_); refine goesL_ (some 37) rfl rfl Try.func44 (by kernel_rfl) rfl #[.int .i64 a0_2, .int .i64 0, .int .i64 7] rfl (by (try simp only [List.map_toArray, List.map_cons, List.map_nil]); first | done | rfl) ?_; (with_reducible refine (spec_l1In.calls a0_2 0 7 true _ A12.out).mono ?_); rintro e w_ ⟨rfl, hb_⟩; refine ⟨_, rfl, ?_⟩; replace HL := mk_ (HL.out.drawn hb_); clear hb_) | ((with_reducible refine gate_dst (N := 51) rfl ?_); (with_reducible refine gate_callee (f := 44) rfl ?_); refine goesL_ (some 51) rfl rfl Try.func44 (by kernel_rfl) rfl #[.int .i64 a0_5, .int .i64 0, .int .i64 2] rfl (by (try simp only [List.map_toArray, List.map_cons, List.map_nil]); first | done | rfl) ?_; (with_reducible refine (spec_l1In.calls a0_5 0 2 true _ A20.out).mono ?_); rintro e w_ ⟨rfl, hb_⟩; refine ⟨_, rfl, ?_⟩; replace HL := mk_ (HL.out.drawn hb_); clear hb_) | ((with_reducible refine gate_gd rfl ?_); first | ((with_reducible refine gd_on rfl ?_ ?_); rfl; dsimp only) | ((with_reducible refine gd_off rfl ?_ ?_); rfl)) | ((with_reducible refine gate_dst (N := 1) rfl ?_); refine loc_box rfl rfl (by first | (go_simp; done) | (go_simp; rfl)) HL.out ?_; intro gb1 w_ HL_; replace HL := mk_ HL_; clear HL_) | ((with_reducible refine gate_ld0 (t := 72) rfl ?_); refine loc_load (n := 9) rfl rfl (by kernel_rfl) rfl (by kernel_rfl) HL.out (by with_reducible repeat (first | exact Sel.done | apply Sel.take | apply Sel.skip | apply Get.here | apply Get.next)) ?_) | ((with_reducible refine gate_ld0 rfl ?_); refine loc_load1 rfl rfl (by kernel_rfl) rfl HL.out (by with_reducible repeat (first | exact Sel.done | apply Sel.take | apply Sel.skip | apply Get.here | apply Get.next)) ?_) | ((with_reducible refine gate_st0 rfl ?_); refine loc_store rfl rfl rfl (by first | (go_simp; done) | (go_simp; rfl)) (by kernel_rfl) (by kernel_rfl) HL.out (by with_reducible repeat (first | exact Spl.done | apply Spl.put | apply Spl.skip | apply Upd.here | apply Upd.next)) ?_; intro w_ HL_; replace HL := mk_ HL_; clear HL_))
      go_ret
      exact ⟨by first | rfl | (simp [errW_none, errW_some] <;> rfl) | (simp [*, errW_none, errW_some] <;> rfl), HL.out.bel⟩
    rw [if_pos c22] at H
    have c22b0 : (a0_6 == 0) = true := beq_iff_eq.mpr c22
    have c22b1 : (a0_6 != 0) = false := bne_eq_false_iff_eq.mpr c22
    try dsimp only at H
    clear c22
    by_cases c23 : a0_7 = 0
    rotate_left
    · rw [if_neg c23] at H
      have c23b0 : (a0_7 == 0) = false := beq_eq_false_iff_ne.mpr c23
      have c23b1 : (a0_7 != 0) = true := bne_iff_ne.mpr c23
      try dsimp only at H
      obtain rfl := Option.some.inj H
      have HL := mk_ (Lok.start w)
      go_enter Try.func39, Try.ntmps39
      go_wp2_with (first | ((with_reducible refine gate_dst (N := 37) rfl ?_); (with_reducible refine gate_callee (f := 44) rfl ?_); refine goesL_ (some 37) rfl rfl Try.func44 (by kernel_rfl) rfl #[.int .i64 a0_2, .int .i64 0, .int .i64 7] rfl (by (try simp only [List.map_toArray, List.map_cons, List.map_nil]); first | done | rfl) ?_; (with_reducible refine (spec_l1In.calls a0_2 0 7 true _ A12.out).mono ?_); rintro e w_ ⟨rfl, hb_⟩; refine ⟨_, rfl, ?_⟩; replace HL := mk_ (HL.out.drawn hb_); clear hb_) | ((with_reducible refine gate_dst (N := 51) rfl ?_); (with_reducible refine gate_callee (f := 44) rfl ?_); refine goesL_ (some 51) rfl rfl Try.func44 (by kernel_rfl) rfl #[.int .i64 a0_5, .int .i64 0, .int .i64 2] rfl (by (try simp only [List.map_toArray, List.map_cons, List.map_nil]); first | done | rfl) ?_; (with_reducible refine (spec_l1In.calls a0_5 0 2 true _ A20.out).mono ?_); rintro e w_ ⟨rfl, hb_⟩; refine ⟨_, rfl, ?_⟩; replace HL := mk_ (HL.out.drawn hb_); clear hb_) | ((with_reducible refine gate_gd rfl ?_); first | ((with_reducible refine gd_on rfl ?_ ?_); rfl; dsimp only) | ((with_reducible refine gd_off rfl ?_ ?_); rfl)) | ((with_reducible refine gate_dst (N := 1) rfl ?_); refine loc_box rfl rfl (by first | (go_simp; done) | (go_simp; rfl)) HL.out ?_; intro gb1 w_ HL_; replace HL := mk_ HL_; clear HL_) | ((with_reducible refine gate_ld0 (t := 72) rfl ?_); refine loc_load (n := 9) rfl rfl (by kernel_rfl) rfl (by kernel_rfl) HL.out (by with_reducible repeat (first | exact Sel.done | apply Sel.take | apply Sel.skip | apply Get.here | apply Get.next)) ?_) | ((with_reducible refine gate_ld0 rfl ?_); refine loc_load1 rfl rfl (by kernel_rfl) rfl HL.out (by with_reducible repeat (first | exact Sel.done | apply Sel.take | apply Sel.skip | apply Get.here | apply Get.next)) ?_) | ((with_reducible refine gate_st0 rfl ?_); refine loc_store rfl rfl rfl (by first | (go_simp; done) | (go_simp; rfl)) (by kernel_rfl) (by kernel_rfl) HL.out (by with_reducible repeat (first | exact Spl.done | apply Spl.put | apply Spl.skip | apply Upd.here | apply Upd.next)) ?_; intro w_ HL_; replace HL := mk_ HL_; clear HL_))
      go_ret
      exact ⟨by first | rfl | (simp [errW_none, errW_some] <;> rfl) | (simp [*, errW_none, errW_some] <;> rfl), HL.out.bel⟩
    rw [if_pos c23] at H
    have c23b0 : (a0_7 == 0) = true := beq_iff_eq.mpr c23
    have c23b1 : (a0_7 != 0) = false := bne_eq_false_iff_eq.mpr c23
    try dsimp only at H
    clear c23
    obtain rfl := Option.some.inj H
    have HL := mk_ (Lok.start w)
    go_enter Try.func39, Try.ntmps39
    go_wp2_with (first | ((with_reducible refine gate_dst (N := 37) rfl ?_); (with_reducible refine gate_callee (f := 44) rfl ?_); refine goesL_ (some 37) rfl rfl Try.func44 (by kernel_rfl) rfl #[.int .i64 a0_2, .int .i64 0, .int .i64 7] rfl (by (try simp only [List.map_toArray, List.map_cons, List.map_nil]); first | done | rfl) ?_; (with_reducible refine (spec_l1In.calls a0_2 0 7 true _ A12.out).mono ?_); rintro e w_ ⟨rfl, hb_⟩; refine ⟨_, rfl, ?_⟩; replace HL := mk_ (HL.out.drawn hb_); clear hb_) | ((with_reducible refine gate_dst (N := 51) rfl ?_); (with_reducible refine gate_callee (f := 44) rfl ?_); refine goesL_ (some 51) rfl rfl Try.func44 (by kernel_rfl) rfl #[.int .i64 a0_5, .int .i64 0, .int .i64 2] rfl (by (try simp only [List.map_toArray, List.map_cons, List.map_nil]); first | done | rfl) ?_; (with_reducible refine (spec_l1In.calls a0_5 0 2 true _ A20.out).mono ?_); rintro e w_ ⟨rfl, hb_⟩; refine ⟨_, rfl, ?_⟩; replace HL := mk_ (HL.out.drawn hb_); clear hb_) | ((with_reducible refine gate_gd rfl ?_); first | ((with_reducible refine gd_on rfl ?_ ?_); rfl; dsimp only) | ((with_reducible refine gd_off rfl ?_ ?_); rfl)) | ((with_reducible refine gate_dst (N := 1) rfl ?_); refine loc_box rfl rfl (by first | (go_simp; done) | (go_simp; rfl)) HL.out ?_; intro gb1 w_ HL_; replace HL := mk_ HL_; clear HL_) | ((with_reducible refine gate_ld0 (t := 72) rfl ?_); refine loc_load (n := 9) rfl rfl (by kernel_rfl) rfl (by kernel_rfl) HL.out (by with_reducible repeat (first | exact Sel.done | apply Sel.take | apply Sel.skip | apply Get.here | apply Get.next)) ?_) | ((with_reducible refine gate_ld0 rfl ?_); refine loc_load1 rfl rfl (by kernel_rfl) rfl HL.out (by with_reducible repeat (first | exact Sel.done | apply Sel.take | apply Sel.skip | apply Get.here | apply Get.next)) ?_) | ((with_reducible refine gate_st0 rfl ?_); refine loc_store rfl rfl rfl (by first | (go_simp; done) | (go_simp; rfl)) (by kernel_rfl) (by kernel_rfl) HL.out (by with_reducible repeat (first | exact Spl.done | apply Spl.put | apply Spl.skip | apply Upd.here | apply Upd.next)) ?_; intro w_ HL_; replace HL := mk_ HL_; clear HL_))
    go_ret
    exact ⟨by first | rfl | (simp [errW_none, errW_some] <;> rfl) | (simp [*, errW_none, errW_some] <;> rfl), HL.out.bel⟩
  subst c14
  rw [if_pos rfl] at H
  try dsimp only at H
  by_cases c15 : a0_4 = true
  · subst c15
    rw [if_pos rfl] at H
    try dsimp only at H
    obtain rfl := Option.some.inj H
    have HL := mk_ (Lok.start w)
    go_enter Try.func39, Try.ntmps39
    go_wp2_with (first | ((with_reducible refine gate_dst (N := 37) rfl ?_); (with_reducible refine gate_callee (f := 44) rfl ?_); refine goesL_ (some 37) rfl rfl Try.func44 (by kernel_rfl) rfl #[.int .i64 a0_2, .int .i64 0, .int .i64 7] rfl (by (try simp only [List.map_toArray, List.map_cons, List.map_nil]); first | done | rfl) ?_; (with_reducible refine (spec_l1In.calls a0_2 0 7 true _ A12.out).mono ?_); rintro e w_ ⟨rfl, hb_⟩; refine ⟨_, rfl, ?_⟩; replace HL := mk_ (HL.out.drawn hb_); clear hb_) | ((with_reducible refine gate_gd rfl ?_); first | ((with_reducible refine gd_on rfl ?_ ?_); rfl; dsimp only) | ((with_reducible refine gd_off rfl ?_ ?_); rfl)) | ((with_reducible refine gate_dst (N := 1) rfl ?_); refine loc_box rfl rfl (by first | (go_simp; done) | (go_simp; rfl)) HL.out ?_; intro gb1 w_ HL_; replace HL := mk_ HL_; clear HL_) | ((with_reducible refine gate_ld0 (t := 72) rfl ?_); refine loc_load (n := 9) rfl rfl (by kernel_rfl) rfl (by kernel_rfl) HL.out (by with_reducible repeat (first | exact Sel.done | apply Sel.take | apply Sel.skip | apply Get.here | apply Get.next)) ?_) | ((with_reducible refine gate_ld0 rfl ?_); refine loc_load1 rfl rfl (by kernel_rfl) rfl HL.out (by with_reducible repeat (first | exact Sel.done | apply Sel.take | apply Sel.skip | apply Get.here | apply Get.next)) ?_) | ((with_reducible refine gate_st0 rfl ?_); refine loc_store rfl rfl rfl (by first | (go_simp; done) | (go_simp; rfl)) (by kernel_rfl) (by kernel_rfl) HL.out (by with_reducible repeat (first | exact Spl.done | apply Spl.put | apply Spl.skip | apply Upd.here | apply Upd.next)) ?_; intro w_ HL_; replace HL := mk_ HL_; clear HL_))
    go_ret
    exact ⟨by first | rfl | (simp [errW_none, errW_some] <;> rfl) | (simp [*, errW_none, errW_some] <;> rfl), HL.out.bel⟩
  replace c15 := Bool.eq_false_iff.mpr c15
  subst c15
  rw [if_neg Bool.false_ne_true] at H
  try dsimp only at H
  replace H := Option.bind_eq_some_iff.mp H
  obtain ⟨t111, A160, H⟩ := H
  try dsimp only at H
  have A16 := mk_ A160
  clear A160
  by_cases c17 : t111 = true
  rotate_left
  · replace c17 := Bool.eq_false_iff.mpr c17
    subst c17
    rw [if_neg Bool.false_ne_true] at H
    try dsimp only at H
    obtain rfl := Option.some.inj H
    have HL := mk_ (Lok.start w)
    go_enter Try.func39, Try.ntmps39
    go_wp2_with (first | ((with_reducible refine gate_dst (N := 37) rfl ?_); (with_reducible refine gate_callee (f := 44) rfl ?_); refine goesL_ (some 37) rfl rfl Try.func44 (by kernel_rfl) rfl #[.int .i64 a0_2, .int .i64 0, .int .i64 7] rfl (by (try simp only [List.map_toArray, List.map_cons, List.map_nil]); first | done | rfl) ?_; (with_reducible refine (spec_l1In.calls a0_2 0 7 true _ A12.out).mono ?_); rintro e w_ ⟨rfl, hb_⟩; refine ⟨_, rfl, ?_⟩; replace HL := mk_ (HL.out.drawn hb_); clear hb_) | ((with_reducible refine gate_dst (N := 51) rfl ?_); (with_reducible refine gate_callee (f := 44) rfl ?_); refine goesL_ (some 51) rfl rfl Try.func44 (by kernel_rfl) rfl #[.int .i64 a0_5, .int .i64 0, .int .i64 2] rfl (by (try simp only [List.map_toArray, List.map_cons, List.map_nil]); first | done | rfl) ?_; (with_reducible refine (spec_l1In.calls a0_5 0 2 false _ A16.out).mono ?_); rintro e w_ ⟨rfl, hb_⟩; refine ⟨_, rfl, ?_⟩; replace HL := mk_ (HL.out.drawn hb_); clear hb_) | ((with_reducible refine gate_gd rfl ?_); first | ((with_reducible refine gd_on rfl ?_ ?_); rfl; dsimp only) | ((with_reducible refine gd_off rfl ?_ ?_); rfl)) | ((with_reducible refine gate_dst (N := 1) rfl ?_); refine loc_box rfl rfl (by first | (go_simp; done) | (go_simp; rfl)) HL.out ?_; intro gb1 w_ HL_; replace HL := mk_ HL_; clear HL_) | ((with_reducible refine gate_ld0 (t := 72) rfl ?_); refine loc_load (n := 9) rfl rfl (by kernel_rfl) rfl (by kernel_rfl) HL.out (by with_reducible repeat (first | exact Sel.done | apply Sel.take | apply Sel.skip | apply Get.here | apply Get.next)) ?_) | ((with_reducible refine gate_ld0 rfl ?_); refine loc_load1 rfl rfl (by kernel_rfl) rfl HL.out (by with_reducible repeat (first | exact Sel.done | apply Sel.take | apply Sel.skip | apply Get.here | apply Get.next)) ?_) | ((with_reducible refine gate_st0 rfl ?_); refine loc_store rfl rfl rfl (by first | (go_simp; done) | (go_simp; rfl)) (by kernel_rfl) (by kernel_rfl) HL.out (by with_reducible repeat (first | exact Spl.done | apply Spl.put | apply Spl.skip | apply Upd.here | apply Upd.next)) ?_; intro w_ HL_; replace HL := mk_ HL_; clear HL_))
    go_ret
    exact ⟨by first | rfl | (simp [errW_none, errW_some] <;> rfl) | (simp [*, errW_none, errW_some] <;> rfl), HL.out.bel⟩
  subst c17
  rw [if_pos rfl] at H
  try dsimp only at H
  by_cases c18 : a0_6 = 0
  rotate_left
  · rw [if_neg c18] at H
    have c18b0 : (a0_6 == 0) = false := beq_eq_false_iff_ne.mpr c18
    have c18b1 : (a0_6 != 0) = true := bne_iff_ne.mpr c18
    try dsimp only at H
    obtain rfl := Option.some.inj H
    have HL := mk_ (Lok.start w)
    go_enter Try.func39, Try.ntmps39
    go_wp2_with (first | ((with_reducible refine gate_dst (N := 37) rfl ?_); (with_reducible refine gate_callee (f := 44) rfl ?_); refine goesL_ (some 37) rfl rfl Try.func44 (by kernel_rfl) rfl #[.int .i64 a0_2, .int .i64 0, .int .i64 7] rfl (by (try simp only [List.map_toArray, List.map_cons, List.map_nil]); first | done | rfl) ?_; (with_reducible refine (spec_l1In.calls a0_2 0 7 true _ A12.out).mono ?_); rintro e w_ ⟨rfl, hb_⟩; refine ⟨_, rfl, ?_⟩; replace HL := mk_ (HL.out.drawn hb_); clear hb_) | ((with_reducible refine gate_dst (N := 51) rfl ?_); (with_reducible refine gate_callee (f := 44) rfl ?_); refine goesL_ (some 51) rfl rfl Try.func44 (by kernel_rfl) rfl #[.int .i64 a0_5, .int .i64 0, .int .i64 2] rfl (by (try simp only [List.map_toArray, List.map_cons, List.map_nil]); first | done | rfl) ?_; (with_reducible refine (spec_l1In.calls a0_5 0 2 true _ A16.out).mono ?_); rintro e w_ ⟨rfl, hb_⟩; refine ⟨_, rfl, ?_⟩; replace HL := mk_ (HL.out.drawn hb_); clear hb_) | ((with_reducible refine gate_gd rfl ?_); first | ((with_reducible refine gd_on rfl ?_ ?_); rfl; dsimp only) | ((with_reducible refine gd_off rfl ?_ ?_); rfl)) | ((with_reducible refine gate_dst (N := 1) rfl ?_); refine loc_box rfl rfl (by first | (go_simp; done) | (go_simp; rfl)) HL.out ?_; intro gb1 w_ HL_; replace HL := mk_ HL_; clear HL_) | ((with_reducible refine gate_ld0 (t := 72) rfl ?_); refine loc_load (n := 9) rfl rfl (by kernel_rfl) rfl (by kernel_rfl) HL.out (by with_reducible repeat (first | exact Sel.done | apply Sel.take | apply Sel.skip | apply Get.here | apply Get.next)) ?_) | ((with_reducible refine gate_ld0 rfl ?_); refine loc_load1 rfl rfl (by kernel_rfl) rfl HL.out (by with_reducible repeat (first | exact Sel.done | apply Sel.take | apply Sel.skip | apply Get.here | apply Get.next)) ?_) | ((with_reducible refine gate_st0 rfl ?_); refine loc_store rfl rfl rfl (by first | (go_simp; done) | (go_simp; rfl)) (by kernel_rfl) (by kernel_rfl) HL.out (by with_reducible repeat (first | exact Spl.done | apply Spl.put | apply Spl.skip | apply Upd.here | apply Upd.next)) ?_; intro w_ HL_; replace HL := mk_ HL_; clear HL_))
    go_ret
    exact ⟨by first | rfl | (simp [errW_none, errW_some] <;> rfl) | (simp [*, errW_none, errW_some] <;> rfl), HL.out.bel⟩
  rw [if_pos c18] at H
  have c18b0 : (a0_6 == 0) = true := beq_iff_eq.mpr c18
  have c18b1 : (a0_6 != 0) = false := bne_eq_false_iff_eq.mpr c18
  try dsimp only at H
  clear c18
  by_cases c19 : a0_7 = 0
  rotate_left
  · rw [if_neg c19] at H
    have c19b0 : (a0_7 == 0) = false := beq_eq_false_iff_ne.mpr c19
    have c19b1 : (a0_7 != 0) = true := bne_iff_ne.mpr c19
    try dsimp only at H
    obtain rfl := Option.some.inj H
    have HL := mk_ (Lok.start w)
    go_enter Try.func39, Try.ntmps39
    go_wp2_with (first | ((with_reducible refine gate_dst (N := 37) rfl ?_); (with_reducible refine gate_callee (f := 44) rfl ?_); refine goesL_ (some 37) rfl rfl Try.func44 (by kernel_rfl) rfl #[.int .i64 a0_2, .int .i64 0, .int .i64 7] rfl (by (try simp only [List.map_toArray, List.map_cons, List.map_nil]); first | done | rfl) ?_; (with_reducible refine (spec_l1In.calls a0_2 0 7 true _ A12.out).mono ?_); rintro e w_ ⟨rfl, hb_⟩; refine ⟨_, rfl, ?_⟩; replace HL := mk_ (HL.out.drawn hb_); clear hb_) | ((with_reducible refine gate_dst (N := 51) rfl ?_); (with_reducible refine gate_callee (f := 44) rfl ?_); refine goesL_ (some 51) rfl rfl Try.func44 (by kernel_rfl) rfl #[.int .i64 a0_5, .int .i64 0, .int .i64 2] rfl (by (try simp only [List.map_toArray, List.map_cons, List.map_nil]); first | done | rfl) ?_; (with_reducible refine (spec_l1In.calls a0_5 0 2 true _ A16.out).mono ?_); rintro e w_ ⟨rfl, hb_⟩; refine ⟨_, rfl, ?_⟩; replace HL := mk_ (HL.out.drawn hb_); clear hb_) | ((with_reducible refine gate_gd rfl ?_); first | ((with_reducible refine gd_on rfl ?_ ?_); rfl; dsimp only) | ((with_reducible refine gd_off rfl ?_ ?_); rfl)) | ((with_reducible refine gate_dst (N := 1) rfl ?_); refine loc_box rfl rfl (by first | (go_simp; done) | (go_simp; rfl)) HL.out ?_; intro gb1 w_ HL_; replace HL := mk_ HL_; clear HL_) | ((with_reducible refine gate_ld0 (t := 72) rfl ?_); refine loc_load (n := 9) rfl rfl (by kernel_rfl) rfl (by kernel_rfl) HL.out (by with_reducible repeat (first | exact Sel.done | apply Sel.take | apply Sel.skip | apply Get.here | apply Get.next)) ?_) | ((with_reducible refine gate_ld0 rfl ?_); refine loc_load1 rfl rfl (by kernel_rfl) rfl HL.out (by with_reducible repeat (first | exact Sel.done | apply Sel.take | apply Sel.skip | apply Get.here | apply Get.next)) ?_) | ((with_reducible refine gate_st0 rfl ?_); refine loc_store rfl rfl rfl (by first | (go_simp; done) | (go_simp; rfl)) (by kernel_rfl) (by kernel_rfl) HL.out (by with_reducible repeat (first | exact Spl.done | apply Spl.put | apply Spl.skip | apply Upd.here | apply Upd.next)) ?_; intro w_ HL_; replace HL := mk_ HL_; clear HL_))
    go_ret
    exact ⟨by first | rfl | (simp [errW_none, errW_some] <;> rfl) | (simp [*, errW_none, errW_some] <;> rfl), HL.out.bel⟩
  rw [if_pos c19] at H
  have c19b0 : (a0_7 == 0) = true := beq_iff_eq.mpr c19
  have c19b1 : (a0_7 != 0) = false := bne_eq_false_iff_eq.mpr c19
  try dsimp only at H
  clear c19
  obtain rfl := Option.some.inj H
  have HL := mk_ (Lok.start w)
  go_enter Try.func39, Try.ntmps39
  go_wp2_with (first | ((with_reducible refine gate_dst (N := 37) rfl ?_); (with_reducible refine gate_callee (f := 44) rfl ?_); refine goesL_ (some 37) rfl rfl Try.func44 (by kernel_rfl) rfl #[.int .i64 a0_2, .int .i64 0, .int .i64 7] rfl (by (try simp only [List.map_toArray, List.map_cons, List.map_nil]); first | done | rfl) ?_; (with_reducible refine (spec_l1In.calls a0_2 0 7 true _ A12.out).mono ?_); rintro e w_ ⟨rfl, hb_⟩; refine ⟨_, rfl, ?_⟩; replace HL := mk_ (HL.out.drawn hb_); clear hb_) | ((with_reducible refine gate_dst (N := 51) rfl ?_); (with_reducible refine gate_callee (f := 44) rfl ?_); refine goesL_ (some 51) rfl rfl Try.func44 (by kernel_rfl) rfl #[.int .i64 a0_5, .int .i64 0, .int .i64 2] rfl (by (try simp only [List.map_toArray, List.map_cons, List.map_nil]); first | done | rfl) ?_; (with_reducible refine (spec_l1In.calls a0_5 0 2 true _ A16.out).mono ?_); rintro e w_ ⟨rfl, hb_⟩; refine ⟨_, rfl, ?_⟩; replace HL := mk_ (HL.out.drawn hb_); clear hb_) | ((with_reducible refine gate_gd rfl ?_); first | ((with_reducible refine gd_on rfl ?_ ?_); rfl; dsimp only) | ((with_reducible refine gd_off rfl ?_ ?_); rfl)) | ((with_reducible refine gate_dst (N := 1) rfl ?_); refine loc_box rfl rfl (by first | (go_simp; done) | (go_simp; rfl)) HL.out ?_; intro gb1 w_ HL_; replace HL := mk_ HL_; clear HL_) | ((with_reducible refine gate_ld0 (t := 72) rfl ?_); refine loc_load (n := 9) rfl rfl (by kernel_rfl) rfl (by kernel_rfl) HL.out (by with_reducible repeat (first | exact Sel.done | apply Sel.take | apply Sel.skip | apply Get.here | apply Get.next)) ?_) | ((with_reducible refine gate_ld0 rfl ?_); refine loc_load1 rfl rfl (by kernel_rfl) rfl HL.out (by with_reducible repeat (first | exact Sel.done | apply Sel.take | apply Sel.skip | apply Get.here | apply Get.next)) ?_) | ((with_reducible refine gate_st0 rfl ?_); refine loc_store rfl rfl rfl (by first | (go_simp; done) | (go_simp; rfl)) (by kernel_rfl) (by kernel_rfl) HL.out (by with_reducible repeat (first | exact Spl.done | apply Spl.put | apply Spl.skip | apply Upd.here | apply Upd.next)) ?_; intro w_ HL_; replace HL := mk_ HL_; clear HL_))
  go_ret
  exact ⟨by first | rfl | (simp [errW_none, errW_some] <;> rfl) | (simp [*, errW_none, errW_some] <;> rfl), HL.out.bel⟩

end Go.Proofs.Ytoigmeiollfklaa.QFnExactFrmOk
