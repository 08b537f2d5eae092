-- Written by a program of this session, a turned copy of the print (not by print.sh itself). Lean checks it.
import Derived.Test.YtommafidnphkcaaQFnExactNegSayx0
import Derived.Test.YtommafidnphkcaaQFnExactNegSayx1
namespace Go.Proofs.Ytommafidnphkcaa.QFnExactNegSay
open Go.RowKit Go.Proofs.YtommafidnphkcaaW.PrintWords Go.Proofs.YtommafidnphkcaaW.PrintLast Go.Proofs.YtommafidnphkcaaW.PrintMore
attribute [local go_sem] max2_int min2_int max_two min_two max_three min_three max_four min_four   -- for this text's walks alone
set_option linter.unusedVariables false
set_option linter.unusedSimpArgs false

attribute [local go_sem high] eqA24
/-! ### spec_l1In: function 39 -/
def spec_l1In.f (a0 : Int) (a1 : Int) (a2 : Int) : Option (Bool) := if a0 ≥ a1 then (some (decide (a0 ≤ a2))) else (some false)
set_option maxHeartbeats 8000000 in
set_option maxRecDepth 100000 in
theorem spec_l1In.calls (a0 : Int) (a1 : Int) (a2 : Int) (r : Bool) (w : World) (h : spec_l1In.f a0 a1 a2 = some r) :
    Calls Try.prog 39 #[.int .i64 a0, .int .i64 a1, .int .i64 a2] w fun e w' => e = .returned (.bool r) ∧ Drawn0 w w' := by
 have H : (if a0 ≥ a1 then (some (decide (a0 ≤ a2))) else (some false)) = some r := h
 clear h
 by_cases c4 : a0 ≥ a1
 · rw [if_pos c4] at H
   have c4b0 : decide (a1 ≤ a0) = true := decide_eq_true c4
   clear c4
   obtain rfl := Option.some.inj H
   go_enter Try.func39, Try.ntmps39
   go_wp2
   go_ret
   exact ⟨by first | rfl | (simp; done) | (simp [*]; done), by repeat (first | exact Drawn0.refl _ | apply Drawn0.step)⟩
 rw [if_neg c4] at H
 have c4b0 : decide (a1 ≤ a0) = false := decide_eq_false c4
 clear c4
 obtain rfl := Option.some.inj H
 go_enter Try.func39, Try.ntmps39
 go_wp2
 go_ret
 exact ⟨by first | rfl | (simp; done) | (simp [*]; done), by repeat (first | exact Drawn0.refl _ | apply Drawn0.step)⟩

/-! ### spec_CfgOk: function 17 -/
def spec_CfgOk.f (a0_0 : Int) (a0_1 : Int) (a0_2 : Int) (a0_3 : Int) (a0_4 : Int) : Option (Bool) := (spec_l1In.f a0_0 1 2).bind fun t102 => (if t102 = true then ((spec_l1In.f a0_1 1 4).bind fun t103 => (if t103 = true then ((spec_l1In.f a0_2 1 8).bind fun t104 => (if t104 = true then ((spec_l1In.f a0_3 1 24).bind fun t105 => (if t105 = true then ((spec_l1In.f a0_4 1 5).bind fun t106 => (some t106)) else (some false))) else (some false))) else (some false))) else (some false))
set_option maxHeartbeats 8000000 in
set_option maxRecDepth 100000 in
theorem spec_CfgOk.calls (a0_0 : Int) (a0_1 : Int) (a0_2 : Int) (a0_3 : Int) (a0_4 : Int) (r : Bool) (w : World) (h : spec_CfgOk.f a0_0 a0_1 a0_2 a0_3 a0_4 = some r) :
    Calls Try.prog 17 #[.agg #[.int .i64 a0_0, .int .i64 a0_1, .int .i64 a0_2, .int .i64 a0_3, .int .i64 a0_4]] w fun e w' => e = .returned (.bool r) ∧ Below w.heap.size w w' := by
 have hu24 := Try.underlying24
 have HB := mk_ (Below.refl w.heap.size w)
 have H : ((spec_l1In.f a0_0 1 2).bind fun t102 => (if t102 = true then ((spec_l1In.f a0_1 1 4).bind fun t103 => (if t103 = true then ((spec_l1In.f a0_2 1 8).bind fun t104 => (if t104 = true then ((spec_l1In.f a0_3 1 24).bind fun t105 => (if t105 = true then ((spec_l1In.f a0_4 1 5).bind fun t106 => (some t106)) else (some false))) else (some false))) else (some false))) else (some false))) = some r := h
 clear h
 replace H := Option.bind_eq_some_iff.mp H
 obtain ⟨t102, A20, H⟩ := H
 try dsimp only at H
 have A2 := mk_ A20
 clear A20
 by_cases c3 : t102 = true
 rotate_left
 · replace c3 := Bool.eq_false_iff.mpr c3
   subst c3
   have H1 : (some false) = some r := by rw [if_neg (show ¬ (false = true) by decide)] at H; exact H
   clear H
   have H := H1
   clear H1
   obtain rfl := Option.some.inj H
   go_enter Try.func17, Try.ntmps17
   go_wp2_with (first | ((with_reducible refine gate_dst (N := 1) rfl ?_); refine box_event ?hg (N := 1) ?hd (cs := #[.int .i64 a0_0, .int .i64 a0_1, .int .i64 a0_2, .int .i64 a0_3, .int .i64 a0_4]) (t := 24) ?hr ?_; (case hd => rfl); (case hg => rfl); (case hr => first | (go_simp; done) | (go_simp; rfl)); intro gb101 hg w19 hbox hb; have n0_ := mk_ (zr3 (by repeat (first | (with_reducible first | exact HB.out | apply zq7 | apply zq8 | apply zq9) | exact HB.out)) hb); have n1_ := mk_ (hbox); have n2_ := mk_ ((by rw [hg]; exact (zr2 (by repeat (first | (with_reducible first | exact HB.out | apply zq7 | apply zq8 | apply zq9) | exact HB.out))) : w.heap.size ≤ gb101)); have n3_ := mk_ ((by rw [hg]; exact (zr2 (by repeat (first | (with_reducible first | exact HB.out | apply zq7 | apply zq8 | apply zq9) | exact HB.out))) : w.heap.size ≤ gb101)); clear HB; have HB := n0_; have BK101 := n1_; have GW101 := n2_; have GE101 := n3_; clear n0_ n1_ n2_ n3_; clear hb hbox hg; obtain ⟨hcz20_0, hcz20_1, hcz20_2, hcz20_3, hcz20_4⟩ := cz5 BK101.out; obtain ⟨hfz20_0, hfz20_1, hfz20_2, hfz20_3, hfz20_4⟩ := fz5 BK101.out) | ((with_reducible refine gate_callee (f := 39) rfl ?_); refine goesL_ (some 5) rfl rfl Try.func39 (by kernel_rfl) rfl #[.int .i64 a0_0, .int .i64 1, .int .i64 2] rfl (by (try simp only [List.map_toArray, List.map_cons, List.map_nil]); first | done | rfl | (simp only [List.length_drop, List.length_take]; rfl)) ?_; (with_reducible refine (spec_l1In.calls a0_0 1 2 false _ A2.out).mono ?_); rintro e w' ⟨rfl, ⟨nd, rfl⟩⟩; refine ⟨_, rfl, ?_⟩))
   go_ret
   exact ⟨by first | rfl | (simp [errW_none, errW_some] <;> rfl) | (simp [*, errW_none, errW_some] <;> rfl), by repeat (first | (with_reducible first | exact HB.out | apply zq7 | apply zq8 | apply zq9 | refine zr1 ?_ GE101.out) | exact HB.out)⟩
 subst c3
 have H1 : ((spec_l1In.f a0_1 1 4).bind fun t103 => (if t103 = true then ((spec_l1In.f a0_2 1 8).bind fun t104 => (if t104 = true then ((spec_l1In.f a0_3 1 24).bind fun t105 => (if t105 = true then ((spec_l1In.f a0_4 1 5).bind fun t106 => (some t106)) else (some false))) else (some false))) else (some false))) = some r := by rw [if_pos rfl] at H; exact H
 clear H
 have H := H1
 clear H1
 replace H := Option.bind_eq_some_iff.mp H
 obtain ⟨t103, A40, H⟩ := H
 try dsimp only at H
 have A4 := mk_ A40
 clear A40
 have HH_ := mk_ H
 clear H
 go_enter Try.func17, Try.ntmps17
 go_wp2_with (first | ((with_reducible refine gate_dst (N := 1) rfl ?_); refine box_event ?hg (N := 1) ?hd (cs := #[.int .i64 a0_0, .int .i64 a0_1, .int .i64 a0_2, .int .i64 a0_3, .int .i64 a0_4]) (t := 24) ?hr ?_; (case hd => rfl); (case hg => rfl); (case hr => first | (go_simp; done) | (go_simp; rfl)); intro gb101 hg w11 hbox hb; have n0_ := mk_ (zr3 (by repeat (first | (with_reducible first | exact HB.out | apply zq7 | apply zq8 | apply zq9) | exact HB.out)) hb); have n1_ := mk_ (hbox); have n2_ := mk_ ((by rw [hg]; exact (zr2 (by repeat (first | (with_reducible first | exact HB.out | apply zq7 | apply zq8 | apply zq9) | exact HB.out))) : w.heap.size ≤ gb101)); have n3_ := mk_ ((by rw [hg]; exact (zr2 (by repeat (first | (with_reducible first | exact HB.out | apply zq7 | apply zq8 | apply zq9) | exact HB.out))) : w.heap.size ≤ gb101)); clear HB; have HB := n0_; have BK101 := n1_; have GW101 := n2_; have GE101 := n3_; clear n0_ n1_ n2_ n3_; clear hb hbox hg; obtain ⟨hcz12_0, hcz12_1, hcz12_2, hcz12_3, hcz12_4⟩ := cz5 BK101.out; obtain ⟨hfz12_0, hfz12_1, hfz12_2, hfz12_3, hfz12_4⟩ := fz5 BK101.out) | ((with_reducible refine gate_callee (f := 39) rfl ?_); refine goesL_ (some 5) rfl rfl Try.func39 (by kernel_rfl) rfl #[.int .i64 a0_0, .int .i64 1, .int .i64 2] rfl (by (try simp only [List.map_toArray, List.map_cons, List.map_nil]); first | done | rfl | (simp only [List.length_drop, List.length_take]; rfl)) ?_; (with_reducible refine (spec_l1In.calls a0_0 1 2 true _ A2.out).mono ?_); rintro e w' ⟨rfl, ⟨nd, rfl⟩⟩; refine ⟨_, rfl, ?_⟩))
 have H := HH_.out
 clear HH_
 by_cases c5 : t103 = true
 rotate_left
 · replace c5 := Bool.eq_false_iff.mpr c5
   subst c5
   have H1 : (some false) = some r := by rw [if_neg (show ¬ (false = true) by decide)] at H; exact H
   clear H
   have H := H1
   clear H1
   obtain rfl := Option.some.inj H
   go_wp2_with (first | (go_at_call 39; (with_reducible refine (spec_l1In.calls a0_1 1 4 false _ A4.out).mono ?_); rintro e w' ⟨rfl, ⟨nd, rfl⟩⟩))
   go_ret
   exact ⟨by first | rfl | (simp [errW_none, errW_some] <;> rfl) | (simp [*, errW_none, errW_some] <;> rfl), by repeat (first | (with_reducible first | exact HB.out | apply zq7 | apply zq8 | apply zq9 | refine zr1 ?_ GE101.out) | exact HB.out)⟩
 subst c5
 have H1 : ((spec_l1In.f a0_2 1 8).bind fun t104 => (if t104 = true then ((spec_l1In.f a0_3 1 24).bind fun t105 => (if t105 = true then ((spec_l1In.f a0_4 1 5).bind fun t106 => (some t106)) else (some false))) else (some false))) = some r := by rw [if_pos rfl] at H; exact H
 clear H
 have H := H1
 clear H1
 replace H := Option.bind_eq_some_iff.mp H
 obtain ⟨t104, A60, H⟩ := H
 try dsimp only at H
 have A6 := mk_ A60
 clear A60
 have HH_ := mk_ H
 clear H
 go_wp2_with (first | (go_at_call 39; (with_reducible refine (spec_l1In.calls a0_1 1 4 true _ A4.out).mono ?_); rintro e w' ⟨rfl, ⟨nd, rfl⟩⟩))
 have H := HH_.out
 clear HH_
 by_cases c7 : t104 = true
 rotate_left
 · replace c7 := Bool.eq_false_iff.mpr c7
   subst c7
   have H1 : (some false) = some r := by rw [if_neg (show ¬ (false = true) by decide)] at H; exact H
   clear H
   have H := H1
   clear H1
   obtain rfl := Option.some.inj H
   go_wp2_with (first | (go_at_call 39; (with_reducible refine (spec_l1In.calls a0_2 1 8 false _ A6.out).mono ?_); rintro e w' ⟨rfl, ⟨nd, rfl⟩⟩))
   go_ret
   exact ⟨by first | rfl | (simp [errW_none, errW_some] <;> rfl) | (simp [*, errW_none, errW_some] <;> rfl), by repeat (first | (with_reducible first | exact HB.out | apply zq7 | apply zq8 | apply zq9 | refine zr1 ?_ GE101.out) | exact HB.out)⟩
 subst c7
 have H1 : ((spec_l1In.f a0_3 1 24).bind fun t105 => (if t105 = true then ((spec_l1In.f a0_4 1 5).bind fun t106 => (some t106)) else (some false))) = some r := by rw [if_pos rfl] at H; exact H
 clear H
 have H := H1
 clear H1
 replace H := Option.bind_eq_some_iff.mp H
 obtain ⟨t105, A80, H⟩ := H
 try dsimp only at H
 have A8 := mk_ A80
 clear A80
 have HH_ := mk_ H
 clear H
 go_wp2_with (first | (go_at_call 39; (with_reducible refine (spec_l1In.calls a0_2 1 8 true _ A6.out).mono ?_); rintro e w' ⟨rfl, ⟨nd, rfl⟩⟩))
 have H := HH_.out
 clear HH_
 by_cases c9 : t105 = true
 rotate_left
 · replace c9 := Bool.eq_false_iff.mpr c9
   subst c9
   have H1 : (some false) = some r := by rw [if_neg (show ¬ (false = true) by decide)] at H; exact H
   clear H
   have H := H1
   clear H1
   obtain rfl := Option.some.inj H
   go_wp2_with (first | (go_at_call 39; (with_reducible refine (spec_l1In.calls a0_3 1 24 false _ A8.out).mono ?_); rintro e w' ⟨rfl, ⟨nd, rfl⟩⟩))
   go_ret
   exact ⟨by first | rfl | (simp [errW_none, errW_some] <;> rfl) | (simp [*, errW_none, errW_some] <;> rfl), by repeat (first | (with_reducible first | exact HB.out | apply zq7 | apply zq8 | apply zq9 | refine zr1 ?_ GE101.out) | exact HB.out)⟩
 subst c9
 have H1 : ((spec_l1In.f a0_4 1 5).bind fun t106 => (some t106)) = some r := by rw [if_pos rfl] at H; exact H
 clear H
 have H := H1
 clear H1
 replace H := Option.bind_eq_some_iff.mp H
 obtain ⟨t106, A100, H⟩ := H
 try dsimp only at H
 have A10 := mk_ A100
 clear A100
 obtain rfl := Option.some.inj H
 go_wp2_with (first | (go_at_call 39; (with_reducible refine (spec_l1In.calls a0_3 1 24 true _ A8.out).mono ?_); rintro e w' ⟨rfl, ⟨nd, rfl⟩⟩) | (go_at_call 39; (with_reducible refine (spec_l1In.calls a0_4 1 5 t106 _ A10.out).mono ?_); rintro e w' ⟨rfl, ⟨nd, rfl⟩⟩))
 go_ret
 exact ⟨by first | rfl | (simp [errW_none, errW_some] <;> rfl) | (simp [*, errW_none, errW_some] <;> rfl), by repeat (first | (with_reducible first | exact HB.out | apply zq7 | apply zq8 | apply zq9 | refine zr1 ?_ GE101.out) | exact HB.out)⟩

/-! ### spec_l5None: function 46 -/
def spec_l5None.f (a0_0 : Int) (a0_1 : Int) (a0_2 : Int) (a0_3 : Int) (a0_4 : Int) : Option (Bool) := some (a0_0 == 0 && (a0_1 == 0 && (a0_2 == 0 && (a0_3 == 0 && (a0_4 == 0)))))
set_option maxHeartbeats 8000000 in
set_option maxRecDepth 100000 in
theorem spec_l5None.calls (a0_0 : Int) (a0_1 : Int) (a0_2 : Int) (a0_3 : Int) (a0_4 : Int) (r : Bool) (w : World) (h : spec_l5None.f a0_0 a0_1 a0_2 a0_3 a0_4 = some r) :
    Calls Try.prog 46 #[.agg #[.int .i64 a0_0, .int .i64 a0_1, .int .i64 a0_2, .int .i64 a0_3, .int .i64 a0_4]] w fun e w' => e = .returned (.bool r) ∧ Below w.heap.size w w' := by
 have hu24 := Try.underlying24
 have HB := mk_ (Below.refl w.heap.size w)
 have H : (some (a0_0 == 0 && (a0_1 == 0 && (a0_2 == 0 && (a0_3 == 0 && (a0_4 == 0)))))) = some r := h
 clear h
 obtain rfl := Option.some.inj H
 go_enter Try.func46, Try.ntmps46
 go_wp2_with (first | ((with_reducible refine gate_dst (N := 1) rfl ?_); refine box_event ?hg (N := 1) ?hd (cs := #[.int .i64 a0_0, .int .i64 a0_1, .int .i64 a0_2, .int .i64 a0_3, .int .i64 a0_4]) (t := 24) ?hr ?_; (case hd => rfl); (case hg => rfl); (case hr => first | (go_simp; done) | (go_simp; rfl)); intro gb107 hg w2 hbox hb; have n0_ := mk_ (zr3 (by repeat (first | (with_reducible first | exact HB.out | apply zq7 | apply zq8 | apply zq9) | exact HB.out)) hb); have n1_ := mk_ (hbox); have n2_ := mk_ ((by rw [hg]; exact (zr2 (by repeat (first | (with_reducible first | exact HB.out | apply zq7 | apply zq8 | apply zq9) | exact HB.out))) : w.heap.size ≤ gb107)); have n3_ := mk_ ((by rw [hg]; exact (zr2 (by repeat (first | (with_reducible first | exact HB.out | apply zq7 | apply zq8 | apply zq9) | exact HB.out))) : w.heap.size ≤ gb107)); clear HB; have HB := n0_; have BK107 := n1_; have GW107 := n2_; have GE107 := n3_; clear n0_ n1_ n2_ n3_; clear hb hbox hg; obtain ⟨hcz3_0, hcz3_1, hcz3_2, hcz3_3, hcz3_4⟩ := cz5 BK107.out; obtain ⟨hfz3_0, hfz3_1, hfz3_2, hfz3_3, hfz3_4⟩ := fz5 BK107.out))
 go_ret
 exact ⟨by first | rfl | (simp [errW_none, errW_some] <;> rfl) | (simp [*, errW_none, errW_some] <;> rfl), by repeat (first | (with_reducible first | exact HB.out | apply zq7 | apply zq8 | apply zq9 | refine zr1 ?_ GE107.out) | exact HB.out)⟩

/-! ### spec_l5One: function 69 -/
def spec_l5One.f (a0_0 : Int) (a0_1 : Int) (a0_2 : Int) (a0_3 : Int) (a0_4 : Int) (a1_0 : Int) (a1_1 : Int) (a1_2 : Int) (a1_3 : Int) (a1_4 : Int) : Option (Bool) := (spec_CfgOk.f a1_0 a1_1 a1_2 a1_3 a1_4).bind fun t110 => (if t110 = true then (some (a0_0 == a1_0)) else (some false))
set_option maxHeartbeats 8000000 in
set_option maxRecDepth 100000 in
theorem spec_l5One.calls (a0_0 : Int) (a0_1 : Int) (a0_2 : Int) (a0_3 : Int) (a0_4 : Int) (a1_0 : Int) (a1_1 : Int) (a1_2 : Int) (a1_3 : Int) (a1_4 : Int) (r : Bool) (w : World) (h : spec_l5One.f a0_0 a0_1 a0_2 a0_3 a0_4 a1_0 a1_1 a1_2 a1_3 a1_4 = some r) :
    Calls Try.prog 69 #[.agg #[.int .i64 a0_0, .int .i64 a0_1, .int .i64 a0_2, .int .i64 a0_3, .int .i64 a0_4], .agg #[.int .i64 a1_0, .int .i64 a1_1, .int .i64 a1_2, .int .i64 a1_3, .int .i64 a1_4]] w fun e w' => e = .returned (.bool r) ∧ Below w.heap.size w w' := by
 have hu24 := Try.underlying24
 have HB := mk_ (Below.refl w.heap.size w)
 have H : ((spec_CfgOk.f a1_0 a1_1 a1_2 a1_3 a1_4).bind fun t110 => (if t110 = true then (some (a0_0 == a1_0)) else (some false))) = some r := h
 clear h
 replace H := Option.bind_eq_some_iff.mp H
 obtain ⟨t110, A30, H⟩ := H
 try dsimp only at H
 have A3 := mk_ A30
 clear A30
 by_cases c4 : t110 = true
 rotate_left
 · replace c4 := Bool.eq_false_iff.mpr c4
   subst c4
   have H1 : (some false) = some r := by rw [if_neg (show ¬ (false = true) by decide)] at H; exact H
   clear H
   have H := H1
   clear H1
   obtain rfl := Option.some.inj H
   go_enter Try.func69, Try.ntmps69
   go_wp2_with (first | ((with_reducible refine gate_dst (N := 2) rfl ?_); refine box_event ?hg (N := 2) ?hd (cs := #[.int .i64 a0_0, .int .i64 a0_1, .int .i64 a0_2, .int .i64 a0_3, .int .i64 a0_4]) (t := 24) ?hr ?_; (case hd => rfl); (case hg => rfl); (case hr => first | (go_simp; done) | (go_simp; rfl)); intro gb108 hg w12 hbox hb; have n0_ := mk_ (zr3 (by repeat (first | (with_reducible first | exact HB.out | apply zq7 | apply zq8 | apply zq9) | exact HB.out)) hb); have n1_ := mk_ (hbox); have n2_ := mk_ ((by rw [hg]; exact (zr2 (by repeat (first | (with_reducible first | exact HB.out | apply zq7 | apply zq8 | apply zq9) | exact HB.out))) : w.heap.size ≤ gb108)); have n3_ := mk_ ((by rw [hg]; exact (zr2 (by repeat (first | (with_reducible first | exact HB.out | apply zq7 | apply zq8 | apply zq9) | exact HB.out))) : w.heap.size ≤ gb108)); clear HB; have HB := n0_; have BK108 := n1_; have GW108 := n2_; have GE108 := n3_; clear n0_ n1_ n2_ n3_; clear hb hbox hg) | ((with_reducible refine gate_dst (N := 3) rfl ?_); refine box_event ?hg (N := 3) ?hd (cs := #[.int .i64 a1_0, .int .i64 a1_1, .int .i64 a1_2, .int .i64 a1_3, .int .i64 a1_4]) (t := 24) ?hr ?_; (case hd => rfl); (case hg => rfl); (case hr => first | (go_simp; done) | (go_simp; rfl)); intro gb109 hg w13 hbox hb; have n0_ := mk_ (zq6 (by exact BK108.out) hb); have n1_ := mk_ (zr3 (by repeat (first | (with_reducible first | exact HB.out | apply zq7 | apply zq8 | apply zq9 | refine zr1 ?_ GE108.out) | exact HB.out)) hb); have n2_ := mk_ (hbox); have n3_ := mk_ ((by rw [hg]; exact (zr2 (by repeat (first | (with_reducible first | exact HB.out | apply zq7 | apply zq8 | apply zq9 | refine zr1 ?_ GE108.out) | exact HB.out))) : w.heap.size ≤ gb109)); have n4_ := mk_ ((by rw [hg]; exact (zr2 (by repeat (first | (with_reducible first | exact HB.out | apply zq7 | apply zq8 | apply zq9 | refine zr1 ?_ GE108.out) | exact HB.out))) : w.heap.size ≤ gb109)); have n5_ := mk_ ((by rw [hg]; exact zm2 (zr6 (by exact BK108.out)) : gb108 ≠ gb109)); have n6_ := mk_ n5_.out.symm; clear BK108; clear HB; have BK108 := n0_; have HB := n1_; have BK109 := n2_; have GW109 := n3_; have GE109 := n4_; have NB108_109 := n5_; have NB109_108 := n6_; clear n0_ n1_ n2_ n3_ n4_ n5_ n6_; clear hb hbox hg; have hnb14 := NB109_108.out; have hnc14 := NB108_109.out; obtain ⟨hcz15_0, hcz15_1, hcz15_2, hcz15_3, hcz15_4⟩ := cz5 BK109.out; obtain ⟨hfz15_0, hfz15_1, hfz15_2, hfz15_3, hfz15_4⟩ := fz5 BK109.out) | ((with_reducible refine gate_callee (f := 17) rfl ?_); refine goesL_ (some 6) rfl rfl Try.func17 (by kernel_rfl) rfl #[.agg #[.int .i64 a1_0, .int .i64 a1_1, .int .i64 a1_2, .int .i64 a1_3, .int .i64 a1_4]] rfl (by (try simp only [List.map_toArray, List.map_cons, List.map_nil]); first | done | rfl | (simp only [List.length_drop, List.length_take]; rfl)) ?_; (with_reducible refine (spec_CfgOk.calls a1_0 a1_1 a1_2 a1_3 a1_4 false _ A3.out).mono ?_); rintro e w16 ⟨rfl, hb⟩; refine ⟨_, rfl, ?_⟩; have n0_ := mk_ (zq6 (by exact BK108.out) hb); have n1_ := mk_ (zq6 (by exact BK109.out) hb); have n2_ := mk_ (zr3 (by repeat (first | (with_reducible first | exact HB.out | apply zq7 | apply zq8 | apply zq9 | refine zr1 ?_ GE108.out | refine zr1 ?_ GE109.out) | exact HB.out)) hb); clear BK108; clear BK109; clear HB; have BK108 := n0_; have BK109 := n1_; have HB := n2_; clear n0_ n1_ n2_; (try clear hb); (try clear hb2); (try clear hk); (try clear hi)))
   go_ret
   exact ⟨by first | rfl | (simp [errW_none, errW_some] <;> rfl) | (simp [*, errW_none, errW_some] <;> rfl), by repeat (first | (with_reducible first | exact HB.out | apply zq7 | apply zq8 | apply zq9 | refine zr1 ?_ GE108.out | refine zr1 ?_ GE109.out) | exact HB.out)⟩
 subst c4
 have H1 : (some (a0_0 == a1_0)) = some r := by rw [if_pos rfl] at H; exact H
 clear H
 have H := H1
 clear H1
 obtain rfl := Option.some.inj H
 go_enter Try.func69, Try.ntmps69
 go_wp2_with (first | ((with_reducible refine gate_dst (N := 2) rfl ?_); refine box_event ?hg (N := 2) ?hd (cs := #[.int .i64 a0_0, .int .i64 a0_1, .int .i64 a0_2, .int .i64 a0_3, .int .i64 a0_4]) (t := 24) ?hr ?_; (case hd => rfl); (case hg => rfl); (case hr => first | (go_simp; done) | (go_simp; rfl)); intro gb108 hg w5 hbox hb; have n0_ := mk_ (zr3 (by repeat (first | (with_reducible first | exact HB.out | apply zq7 | apply zq8 | apply zq9) | exact HB.out)) hb); have n1_ := mk_ (hbox); have n2_ := mk_ ((by rw [hg]; exact (zr2 (by repeat (first | (with_reducible first | exact HB.out | apply zq7 | apply zq8 | apply zq9) | exact HB.out))) : w.heap.size ≤ gb108)); have n3_ := mk_ ((by rw [hg]; exact (zr2 (by repeat (first | (with_reducible first | exact HB.out | apply zq7 | apply zq8 | apply zq9) | exact HB.out))) : w.heap.size ≤ gb108)); clear HB; have HB := n0_; have BK108 := n1_; have GW108 := n2_; have GE108 := n3_; clear n0_ n1_ n2_ n3_; clear hb hbox hg) | ((with_reducible refine gate_dst (N := 3) rfl ?_); refine box_event ?hg (N := 3) ?hd (cs := #[.int .i64 a1_0, .int .i64 a1_1, .int .i64 a1_2, .int .i64 a1_3, .int .i64 a1_4]) (t := 24) ?hr ?_; (case hd => rfl); (case hg => rfl); (case hr => first | (go_simp; done) | (go_simp; rfl)); intro gb109 hg w6 hbox hb; have n0_ := mk_ (zq6 (by exact BK108.out) hb); have n1_ := mk_ (zr3 (by repeat (first | (with_reducible first | exact HB.out | apply zq7 | apply zq8 | apply zq9 | refine zr1 ?_ GE108.out) | exact HB.out)) hb); have n2_ := mk_ (hbox); have n3_ := mk_ ((by rw [hg]; exact (zr2 (by repeat (first | (with_reducible first | exact HB.out | apply zq7 | apply zq8 | apply zq9 | refine zr1 ?_ GE108.out) | exact HB.out))) : w.heap.size ≤ gb109)); have n4_ := mk_ ((by rw [hg]; exact (zr2 (by repeat (first | (with_reducible first | exact HB.out | apply zq7 | apply zq8 | apply zq9 | refine zr1 ?_ GE108.out) | exact HB.out))) : w.heap.size ≤ gb109)); have n5_ := mk_ ((by rw [hg]; exact zm2 (zr6 (by exact BK108.out)) : gb108 ≠ gb109)); have n6_ := mk_ n5_.out.symm; clear BK108; clear HB; have BK108 := n0_; have HB := n1_; have BK109 := n2_; have GW109 := n3_; have GE109 := n4_; have NB108_109 := n5_; have NB109_108 := n6_; clear n0_ n1_ n2_ n3_ n4_ n5_ n6_; clear hb hbox hg; have hnb7 := NB109_108.out; have hnc7 := NB108_109.out; obtain ⟨hcz8_0, hcz8_1, hcz8_2, hcz8_3, hcz8_4⟩ := cz5 BK109.out; obtain ⟨hfz8_0, hfz8_1, hfz8_2, hfz8_3, hfz8_4⟩ := fz5 BK109.out) | ((with_reducible refine gate_callee (f := 17) rfl ?_); refine goesL_ (some 6) rfl rfl Try.func17 (by kernel_rfl) rfl #[.agg #[.int .i64 a1_0, .int .i64 a1_1, .int .i64 a1_2, .int .i64 a1_3, .int .i64 a1_4]] rfl (by (try simp only [List.map_toArray, List.map_cons, List.map_nil]); first | done | rfl | (simp only [List.length_drop, List.length_take]; rfl)) ?_; (with_reducible refine (spec_CfgOk.calls a1_0 a1_1 a1_2 a1_3 a1_4 true _ A3.out).mono ?_); rintro e w9 ⟨rfl, hb⟩; refine ⟨_, rfl, ?_⟩; have n0_ := mk_ (zq6 (by exact BK108.out) hb); have n1_ := mk_ (zq6 (by exact BK109.out) hb); have n2_ := mk_ (zr3 (by repeat (first | (with_reducible first | exact HB.out | apply zq7 | apply zq8 | apply zq9 | refine zr1 ?_ GE108.out | refine zr1 ?_ GE109.out) | exact HB.out)) hb); clear BK108; clear BK109; clear HB; have BK108 := n0_; have BK109 := n1_; have HB := n2_; clear n0_ n1_ n2_; (try clear hb); (try clear hb2); (try clear hk); (try clear hi); obtain ⟨hcz10_0, hcz10_1, hcz10_2, hcz10_3, hcz10_4⟩ := cz5 BK108.out; obtain ⟨hfz10_0, hfz10_1, hfz10_2, hfz10_3, hfz10_4⟩ := fz5 BK108.out; obtain ⟨hcz11_0, hcz11_1, hcz11_2, hcz11_3, hcz11_4⟩ := cz5 BK109.out; obtain ⟨hfz11_0, hfz11_1, hfz11_2, hfz11_3, hfz11_4⟩ := fz5 BK109.out))
 go_ret
 exact ⟨by first | rfl | (simp [errW_none, errW_some] <;> rfl) | (simp [*, errW_none, errW_some] <;> rfl), by repeat (first | (with_reducible first | exact HB.out | apply zq7 | apply zq8 | apply zq9 | refine zr1 ?_ GE108.out | refine zr1 ?_ GE109.out) | exact HB.out)⟩

/-! ### spec_NegOk: function 45 -/
def spec_NegOk.f (a0_0 : Int) (a0_1 : Int) (a0_2 : Int) (a0_3 : Int) (a0_4 : Int) (a0_5 : Int) (a0_6 : Int) (a0_7 : Int) (a0_8 : Int) (a0_9 : Int) (a0_10 : Int) (a0_11 : Int) (a0_12 : Int) (a0_13 : Int) (a0_14 : Int) (a0_15 : Int) (a0_16 : Int) (a0_17 : Int) (a0_18 : Int) (a0_19 : Int) (a0_20 : Bool) : Option (Bool) := (spec_CfgOk.f a0_0 a0_1 a0_2 a0_3 a0_4).bind fun t112 => (if t112 = true then ((spec_l5One.f a0_0 a0_1 a0_2 a0_3 a0_4 a0_5 a0_6 a0_7 a0_8 a0_9).bind fun t113 => (if t113 = true then ((spec_l5None.f a0_10 a0_11 a0_12 a0_13 a0_14).bind fun t114 => (if t114 = true then ((spec_l5None.f a0_15 a0_16 a0_17 a0_18 a0_19).bind fun t115 => (if t115 = true then (some true) else ((spec_l5One.f a0_0 a0_1 a0_2 a0_3 a0_4 a0_15 a0_16 a0_17 a0_18 a0_19).bind fun t116 => (some t116)))) else ((spec_l5One.f a0_0 a0_1 a0_2 a0_3 a0_4 a0_10 a0_11 a0_12 a0_13 a0_14).bind fun t117 => (if t117 = true then ((spec_l5None.f a0_15 a0_16 a0_17 a0_18 a0_19).bind fun t118 => (if t118 = true then (some true) else ((spec_l5One.f a0_0 a0_1 a0_2 a0_3 a0_4 a0_15 a0_16 a0_17 a0_18 a0_19).bind fun t119 => (some t119)))) else (some false))))) else (some false))) else (some false))
set_option maxHeartbeats 8000000 in
set_option maxRecDepth 100000 in
theorem spec_NegOk.calls (a0_0 : Int) (a0_1 : Int) (a0_2 : Int) (a0_3 : Int) (a0_4 : Int) (a0_5 : Int) (a0_6 : Int) (a0_7 : Int) (a0_8 : Int) (a0_9 : Int) (a0_10 : Int) (a0_11 : Int) (a0_12 : Int) (a0_13 : Int) (a0_14 : Int) (a0_15 : Int) (a0_16 : Int) (a0_17 : Int) (a0_18 : Int) (a0_19 : Int) (a0_20 : Bool) (r : Bool) (w : World) (h : spec_NegOk.f a0_0 a0_1 a0_2 a0_3 a0_4 a0_5 a0_6 a0_7 a0_8 a0_9 a0_10 a0_11 a0_12 a0_13 a0_14 a0_15 a0_16 a0_17 a0_18 a0_19 a0_20 = some r) :
    Calls Try.prog 45 #[.agg #[.int .i64 a0_0, .int .i64 a0_1, .int .i64 a0_2, .int .i64 a0_3, .int .i64 a0_4, .int .i64 a0_5, .int .i64 a0_6, .int .i64 a0_7, .int .i64 a0_8, .int .i64 a0_9, .int .i64 a0_10, .int .i64 a0_11, .int .i64 a0_12, .int .i64 a0_13, .int .i64 a0_14, .int .i64 a0_15, .int .i64 a0_16, .int .i64 a0_17, .int .i64 a0_18, .int .i64 a0_19, .bool a0_20]] w fun e w' => e = .returned (.bool r) ∧ Below w.heap.size w w' := by
 have hu50 := Try.underlying50
 have hu24 := Try.underlying24
 have HB := mk_ (Below.refl w.heap.size w)
 have H : ((spec_CfgOk.f a0_0 a0_1 a0_2 a0_3 a0_4).bind fun t112 => (if t112 = true then ((spec_l5One.f a0_0 a0_1 a0_2 a0_3 a0_4 a0_5 a0_6 a0_7 a0_8 a0_9).bind fun t113 => (if t113 = true then ((spec_l5None.f a0_10 a0_11 a0_12 a0_13 a0_14).bind fun t114 => (if t114 = true then ((spec_l5None.f a0_15 a0_16 a0_17 a0_18 a0_19).bind fun t115 => (if t115 = true then (some true) else ((spec_l5One.f a0_0 a0_1 a0_2 a0_3 a0_4 a0_15 a0_16 a0_17 a0_18 a0_19).bind fun t116 => (some t116)))) else ((spec_l5One.f a0_0 a0_1 a0_2 a0_3 a0_4 a0_10 a0_11 a0_12 a0_13 a0_14).bind fun t117 => (if t117 = true then ((spec_l5None.f a0_15 a0_16 a0_17 a0_18 a0_19).bind fun t118 => (if t118 = true then (some true) else ((spec_l5One.f a0_0 a0_1 a0_2 a0_3 a0_4 a0_15 a0_16 a0_17 a0_18 a0_19).bind fun t119 => (some t119)))) else (some false))))) else (some false))) else (some false))) = some r := h
 clear h
 replace H := Option.bind_eq_some_iff.mp H
 obtain ⟨t112, A20, H⟩ := H
 try dsimp only at H
 have A2 := mk_ A20
 clear A20
 by_cases c3 : t112 = true
 rotate_left
 · replace c3 := Bool.eq_false_iff.mpr c3
   subst c3
   have H1 : (some false) = some r := by rw [if_neg (show ¬ (false = true) by decide)] at H; exact H
   clear H
   have H := H1
   clear H1
   obtain rfl := Option.some.inj H
   go_enter Try.func45, Try.ntmps45
   go_wp2_with (first | ((with_reducible refine gate_ty (t := 50) (x := .tmp 1) rfl ?_); refine st21 rfl rfl rfl rfl (by first | (with_reducible exact BK111.out) | (with_reducible exact (pu21 BK111.out))) (by kernel_rfl) rfl ?_) | ((with_reducible refine gate_ld (t := 50) (x := .tmp 1) rfl ?_); refine wpList_load_row rfl 50 _ rfl _ rfl _ _ _ _ (by first | (with_reducible exact BK111.out) | (with_reducible exact (pu21 BK111.out))) Try.underlying50 rfl (by kernel_rfl) ?_) | ((with_reducible refine gate_dst (N := 1) rfl ?_); refine box_event ?hg (N := 1) ?hd (cs := #[.int .i64 a0_0, .int .i64 a0_1, .int .i64 a0_2, .int .i64 a0_3, .int .i64 a0_4, .int .i64 a0_5, .int .i64 a0_6, .int .i64 a0_7, .int .i64 a0_8, .int .i64 a0_9, .int .i64 a0_10, .int .i64 a0_11, .int .i64 a0_12, .int .i64 a0_13, .int .i64 a0_14, .int .i64 a0_15, .int .i64 a0_16, .int .i64 a0_17, .int .i64 a0_18, .int .i64 a0_19, .bool a0_20]) (t := 50) ?hr ?_; (case hd => rfl); (case hg => rfl); (case hr => first | (go_simp; done) | (go_simp; rfl)); intro gb111 hg w74 hbox hb; have n0_ := mk_ (zr3 (by repeat (first | (with_reducible first | exact HB.out | apply zq7 | apply zq8 | apply zq9) | exact HB.out)) hb); have n1_ := mk_ (hbox); have n2_ := mk_ ((by rw [hg]; exact (zr2 (by repeat (first | (with_reducible first | exact HB.out | apply zq7 | apply zq8 | apply zq9) | exact HB.out))) : w.heap.size ≤ gb111)); have n3_ := mk_ ((by rw [hg]; exact (zr2 (by repeat (first | (with_reducible first | exact HB.out | apply zq7 | apply zq8 | apply zq9) | exact HB.out))) : w.heap.size ≤ gb111)); clear HB; have HB := n0_; have BK111 := n1_; have GW111 := n2_; have GE111 := n3_; clear n0_ n1_ n2_ n3_; clear hb hbox hg; obtain ⟨hcz75_0, hcz75_1, hcz75_2, hcz75_3, hcz75_4, hcz75_5, hcz75_6, hcz75_7, hcz75_8, hcz75_9, hcz75_10, hcz75_11, hcz75_12, hcz75_13, hcz75_14, hcz75_15, hcz75_16, hcz75_17, hcz75_18, hcz75_19, hcz75_20⟩ := cz21 BK111.out; obtain ⟨hfz75_0, hfz75_1, hfz75_2, hfz75_3, hfz75_4, hfz75_5, hfz75_6, hfz75_7, hfz75_8, hfz75_9, hfz75_10, hfz75_11, hfz75_12, hfz75_13, hfz75_14, hfz75_15, hfz75_16, hfz75_17, hfz75_18, hfz75_19, hfz75_20⟩ := fz21 BK111.out) | ((with_reducible refine gate_callee (f := 17) rfl ?_); refine goesL_ (some 5) rfl rfl Try.func17 (by kernel_rfl) rfl #[.agg #[.int .i64 a0_0, .int .i64 a0_1, .int .i64 a0_2, .int .i64 a0_3, .int .i64 a0_4]] rfl (by (try simp only [List.map_toArray, List.map_cons, List.map_nil]); first | done | rfl | (simp only [List.length_drop, List.length_take]; rfl)) ?_; (with_reducible refine (spec_CfgOk.calls a0_0 a0_1 a0_2 a0_3 a0_4 false _ A2.out).mono ?_); rintro e w76 ⟨rfl, hb⟩; refine ⟨_, rfl, ?_⟩; have n0_ := mk_ (zq6 (by exact BK111.out) hb); have n1_ := mk_ (zr3 (by repeat (first | (with_reducible first | exact HB.out | apply zq7 | apply zq8 | apply zq9 | refine zr1 ?_ GE111.out) | exact HB.out)) hb); clear BK111; clear HB; have BK111 := n0_; have HB := n1_; clear n0_ n1_; (try clear hb); (try clear hb2); (try clear hk); (try clear hi)))
   go_ret
   exact ⟨by first | rfl | (simp [errW_none, errW_some] <;> rfl) | (simp [*, errW_none, errW_some] <;> rfl), by repeat (first | (with_reducible first | exact HB.out | apply zq7 | apply zq8 | apply zq9 | refine zr1 ?_ GE111.out) | exact HB.out)⟩
 subst c3
 have H1 : ((spec_l5One.f a0_0 a0_1 a0_2 a0_3 a0_4 a0_5 a0_6 a0_7 a0_8 a0_9).bind fun t113 => (if t113 = true then ((spec_l5None.f a0_10 a0_11 a0_12 a0_13 a0_14).bind fun t114 => (if t114 = true then ((spec_l5None.f a0_15 a0_16 a0_17 a0_18 a0_19).bind fun t115 => (if t115 = true then (some true) else ((spec_l5One.f a0_0 a0_1 a0_2 a0_3 a0_4 a0_15 a0_16 a0_17 a0_18 a0_19).bind fun t116 => (some t116)))) else ((spec_l5One.f a0_0 a0_1 a0_2 a0_3 a0_4 a0_10 a0_11 a0_12 a0_13 a0_14).bind fun t117 => (if t117 = true then ((spec_l5None.f a0_15 a0_16 a0_17 a0_18 a0_19).bind fun t118 => (if t118 = true then (some true) else ((spec_l5One.f a0_0 a0_1 a0_2 a0_3 a0_4 a0_15 a0_16 a0_17 a0_18 a0_19).bind fun t119 => (some t119)))) else (some false))))) else (some false))) = some r := by rw [if_pos rfl] at H; exact H
 clear H
 have H := H1
 clear H1
 replace H := Option.bind_eq_some_iff.mp H
 obtain ⟨t113, A40, H⟩ := H
 try dsimp only at H
 have A4 := mk_ A40
 clear A40
 have HH_ := mk_ H
 clear H
 go_enter Try.func45, Try.ntmps45
 go_wp2_with (first | ((with_reducible refine gate_ty (t := 50) (x := .tmp 1) rfl ?_); refine st21 rfl rfl rfl rfl (by first | (with_reducible exact BK111.out) | (with_reducible exact (pu21 BK111.out))) (by kernel_rfl) rfl ?_) | ((with_reducible refine gate_ld (t := 50) (x := .tmp 1) rfl ?_); refine wpList_load_row rfl 50 _ rfl _ rfl _ _ _ _ (by first | (with_reducible exact BK111.out) | (with_reducible exact (pu21 BK111.out))) Try.underlying50 rfl (by kernel_rfl) ?_) | ((with_reducible refine gate_dst (N := 1) rfl ?_); refine box_event ?hg (N := 1) ?hd (cs := #[.int .i64 a0_0, .int .i64 a0_1, .int .i64 a0_2, .int .i64 a0_3, .int .i64 a0_4, .int .i64 a0_5, .int .i64 a0_6, .int .i64 a0_7, .int .i64 a0_8, .int .i64 a0_9, .int .i64 a0_10, .int .i64 a0_11, .int .i64 a0_12, .int .i64 a0_13, .int .i64 a0_14, .int .i64 a0_15, .int .i64 a0_16, .int .i64 a0_17, .int .i64 a0_18, .int .i64 a0_19, .bool a0_20]) (t := 50) ?hr ?_; (case hd => rfl); (case hg => rfl); (case hr => first | (go_simp; done) | (go_simp; rfl)); intro gb111 hg w10 hbox hb; have n0_ := mk_ (zr3 (by repeat (first | (with_reducible first | exact HB.out | apply zq7 | apply zq8 | apply zq9) | exact HB.out)) hb); have n1_ := mk_ (hbox); have n2_ := mk_ ((by rw [hg]; exact (zr2 (by repeat (first | (with_reducible first | exact HB.out | apply zq7 | apply zq8 | apply zq9) | exact HB.out))) : w.heap.size ≤ gb111)); have n3_ := mk_ ((by rw [hg]; exact (zr2 (by repeat (first | (with_reducible first | exact HB.out | apply zq7 | apply zq8 | apply zq9) | exact HB.out))) : w.heap.size ≤ gb111)); clear HB; have HB := n0_; have BK111 := n1_; have GW111 := n2_; have GE111 := n3_; clear n0_ n1_ n2_ n3_; clear hb hbox hg; obtain ⟨hcz11_0, hcz11_1, hcz11_2, hcz11_3, hcz11_4, hcz11_5, hcz11_6, hcz11_7, hcz11_8, hcz11_9, hcz11_10, hcz11_11, hcz11_12, hcz11_13, hcz11_14, hcz11_15, hcz11_16, hcz11_17, hcz11_18, hcz11_19, hcz11_20⟩ := cz21 BK111.out; obtain ⟨hfz11_0, hfz11_1, hfz11_2, hfz11_3, hfz11_4, hfz11_5, hfz11_6, hfz11_7, hfz11_8, hfz11_9, hfz11_10, hfz11_11, hfz11_12, hfz11_13, hfz11_14, hfz11_15, hfz11_16, hfz11_17, hfz11_18, hfz11_19, hfz11_20⟩ := fz21 BK111.out) | ((with_reducible refine gate_callee (f := 17) rfl ?_); refine goesL_ (some 5) rfl rfl Try.func17 (by kernel_rfl) rfl #[.agg #[.int .i64 a0_0, .int .i64 a0_1, .int .i64 a0_2, .int .i64 a0_3, .int .i64 a0_4]] rfl (by (try simp only [List.map_toArray, List.map_cons, List.map_nil]); first | done | rfl | (simp only [List.length_drop, List.length_take]; rfl)) ?_; (with_reducible refine (spec_CfgOk.calls a0_0 a0_1 a0_2 a0_3 a0_4 true _ A2.out).mono ?_); rintro e w12 ⟨rfl, hb⟩; refine ⟨_, rfl, ?_⟩; have n0_ := mk_ (zq6 (by exact BK111.out) hb); have n1_ := mk_ (zr3 (by repeat (first | (with_reducible first | exact HB.out | apply zq7 | apply zq8 | apply zq9 | refine zr1 ?_ GE111.out) | exact HB.out)) hb); clear BK111; clear HB; have BK111 := n0_; have HB := n1_; clear n0_ n1_; (try clear hb); (try clear hb2); (try clear hk); (try clear hi); obtain ⟨hcz13_0, hcz13_1, hcz13_2, hcz13_3, hcz13_4, hcz13_5, hcz13_6, hcz13_7, hcz13_8, hcz13_9, hcz13_10, hcz13_11, hcz13_12, hcz13_13, hcz13_14, hcz13_15, hcz13_16, hcz13_17, hcz13_18, hcz13_19, hcz13_20⟩ := cz21 BK111.out; obtain ⟨hfz13_0, hfz13_1, hfz13_2, hfz13_3, hfz13_4, hfz13_5, hfz13_6, hfz13_7, hfz13_8, hfz13_9, hfz13_10, hfz13_11, hfz13_12, hfz13_13, hfz13_14, hfz13_15, hfz13_16, hfz13_17, hfz13_18, hfz13_19, hfz13_20⟩ := fz21 BK111.out))
 have H := HH_.out
 clear HH_
 by_cases c5 : t113 = true
 rotate_left
 · replace c5 := Bool.eq_false_iff.mpr c5
   subst c5
   have H1 : (some false) = some r := by rw [if_neg (show ¬ (false = true) by decide)] at H; exact H
   clear H
   have H := H1
   clear H1
   obtain rfl := Option.some.inj H
   go_wp2_with (first | ((with_reducible refine gate_ty (t := 50) (x := .tmp 1) rfl ?_); refine st21 rfl rfl rfl rfl (by first | (with_reducible exact BK111.out) | (with_reducible exact (pu21 BK111.out))) (by kernel_rfl) rfl ?_) | ((with_reducible refine gate_ld (t := 50) (x := .tmp 1) rfl ?_); refine wpList_load_row rfl 50 _ rfl _ rfl _ _ _ _ (by first | (with_reducible exact BK111.out) | (with_reducible exact (pu21 BK111.out))) Try.underlying50 rfl (by kernel_rfl) ?_) | (go_at_call 69; (with_reducible refine (spec_l5One.calls a0_0 a0_1 a0_2 a0_3 a0_4 a0_5 a0_6 a0_7 a0_8 a0_9 false _ A4.out).mono ?_); rintro e w73 ⟨rfl, hb⟩; have n0_ := mk_ (zq6 (by exact BK111.out) hb); have n1_ := mk_ (zr3 (by repeat (first | (with_reducible first | exact HB.out | apply zq7 | apply zq8 | apply zq9 | refine zr1 ?_ GE111.out) | exact HB.out)) hb); clear BK111; clear HB; have BK111 := n0_; have HB := n1_; clear n0_ n1_; (try clear hb); (try clear hb2); (try clear hk); (try clear hi)))
   go_ret
   exact ⟨by first | rfl | (simp [errW_none, errW_some] <;> rfl) | (simp [*, errW_none, errW_some] <;> rfl), by repeat (first | (with_reducible first | exact HB.out | apply zq7 | apply zq8 | apply zq9 | refine zr1 ?_ GE111.out) | exact HB.out)⟩
 subst c5
 have H1 : ((spec_l5None.f a0_10 a0_11 a0_12 a0_13 a0_14).bind fun t114 => (if t114 = true then ((spec_l5None.f a0_15 a0_16 a0_17 a0_18 a0_19).bind fun t115 => (if t115 = true then (some true) else ((spec_l5One.f a0_0 a0_1 a0_2 a0_3 a0_4 a0_15 a0_16 a0_17 a0_18 a0_19).bind fun t116 => (some t116)))) else ((spec_l5One.f a0_0 a0_1 a0_2 a0_3 a0_4 a0_10 a0_11 a0_12 a0_13 a0_14).bind fun t117 => (if t117 = true then ((spec_l5None.f a0_15 a0_16 a0_17 a0_18 a0_19).bind fun t118 => (if t118 = true then (some true) else ((spec_l5One.f a0_0 a0_1 a0_2 a0_3 a0_4 a0_15 a0_16 a0_17 a0_18 a0_19).bind fun t119 => (some t119)))) else (some false))))) = some r := by rw [if_pos rfl] at H; exact H
 clear H
 have H := H1
 clear H1
 replace H := Option.bind_eq_some_iff.mp H
 obtain ⟨t114, A60, H⟩ := H
 try dsimp only at H
 have A6 := mk_ A60
 clear A60
 have HH_ := mk_ H
 clear H
 go_wp2_with (first | ((with_reducible refine gate_ty (t := 50) (x := .tmp 1) rfl ?_); refine st21 rfl rfl rfl rfl (by first | (with_reducible exact BK111.out) | (with_reducible exact (pu21 BK111.out))) (by kernel_rfl) rfl ?_) | ((with_reducible refine gate_ld (t := 50) (x := .tmp 1) rfl ?_); refine wpList_load_row rfl 50 _ rfl _ rfl _ _ _ _ (by first | (with_reducible exact BK111.out) | (with_reducible exact (pu21 BK111.out))) Try.underlying50 rfl (by kernel_rfl) ?_) | (go_at_call 69; (with_reducible refine (spec_l5One.calls a0_0 a0_1 a0_2 a0_3 a0_4 a0_5 a0_6 a0_7 a0_8 a0_9 true _ A4.out).mono ?_); rintro e w14 ⟨rfl, hb⟩; have n0_ := mk_ (zq6 (by exact BK111.out) hb); have n1_ := mk_ (zr3 (by repeat (first | (with_reducible first | exact HB.out | apply zq7 | apply zq8 | apply zq9 | refine zr1 ?_ GE111.out) | exact HB.out)) hb); clear BK111; clear HB; have BK111 := n0_; have HB := n1_; clear n0_ n1_; (try clear hb); (try clear hb2); (try clear hk); (try clear hi); obtain ⟨hcz15_0, hcz15_1, hcz15_2, hcz15_3, hcz15_4, hcz15_5, hcz15_6, hcz15_7, hcz15_8, hcz15_9, hcz15_10, hcz15_11, hcz15_12, hcz15_13, hcz15_14, hcz15_15, hcz15_16, hcz15_17, hcz15_18, hcz15_19, hcz15_20⟩ := cz21 BK111.out; obtain ⟨hfz15_0, hfz15_1, hfz15_2, hfz15_3, hfz15_4, hfz15_5, hfz15_6, hfz15_7, hfz15_8, hfz15_9, hfz15_10, hfz15_11, hfz15_12, hfz15_13, hfz15_14, hfz15_15, hfz15_16, hfz15_17, hfz15_18, hfz15_19, hfz15_20⟩ := fz21 BK111.out))
 have H := HH_.out
 clear HH_
 by_cases c7 : t114 = true
 · subst c7
   have H1 : ((spec_l5None.f a0_15 a0_16 a0_17 a0_18 a0_19).bind fun t115 => (if t115 = true then (some true) else ((spec_l5One.f a0_0 a0_1 a0_2 a0_3 a0_4 a0_15 a0_16 a0_17 a0_18 a0_19).bind fun t116 => (some t116)))) = some r := by rw [if_pos rfl] at H; exact H
   clear H
   have H := H1
   clear H1
   replace H := Option.bind_eq_some_iff.mp H
   obtain ⟨t115, A80, H⟩ := H
   try dsimp only at H
   have A8 := mk_ A80
   clear A80
   have HH_ := mk_ H
   clear H
   go_wp2_with (first | ((with_reducible refine gate_ty (t := 50) (x := .tmp 1) rfl ?_); refine st21 rfl rfl rfl rfl (by first | (with_reducible exact BK111.out) | (with_reducible exact (pu21 BK111.out))) (by kernel_rfl) rfl ?_) | ((with_reducible refine gate_ld (t := 50) (x := .tmp 1) rfl ?_); refine wpList_load_row rfl 50 _ rfl _ rfl _ _ _ _ (by first | (with_reducible exact BK111.out) | (with_reducible exact (pu21 BK111.out))) Try.underlying50 rfl (by kernel_rfl) ?_) | (go_at_call 46; (with_reducible refine (spec_l5None.calls a0_10 a0_11 a0_12 a0_13 a0_14 true _ A6.out).mono ?_); rintro e w16 ⟨rfl, hb⟩; have n0_ := mk_ (zq6 (by exact BK111.out) hb); have n1_ := mk_ (zr3 (by repeat (first | (with_reducible first | exact HB.out | apply zq7 | apply zq8 | apply zq9 | refine zr1 ?_ GE111.out) | exact HB.out)) hb); clear BK111; clear HB; have BK111 := n0_; have HB := n1_; clear n0_ n1_; (try clear hb); (try clear hb2); (try clear hk); (try clear hi); obtain ⟨hcz17_0, hcz17_1, hcz17_2, hcz17_3, hcz17_4, hcz17_5, hcz17_6, hcz17_7, hcz17_8, hcz17_9, hcz17_10, hcz17_11, hcz17_12, hcz17_13, hcz17_14, hcz17_15, hcz17_16, hcz17_17, hcz17_18, hcz17_19, hcz17_20⟩ := cz21 BK111.out; obtain ⟨hfz17_0, hfz17_1, hfz17_2, hfz17_3, hfz17_4, hfz17_5, hfz17_6, hfz17_7, hfz17_8, hfz17_9, hfz17_10, hfz17_11, hfz17_12, hfz17_13, hfz17_14, hfz17_15, hfz17_16, hfz17_17, hfz17_18, hfz17_19, hfz17_20⟩ := fz21 BK111.out))
   have H := HH_.out
   clear HH_
   by_cases c9 : t115 = true
   · subst c9
     have H1 : (some true) = some r := by rw [if_pos rfl] at H; exact H
     clear H
     have H := H1
     clear H1
     obtain rfl := Option.some.inj H
     go_wp2_with (first | ((with_reducible refine gate_ty (t := 50) (x := .tmp 1) rfl ?_); refine st21 rfl rfl rfl rfl (by first | (with_reducible exact BK111.out) | (with_reducible exact (pu21 BK111.out))) (by kernel_rfl) rfl ?_) | ((with_reducible refine gate_ld (t := 50) (x := .tmp 1) rfl ?_); refine wpList_load_row rfl 50 _ rfl _ rfl _ _ _ _ (by first | (with_reducible exact BK111.out) | (with_reducible exact (pu21 BK111.out))) Try.underlying50 rfl (by kernel_rfl) ?_) | (go_at_call 46; (with_reducible refine (spec_l5None.calls a0_15 a0_16 a0_17 a0_18 a0_19 true _ A8.out).mono ?_); rintro e w18 ⟨rfl, hb⟩; have n0_ := mk_ (zq6 (by exact BK111.out) hb); have n1_ := mk_ (zr3 (by repeat (first | (with_reducible first | exact HB.out | apply zq7 | apply zq8 | apply zq9 | refine zr1 ?_ GE111.out) | exact HB.out)) hb); clear BK111; clear HB; have BK111 := n0_; have HB := n1_; clear n0_ n1_; (try clear hb); (try clear hb2); (try clear hk); (try clear hi)))
     go_ret
     exact ⟨by first | rfl | (simp [errW_none, errW_some] <;> rfl) | (simp [*, errW_none, errW_some] <;> rfl), by repeat (first | (with_reducible first | exact HB.out | apply zq7 | apply zq8 | apply zq9 | refine zr1 ?_ GE111.out) | exact HB.out)⟩
   replace c9 := Bool.eq_false_iff.mpr c9
   subst c9
   have H1 : ((spec_l5One.f a0_0 a0_1 a0_2 a0_3 a0_4 a0_15 a0_16 a0_17 a0_18 a0_19).bind fun t116 => (some t116)) = some r := by rw [if_neg (show ¬ (false = true) by decide)] at H; exact H
   clear H
   have H := H1
   clear H1
   replace H := Option.bind_eq_some_iff.mp H
   obtain ⟨t116, A190, H⟩ := H
   try dsimp only at H
   have A19 := mk_ A190
   clear A190
   obtain rfl := Option.some.inj H
   go_wp2_with (first | ((with_reducible refine gate_ty (t := 50) (x := .tmp 1) rfl ?_); refine st21 rfl rfl rfl rfl (by first | (with_reducible exact BK111.out) | (with_reducible exact (pu21 BK111.out))) (by kernel_rfl) rfl ?_) | ((with_reducible refine gate_ld (t := 50) (x := .tmp 1) rfl ?_); refine wpList_load_row rfl 50 _ rfl _ rfl _ _ _ _ (by first | (with_reducible exact BK111.out) | (with_reducible exact (pu21 BK111.out))) Try.underlying50 rfl (by kernel_rfl) ?_) | (go_at_call 46; (with_reducible refine (spec_l5None.calls a0_15 a0_16 a0_17 a0_18 a0_19 false _ A8.out).mono ?_); rintro e w28 ⟨rfl, hb⟩; have n0_ := mk_ (zq6 (by exact BK111.out) hb); have n1_ := mk_ (zr3 (by repeat (first | (with_reducible first | exact HB.out | apply zq7 | apply zq8 | apply zq9 | refine zr1 ?_ GE111.out) | exact HB.out)) hb); clear BK111; clear HB; have BK111 := n0_; have HB := n1_; clear n0_ n1_; (try clear hb); (try clear hb2); (try clear hk); (try clear hi); obtain ⟨hcz29_0, hcz29_1, hcz29_2, hcz29_3, hcz29_4, hcz29_5, hcz29_6, hcz29_7, hcz29_8, hcz29_9, hcz29_10, hcz29_11, hcz29_12, hcz29_13, hcz29_14, hcz29_15, hcz29_16, hcz29_17, hcz29_18, hcz29_19, hcz29_20⟩ := cz21 BK111.out; obtain ⟨hfz29_0, hfz29_1, hfz29_2, hfz29_3, hfz29_4, hfz29_5, hfz29_6, hfz29_7, hfz29_8, hfz29_9, hfz29_10, hfz29_11, hfz29_12, hfz29_13, hfz29_14, hfz29_15, hfz29_16, hfz29_17, hfz29_18, hfz29_19, hfz29_20⟩ := fz21 BK111.out) | (go_at_call 69; (with_reducible refine (spec_l5One.calls a0_0 a0_1 a0_2 a0_3 a0_4 a0_15 a0_16 a0_17 a0_18 a0_19 t116 _ A19.out).mono ?_); rintro e w30 ⟨rfl, hb⟩; have n0_ := mk_ (zq6 (by exact BK111.out) hb); have n1_ := mk_ (zr3 (by repeat (first | (with_reducible first | exact HB.out | apply zq7 | apply zq8 | apply zq9 | refine zr1 ?_ GE111.out) | exact HB.out)) hb); clear BK111; clear HB; have BK111 := n0_; have HB := n1_; clear n0_ n1_; (try clear hb); (try clear hb2); (try clear hk); (try clear hi)))
   go_ret
   exact ⟨by first | rfl | (simp [errW_none, errW_some] <;> rfl) | (simp [*, errW_none, errW_some] <;> rfl), by repeat (first | (with_reducible first | exact HB.out | apply zq7 | apply zq8 | apply zq9 | refine zr1 ?_ GE111.out) | exact HB.out)⟩
 replace c7 := Bool.eq_false_iff.mpr c7
 subst c7
 have H1 : ((spec_l5One.f a0_0 a0_1 a0_2 a0_3 a0_4 a0_10 a0_11 a0_12 a0_13 a0_14).bind fun t117 => (if t117 = true then ((spec_l5None.f a0_15 a0_16 a0_17 a0_18 a0_19).bind fun t118 => (if t118 = true then (some true) else ((spec_l5One.f a0_0 a0_1 a0_2 a0_3 a0_4 a0_15 a0_16 a0_17 a0_18 a0_19).bind fun t119 => (some t119)))) else (some false))) = some r := by rw [if_neg (show ¬ (false = true) by decide)] at H; exact H
 clear H
 have H := H1
 clear H1
 replace H := Option.bind_eq_some_iff.mp H
 obtain ⟨t117, A310, H⟩ := H
 try dsimp only at H
 have A31 := mk_ A310
 clear A310
 have HH_ := mk_ H
 clear H
 go_wp2_with (first | ((with_reducible refine gate_ty (t := 50) (x := .tmp 1) rfl ?_); refine st21 rfl rfl rfl rfl (by first | (with_reducible exact BK111.out) | (with_reducible exact (pu21 BK111.out))) (by kernel_rfl) rfl ?_) | ((with_reducible refine gate_ld (t := 50) (x := .tmp 1) rfl ?_); refine wpList_load_row rfl 50 _ rfl _ rfl _ _ _ _ (by first | (with_reducible exact BK111.out) | (with_reducible exact (pu21 BK111.out))) Try.underlying50 rfl (by kernel_rfl) ?_) | (go_at_call 46; (with_reducible refine (spec_l5None.calls a0_10 a0_11 a0_12 a0_13 a0_14 false _ A6.out).mono ?_); rintro e w41 ⟨rfl, hb⟩; have n0_ := mk_ (zq6 (by exact BK111.out) hb); have n1_ := mk_ (zr3 (by repeat (first | (with_reducible first | exact HB.out | apply zq7 | apply zq8 | apply zq9 | refine zr1 ?_ GE111.out) | exact HB.out)) hb); clear BK111; clear HB; have BK111 := n0_; have HB := n1_; clear n0_ n1_; (try clear hb); (try clear hb2); (try clear hk); (try clear hi); obtain ⟨hcz42_0, hcz42_1, hcz42_2, hcz42_3, hcz42_4, hcz42_5, hcz42_6, hcz42_7, hcz42_8, hcz42_9, hcz42_10, hcz42_11, hcz42_12, hcz42_13, hcz42_14, hcz42_15, hcz42_16, hcz42_17, hcz42_18, hcz42_19, hcz42_20⟩ := cz21 BK111.out; obtain ⟨hfz42_0, hfz42_1, hfz42_2, hfz42_3, hfz42_4, hfz42_5, hfz42_6, hfz42_7, hfz42_8, hfz42_9, hfz42_10, hfz42_11, hfz42_12, hfz42_13, hfz42_14, hfz42_15, hfz42_16, hfz42_17, hfz42_18, hfz42_19, hfz42_20⟩ := fz21 BK111.out))
 have H := HH_.out
 clear HH_
 by_cases c32 : t117 = true
 rotate_left
 · replace c32 := Bool.eq_false_iff.mpr c32
   subst c32
   have H1 : (some false) = some r := by rw [if_neg (show ¬ (false = true) by decide)] at H; exact H
   clear H
   have H := H1
   clear H1
   obtain rfl := Option.some.inj H
   go_wp2_with (first | ((with_reducible refine gate_ty (t := 50) (x := .tmp 1) rfl ?_); refine st21 rfl rfl rfl rfl (by first | (with_reducible exact BK111.out) | (with_reducible exact (pu21 BK111.out))) (by kernel_rfl) rfl ?_) | ((with_reducible refine gate_ld (t := 50) (x := .tmp 1) rfl ?_); refine wpList_load_row rfl 50 _ rfl _ rfl _ _ _ _ (by first | (with_reducible exact BK111.out) | (with_reducible exact (pu21 BK111.out))) Try.underlying50 rfl (by kernel_rfl) ?_) | (go_at_call 69; (with_reducible refine (spec_l5One.calls a0_0 a0_1 a0_2 a0_3 a0_4 a0_10 a0_11 a0_12 a0_13 a0_14 false _ A31.out).mono ?_); rintro e w68 ⟨rfl, hb⟩; have n0_ := mk_ (zq6 (by exact BK111.out) hb); have n1_ := mk_ (zr3 (by repeat (first | (with_reducible first | exact HB.out | apply zq7 | apply zq8 | apply zq9 | refine zr1 ?_ GE111.out) | exact HB.out)) hb); clear BK111; clear HB; have BK111 := n0_; have HB := n1_; clear n0_ n1_; (try clear hb); (try clear hb2); (try clear hk); (try clear hi)))
   go_ret
   exact ⟨by first | rfl | (simp [errW_none, errW_some] <;> rfl) | (simp [*, errW_none, errW_some] <;> rfl), by repeat (first | (with_reducible first | exact HB.out | apply zq7 | apply zq8 | apply zq9 | refine zr1 ?_ GE111.out) | exact HB.out)⟩
 subst c32
 have H1 : ((spec_l5None.f a0_15 a0_16 a0_17 a0_18 a0_19).bind fun t118 => (if t118 = true then (some true) else ((spec_l5One.f a0_0 a0_1 a0_2 a0_3 a0_4 a0_15 a0_16 a0_17 a0_18 a0_19).bind fun t119 => (some t119)))) = some r := by rw [if_pos rfl] at H; exact H
 clear H
 have H := H1
 clear H1
 replace H := Option.bind_eq_some_iff.mp H
 obtain ⟨t118, A330, H⟩ := H
 try dsimp only at H
 have A33 := mk_ A330
 clear A330
 have HH_ := mk_ H
 clear H
 go_wp2_with (first | ((with_reducible refine gate_ty (t := 50) (x := .tmp 1) rfl ?_); refine st21 rfl rfl rfl rfl (by first | (with_reducible exact BK111.out) | (with_reducible exact (pu21 BK111.out))) (by kernel_rfl) rfl ?_) | ((with_reducible refine gate_ld (t := 50) (x := .tmp 1) rfl ?_); refine wpList_load_row rfl 50 _ rfl _ rfl _ _ _ _ (by first | (with_reducible exact BK111.out) | (with_reducible exact (pu21 BK111.out))) Try.underlying50 rfl (by kernel_rfl) ?_) | (go_at_call 69; (with_reducible refine (spec_l5One.calls a0_0 a0_1 a0_2 a0_3 a0_4 a0_10 a0_11 a0_12 a0_13 a0_14 true _ A31.out).mono ?_); rintro e w43 ⟨rfl, hb⟩; have n0_ := mk_ (zq6 (by exact BK111.out) hb); have n1_ := mk_ (zr3 (by repeat (first | (with_reducible first | exact HB.out | apply zq7 | apply zq8 | apply zq9 | refine zr1 ?_ GE111.out) | exact HB.out)) hb); clear BK111; clear HB; have BK111 := n0_; have HB := n1_; clear n0_ n1_; (try clear hb); (try clear hb2); (try clear hk); (try clear hi); obtain ⟨hcz44_0, hcz44_1, hcz44_2, hcz44_3, hcz44_4, hcz44_5, hcz44_6, hcz44_7, hcz44_8, hcz44_9, hcz44_10, hcz44_11, hcz44_12, hcz44_13, hcz44_14, hcz44_15, hcz44_16, hcz44_17, hcz44_18, hcz44_19, hcz44_20⟩ := cz21 BK111.out; obtain ⟨hfz44_0, hfz44_1, hfz44_2, hfz44_3, hfz44_4, hfz44_5, hfz44_6, hfz44_7, hfz44_8, hfz44_9, hfz44_10, hfz44_11, hfz44_12, hfz44_13, hfz44_14, hfz44_15, hfz44_16, hfz44_17, hfz44_18, hfz44_19, hfz44_20⟩ := fz21 BK111.out))
 have H := HH_.out
 clear HH_
 by_cases c34 : t118 = true
 · subst c34
   have H1 : (some true) = some r := by rw [if_pos rfl] at H; exact H
   clear H
   have H := H1
   clear H1
   obtain rfl := Option.some.inj H
   go_wp2_with (first | ((with_reducible refine gate_ty (t := 50) (x := .tmp 1) rfl ?_); refine st21 rfl rfl rfl rfl (by first | (with_reducible exact BK111.out) | (with_reducible exact (pu21 BK111.out))) (by kernel_rfl) rfl ?_) | ((with_reducible refine gate_ld (t := 50) (x := .tmp 1) rfl ?_); refine wpList_load_row rfl 50 _ rfl _ rfl _ _ _ _ (by first | (with_reducible exact BK111.out) | (with_reducible exact (pu21 BK111.out))) Try.underlying50 rfl (by kernel_rfl) ?_) | (go_at_call 46; (with_reducible refine (spec_l5None.calls a0_15 a0_16 a0_17 a0_18 a0_19 true _ A33.out).mono ?_); rintro e w45 ⟨rfl, hb⟩; have n0_ := mk_ (zq6 (by exact BK111.out) hb); have n1_ := mk_ (zr3 (by repeat (first | (with_reducible first | exact HB.out | apply zq7 | apply zq8 | apply zq9 | refine zr1 ?_ GE111.out) | exact HB.out)) hb); clear BK111; clear HB; have BK111 := n0_; have HB := n1_; clear n0_ n1_; (try clear hb); (try clear hb2); (try clear hk); (try clear hi)))
   go_ret
   exact ⟨by first | rfl | (simp [errW_none, errW_some] <;> rfl) | (simp [*, errW_none, errW_some] <;> rfl), by repeat (first | (with_reducible first | exact HB.out | apply zq7 | apply zq8 | apply zq9 | refine zr1 ?_ GE111.out) | exact HB.out)⟩
 replace c34 := Bool.eq_false_iff.mpr c34
 subst c34
 have H1 : ((spec_l5One.f a0_0 a0_1 a0_2 a0_3 a0_4 a0_15 a0_16 a0_17 a0_18 a0_19).bind fun t119 => (some t119)) = some r := by rw [if_neg (show ¬ (false = true) by decide)] at H; exact H
 clear H
 have H := H1
 clear H1
 replace H := Option.bind_eq_some_iff.mp H
 obtain ⟨t119, A460, H⟩ := H
 try dsimp only at H
 have A46 := mk_ A460
 clear A460
 obtain rfl := Option.some.inj H
 go_wp2_with (first | ((with_reducible refine gate_ty (t := 50) (x := .tmp 1) rfl ?_); refine st21 rfl rfl rfl rfl (by first | (with_reducible exact BK111.out) | (with_reducible exact (pu21 BK111.out))) (by kernel_rfl) rfl ?_) | ((with_reducible refine gate_ld (t := 50) (x := .tmp 1) rfl ?_); refine wpList_load_row rfl 50 _ rfl _ rfl _ _ _ _ (by first | (with_reducible exact BK111.out) | (with_reducible exact (pu21 BK111.out))) Try.underlying50 rfl (by kernel_rfl) ?_) | (go_at_call 46; (with_reducible refine (spec_l5None.calls a0_15 a0_16 a0_17 a0_18 a0_19 false _ A33.out).mono ?_); rintro e w57 ⟨rfl, hb⟩; have n0_ := mk_ (zq6 (by exact BK111.out) hb); have n1_ := mk_ (zr3 (by repeat (first | (with_reducible first | exact HB.out | apply zq7 | apply zq8 | apply zq9 | refine zr1 ?_ GE111.out) | exact HB.out)) hb); clear BK111; clear HB; have BK111 := n0_; have HB := n1_; clear n0_ n1_; (try clear hb); (try clear hb2); (try clear hk); (try clear hi); obtain ⟨hcz58_0, hcz58_1, hcz58_2, hcz58_3, hcz58_4, hcz58_5, hcz58_6, hcz58_7, hcz58_8, hcz58_9, hcz58_10, hcz58_11, hcz58_12, hcz58_13, hcz58_14, hcz58_15, hcz58_16, hcz58_17, hcz58_18, hcz58_19, hcz58_20⟩ := cz21 BK111.out; obtain ⟨hfz58_0, hfz58_1, hfz58_2, hfz58_3, hfz58_4, hfz58_5, hfz58_6, hfz58_7, hfz58_8, hfz58_9, hfz58_10, hfz58_11, hfz58_12, hfz58_13, hfz58_14, hfz58_15, hfz58_16, hfz58_17, hfz58_18, hfz58_19, hfz58_20⟩ := fz21 BK111.out) | (go_at_call 69; (with_reducible refine (spec_l5One.calls a0_0 a0_1 a0_2 a0_3 a0_4 a0_15 a0_16 a0_17 a0_18 a0_19 t119 _ A46.out).mono ?_); rintro e w59 ⟨rfl, hb⟩; have n0_ := mk_ (zq6 (by exact BK111.out) hb); have n1_ := mk_ (zr3 (by repeat (first | (with_reducible first | exact HB.out | apply zq7 | apply zq8 | apply zq9 | refine zr1 ?_ GE111.out) | exact HB.out)) hb); clear BK111; clear HB; have BK111 := n0_; have HB := n1_; clear n0_ n1_; (try clear hb); (try clear hb2); (try clear hk); (try clear hi)))
 go_ret
 exact ⟨by first | rfl | (simp [errW_none, errW_some] <;> rfl) | (simp [*, errW_none, errW_some] <;> rfl), by repeat (first | (with_reducible first | exact HB.out | apply zq7 | apply zq8 | apply zq9 | refine zr1 ?_ GE111.out) | exact HB.out)⟩

/-! ### spec_NegSay: function 19 -/
def spec_NegSay.f (a0_0 : Int) (a0_1 : Int) (a0_2 : Int) (a0_3 : Int) (a0_4 : Int) (a0_5 : Int) (a0_6 : Int) (a0_7 : Int) (a0_8 : Int) (a0_9 : Int) (a0_10 : Int) (a0_11 : Int) (a0_12 : Int) (a0_13 : Int) (a0_14 : Int) (a0_15 : Int) (a0_16 : Int) (a0_17 : Int) (a0_18 : Int) (a0_19 : Int) (a0_20 : Bool) : Option (Int × Int × Int × Int × Int × Int × Bool) := (spec_NegOk.f a0_0 a0_1 a0_2 a0_3 a0_4 a0_5 a0_6 a0_7 a0_8 a0_9 a0_10 a0_11 a0_12 a0_13 a0_14 a0_15 a0_16 a0_17 a0_18 a0_19 a0_20).bind fun t122 => (if t122 = true then (if a0_20 = true then (some (0, 0, 0, 0, 0, 0, false)) else ((spec_l5None.f a0_10 a0_11 a0_12 a0_13 a0_14).bind fun t123 => (if t123 = true then (some (1, a0_5, a0_6, a0_7, a0_8, a0_9, true)) else (some (0, 0, 0, 0, 0, 0, false))))) else (some (0, 0, 0, 0, 0, 0, false)))
set_option maxHeartbeats 8000000 in
set_option maxRecDepth 100000 in
theorem spec_NegSay.calls (a0_0 : Int) (a0_1 : Int) (a0_2 : Int) (a0_3 : Int) (a0_4 : Int) (a0_5 : Int) (a0_6 : Int) (a0_7 : Int) (a0_8 : Int) (a0_9 : Int) (a0_10 : Int) (a0_11 : Int) (a0_12 : Int) (a0_13 : Int) (a0_14 : Int) (a0_15 : Int) (a0_16 : Int) (a0_17 : Int) (a0_18 : Int) (a0_19 : Int) (a0_20 : Bool) (r1 : Int) (r2 : Int) (r3 : Int) (r4 : Int) (r5 : Int) (r6 : Int) (r7 : Bool) (w : World) (h : spec_NegSay.f a0_0 a0_1 a0_2 a0_3 a0_4 a0_5 a0_6 a0_7 a0_8 a0_9 a0_10 a0_11 a0_12 a0_13 a0_14 a0_15 a0_16 a0_17 a0_18 a0_19 a0_20 = some (r1, r2, r3, r4, r5, r6, r7)) :
    Calls Try.prog 19 #[.agg #[.int .i64 a0_0, .int .i64 a0_1, .int .i64 a0_2, .int .i64 a0_3, .int .i64 a0_4, .int .i64 a0_5, .int .i64 a0_6, .int .i64 a0_7, .int .i64 a0_8, .int .i64 a0_9, .int .i64 a0_10, .int .i64 a0_11, .int .i64 a0_12, .int .i64 a0_13, .int .i64 a0_14, .int .i64 a0_15, .int .i64 a0_16, .int .i64 a0_17, .int .i64 a0_18, .int .i64 a0_19, .bool a0_20]] w fun e w' => e = .returned (.tuple #[.agg #[.int .i64 r1, .int .i64 r2, .int .i64 r3, .int .i64 r4, .int .i64 r5, .int .i64 r6], .bool r7]) ∧ Below w.heap.size w w' := by
 have hu50 := Try.underlying50
 have hu46 := Try.underlying46
 have hu24 := Try.underlying24
 have HB := mk_ (Below.refl w.heap.size w)
 have H : ((spec_NegOk.f a0_0 a0_1 a0_2 a0_3 a0_4 a0_5 a0_6 a0_7 a0_8 a0_9 a0_10 a0_11 a0_12 a0_13 a0_14 a0_15 a0_16 a0_17 a0_18 a0_19 a0_20).bind fun t122 => (if t122 = true then (if a0_20 = true then (some (0, 0, 0, 0, 0, 0, false)) else ((spec_l5None.f a0_10 a0_11 a0_12 a0_13 a0_14).bind fun t123 => (if t123 = true then (some (1, a0_5, a0_6, a0_7, a0_8, a0_9, true)) else (some (0, 0, 0, 0, 0, 0, false))))) else (some (0, 0, 0, 0, 0, 0, false)))) = some (r1, r2, r3, r4, r5, r6, r7) := h
 clear h
 replace H := Option.bind_eq_some_iff.mp H
 obtain ⟨t122, A20, H⟩ := H
 try dsimp only at H
 have A2 := mk_ A20
 clear A20
 by_cases c3 : t122 = true
 rotate_left
 · replace c3 := Bool.eq_false_iff.mpr c3
   subst c3
   have H1 : (some (0, 0, 0, 0, 0, 0, false)) = some (r1, r2, r3, r4, r5, r6, r7) := by rw [if_neg (show ¬ (false = true) by decide)] at H; exact H
   clear H
   have H := H1
   clear H1
   simp only [Option.some.injEq, Prod.mk.injEq] at H
   obtain ⟨rfl, rfl, rfl, rfl, rfl, rfl, rfl⟩ := H
   go_enter Try.func19, Try.ntmps19
   go_wp2_with (first | ((with_reducible refine gate_ty (t := 50) (x := .tmp 1) rfl ?_); refine st21 rfl rfl rfl rfl (by first | (with_reducible exact BK120.out) | (with_reducible exact (pu21 BK120.out)) | (with_reducible exact (fa6 BK120.out NB120_121.out)) | (with_reducible exact (fa6 (pu21 BK120.out) NB120_121.out))) (by kernel_rfl) rfl ?_) | ((with_reducible refine gate_ld (t := 50) (x := .tmp 1) rfl ?_); refine wpList_load_row rfl 50 _ rfl _ rfl _ _ _ _ (by first | (with_reducible exact BK120.out) | (with_reducible exact (pu21 BK120.out)) | (with_reducible exact (fa6 BK120.out NB120_121.out)) | (with_reducible exact (fa6 (pu21 BK120.out) NB120_121.out))) Try.underlying50 rfl (by kernel_rfl) ?_) | ((with_reducible refine gate_dst (N := 1) rfl ?_); refine box_event ?hg (N := 1) ?hd (cs := #[.int .i64 a0_0, .int .i64 a0_1, .int .i64 a0_2, .int .i64 a0_3, .int .i64 a0_4, .int .i64 a0_5, .int .i64 a0_6, .int .i64 a0_7, .int .i64 a0_8, .int .i64 a0_9, .int .i64 a0_10, .int .i64 a0_11, .int .i64 a0_12, .int .i64 a0_13, .int .i64 a0_14, .int .i64 a0_15, .int .i64 a0_16, .int .i64 a0_17, .int .i64 a0_18, .int .i64 a0_19, .bool a0_20]) (t := 50) ?hr ?_; (case hd => rfl); (case hg => rfl); (case hr => first | (go_simp; done) | (go_simp; rfl)); intro gb120 hg w31 hbox hb; have n0_ := mk_ (zr3 (by repeat (first | (with_reducible first | exact HB.out | apply zq7 | apply zq8 | apply zq9) | exact HB.out)) hb); have n1_ := mk_ (hbox); have n2_ := mk_ ((by rw [hg]; exact (zr2 (by repeat (first | (with_reducible first | exact HB.out | apply zq7 | apply zq8 | apply zq9) | exact HB.out))) : w.heap.size ≤ gb120)); have n3_ := mk_ ((by rw [hg]; exact (zr2 (by repeat (first | (with_reducible first | exact HB.out | apply zq7 | apply zq8 | apply zq9) | exact HB.out))) : w.heap.size ≤ gb120)); clear HB; have HB := n0_; have BK120 := n1_; have GW120 := n2_; have GE120 := n3_; clear n0_ n1_ n2_ n3_; clear hb hbox hg) | ((with_reducible refine gate_dst (N := 2) rfl ?_); refine box_event ?hg (N := 2) ?hd (cs := #[.int .i64 0, .int .i64 0, .int .i64 0, .int .i64 0, .int .i64 0, .int .i64 0]) (t := 46) ?hr ?_; (case hd => rfl); (case hg => rfl); (case hr => first | (go_simp; done) | (go_simp; rfl)); intro gb121 hg w32 hbox hb; have n0_ := mk_ (zq6 (by exact BK120.out) hb); have n1_ := mk_ (zr3 (by repeat (first | (with_reducible first | exact HB.out | apply zq7 | apply zq8 | apply zq9 | refine zr1 ?_ GE120.out) | exact HB.out)) hb); have n2_ := mk_ (hbox); have n3_ := mk_ ((by rw [hg]; exact (zr2 (by repeat (first | (with_reducible first | exact HB.out | apply zq7 | apply zq8 | apply zq9 | refine zr1 ?_ GE120.out) | exact HB.out))) : w.heap.size ≤ gb121)); have n4_ := mk_ ((by rw [hg]; exact (zr2 (by repeat (first | (with_reducible first | exact HB.out | apply zq7 | apply zq8 | apply zq9 | refine zr1 ?_ GE120.out) | exact HB.out))) : w.heap.size ≤ gb121)); have n5_ := mk_ ((by rw [hg]; exact zm2 (zr6 (by exact BK120.out)) : gb120 ≠ gb121)); have n6_ := mk_ n5_.out.symm; clear BK120; clear HB; have BK120 := n0_; have HB := n1_; have BK121 := n2_; have GW121 := n3_; have GE121 := n4_; have NB120_121 := n5_; have NB121_120 := n6_; clear n0_ n1_ n2_ n3_ n4_ n5_ n6_; clear hb hbox hg; have hnb33 := NB120_121.out; have hnc33 := NB121_120.out; obtain ⟨hcz34_0, hcz34_1, hcz34_2, hcz34_3, hcz34_4, hcz34_5, hcz34_6, hcz34_7, hcz34_8, hcz34_9, hcz34_10, hcz34_11, hcz34_12, hcz34_13, hcz34_14, hcz34_15, hcz34_16, hcz34_17, hcz34_18, hcz34_19, hcz34_20⟩ := cz21 BK120.out; obtain ⟨hfz34_0, hfz34_1, hfz34_2, hfz34_3, hfz34_4, hfz34_5, hfz34_6, hfz34_7, hfz34_8, hfz34_9, hfz34_10, hfz34_11, hfz34_12, hfz34_13, hfz34_14, hfz34_15, hfz34_16, hfz34_17, hfz34_18, hfz34_19, hfz34_20⟩ := fz21 BK120.out) | ((with_reducible refine gate_callee (f := 45) rfl ?_); refine goesL_ (some 5) rfl rfl Try.func45 (by kernel_rfl) rfl #[.agg #[.int .i64 a0_0, .int .i64 a0_1, .int .i64 a0_2, .int .i64 a0_3, .int .i64 a0_4, .int .i64 a0_5, .int .i64 a0_6, .int .i64 a0_7, .int .i64 a0_8, .int .i64 a0_9, .int .i64 a0_10, .int .i64 a0_11, .int .i64 a0_12, .int .i64 a0_13, .int .i64 a0_14, .int .i64 a0_15, .int .i64 a0_16, .int .i64 a0_17, .int .i64 a0_18, .int .i64 a0_19, .bool a0_20]] rfl (by (try simp only [List.map_toArray, List.map_cons, List.map_nil]); first | done | rfl | (simp only [List.length_drop, List.length_take]; rfl)) ?_; (with_reducible refine (spec_NegOk.calls a0_0 a0_1 a0_2 a0_3 a0_4 a0_5 a0_6 a0_7 a0_8 a0_9 a0_10 a0_11 a0_12 a0_13 a0_14 a0_15 a0_16 a0_17 a0_18 a0_19 a0_20 false _ A2.out).mono ?_); rintro e w35 ⟨rfl, hb⟩; refine ⟨_, rfl, ?_⟩; have n0_ := mk_ (zq6 (by exact BK120.out) hb); have n1_ := mk_ (zq6 (by exact BK121.out) hb); have n2_ := mk_ (zr3 (by repeat (first | (with_reducible first | exact HB.out | apply zq7 | apply zq8 | apply zq9 | refine zr1 ?_ GE120.out | refine zr1 ?_ GE121.out) | exact HB.out)) hb); clear BK120; clear BK121; clear HB; have BK120 := n0_; have BK121 := n1_; have HB := n2_; clear n0_ n1_ n2_; (try clear hb); (try clear hb2); (try clear hk); (try clear hi); obtain ⟨hcz36_0, hcz36_1, hcz36_2, hcz36_3, hcz36_4, hcz36_5⟩ := cz6 BK121.out; obtain ⟨hfz36_0, hfz36_1, hfz36_2, hfz36_3, hfz36_4, hfz36_5⟩ := fz6 BK121.out))
   refine bodyPost_ret (results_ct rfl _ _ gb121 46 #[.int .i64 0, .int .i64 0, .int .i64 0, .int .i64 0, .int .i64 0, .int .i64 0] (0, 0) _ rfl (by (with_reducible repeat (first | refine zq1 ?_ _ | refine zq2 ?_ | refine zq3 ?_ _)); apply pu6; (with_reducible repeat (first | refine zq1 ?_ _ | refine zq2 ?_ | refine zq3 ?_ _)); exact BK121.out) Try.underlying46 rfl (by kernel_rfl)) rfl ?_
   exact ⟨by first | rfl | (simp [errW_none, errW_some] <;> rfl) | (simp [*, errW_none, errW_some] <;> rfl), by repeat (first | (with_reducible first | exact HB.out | apply zq7 | apply zq8 | apply zq9 | refine zr1 ?_ GE120.out | refine zr1 ?_ GE121.out) | exact HB.out)⟩
 subst c3
 have H1 : (if a0_20 = true then (some (0, 0, 0, 0, 0, 0, false)) else ((spec_l5None.f a0_10 a0_11 a0_12 a0_13 a0_14).bind fun t123 => (if t123 = true then (some (1, a0_5, a0_6, a0_7, a0_8, a0_9, true)) else (some (0, 0, 0, 0, 0, 0, false))))) = some (r1, r2, r3, r4, r5, r6, r7) := by rw [if_pos rfl] at H; exact H
 clear H
 have H := H1
 clear H1
 by_cases c4 : a0_20 = true
 · subst c4
   have H1 : (some (0, 0, 0, 0, 0, 0, false)) = some (r1, r2, r3, r4, r5, r6, r7) := by rw [if_pos rfl] at H; exact H
   clear H
   have H := H1
   clear H1
   simp only [Option.some.injEq, Prod.mk.injEq] at H
   obtain ⟨rfl, rfl, rfl, rfl, rfl, rfl, rfl⟩ := H
   go_enter Try.func19, Try.ntmps19
   go_wp2_with (first | ((with_reducible refine gate_ty (t := 50) (x := .tmp 1) rfl ?_); refine st21 rfl rfl rfl rfl (by first | (with_reducible exact BK120.out) | (with_reducible exact (pu21 BK120.out)) | (with_reducible exact (fa6 BK120.out NB120_121.out)) | (with_reducible exact (fa6 (pu21 BK120.out) NB120_121.out))) (by kernel_rfl) rfl ?_) | ((with_reducible refine gate_ld (t := 50) (x := .tmp 1) rfl ?_); refine wpList_load_row rfl 50 _ rfl _ rfl _ _ _ _ (by first | (with_reducible exact BK120.out) | (with_reducible exact (pu21 BK120.out)) | (with_reducible exact (fa6 BK120.out NB120_121.out)) | (with_reducible exact (fa6 (pu21 BK120.out) NB120_121.out))) Try.underlying50 rfl (by kernel_rfl) ?_) | ((with_reducible refine gate_dst (N := 1) rfl ?_); refine box_event ?hg (N := 1) ?hd (cs := #[.int .i64 a0_0, .int .i64 a0_1, .int .i64 a0_2, .int .i64 a0_3, .int .i64 a0_4, .int .i64 a0_5, .int .i64 a0_6, .int .i64 a0_7, .int .i64 a0_8, .int .i64 a0_9, .int .i64 a0_10, .int .i64 a0_11, .int .i64 a0_12, .int .i64 a0_13, .int .i64 a0_14, .int .i64 a0_15, .int .i64 a0_16, .int .i64 a0_17, .int .i64 a0_18, .int .i64 a0_19, .bool true]) (t := 50) ?hr ?_; (case hd => rfl); (case hg => rfl); (case hr => first | (go_simp; done) | (go_simp; rfl)); intro gb120 hg w5 hbox hb; have n0_ := mk_ (zr3 (by repeat (first | (with_reducible first | exact HB.out | apply zq7 | apply zq8 | apply zq9) | exact HB.out)) hb); have n1_ := mk_ (hbox); have n2_ := mk_ ((by rw [hg]; exact (zr2 (by repeat (first | (with_reducible first | exact HB.out | apply zq7 | apply zq8 | apply zq9) | exact HB.out))) : w.heap.size ≤ gb120)); have n3_ := mk_ ((by rw [hg]; exact (zr2 (by repeat (first | (with_reducible first | exact HB.out | apply zq7 | apply zq8 | apply zq9) | exact HB.out))) : w.heap.size ≤ gb120)); clear HB; have HB := n0_; have BK120 := n1_; have GW120 := n2_; have GE120 := n3_; clear n0_ n1_ n2_ n3_; clear hb hbox hg) | ((with_reducible refine gate_dst (N := 2) rfl ?_); refine box_event ?hg (N := 2) ?hd (cs := #[.int .i64 0, .int .i64 0, .int .i64 0, .int .i64 0, .int .i64 0, .int .i64 0]) (t := 46) ?hr ?_; (case hd => rfl); (case hg => rfl); (case hr => first | (go_simp; done) | (go_simp; rfl)); intro gb121 hg w6 hbox hb; have n0_ := mk_ (zq6 (by exact BK120.out) hb); have n1_ := mk_ (zr3 (by repeat (first | (with_reducible first | exact HB.out | apply zq7 | apply zq8 | apply zq9 | refine zr1 ?_ GE120.out) | exact HB.out)) hb); have n2_ := mk_ (hbox); have n3_ := mk_ ((by rw [hg]; exact (zr2 (by repeat (first | (with_reducible first | exact HB.out | apply zq7 | apply zq8 | apply zq9 | refine zr1 ?_ GE120.out) | exact HB.out))) : w.heap.size ≤ gb121)); have n4_ := mk_ ((by rw [hg]; exact (zr2 (by repeat (first | (with_reducible first | exact HB.out | apply zq7 | apply zq8 | apply zq9 | refine zr1 ?_ GE120.out) | exact HB.out))) : w.heap.size ≤ gb121)); have n5_ := mk_ ((by rw [hg]; exact zm2 (zr6 (by exact BK120.out)) : gb120 ≠ gb121)); have n6_ := mk_ n5_.out.symm; clear BK120; clear HB; have BK120 := n0_; have HB := n1_; have BK121 := n2_; have GW121 := n3_; have GE121 := n4_; have NB120_121 := n5_; have NB121_120 := n6_; clear n0_ n1_ n2_ n3_ n4_ n5_ n6_; clear hb hbox hg; have hnb7 := NB120_121.out; have hnc7 := NB121_120.out; obtain ⟨hcz8_0, hcz8_1, hcz8_2, hcz8_3, hcz8_4, hcz8_5, hcz8_6, hcz8_7, hcz8_8, hcz8_9, hcz8_10, hcz8_11, hcz8_12, hcz8_13, hcz8_14, hcz8_15, hcz8_16, hcz8_17, hcz8_18, hcz8_19, hcz8_20⟩ := cz21 BK120.out; obtain ⟨hfz8_0, hfz8_1, hfz8_2, hfz8_3, hfz8_4, hfz8_5, hfz8_6, hfz8_7, hfz8_8, hfz8_9, hfz8_10, hfz8_11, hfz8_12, hfz8_13, hfz8_14, hfz8_15, hfz8_16, hfz8_17, hfz8_18, hfz8_19, hfz8_20⟩ := fz21 BK120.out) | ((with_reducible refine gate_callee (f := 45) rfl ?_); refine goesL_ (some 5) rfl rfl Try.func45 (by kernel_rfl) rfl #[.agg #[.int .i64 a0_0, .int .i64 a0_1, .int .i64 a0_2, .int .i64 a0_3, .int .i64 a0_4, .int .i64 a0_5, .int .i64 a0_6, .int .i64 a0_7, .int .i64 a0_8, .int .i64 a0_9, .int .i64 a0_10, .int .i64 a0_11, .int .i64 a0_12, .int .i64 a0_13, .int .i64 a0_14, .int .i64 a0_15, .int .i64 a0_16, .int .i64 a0_17, .int .i64 a0_18, .int .i64 a0_19, .bool true]] rfl (by (try simp only [List.map_toArray, List.map_cons, List.map_nil]); first | done | rfl | (simp only [List.length_drop, List.length_take]; rfl)) ?_; (with_reducible refine (spec_NegOk.calls a0_0 a0_1 a0_2 a0_3 a0_4 a0_5 a0_6 a0_7 a0_8 a0_9 a0_10 a0_11 a0_12 a0_13 a0_14 a0_15 a0_16 a0_17 a0_18 a0_19 true true _ A2.out).mono ?_); rintro e w9 ⟨rfl, hb⟩; refine ⟨_, rfl, ?_⟩; have n0_ := mk_ (zq6 (by exact BK120.out) hb); have n1_ := mk_ (zq6 (by exact BK121.out) hb); have n2_ := mk_ (zr3 (by repeat (first | (with_reducible first | exact HB.out | apply zq7 | apply zq8 | apply zq9 | refine zr1 ?_ GE120.out | refine zr1 ?_ GE121.out) | exact HB.out)) hb); clear BK120; clear BK121; clear HB; have BK120 := n0_; have BK121 := n1_; have HB := n2_; clear n0_ n1_ n2_; (try clear hb); (try clear hb2); (try clear hk); (try clear hi); obtain ⟨hcz10_0, hcz10_1, hcz10_2, hcz10_3, hcz10_4, hcz10_5, hcz10_6, hcz10_7, hcz10_8, hcz10_9, hcz10_10, hcz10_11, hcz10_12, hcz10_13, hcz10_14, hcz10_15, hcz10_16, hcz10_17, hcz10_18, hcz10_19, hcz10_20⟩ := cz21 BK120.out; obtain ⟨hfz10_0, hfz10_1, hfz10_2, hfz10_3, hfz10_4, hfz10_5, hfz10_6, hfz10_7, hfz10_8, hfz10_9, hfz10_10, hfz10_11, hfz10_12, hfz10_13, hfz10_14, hfz10_15, hfz10_16, hfz10_17, hfz10_18, hfz10_19, hfz10_20⟩ := fz21 BK120.out; obtain ⟨hcz11_0, hcz11_1, hcz11_2, hcz11_3, hcz11_4, hcz11_5⟩ := cz6 BK121.out; obtain ⟨hfz11_0, hfz11_1, hfz11_2, hfz11_3, hfz11_4, hfz11_5⟩ := fz6 BK121.out))
   refine bodyPost_ret (results_ct rfl _ _ gb121 46 #[.int .i64 0, .int .i64 0, .int .i64 0, .int .i64 0, .int .i64 0, .int .i64 0] (0, 0) _ rfl (by (with_reducible repeat (first | refine zq1 ?_ _ | refine zq2 ?_ | refine zq3 ?_ _)); apply pu6; (with_reducible repeat (first | refine zq1 ?_ _ | refine zq2 ?_ | refine zq3 ?_ _)); exact BK121.out) Try.underlying46 rfl (by kernel_rfl)) rfl ?_
   exact ⟨by first | rfl | (simp [errW_none, errW_some] <;> rfl) | (simp [*, errW_none, errW_some] <;> rfl), by repeat (first | (with_reducible first | exact HB.out | apply zq7 | apply zq8 | apply zq9 | refine zr1 ?_ GE120.out | refine zr1 ?_ GE121.out) | exact HB.out)⟩
 replace c4 := Bool.eq_false_iff.mpr c4
 subst c4
 have H1 : ((spec_l5None.f a0_10 a0_11 a0_12 a0_13 a0_14).bind fun t123 => (if t123 = true then (some (1, a0_5, a0_6, a0_7, a0_8, a0_9, true)) else (some (0, 0, 0, 0, 0, 0, false)))) = some (r1, r2, r3, r4, r5, r6, r7) := by rw [if_neg (show ¬ (false = true) by decide)] at H; exact H
 clear H
 have H := H1
 clear H1
 replace H := Option.bind_eq_some_iff.mp H
 obtain ⟨t123, A120, H⟩ := H
 try dsimp only at H
 have A12 := mk_ A120
 clear A120
 by_cases c13 : t123 = true
 rotate_left
 · replace c13 := Bool.eq_false_iff.mpr c13
   subst c13
   have H1 : (some (0, 0, 0, 0, 0, 0, false)) = some (r1, r2, r3, r4, r5, r6, r7) := by rw [if_neg (show ¬ (false = true) by decide)] at H; exact H
   clear H
   have H := H1
   clear H1
   simp only [Option.some.injEq, Prod.mk.injEq] at H
   obtain ⟨rfl, rfl, rfl, rfl, rfl, rfl, rfl⟩ := H
   go_enter Try.func19, Try.ntmps19
   go_wp2_with (first | ((with_reducible refine gate_ty (t := 50) (x := .tmp 1) rfl ?_); refine st21 rfl rfl rfl rfl (by first | (with_reducible exact BK120.out) | (with_reducible exact (pu21 BK120.out)) | (with_reducible exact (fa6 BK120.out NB120_121.out)) | (with_reducible exact (fa6 (pu21 BK120.out) NB120_121.out))) (by kernel_rfl) rfl ?_) | ((with_reducible refine gate_ld (t := 50) (x := .tmp 1) rfl ?_); refine wpList_load_row rfl 50 _ rfl _ rfl _ _ _ _ (by first | (with_reducible exact BK120.out) | (with_reducible exact (pu21 BK120.out)) | (with_reducible exact (fa6 BK120.out NB120_121.out)) | (with_reducible exact (fa6 (pu21 BK120.out) NB120_121.out))) Try.underlying50 rfl (by kernel_rfl) ?_) | ((with_reducible refine gate_dst (N := 1) rfl ?_); refine box_event ?hg (N := 1) ?hd (cs := #[.int .i64 a0_0, .int .i64 a0_1, .int .i64 a0_2, .int .i64 a0_3, .int .i64 a0_4, .int .i64 a0_5, .int .i64 a0_6, .int .i64 a0_7, .int .i64 a0_8, .int .i64 a0_9, .int .i64 a0_10, .int .i64 a0_11, .int .i64 a0_12, .int .i64 a0_13, .int .i64 a0_14, .int .i64 a0_15, .int .i64 a0_16, .int .i64 a0_17, .int .i64 a0_18, .int .i64 a0_19, .bool false]) (t := 50) ?hr ?_; (case hd => rfl); (case hg => rfl); (case hr => first | (go_simp; done) | (go_simp; rfl)); intro gb120 hg w23 hbox hb; have n0_ := mk_ (zr3 (by repeat (first | (with_reducible first | exact HB.out | apply zq7 | apply zq8 | apply zq9) | exact HB.out)) hb); have n1_ := mk_ (hbox); have n2_ := mk_ ((by rw [hg]; exact (zr2 (by repeat (first | (with_reducible first | exact HB.out | apply zq7 | apply zq8 | apply zq9) | exact HB.out))) : w.heap.size ≤ gb120)); have n3_ := mk_ ((by rw [hg]; exact (zr2 (by repeat (first | (with_reducible first | exact HB.out | apply zq7 | apply zq8 | apply zq9) | exact HB.out))) : w.heap.size ≤ gb120)); clear HB; have HB := n0_; have BK120 := n1_; have GW120 := n2_; have GE120 := n3_; clear n0_ n1_ n2_ n3_; clear hb hbox hg) | ((with_reducible refine gate_dst (N := 2) rfl ?_); refine box_event ?hg (N := 2) ?hd (cs := #[.int .i64 0, .int .i64 0, .int .i64 0, .int .i64 0, .int .i64 0, .int .i64 0]) (t := 46) ?hr ?_; (case hd => rfl); (case hg => rfl); (case hr => first | (go_simp; done) | (go_simp; rfl)); intro gb121 hg w24 hbox hb; have n0_ := mk_ (zq6 (by exact BK120.out) hb); have n1_ := mk_ (zr3 (by repeat (first | (with_reducible first | exact HB.out | apply zq7 | apply zq8 | apply zq9 | refine zr1 ?_ GE120.out) | exact HB.out)) hb); have n2_ := mk_ (hbox); have n3_ := mk_ ((by rw [hg]; exact (zr2 (by repeat (first | (with_reducible first | exact HB.out | apply zq7 | apply zq8 | apply zq9 | refine zr1 ?_ GE120.out) | exact HB.out))) : w.heap.size ≤ gb121)); have n4_ := mk_ ((by rw [hg]; exact (zr2 (by repeat (first | (with_reducible first | exact HB.out | apply zq7 | apply zq8 | apply zq9 | refine zr1 ?_ GE120.out) | exact HB.out))) : w.heap.size ≤ gb121)); have n5_ := mk_ ((by rw [hg]; exact zm2 (zr6 (by exact BK120.out)) : gb120 ≠ gb121)); have n6_ := mk_ n5_.out.symm; clear BK120; clear HB; have BK120 := n0_; have HB := n1_; have BK121 := n2_; have GW121 := n3_; have GE121 := n4_; have NB120_121 := n5_; have NB121_120 := n6_; clear n0_ n1_ n2_ n3_ n4_ n5_ n6_; clear hb hbox hg; have hnb25 := NB120_121.out; have hnc25 := NB121_120.out; obtain ⟨hcz26_0, hcz26_1, hcz26_2, hcz26_3, hcz26_4, hcz26_5, hcz26_6, hcz26_7, hcz26_8, hcz26_9, hcz26_10, hcz26_11, hcz26_12, hcz26_13, hcz26_14, hcz26_15, hcz26_16, hcz26_17, hcz26_18, hcz26_19, hcz26_20⟩ := cz21 BK120.out; obtain ⟨hfz26_0, hfz26_1, hfz26_2, hfz26_3, hfz26_4, hfz26_5, hfz26_6, hfz26_7, hfz26_8, hfz26_9, hfz26_10, hfz26_11, hfz26_12, hfz26_13, hfz26_14, hfz26_15, hfz26_16, hfz26_17, hfz26_18, hfz26_19, hfz26_20⟩ := fz21 BK120.out) | ((with_reducible refine gate_callee (f := 45) rfl ?_); refine goesL_ (some 5) rfl rfl Try.func45 (by kernel_rfl) rfl #[.agg #[.int .i64 a0_0, .int .i64 a0_1, .int .i64 a0_2, .int .i64 a0_3, .int .i64 a0_4, .int .i64 a0_5, .int .i64 a0_6, .int .i64 a0_7, .int .i64 a0_8, .int .i64 a0_9, .int .i64 a0_10, .int .i64 a0_11, .int .i64 a0_12, .int .i64 a0_13, .int .i64 a0_14, .int .i64 a0_15, .int .i64 a0_16, .int .i64 a0_17, .int .i64 a0_18, .int .i64 a0_19, .bool false]] rfl (by (try simp only [List.map_toArray, List.map_cons, List.map_nil]); first | done | rfl | (simp only [List.length_drop, List.length_take]; rfl)) ?_; (with_reducible refine (spec_NegOk.calls a0_0 a0_1 a0_2 a0_3 a0_4 a0_5 a0_6 a0_7 a0_8 a0_9 a0_10 a0_11 a0_12 a0_13 a0_14 a0_15 a0_16 a0_17 a0_18 a0_19 false true _ A2.out).mono ?_); rintro e w27 ⟨rfl, hb⟩; refine ⟨_, rfl, ?_⟩; have n0_ := mk_ (zq6 (by exact BK120.out) hb); have n1_ := mk_ (zq6 (by exact BK121.out) hb); have n2_ := mk_ (zr3 (by repeat (first | (with_reducible first | exact HB.out | apply zq7 | apply zq8 | apply zq9 | refine zr1 ?_ GE120.out | refine zr1 ?_ GE121.out) | exact HB.out)) hb); clear BK120; clear BK121; clear HB; have BK120 := n0_; have BK121 := n1_; have HB := n2_; clear n0_ n1_ n2_; (try clear hb); (try clear hb2); (try clear hk); (try clear hi); obtain ⟨hcz28_0, hcz28_1, hcz28_2, hcz28_3, hcz28_4, hcz28_5, hcz28_6, hcz28_7, hcz28_8, hcz28_9, hcz28_10, hcz28_11, hcz28_12, hcz28_13, hcz28_14, hcz28_15, hcz28_16, hcz28_17, hcz28_18, hcz28_19, hcz28_20⟩ := cz21 BK120.out; obtain ⟨hfz28_0, hfz28_1, hfz28_2, hfz28_3, hfz28_4, hfz28_5, hfz28_6, hfz28_7, hfz28_8, hfz28_9, hfz28_10, hfz28_11, hfz28_12, hfz28_13, hfz28_14, hfz28_15, hfz28_16, hfz28_17, hfz28_18, hfz28_19, hfz28_20⟩ := fz21 BK120.out) | (go_at_call 46; (with_reducible refine (spec_l5None.calls a0_10 a0_11 a0_12 a0_13 a0_14 false _ A12.out).mono ?_); rintro e w29 ⟨rfl, hb⟩; have n0_ := mk_ (zq6 (by exact BK120.out) hb); have n1_ := mk_ (zq6 (by exact BK121.out) hb); have n2_ := mk_ (zr3 (by repeat (first | (with_reducible first | exact HB.out | apply zq7 | apply zq8 | apply zq9 | refine zr1 ?_ GE120.out | refine zr1 ?_ GE121.out) | exact HB.out)) hb); clear BK120; clear BK121; clear HB; have BK120 := n0_; have BK121 := n1_; have HB := n2_; clear n0_ n1_ n2_; (try clear hb); (try clear hb2); (try clear hk); (try clear hi); obtain ⟨hcz30_0, hcz30_1, hcz30_2, hcz30_3, hcz30_4, hcz30_5⟩ := cz6 BK121.out; obtain ⟨hfz30_0, hfz30_1, hfz30_2, hfz30_3, hfz30_4, hfz30_5⟩ := fz6 BK121.out))
   refine bodyPost_ret (results_ct rfl _ _ gb121 46 #[.int .i64 0, .int .i64 0, .int .i64 0, .int .i64 0, .int .i64 0, .int .i64 0] (0, 0) _ rfl (by (with_reducible repeat (first | refine zq1 ?_ _ | refine zq2 ?_ | refine zq3 ?_ _)); apply pu6; (with_reducible repeat (first | refine zq1 ?_ _ | refine zq2 ?_ | refine zq3 ?_ _)); exact BK121.out) Try.underlying46 rfl (by kernel_rfl)) rfl ?_
   exact ⟨by first | rfl | (simp [errW_none, errW_some] <;> rfl) | (simp [*, errW_none, errW_some] <;> rfl), by repeat (first | (with_reducible first | exact HB.out | apply zq7 | apply zq8 | apply zq9 | refine zr1 ?_ GE120.out | refine zr1 ?_ GE121.out) | exact HB.out)⟩
 subst c13
 have H1 : (some (1, a0_5, a0_6, a0_7, a0_8, a0_9, true)) = some (r1, r2, r3, r4, r5, r6, r7) := by rw [if_pos rfl] at H; exact H
 clear H
 have H := H1
 clear H1
 simp only [Option.some.injEq, Prod.mk.injEq] at H
 obtain ⟨rfl, rfl, rfl, rfl, rfl, rfl, rfl⟩ := H
 go_enter Try.func19, Try.ntmps19
 go_wp2_with (first | ((with_reducible refine gate_ty (t := 50) (x := .tmp 1) rfl ?_); refine st21 rfl rfl rfl rfl (by first | (with_reducible exact BK120.out) | (with_reducible exact (pu21 BK120.out)) | (with_reducible exact (fa6 BK120.out NB120_121.out)) | (with_reducible exact (fa6 (pu21 BK120.out) NB120_121.out))) (by kernel_rfl) rfl ?_) | ((with_reducible refine gate_ld (t := 50) (x := .tmp 1) rfl ?_); refine wpList_load_row rfl 50 _ rfl _ rfl _ _ _ _ (by first | (with_reducible exact BK120.out) | (with_reducible exact (pu21 BK120.out)) | (with_reducible exact (fa6 BK120.out NB120_121.out)) | (with_reducible exact (fa6 (pu21 BK120.out) NB120_121.out))) Try.underlying50 rfl (by kernel_rfl) ?_) | ((with_reducible refine gate_dst (N := 1) rfl ?_); refine box_event ?hg (N := 1) ?hd (cs := #[.int .i64 a0_0, .int .i64 a0_1, .int .i64 a0_2, .int .i64 a0_3, .int .i64 a0_4, .int .i64 a0_5, .int .i64 a0_6, .int .i64 a0_7, .int .i64 a0_8, .int .i64 a0_9, .int .i64 a0_10, .int .i64 a0_11, .int .i64 a0_12, .int .i64 a0_13, .int .i64 a0_14, .int .i64 a0_15, .int .i64 a0_16, .int .i64 a0_17, .int .i64 a0_18, .int .i64 a0_19, .bool false]) (t := 50) ?hr ?_; (case hd => rfl); (case hg => rfl); (case hr => first | (go_simp; done) | (go_simp; rfl)); intro gb120 hg w14 hbox hb; have n0_ := mk_ (zr3 (by repeat (first | (with_reducible first | exact HB.out | apply zq7 | apply zq8 | apply zq9) | exact HB.out)) hb); have n1_ := mk_ (hbox); have n2_ := mk_ ((by rw [hg]; exact (zr2 (by repeat (first | (with_reducible first | exact HB.out | apply zq7 | apply zq8 | apply zq9) | exact HB.out))) : w.heap.size ≤ gb120)); have n3_ := mk_ ((by rw [hg]; exact (zr2 (by repeat (first | (with_reducible first | exact HB.out | apply zq7 | apply zq8 | apply zq9) | exact HB.out))) : w.heap.size ≤ gb120)); clear HB; have HB := n0_; have BK120 := n1_; have GW120 := n2_; have GE120 := n3_; clear n0_ n1_ n2_ n3_; clear hb hbox hg) | ((with_reducible refine gate_dst (N := 2) rfl ?_); refine box_event ?hg (N := 2) ?hd (cs := #[.int .i64 0, .int .i64 0, .int .i64 0, .int .i64 0, .int .i64 0, .int .i64 0]) (t := 46) ?hr ?_; (case hd => rfl); (case hg => rfl); (case hr => first | (go_simp; done) | (go_simp; rfl)); intro gb121 hg w15 hbox hb; have n0_ := mk_ (zq6 (by exact BK120.out) hb); have n1_ := mk_ (zr3 (by repeat (first | (with_reducible first | exact HB.out | apply zq7 | apply zq8 | apply zq9 | refine zr1 ?_ GE120.out) | exact HB.out)) hb); have n2_ := mk_ (hbox); have n3_ := mk_ ((by rw [hg]; exact (zr2 (by repeat (first | (with_reducible first | exact HB.out | apply zq7 | apply zq8 | apply zq9 | refine zr1 ?_ GE120.out) | exact HB.out))) : w.heap.size ≤ gb121)); have n4_ := mk_ ((by rw [hg]; exact (zr2 (by repeat (first | (with_reducible first | exact HB.out | apply zq7 | apply zq8 | apply zq9 | refine zr1 ?_ GE120.out) | exact HB.out))) : w.heap.size ≤ gb121)); have n5_ := mk_ ((by rw [hg]; exact zm2 (zr6 (by exact BK120.out)) : gb120 ≠ gb121)); have n6_ := mk_ n5_.out.symm; clear BK120; clear HB; have BK120 := n0_; have HB := n1_; have BK121 := n2_; have GW121 := n3_; have GE121 := n4_; have NB120_121 := n5_; have NB121_120 := n6_; clear n0_ n1_ n2_ n3_ n4_ n5_ n6_; clear hb hbox hg; have hnb16 := NB120_121.out; have hnc16 := NB121_120.out; obtain ⟨hcz17_0, hcz17_1, hcz17_2, hcz17_3, hcz17_4, hcz17_5, hcz17_6, hcz17_7, hcz17_8, hcz17_9, hcz17_10, hcz17_11, hcz17_12, hcz17_13, hcz17_14, hcz17_15, hcz17_16, hcz17_17, hcz17_18, hcz17_19, hcz17_20⟩ := cz21 BK120.out; obtain ⟨hfz17_0, hfz17_1, hfz17_2, hfz17_3, hfz17_4, hfz17_5, hfz17_6, hfz17_7, hfz17_8, hfz17_9, hfz17_10, hfz17_11, hfz17_12, hfz17_13, hfz17_14, hfz17_15, hfz17_16, hfz17_17, hfz17_18, hfz17_19, hfz17_20⟩ := fz21 BK120.out) | ((with_reducible refine gate_callee (f := 45) rfl ?_); refine goesL_ (some 5) rfl rfl Try.func45 (by kernel_rfl) rfl #[.agg #[.int .i64 a0_0, .int .i64 a0_1, .int .i64 a0_2, .int .i64 a0_3, .int .i64 a0_4, .int .i64 a0_5, .int .i64 a0_6, .int .i64 a0_7, .int .i64 a0_8, .int .i64 a0_9, .int .i64 a0_10, .int .i64 a0_11, .int .i64 a0_12, .int .i64 a0_13, .int .i64 a0_14, .int .i64 a0_15, .int .i64 a0_16, .int .i64 a0_17, .int .i64 a0_18, .int .i64 a0_19, .bool false]] rfl (by (try simp only [List.map_toArray, List.map_cons, List.map_nil]); first | done | rfl | (simp only [List.length_drop, List.length_take]; rfl)) ?_; (with_reducible refine (spec_NegOk.calls a0_0 a0_1 a0_2 a0_3 a0_4 a0_5 a0_6 a0_7 a0_8 a0_9 a0_10 a0_11 a0_12 a0_13 a0_14 a0_15 a0_16 a0_17 a0_18 a0_19 false true _ A2.out).mono ?_); rintro e w18 ⟨rfl, hb⟩; refine ⟨_, rfl, ?_⟩; have n0_ := mk_ (zq6 (by exact BK120.out) hb); have n1_ := mk_ (zq6 (by exact BK121.out) hb); have n2_ := mk_ (zr3 (by repeat (first | (with_reducible first | exact HB.out | apply zq7 | apply zq8 | apply zq9 | refine zr1 ?_ GE120.out | refine zr1 ?_ GE121.out) | exact HB.out)) hb); clear BK120; clear BK121; clear HB; have BK120 := n0_; have BK121 := n1_; have HB := n2_; clear n0_ n1_ n2_; (try clear hb); (try clear hb2); (try clear hk); (try clear hi); obtain ⟨hcz19_0, hcz19_1, hcz19_2, hcz19_3, hcz19_4, hcz19_5, hcz19_6, hcz19_7, hcz19_8, hcz19_9, hcz19_10, hcz19_11, hcz19_12, hcz19_13, hcz19_14, hcz19_15, hcz19_16, hcz19_17, hcz19_18, hcz19_19, hcz19_20⟩ := cz21 BK120.out; obtain ⟨hfz19_0, hfz19_1, hfz19_2, hfz19_3, hfz19_4, hfz19_5, hfz19_6, hfz19_7, hfz19_8, hfz19_9, hfz19_10, hfz19_11, hfz19_12, hfz19_13, hfz19_14, hfz19_15, hfz19_16, hfz19_17, hfz19_18, hfz19_19, hfz19_20⟩ := fz21 BK120.out) | (go_at_call 46; (with_reducible refine (spec_l5None.calls a0_10 a0_11 a0_12 a0_13 a0_14 true _ A12.out).mono ?_); rintro e w20 ⟨rfl, hb⟩; have n0_ := mk_ (zq6 (by exact BK120.out) hb); have n1_ := mk_ (zq6 (by exact BK121.out) hb); have n2_ := mk_ (zr3 (by repeat (first | (with_reducible first | exact HB.out | apply zq7 | apply zq8 | apply zq9 | refine zr1 ?_ GE120.out | refine zr1 ?_ GE121.out) | exact HB.out)) hb); clear BK120; clear BK121; clear HB; have BK120 := n0_; have BK121 := n1_; have HB := n2_; clear n0_ n1_ n2_; (try clear hb); (try clear hb2); (try clear hk); (try clear hi); obtain ⟨hcz21_0, hcz21_1, hcz21_2, hcz21_3, hcz21_4, hcz21_5, hcz21_6, hcz21_7, hcz21_8, hcz21_9, hcz21_10, hcz21_11, hcz21_12, hcz21_13, hcz21_14, hcz21_15, hcz21_16, hcz21_17, hcz21_18, hcz21_19, hcz21_20⟩ := cz21 BK120.out; obtain ⟨hfz21_0, hfz21_1, hfz21_2, hfz21_3, hfz21_4, hfz21_5, hfz21_6, hfz21_7, hfz21_8, hfz21_9, hfz21_10, hfz21_11, hfz21_12, hfz21_13, hfz21_14, hfz21_15, hfz21_16, hfz21_17, hfz21_18, hfz21_19, hfz21_20⟩ := fz21 BK120.out; obtain ⟨hcz22_0, hcz22_1, hcz22_2, hcz22_3, hcz22_4, hcz22_5⟩ := cz6 BK121.out; obtain ⟨hfz22_0, hfz22_1, hfz22_2, hfz22_3, hfz22_4, hfz22_5⟩ := fz6 BK121.out))
 refine bodyPost_ret (results_ct rfl _ _ gb121 46 #[.int .i64 1, .int .i64 a0_5, .int .i64 a0_6, .int .i64 a0_7, .int .i64 a0_8, .int .i64 a0_9] (0, 0) _ rfl (by (with_reducible repeat (first | refine zq1 ?_ _ | refine zq2 ?_ | refine zq3 ?_ _)); apply pu6; (with_reducible repeat (first | refine zq1 ?_ _ | refine zq2 ?_ | refine zq3 ?_ _)); exact BK121.out) Try.underlying46 rfl (by kernel_rfl)) rfl ?_
 exact ⟨by first | rfl | (simp [errW_none, errW_some] <;> rfl) | (simp [*, errW_none, errW_some] <;> rfl), by repeat (first | (with_reducible first | exact HB.out | apply zq7 | apply zq8 | apply zq9 | refine zr1 ?_ GE120.out | refine zr1 ?_ GE121.out) | exact HB.out)⟩

/-! ### laws_toCfgOpts: function 47 -/
def laws_toCfgOpts.f (a0_0 : Int) (a0_1 : Int) (a0_2 : Int) (a0_3 : Int) (a0_4 : Int) : Option (Int × Int × Int × Int × Int) := some (a0_0, a0_1, a0_2, a0_3, a0_4)
set_option maxHeartbeats 8000000 in
set_option maxRecDepth 100000 in
theorem laws_toCfgOpts.calls (a0_0 : Int) (a0_1 : Int) (a0_2 : Int) (a0_3 : Int) (a0_4 : Int) (r1 : Int) (r2 : Int) (r3 : Int) (r4 : Int) (r5 : Int) (w : World) (h : laws_toCfgOpts.f a0_0 a0_1 a0_2 a0_3 a0_4 = some (r1, r2, r3, r4, r5)) :
    Calls Try.prog 47 #[.agg #[.int .i64 a0_0, .int .i64 a0_1, .int .i64 a0_2, .int .i64 a0_3, .int .i64 a0_4]] w fun e w' => e = .returned (.agg #[.int .i64 r1, .int .i64 r2, .int .i64 r3, .int .i64 r4, .int .i64 r5]) ∧ Below w.heap.size w w' := by
 have hu42 := Try.underlying42
 have hu24 := Try.underlying24
 have HB := mk_ (Below.refl w.heap.size w)
 have H : (some (a0_0, a0_1, a0_2, a0_3, a0_4)) = some (r1, r2, r3, r4, r5) := h
 clear h
 simp only [Option.some.injEq, Prod.mk.injEq] at H
 obtain ⟨rfl, rfl, rfl, rfl, rfl⟩ := H
 go_enter Try.func47, Try.ntmps47
 go_wp2_with (first | ((with_reducible refine gate_dst (N := 1) rfl ?_); refine box_event ?hg (N := 1) ?hd (cs := #[.int .i64 a0_0, .int .i64 a0_1, .int .i64 a0_2, .int .i64 a0_3, .int .i64 a0_4]) (t := 42) ?hr ?_; (case hd => rfl); (case hg => rfl); (case hr => first | (go_simp; done) | (go_simp; rfl)); intro gb124 hg w2 hbox hb; have n0_ := mk_ (zr3 (by repeat (first | (with_reducible first | exact HB.out | apply zq7 | apply zq8 | apply zq9) | exact HB.out)) hb); have n1_ := mk_ (hbox); have n2_ := mk_ ((by rw [hg]; exact (zr2 (by repeat (first | (with_reducible first | exact HB.out | apply zq7 | apply zq8 | apply zq9) | exact HB.out))) : w.heap.size ≤ gb124)); have n3_ := mk_ ((by rw [hg]; exact (zr2 (by repeat (first | (with_reducible first | exact HB.out | apply zq7 | apply zq8 | apply zq9) | exact HB.out))) : w.heap.size ≤ gb124)); clear HB; have HB := n0_; have BK124 := n1_; have GW124 := n2_; have GE124 := n3_; clear n0_ n1_ n2_ n3_; clear hb hbox hg) | ((with_reducible refine gate_dst (N := 2) rfl ?_); refine box_event ?hg (N := 2) ?hd (cs := #[.int .i64 0, .int .i64 0, .int .i64 0, .int .i64 0, .int .i64 0]) (t := 24) ?hr ?_; (case hd => rfl); (case hg => rfl); (case hr => first | (go_simp; done) | (go_simp; rfl)); intro gb125 hg w3 hbox hb; have n0_ := mk_ (zq6 (by exact BK124.out) hb); have n1_ := mk_ (zr3 (by repeat (first | (with_reducible first | exact HB.out | apply zq7 | apply zq8 | apply zq9 | refine zr1 ?_ GE124.out) | exact HB.out)) hb); have n2_ := mk_ (hbox); have n3_ := mk_ ((by rw [hg]; exact (zr2 (by repeat (first | (with_reducible first | exact HB.out | apply zq7 | apply zq8 | apply zq9 | refine zr1 ?_ GE124.out) | exact HB.out))) : w.heap.size ≤ gb125)); have n4_ := mk_ ((by rw [hg]; exact (zr2 (by repeat (first | (with_reducible first | exact HB.out | apply zq7 | apply zq8 | apply zq9 | refine zr1 ?_ GE124.out) | exact HB.out))) : w.heap.size ≤ gb125)); have n5_ := mk_ ((by rw [hg]; exact zm2 (zr6 (by exact BK124.out)) : gb124 ≠ gb125)); have n6_ := mk_ n5_.out.symm; clear BK124; clear HB; have BK124 := n0_; have HB := n1_; have BK125 := n2_; have GW125 := n3_; have GE125 := n4_; have NB124_125 := n5_; have NB125_124 := n6_; clear n0_ n1_ n2_ n3_ n4_ n5_ n6_; clear hb hbox hg) | ((with_reducible refine gate_dst (N := 3) rfl ?_); refine box_event ?hg (N := 3) ?hd (cs := #[.int .i64 0, .int .i64 0, .int .i64 0, .int .i64 0, .int .i64 0]) (t := 24) ?hr ?_; (case hd => rfl); (case hg => rfl); (case hr => first | (go_simp; done) | (go_simp; rfl)); intro gb126 hg w4 hbox hb; have n0_ := mk_ (zq6 (by exact BK124.out) hb); have n1_ := mk_ (zq6 (by exact BK125.out) hb); have n2_ := mk_ (zr3 (by repeat (first | (with_reducible first | exact HB.out | apply zq7 | apply zq8 | apply zq9 | refine zr1 ?_ GE124.out | refine zr1 ?_ GE125.out) | exact HB.out)) hb); have n3_ := mk_ (hbox); have n4_ := mk_ ((by rw [hg]; exact (zr2 (by repeat (first | (with_reducible first | exact HB.out | apply zq7 | apply zq8 | apply zq9 | refine zr1 ?_ GE124.out | refine zr1 ?_ GE125.out) | exact HB.out))) : w.heap.size ≤ gb126)); have n5_ := mk_ ((by rw [hg]; exact (zr2 (by repeat (first | (with_reducible first | exact HB.out | apply zq7 | apply zq8 | apply zq9 | refine zr1 ?_ GE124.out | refine zr1 ?_ GE125.out) | exact HB.out))) : w.heap.size ≤ gb126)); have n6_ := mk_ ((by rw [hg]; exact zm2 (zr6 (by exact BK124.out)) : gb124 ≠ gb126)); have n7_ := mk_ n6_.out.symm; have n8_ := mk_ ((by rw [hg]; exact zm2 (zr6 (by exact BK125.out)) : gb125 ≠ gb126)); have n9_ := mk_ n8_.out.symm; clear BK124; clear BK125; clear HB; have BK124 := n0_; have BK125 := n1_; have HB := n2_; have BK126 := n3_; have GW126 := n4_; have GE126 := n5_; have NB124_126 := n6_; have NB126_124 := n7_; have NB125_126 := n8_; have NB126_125 := n9_; clear n0_ n1_ n2_ n3_ n4_ n5_ n6_ n7_ n8_ n9_; clear hb hbox hg; have hnb5 := NB124_125.out; have hnc5 := NB125_124.out; have hnb6 := NB124_126.out; have hnc6 := NB126_124.out; obtain ⟨hcz7_0, hcz7_1, hcz7_2, hcz7_3, hcz7_4⟩ := cz5 BK124.out; obtain ⟨hfz7_0, hfz7_1, hfz7_2, hfz7_3, hfz7_4⟩ := fz5 BK124.out; have hnb8 := NB126_125.out; have hnc8 := NB125_126.out; obtain ⟨hcz9_0, hcz9_1, hcz9_2, hcz9_3, hcz9_4⟩ := cz5 BK126.out; obtain ⟨hfz9_0, hfz9_1, hfz9_2, hfz9_3, hfz9_4⟩ := fz5 BK126.out; obtain ⟨hcz10_0, hcz10_1, hcz10_2, hcz10_3, hcz10_4⟩ := cz5 BK125.out; obtain ⟨hfz10_0, hfz10_1, hfz10_2, hfz10_3, hfz10_4⟩ := fz5 BK125.out))
 refine bodyPost_ret (results_cell_row rfl _ _ gb125 24 #[.int .i64 a0_0, .int .i64 a0_1, .int .i64 a0_2, .int .i64 a0_3, .int .i64 a0_4] (0, 0) _ rfl (by (with_reducible repeat (first | refine zq1 ?_ _ | refine zq2 ?_ | refine zq3 ?_ _)); apply pu5; (with_reducible repeat (first | refine zq1 ?_ _ | refine zq2 ?_ | refine zq3 ?_ _)); refine fa5 ?_ NB125_126.out; (with_reducible repeat (first | refine zq1 ?_ _ | refine zq2 ?_ | refine zq3 ?_ _)); exact BK125.out) Try.underlying24 rfl (by kernel_rfl)) rfl ?_
 exact ⟨by first | rfl | (simp [errW_none, errW_some] <;> rfl) | (simp [*, errW_none, errW_some] <;> rfl), by repeat (first | (with_reducible first | exact HB.out | apply zq7 | apply zq8 | apply zq9 | refine zr1 ?_ GE124.out | refine zr1 ?_ GE125.out | refine zr1 ?_ GE126.out) | exact HB.out)⟩

/-! ### laws_toNegState: function 20 -/
def laws_toNegState.f (a0_0 : Int) (a0_1 : Int) (a0_2 : Int) (a0_3 : Int) (a0_4 : Int) (a0_5 : Int) (a0_6 : Int) (a0_7 : Int) (a0_8 : Int) (a0_9 : Int) (a0_10 : Int) (a0_11 : Int) (a0_12 : Int) (a0_13 : Int) (a0_14 : Int) (a0_15 : Int) (a0_16 : Int) (a0_17 : Int) (a0_18 : Int) (a0_19 : Int) (a0_20 : Bool) : Option (Int × Int × Int × Int × Int × Int × Int × Int × Int × Int × Int × Int × Int × Int × Int × Int × Int × Int × Int × Int × Bool) := (laws_toCfgOpts.f a0_0 a0_1 a0_2 a0_3 a0_4).bind fun bt130 => ((laws_toCfgOpts.f a0_5 a0_6 a0_7 a0_8 a0_9).bind fun bt135 => ((laws_toCfgOpts.f a0_10 a0_11 a0_12 a0_13 a0_14).bind fun bt140 => ((laws_toCfgOpts.f a0_15 a0_16 a0_17 a0_18 a0_19).bind fun bt145 => (some (bt130.1, bt130.2.1, bt130.2.2.1, bt130.2.2.2.1, bt130.2.2.2.2, bt135.1, bt135.2.1, bt135.2.2.1, bt135.2.2.2.1, bt135.2.2.2.2, bt140.1, bt140.2.1, bt140.2.2.1, bt140.2.2.2.1, bt140.2.2.2.2, bt145.1, bt145.2.1, bt145.2.2.1, bt145.2.2.2.1, bt145.2.2.2.2, a0_20)))))
set_option maxHeartbeats 8000000 in
set_option maxRecDepth 100000 in
theorem laws_toNegState.calls (a0_0 : Int) (a0_1 : Int) (a0_2 : Int) (a0_3 : Int) (a0_4 : Int) (a0_5 : Int) (a0_6 : Int) (a0_7 : Int) (a0_8 : Int) (a0_9 : Int) (a0_10 : Int) (a0_11 : Int) (a0_12 : Int) (a0_13 : Int) (a0_14 : Int) (a0_15 : Int) (a0_16 : Int) (a0_17 : Int) (a0_18 : Int) (a0_19 : Int) (a0_20 : Bool) (r1 : Int) (r2 : Int) (r3 : Int) (r4 : Int) (r5 : Int) (r6 : Int) (r7 : Int) (r8 : Int) (r9 : Int) (r10 : Int) (r11 : Int) (r12 : Int) (r13 : Int) (r14 : Int) (r15 : Int) (r16 : Int) (r17 : Int) (r18 : Int) (r19 : Int) (r20 : Int) (r21 : Bool) (w : World) (h : laws_toNegState.f a0_0 a0_1 a0_2 a0_3 a0_4 a0_5 a0_6 a0_7 a0_8 a0_9 a0_10 a0_11 a0_12 a0_13 a0_14 a0_15 a0_16 a0_17 a0_18 a0_19 a0_20 = some (r1, r2, r3, r4, r5, r6, r7, r8, r9, r10, r11, r12, r13, r14, r15, r16, r17, r18, r19, r20, r21)) :
    Calls Try.prog 20 #[.agg #[.int .i64 a0_0, .int .i64 a0_1, .int .i64 a0_2, .int .i64 a0_3, .int .i64 a0_4, .int .i64 a0_5, .int .i64 a0_6, .int .i64 a0_7, .int .i64 a0_8, .int .i64 a0_9, .int .i64 a0_10, .int .i64 a0_11, .int .i64 a0_12, .int .i64 a0_13, .int .i64 a0_14, .int .i64 a0_15, .int .i64 a0_16, .int .i64 a0_17, .int .i64 a0_18, .int .i64 a0_19, .bool a0_20]] w fun e w' => e = .returned (.agg #[.int .i64 r1, .int .i64 r2, .int .i64 r3, .int .i64 r4, .int .i64 r5, .int .i64 r6, .int .i64 r7, .int .i64 r8, .int .i64 r9, .int .i64 r10, .int .i64 r11, .int .i64 r12, .int .i64 r13, .int .i64 r14, .int .i64 r15, .int .i64 r16, .int .i64 r17, .int .i64 r18, .int .i64 r19, .int .i64 r20, .bool r21]) ∧ Below w.heap.size w w' := by
 have hu44 := Try.underlying44
 have hu50 := Try.underlying50
 have hu42 := Try.underlying42
 have hu24 := Try.underlying24
 have HB := mk_ (Below.refl w.heap.size w)
 have H : ((laws_toCfgOpts.f a0_0 a0_1 a0_2 a0_3 a0_4).bind fun bt130 => ((laws_toCfgOpts.f a0_5 a0_6 a0_7 a0_8 a0_9).bind fun bt135 => ((laws_toCfgOpts.f a0_10 a0_11 a0_12 a0_13 a0_14).bind fun bt140 => ((laws_toCfgOpts.f a0_15 a0_16 a0_17 a0_18 a0_19).bind fun bt145 => (some (bt130.1, bt130.2.1, bt130.2.2.1, bt130.2.2.2.1, bt130.2.2.2.2, bt135.1, bt135.2.1, bt135.2.2.1, bt135.2.2.2.1, bt135.2.2.2.2, bt140.1, bt140.2.1, bt140.2.2.1, bt140.2.2.2.1, bt140.2.2.2.2, bt145.1, bt145.2.1, bt145.2.2.1, bt145.2.2.2.1, bt145.2.2.2.2, a0_20)))))) = some (r1, r2, r3, r4, r5, r6, r7, r8, r9, r10, r11, r12, r13, r14, r15, r16, r17, r18, r19, r20, r21) := h
 clear h
 replace H := Option.bind_eq_some_iff.mp H
 obtain ⟨⟨t130, t131, t132, t133, t134⟩, A20, H⟩ := H
 try dsimp only at H
 have A2 := mk_ A20
 clear A20
 replace H := Option.bind_eq_some_iff.mp H
 obtain ⟨⟨t135, t136, t137, t138, t139⟩, A30, H⟩ := H
 try dsimp only at H
 have A3 := mk_ A30
 clear A30
 replace H := Option.bind_eq_some_iff.mp H
 obtain ⟨⟨t140, t141, t142, t143, t144⟩, A40, H⟩ := H
 try dsimp only at H
 have A4 := mk_ A40
 clear A40
 replace H := Option.bind_eq_some_iff.mp H
 obtain ⟨⟨t145, t146, t147, t148, t149⟩, A50, H⟩ := H
 try dsimp only at H
 have A5 := mk_ A50
 clear A50
 simp only [Option.some.injEq, Prod.mk.injEq] at H
 obtain ⟨rfl, rfl, rfl, rfl, rfl, rfl, rfl, rfl, rfl, rfl, rfl, rfl, rfl, rfl, rfl, rfl, rfl, rfl, rfl, rfl, rfl⟩ := H
 go_enter Try.func20, Try.ntmps20
 go_wp2_with (first | ((with_reducible refine gate_ty (t := 44) (x := .tmp 1) rfl ?_); refine st21 rfl rfl rfl rfl (by first | (with_reducible exact BK127.out) | (with_reducible exact (pu21 BK127.out)) | (with_reducible exact (fa21 BK127.out NB127_128.out)) | (with_reducible exact (fa21 BK127.out NB127_129.out)) | (with_reducible exact (pt6 BK127.out)) | (with_reducible exact (fa5 BK127.out NB127_128.out)) | (with_reducible exact (fa6 BK127.out NB127_128.out)) | (with_reducible exact (fa5 BK127.out NB127_129.out)) | (with_reducible exact (fa6 BK127.out NB127_129.out)) | (with_reducible exact (fa21 (pu21 BK127.out) NB127_128.out)) | (with_reducible exact (fa21 (pu21 BK127.out) NB127_129.out)) | (with_reducible exact (fa21 (fa21 BK127.out NB127_129.out) NB127_128.out)) | (with_reducible exact (fa21 (fa21 BK127.out NB127_128.out) NB127_129.out))) (by kernel_rfl) rfl ?_) | ((with_reducible refine gate_ld (t := 44) (x := .tmp 1) rfl ?_); refine wpList_load_row rfl 44 _ rfl _ rfl _ _ _ _ (by first | (with_reducible exact BK127.out) | (with_reducible exact (pu21 BK127.out)) | (with_reducible exact (fa21 BK127.out NB127_128.out)) | (with_reducible exact (fa21 BK127.out NB127_129.out)) | (with_reducible exact (pt6 BK127.out)) | (with_reducible exact (fa5 BK127.out NB127_128.out)) | (with_reducible exact (fa6 BK127.out NB127_128.out)) | (with_reducible exact (fa5 BK127.out NB127_129.out)) | (with_reducible exact (fa6 BK127.out NB127_129.out)) | (with_reducible exact (fa21 (pu21 BK127.out) NB127_128.out)) | (with_reducible exact (fa21 (pu21 BK127.out) NB127_129.out)) | (with_reducible exact (fa21 (fa21 BK127.out NB127_129.out) NB127_128.out)) | (with_reducible exact (fa21 (fa21 BK127.out NB127_128.out) NB127_129.out))) Try.underlying44 rfl (by kernel_rfl) ?_) | ((with_reducible refine gate_ty (t := 50) (x := .tmp 2) rfl ?_); refine st21 rfl rfl rfl rfl (by first | (with_reducible exact BK128.out) | (with_reducible exact (pu21 BK128.out)) | (with_reducible exact (fa21 BK128.out NB128_127.out)) | (with_reducible exact (fa21 BK128.out NB128_129.out)) | (with_reducible exact (pt6 BK128.out)) | (with_reducible exact (fa5 BK128.out NB128_127.out)) | (with_reducible exact (fa6 BK128.out NB128_127.out)) | (with_reducible exact (fa5 BK128.out NB128_129.out)) | (with_reducible exact (fa6 BK128.out NB128_129.out)) | (with_reducible exact (fa21 (pu21 BK128.out) NB128_127.out)) | (with_reducible exact (fa21 (pu21 BK128.out) NB128_129.out)) | (with_reducible exact (fa21 (fa21 BK128.out NB128_129.out) NB128_127.out)) | (with_reducible exact (fa21 (fa21 BK128.out NB128_127.out) NB128_129.out))) (by kernel_rfl) rfl ?_) | ((with_reducible refine gate_ld (t := 50) (x := .tmp 2) rfl ?_); refine wpList_load_row rfl 50 _ rfl _ rfl _ _ _ _ (by first | (with_reducible exact BK128.out) | (with_reducible exact (pu21 BK128.out)) | (with_reducible exact (fa21 BK128.out NB128_127.out)) | (with_reducible exact (fa21 BK128.out NB128_129.out)) | (with_reducible exact (pt6 BK128.out)) | (with_reducible exact (fa5 BK128.out NB128_127.out)) | (with_reducible exact (fa6 BK128.out NB128_127.out)) | (with_reducible exact (fa5 BK128.out NB128_129.out)) | (with_reducible exact (fa6 BK128.out NB128_129.out)) | (with_reducible exact (fa21 (pu21 BK128.out) NB128_127.out)) | (with_reducible exact (fa21 (pu21 BK128.out) NB128_129.out)) | (with_reducible exact (fa21 (fa21 BK128.out NB128_129.out) NB128_127.out)) | (with_reducible exact (fa21 (fa21 BK128.out NB128_127.out) NB128_129.out))) Try.underlying50 rfl (by kernel_rfl) ?_) | ((with_reducible refine gate_ty (t := 50) (x := .tmp 3) rfl ?_); refine st21 rfl rfl rfl rfl (by first | (with_reducible exact BK129.out) | (with_reducible exact (pu21 BK129.out)) | (with_reducible exact (fa21 BK129.out NB129_127.out)) | (with_reducible exact (fa21 BK129.out NB129_128.out)) | (with_reducible exact (pt6 BK129.out)) | (with_reducible exact (fa5 BK129.out NB129_127.out)) | (with_reducible exact (fa6 BK129.out NB129_127.out)) | (with_reducible exact (fa5 BK129.out NB129_128.out)) | (with_reducible exact (fa6 BK129.out NB129_128.out)) | (with_reducible exact (fa21 (pu21 BK129.out) NB129_127.out)) | (with_reducible exact (fa21 (pu21 BK129.out) NB129_128.out)) | (with_reducible exact (fa21 (fa21 BK129.out NB129_128.out) NB129_127.out)) | (with_reducible exact (fa21 (fa21 BK129.out NB129_127.out) NB129_128.out))) (by kernel_rfl) rfl ?_) | ((with_reducible refine gate_ld (t := 50) (x := .tmp 3) rfl ?_); refine wpList_load_row rfl 50 _ rfl _ rfl _ _ _ _ (by first | (with_reducible exact BK129.out) | (with_reducible exact (pu21 BK129.out)) | (with_reducible exact (fa21 BK129.out NB129_127.out)) | (with_reducible exact (fa21 BK129.out NB129_128.out)) | (with_reducible exact (pt6 BK129.out)) | (with_reducible exact (fa5 BK129.out NB129_127.out)) | (with_reducible exact (fa6 BK129.out NB129_127.out)) | (with_reducible exact (fa5 BK129.out NB129_128.out)) | (with_reducible exact (fa6 BK129.out NB129_128.out)) | (with_reducible exact (fa21 (pu21 BK129.out) NB129_127.out)) | (with_reducible exact (fa21 (pu21 BK129.out) NB129_128.out)) | (with_reducible exact (fa21 (fa21 BK129.out NB129_128.out) NB129_127.out)) | (with_reducible exact (fa21 (fa21 BK129.out NB129_127.out) NB129_128.out))) Try.underlying50 rfl (by kernel_rfl) ?_) | ((with_reducible refine gate_ty rfl ?_); refine sp5 _ _ _ _ _ rfl rfl rfl rfl rfl rfl rfl rfl (by first | (with_reducible exact BK127.out) | (with_reducible exact (pu21 BK127.out)) | (with_reducible exact (fa21 BK127.out NB127_128.out)) | (with_reducible exact (fa21 BK127.out NB127_129.out)) | (with_reducible exact (pt6 BK127.out)) | (with_reducible exact (fa5 BK127.out NB127_128.out)) | (with_reducible exact (fa6 BK127.out NB127_128.out)) | (with_reducible exact (fa5 BK127.out NB127_129.out)) | (with_reducible exact (fa6 BK127.out NB127_129.out)) | (with_reducible exact (fa21 (pu21 BK127.out) NB127_128.out)) | (with_reducible exact (fa21 (pu21 BK127.out) NB127_129.out)) | (with_reducible exact (fa21 (fa21 BK127.out NB127_129.out) NB127_128.out)) | (with_reducible exact (fa21 (fa21 BK127.out NB127_128.out) NB127_129.out)) | (with_reducible exact BK128.out) | (with_reducible exact (pu21 BK128.out)) | (with_reducible exact (fa21 BK128.out NB128_127.out)) | (with_reducible exact (fa21 BK128.out NB128_129.out)) | (with_reducible exact (pt6 BK128.out)) | (with_reducible exact (fa5 BK128.out NB128_127.out)) | (with_reducible exact (fa6 BK128.out NB128_127.out)) | (with_reducible exact (fa5 BK128.out NB128_129.out)) | (with_reducible exact (fa6 BK128.out NB128_129.out)) | (with_reducible exact (fa21 (pu21 BK128.out) NB128_127.out)) | (with_reducible exact (fa21 (pu21 BK128.out) NB128_129.out)) | (with_reducible exact (fa21 (fa21 BK128.out NB128_129.out) NB128_127.out)) | (with_reducible exact (fa21 (fa21 BK128.out NB128_127.out) NB128_129.out)) | (with_reducible exact BK129.out) | (with_reducible exact (pu21 BK129.out)) | (with_reducible exact (fa21 BK129.out NB129_127.out)) | (with_reducible exact (fa21 BK129.out NB129_128.out)) | (with_reducible exact (pt6 BK129.out)) | (with_reducible exact (fa5 BK129.out NB129_127.out)) | (with_reducible exact (fa6 BK129.out NB129_127.out)) | (with_reducible exact (fa5 BK129.out NB129_128.out)) | (with_reducible exact (fa6 BK129.out NB129_128.out)) | (with_reducible exact (fa21 (pu21 BK129.out) NB129_127.out)) | (with_reducible exact (fa21 (pu21 BK129.out) NB129_128.out)) | (with_reducible exact (fa21 (fa21 BK129.out NB129_128.out) NB129_127.out)) | (with_reducible exact (fa21 (fa21 BK129.out NB129_127.out) NB129_128.out))) (by kernel_rfl) (by exact Nat.le_of_ble_eq_true rfl) rfl ?_; (try simp only [Nat.reduceAdd])) | ((with_reducible refine gate_ld rfl ?_); refine lp5 _ rfl rfl rfl (by first | (with_reducible exact BK127.out) | (with_reducible exact (pu21 BK127.out)) | (with_reducible exact (fa21 BK127.out NB127_128.out)) | (with_reducible exact (fa21 BK127.out NB127_129.out)) | (with_reducible exact (pt6 BK127.out)) | (with_reducible exact (fa5 BK127.out NB127_128.out)) | (with_reducible exact (fa6 BK127.out NB127_128.out)) | (with_reducible exact (fa5 BK127.out NB127_129.out)) | (with_reducible exact (fa6 BK127.out NB127_129.out)) | (with_reducible exact (fa21 (pu21 BK127.out) NB127_128.out)) | (with_reducible exact (fa21 (pu21 BK127.out) NB127_129.out)) | (with_reducible exact (fa21 (fa21 BK127.out NB127_129.out) NB127_128.out)) | (with_reducible exact (fa21 (fa21 BK127.out NB127_128.out) NB127_129.out)) | (with_reducible exact BK128.out) | (with_reducible exact (pu21 BK128.out)) | (with_reducible exact (fa21 BK128.out NB128_127.out)) | (with_reducible exact (fa21 BK128.out NB128_129.out)) | (with_reducible exact (pt6 BK128.out)) | (with_reducible exact (fa5 BK128.out NB128_127.out)) | (with_reducible exact (fa6 BK128.out NB128_127.out)) | (with_reducible exact (fa5 BK128.out NB128_129.out)) | (with_reducible exact (fa6 BK128.out NB128_129.out)) | (with_reducible exact (fa21 (pu21 BK128.out) NB128_127.out)) | (with_reducible exact (fa21 (pu21 BK128.out) NB128_129.out)) | (with_reducible exact (fa21 (fa21 BK128.out NB128_129.out) NB128_127.out)) | (with_reducible exact (fa21 (fa21 BK128.out NB128_127.out) NB128_129.out)) | (with_reducible exact BK129.out) | (with_reducible exact (pu21 BK129.out)) | (with_reducible exact (fa21 BK129.out NB129_127.out)) | (with_reducible exact (fa21 BK129.out NB129_128.out)) | (with_reducible exact (pt6 BK129.out)) | (with_reducible exact (fa5 BK129.out NB129_127.out)) | (with_reducible exact (fa6 BK129.out NB129_127.out)) | (with_reducible exact (fa5 BK129.out NB129_128.out)) | (with_reducible exact (fa6 BK129.out NB129_128.out)) | (with_reducible exact (fa21 (pu21 BK129.out) NB129_127.out)) | (with_reducible exact (fa21 (pu21 BK129.out) NB129_128.out)) | (with_reducible exact (fa21 (fa21 BK129.out NB129_128.out) NB129_127.out)) | (with_reducible exact (fa21 (fa21 BK129.out NB129_127.out) NB129_128.out))) (by first | assumption | exact Try.underlying15 | exact Try.underlying16 | exact Try.underlying17 | exact Try.underlying18 | exact Try.underlying19 | exact Try.underlying20 | exact Try.underlying21 | exact Try.underlying22 | exact Try.underlying23 | exact Try.underlying24 | exact Try.underlying25 | exact Try.underlying26 | exact Try.underlying27 | exact Try.underlying28 | exact Try.underlying29 | exact Try.underlying30 | exact Try.underlying31 | exact Try.underlying32 | exact Try.underlying33 | exact Try.underlying34 | exact Try.underlying35 | exact Try.underlying36 | exact Try.underlying37 | exact Try.underlying38 | exact Try.underlying39 | exact Try.underlying40 | exact Try.underlying41 | exact Try.underlying42 | exact Try.underlying43 | exact Try.underlying44 | exact Try.underlying45 | exact Try.underlying46 | exact Try.underlying47 | exact Try.underlying48 | exact Try.underlying49 | exact Try.underlying50 | exact Try.underlying51 | exact Try.underlying52 | exact Try.underlying53 | exact Try.underlying54 | exact Try.underlying55 | exact Try.underlying56 | exact Try.underlying57 | exact Try.underlying58 | exact Try.underlying59) (by exact rfl) (by kernel_rfl) (by exact rfl) (by exact rfl) (by exact rfl) (by exact rfl) (by exact rfl) ?_) | ((with_reducible refine gate_dst (N := 1) rfl ?_); refine box_event ?hg (N := 1) ?hd (cs := #[.int .i64 a0_0, .int .i64 a0_1, .int .i64 a0_2, .int .i64 a0_3, .int .i64 a0_4, .int .i64 a0_5, .int .i64 a0_6, .int .i64 a0_7, .int .i64 a0_8, .int .i64 a0_9, .int .i64 a0_10, .int .i64 a0_11, .int .i64 a0_12, .int .i64 a0_13, .int .i64 a0_14, .int .i64 a0_15, .int .i64 a0_16, .int .i64 a0_17, .int .i64 a0_18, .int .i64 a0_19, .bool a0_20]) (t := 44) ?hr ?_; (case hd => rfl); (case hg => rfl); (case hr => first | (go_simp; done) | (go_simp; rfl)); intro gb127 hg w6 hbox hb; have n0_ := mk_ (zr3 (by repeat (first | (with_reducible first | exact HB.out | apply zq7 | apply zq8 | apply zq9) | exact HB.out)) hb); have n1_ := mk_ (hbox); have n2_ := mk_ ((by rw [hg]; exact (zr2 (by repeat (first | (with_reducible first | exact HB.out | apply zq7 | apply zq8 | apply zq9) | exact HB.out))) : w.heap.size ≤ gb127)); have n3_ := mk_ ((by rw [hg]; exact (zr2 (by repeat (first | (with_reducible first | exact HB.out | apply zq7 | apply zq8 | apply zq9) | exact HB.out))) : w.heap.size ≤ gb127)); clear HB; have HB := n0_; have BK127 := n1_; have GW127 := n2_; have GE127 := n3_; clear n0_ n1_ n2_ n3_; clear hb hbox hg) | ((with_reducible refine gate_dst (N := 2) rfl ?_); refine box_event ?hg (N := 2) ?hd (cs := #[.int .i64 0, .int .i64 0, .int .i64 0, .int .i64 0, .int .i64 0, .int .i64 0, .int .i64 0, .int .i64 0, .int .i64 0, .int .i64 0, .int .i64 0, .int .i64 0, .int .i64 0, .int .i64 0, .int .i64 0, .int .i64 0, .int .i64 0, .int .i64 0, .int .i64 0, .int .i64 0, .bool false]) (t := 50) ?hr ?_; (case hd => rfl); (case hg => rfl); (case hr => first | (go_simp; done) | (go_simp; rfl)); intro gb128 hg w7 hbox hb; have n0_ := mk_ (zq6 (by exact BK127.out) hb); have n1_ := mk_ (zr3 (by repeat (first | (with_reducible first | exact HB.out | apply zq7 | apply zq8 | apply zq9 | refine zr1 ?_ GE127.out) | exact HB.out)) hb); have n2_ := mk_ (hbox); have n3_ := mk_ ((by rw [hg]; exact (zr2 (by repeat (first | (with_reducible first | exact HB.out | apply zq7 | apply zq8 | apply zq9 | refine zr1 ?_ GE127.out) | exact HB.out))) : w.heap.size ≤ gb128)); have n4_ := mk_ ((by rw [hg]; exact (zr2 (by repeat (first | (with_reducible first | exact HB.out | apply zq7 | apply zq8 | apply zq9 | refine zr1 ?_ GE127.out) | exact HB.out))) : w.heap.size ≤ gb128)); have n5_ := mk_ ((by rw [hg]; exact zm2 (zr6 (by exact BK127.out)) : gb127 ≠ gb128)); have n6_ := mk_ n5_.out.symm; clear BK127; clear HB; have BK127 := n0_; have HB := n1_; have BK128 := n2_; have GW128 := n3_; have GE128 := n4_; have NB127_128 := n5_; have NB128_127 := n6_; clear n0_ n1_ n2_ n3_ n4_ n5_ n6_; clear hb hbox hg) | ((with_reducible refine gate_dst (N := 3) rfl ?_); refine box_event ?hg (N := 3) ?hd (cs := #[.int .i64 0, .int .i64 0, .int .i64 0, .int .i64 0, .int .i64 0, .int .i64 0, .int .i64 0, .int .i64 0, .int .i64 0, .int .i64 0, .int .i64 0, .int .i64 0, .int .i64 0, .int .i64 0, .int .i64 0, .int .i64 0, .int .i64 0, .int .i64 0, .int .i64 0, .int .i64 0, .bool false]) (t := 50) ?hr ?_; (case hd => rfl); (case hg => rfl); (case hr => first | (go_simp; done) | (go_simp; rfl)); intro gb129 hg w8 hbox hb; have n0_ := mk_ (zq6 (by exact BK127.out) hb); have n1_ := mk_ (zq6 (by exact BK128.out) hb); have n2_ := mk_ (zr3 (by repeat (first | (with_reducible first | exact HB.out | apply zq7 | apply zq8 | apply zq9 | refine zr1 ?_ GE127.out | refine zr1 ?_ GE128.out) | exact HB.out)) hb); have n3_ := mk_ (hbox); have n4_ := mk_ ((by rw [hg]; exact (zr2 (by repeat (first | (with_reducible first | exact HB.out | apply zq7 | apply zq8 | apply zq9 | refine zr1 ?_ GE127.out | refine zr1 ?_ GE128.out) | exact HB.out))) : w.heap.size ≤ gb129)); have n5_ := mk_ ((by rw [hg]; exact (zr2 (by repeat (first | (with_reducible first | exact HB.out | apply zq7 | apply zq8 | apply zq9 | refine zr1 ?_ GE127.out | refine zr1 ?_ GE128.out) | exact HB.out))) : w.heap.size ≤ gb129)); have n6_ := mk_ ((by rw [hg]; exact zm2 (zr6 (by exact BK127.out)) : gb127 ≠ gb129)); have n7_ := mk_ n6_.out.symm; have n8_ := mk_ ((by rw [hg]; exact zm2 (zr6 (by exact BK128.out)) : gb128 ≠ gb129)); have n9_ := mk_ n8_.out.symm; clear BK127; clear BK128; clear HB; have BK127 := n0_; have BK128 := n1_; have HB := n2_; have BK129 := n3_; have GW129 := n4_; have GE129 := n5_; have NB127_129 := n6_; have NB129_127 := n7_; have NB128_129 := n8_; have NB129_128 := n9_; clear n0_ n1_ n2_ n3_ n4_ n5_ n6_ n7_ n8_ n9_; clear hb hbox hg; have hnb9 := NB127_128.out; have hnc9 := NB128_127.out; have hnb10 := NB127_129.out; have hnc10 := NB129_127.out; obtain ⟨hcz11_0, hcz11_1, hcz11_2, hcz11_3, hcz11_4, hcz11_5, hcz11_6, hcz11_7, hcz11_8, hcz11_9, hcz11_10, hcz11_11, hcz11_12, hcz11_13, hcz11_14, hcz11_15, hcz11_16, hcz11_17, hcz11_18, hcz11_19, hcz11_20⟩ := cz21 BK127.out; obtain ⟨hfz11_0, hfz11_1, hfz11_2, hfz11_3, hfz11_4, hfz11_5, hfz11_6, hfz11_7, hfz11_8, hfz11_9, hfz11_10, hfz11_11, hfz11_12, hfz11_13, hfz11_14, hfz11_15, hfz11_16, hfz11_17, hfz11_18, hfz11_19, hfz11_20⟩ := fz21 BK127.out) | ((with_reducible refine gate_callee (f := 47) rfl ?_); refine goesL_ (some 6) rfl rfl Try.func47 (by kernel_rfl) rfl #[.agg #[.int .i64 a0_0, .int .i64 a0_1, .int .i64 a0_2, .int .i64 a0_3, .int .i64 a0_4]] rfl (by (try simp only [List.map_toArray, List.map_cons, List.map_nil]); first | done | rfl | (simp only [List.length_drop, List.length_take]; rfl)) ?_; (with_reducible refine (laws_toCfgOpts.calls a0_0 a0_1 a0_2 a0_3 a0_4 t130 t131 t132 t133 t134 _ A2.out).mono ?_); rintro e w12 ⟨rfl, hb⟩; refine ⟨_, rfl, ?_⟩; have n0_ := mk_ (zq6 (by exact BK127.out) hb); have n1_ := mk_ (zq6 (by exact BK128.out) hb); have n2_ := mk_ (zq6 (by exact BK129.out) hb); have n3_ := mk_ (zr3 (by repeat (first | (with_reducible first | exact HB.out | apply zq7 | apply zq8 | apply zq9 | refine zr1 ?_ GE127.out | refine zr1 ?_ GE128.out | refine zr1 ?_ GE129.out) | exact HB.out)) hb); clear BK127; clear BK128; clear BK129; clear HB; have BK127 := n0_; have BK128 := n1_; have BK129 := n2_; have HB := n3_; clear n0_ n1_ n2_ n3_; (try clear hb); (try clear hb2); (try clear hk); (try clear hi); have hnb13 := NB129_128.out; have hnc13 := NB128_129.out; obtain ⟨hcz14_0, hcz14_1, hcz14_2, hcz14_3, hcz14_4, hcz14_5, hcz14_6, hcz14_7, hcz14_8, hcz14_9, hcz14_10, hcz14_11, hcz14_12, hcz14_13, hcz14_14, hcz14_15, hcz14_16, hcz14_17, hcz14_18, hcz14_19, hcz14_20⟩ := cz21 BK129.out; obtain ⟨hfz14_0, hfz14_1, hfz14_2, hfz14_3, hfz14_4, hfz14_5, hfz14_6, hfz14_7, hfz14_8, hfz14_9, hfz14_10, hfz14_11, hfz14_12, hfz14_13, hfz14_14, hfz14_15, hfz14_16, hfz14_17, hfz14_18, hfz14_19, hfz14_20⟩ := fz21 BK129.out; obtain ⟨hcz15_0, hcz15_1, hcz15_2, hcz15_3, hcz15_4, hcz15_5, hcz15_6, hcz15_7, hcz15_8, hcz15_9, hcz15_10, hcz15_11, hcz15_12, hcz15_13, hcz15_14, hcz15_15, hcz15_16, hcz15_17, hcz15_18, hcz15_19, hcz15_20⟩ := cz21 BK127.out; obtain ⟨hfz15_0, hfz15_1, hfz15_2, hfz15_3, hfz15_4, hfz15_5, hfz15_6, hfz15_7, hfz15_8, hfz15_9, hfz15_10, hfz15_11, hfz15_12, hfz15_13, hfz15_14, hfz15_15, hfz15_16, hfz15_17, hfz15_18, hfz15_19, hfz15_20⟩ := fz21 BK127.out) | ((with_reducible refine gate_callee (f := 47) rfl ?_); refine goesL_ (some 10) rfl rfl Try.func47 (by kernel_rfl) rfl #[.agg #[.int .i64 a0_5, .int .i64 a0_6, .int .i64 a0_7, .int .i64 a0_8, .int .i64 a0_9]] rfl (by (try simp only [List.map_toArray, List.map_cons, List.map_nil]); first | done | rfl | (simp only [List.length_drop, List.length_take]; rfl)) ?_; (with_reducible refine (laws_toCfgOpts.calls a0_5 a0_6 a0_7 a0_8 a0_9 t135 t136 t137 t138 t139 _ A3.out).mono ?_); rintro e w16 ⟨rfl, hb⟩; refine ⟨_, rfl, ?_⟩; have n0_ := mk_ (zq6 (g := gb127) (o := .cells #[.int .i64 a0_0, .int .i64 a0_1, .int .i64 a0_2, .int .i64 a0_3, .int .i64 a0_4, .int .i64 a0_5, .int .i64 a0_6, .int .i64 a0_7, .int .i64 a0_8, .int .i64 a0_9, .int .i64 a0_10, .int .i64 a0_11, .int .i64 a0_12, .int .i64 a0_13, .int .i64 a0_14, .int .i64 a0_15, .int .i64 a0_16, .int .i64 a0_17, .int .i64 a0_18, .int .i64 a0_19, .bool a0_20] 44 (0, 0)) (by (with_reducible repeat (first | refine zq1 ?_ _ | refine zq2 ?_ | refine zq3 ?_ _)); refine fa5 ?_ NB127_129.out; (with_reducible repeat (first | refine zq1 ?_ _ | refine zq2 ?_ | refine zq3 ?_ _)); exact BK127.out) hb); have n1_ := mk_ (zq6 (g := gb128) (o := .cells #[.int .i64 0, .int .i64 0, .int .i64 0, .int .i64 0, .int .i64 0, .int .i64 0, .int .i64 0, .int .i64 0, .int .i64 0, .int .i64 0, .int .i64 0, .int .i64 0, .int .i64 0, .int .i64 0, .int .i64 0, .int .i64 0, .int .i64 0, .int .i64 0, .int .i64 0, .int .i64 0, .bool false] 50 (0, 0)) (by (with_reducible repeat (first | refine zq1 ?_ _ | refine zq2 ?_ | refine zq3 ?_ _)); refine fa5 ?_ NB128_129.out; (with_reducible repeat (first | refine zq1 ?_ _ | refine zq2 ?_ | refine zq3 ?_ _)); exact BK128.out) hb); have n2_ := mk_ (zq6 (g := gb129) (o := .cells #[.int .i64 t130, .int .i64 t131, .int .i64 t132, .int .i64 t133, .int .i64 t134, .int .i64 0, .int .i64 0, .int .i64 0, .int .i64 0, .int .i64 0, .int .i64 0, .int .i64 0, .int .i64 0, .int .i64 0, .int .i64 0, .int .i64 0, .int .i64 0, .int .i64 0, .int .i64 0, .int .i64 0, .bool false] 50 (0, 0)) (by (with_reducible repeat (first | refine zq1 ?_ _ | refine zq2 ?_ | refine zq3 ?_ _)); refine zq4 (cs := #[.int .i64 t130, .int .i64 t131, .int .i64 t132, .int .i64 t133, .int .i64 0, .int .i64 0, .int .i64 0, .int .i64 0, .int .i64 0, .int .i64 0, .int .i64 0, .int .i64 0, .int .i64 0, .int .i64 0, .int .i64 0, .int .i64 0, .int .i64 0, .int .i64 0, .int .i64 0, .int .i64 0, .bool false]) ?_ 4 _ rfl; (with_reducible repeat (first | refine zq1 ?_ _ | refine zq2 ?_ | refine zq3 ?_ _)); refine zq4 (cs := #[.int .i64 t130, .int .i64 t131, .int .i64 t132, .int .i64 0, .int .i64 0, .int .i64 0, .int .i64 0, .int .i64 0, .int .i64 0, .int .i64 0, .int .i64 0, .int .i64 0, .int .i64 0, .int .i64 0, .int .i64 0, .int .i64 0, .int .i64 0, .int .i64 0, .int .i64 0, .int .i64 0, .bool false]) ?_ 3 _ rfl; (with_reducible repeat (first | refine zq1 ?_ _ | refine zq2 ?_ | refine zq3 ?_ _)); refine zq4 (cs := #[.int .i64 t130, .int .i64 t131, .int .i64 0, .int .i64 0, .int .i64 0, .int .i64 0, .int .i64 0, .int .i64 0, .int .i64 0, .int .i64 0, .int .i64 0, .int .i64 0, .int .i64 0, .int .i64 0, .int .i64 0, .int .i64 0, .int .i64 0, .int .i64 0, .int .i64 0, .int .i64 0, .bool false]) ?_ 2 _ rfl; (with_reducible repeat (first | refine zq1 ?_ _ | refine zq2 ?_ | refine zq3 ?_ _)); refine zq4 (cs := #[.int .i64 t130, .int .i64 0, .int .i64 0, .int .i64 0, .int .i64 0, .int .i64 0, .int .i64 0, .int .i64 0, .int .i64 0, .int .i64 0, .int .i64 0, .int .i64 0, .int .i64 0, .int .i64 0, .int .i64 0, .int .i64 0, .int .i64 0, .int .i64 0, .int .i64 0, .int .i64 0, .bool false]) ?_ 1 _ rfl; (with_reducible repeat (first | refine zq1 ?_ _ | refine zq2 ?_ | refine zq3 ?_ _)); refine zq4 (cs := #[.int .i64 0, .int .i64 0, .int .i64 0, .int .i64 0, .int .i64 0, .int .i64 0, .int .i64 0, .int .i64 0, .int .i64 0, .int .i64 0, .int .i64 0, .int .i64 0, .int .i64 0, .int .i64 0, .int .i64 0, .int .i64 0, .int .i64 0, .int .i64 0, .int .i64 0, .int .i64 0, .bool false]) ?_ 0 _ rfl; (with_reducible repeat (first | refine zq1 ?_ _ | refine zq2 ?_ | refine zq3 ?_ _)); exact BK129.out) hb); have n3_ := mk_ (zr3 (by repeat (first | (with_reducible first | exact HB.out | apply zq7 | apply zq8 | apply zq9 | refine zr1 ?_ GE127.out | refine zr1 ?_ GE128.out | refine zr1 ?_ GE129.out) | exact HB.out)) hb); clear BK127; clear BK128; clear BK129; clear HB; have BK127 := n0_; have BK128 := n1_; have BK129 := n2_; have HB := n3_; clear n0_ n1_ n2_ n3_; (try clear hb); (try clear hb2); (try clear hk); (try clear hi); obtain ⟨hcz17_0, hcz17_1, hcz17_2, hcz17_3, hcz17_4, hcz17_5, hcz17_6, hcz17_7, hcz17_8, hcz17_9, hcz17_10, hcz17_11, hcz17_12, hcz17_13, hcz17_14, hcz17_15, hcz17_16, hcz17_17, hcz17_18, hcz17_19, hcz17_20⟩ := cz21 BK129.out; obtain ⟨hfz17_0, hfz17_1, hfz17_2, hfz17_3, hfz17_4, hfz17_5, hfz17_6, hfz17_7, hfz17_8, hfz17_9, hfz17_10, hfz17_11, hfz17_12, hfz17_13, hfz17_14, hfz17_15, hfz17_16, hfz17_17, hfz17_18, hfz17_19, hfz17_20⟩ := fz21 BK129.out; obtain ⟨hcz18_0, hcz18_1, hcz18_2, hcz18_3, hcz18_4, hcz18_5, hcz18_6, hcz18_7, hcz18_8, hcz18_9, hcz18_10, hcz18_11, hcz18_12, hcz18_13, hcz18_14, hcz18_15, hcz18_16, hcz18_17, hcz18_18, hcz18_19, hcz18_20⟩ := cz21 BK127.out; obtain ⟨hfz18_0, hfz18_1, hfz18_2, hfz18_3, hfz18_4, hfz18_5, hfz18_6, hfz18_7, hfz18_8, hfz18_9, hfz18_10, hfz18_11, hfz18_12, hfz18_13, hfz18_14, hfz18_15, hfz18_16, hfz18_17, hfz18_18, hfz18_19, hfz18_20⟩ := fz21 BK127.out) | ((with_reducible refine gate_callee (f := 47) rfl ?_); refine goesL_ (some 14) rfl rfl Try.func47 (by kernel_rfl) rfl #[.agg #[.int .i64 a0_10, .int .i64 a0_11, .int .i64 a0_12, .int .i64 a0_13, .int .i64 a0_14]] rfl (by (try simp only [List.map_toArray, List.map_cons, List.map_nil]); first | done | rfl | (simp only [List.length_drop, List.length_take]; rfl)) ?_; (with_reducible refine (laws_toCfgOpts.calls a0_10 a0_11 a0_12 a0_13 a0_14 t140 t141 t142 t143 t144 _ A4.out).mono ?_); rintro e w19 ⟨rfl, hb⟩; refine ⟨_, rfl, ?_⟩; have n0_ := mk_ (zq6 (g := gb127) (o := .cells #[.int .i64 a0_0, .int .i64 a0_1, .int .i64 a0_2, .int .i64 a0_3, .int .i64 a0_4, .int .i64 a0_5, .int .i64 a0_6, .int .i64 a0_7, .int .i64 a0_8, .int .i64 a0_9, .int .i64 a0_10, .int .i64 a0_11, .int .i64 a0_12, .int .i64 a0_13, .int .i64 a0_14, .int .i64 a0_15, .int .i64 a0_16, .int .i64 a0_17, .int .i64 a0_18, .int .i64 a0_19, .bool a0_20] 44 (0, 0)) (by (with_reducible repeat (first | refine zq1 ?_ _ | refine zq2 ?_ | refine zq3 ?_ _)); refine fa5 ?_ NB127_129.out; (with_reducible repeat (first | refine zq1 ?_ _ | refine zq2 ?_ | refine zq3 ?_ _)); exact BK127.out) hb); have n1_ := mk_ (zq6 (g := gb128) (o := .cells #[.int .i64 0, .int .i64 0, .int .i64 0, .int .i64 0, .int .i64 0, .int .i64 0, .int .i64 0, .int .i64 0, .int .i64 0, .int .i64 0, .int .i64 0, .int .i64 0, .int .i64 0, .int .i64 0, .int .i64 0, .int .i64 0, .int .i64 0, .int .i64 0, .int .i64 0, .int .i64 0, .bool false] 50 (0, 0)) (by (with_reducible repeat (first | refine zq1 ?_ _ | refine zq2 ?_ | refine zq3 ?_ _)); refine fa5 ?_ NB128_129.out; (with_reducible repeat (first | refine zq1 ?_ _ | refine zq2 ?_ | refine zq3 ?_ _)); exact BK128.out) hb); have n2_ := mk_ (zq6 (g := gb129) (o := .cells #[.int .i64 t130, .int .i64 t131, .int .i64 t132, .int .i64 t133, .int .i64 t134, .int .i64 t135, .int .i64 t136, .int .i64 t137, .int .i64 t138, .int .i64 t139, .int .i64 0, .int .i64 0, .int .i64 0, .int .i64 0, .int .i64 0, .int .i64 0, .int .i64 0, .int .i64 0, .int .i64 0, .int .i64 0, .bool false] 50 (0, 0)) (by (with_reducible repeat (first | refine zq1 ?_ _ | refine zq2 ?_ | refine zq3 ?_ _)); refine zq4 (cs := #[.int .i64 t130, .int .i64 t131, .int .i64 t132, .int .i64 t133, .int .i64 t134, .int .i64 t135, .int .i64 t136, .int .i64 t137, .int .i64 t138, .int .i64 0, .int .i64 0, .int .i64 0, .int .i64 0, .int .i64 0, .int .i64 0, .int .i64 0, .int .i64 0, .int .i64 0, .int .i64 0, .int .i64 0, .bool false]) ?_ 9 _ rfl; (with_reducible repeat (first | refine zq1 ?_ _ | refine zq2 ?_ | refine zq3 ?_ _)); refine zq4 (cs := #[.int .i64 t130, .int .i64 t131, .int .i64 t132, .int .i64 t133, .int .i64 t134, .int .i64 t135, .int .i64 t136, .int .i64 t137, .int .i64 0, .int .i64 0, .int .i64 0, .int .i64 0, .int .i64 0, .int .i64 0, .int .i64 0, .int .i64 0, .int .i64 0, .int .i64 0, .int .i64 0, .int .i64 0, .bool false]) ?_ 8 _ rfl; (with_reducible repeat (first | refine zq1 ?_ _ | refine zq2 ?_ | refine zq3 ?_ _)); refine zq4 (cs := #[.int .i64 t130, .int .i64 t131, .int .i64 t132, .int .i64 t133, .int .i64 t134, .int .i64 t135, .int .i64 t136, .int .i64 0, .int .i64 0, .int .i64 0, .int .i64 0, .int .i64 0, .int .i64 0, .int .i64 0, .int .i64 0, .int .i64 0, .int .i64 0, .int .i64 0, .int .i64 0, .int .i64 0, .bool false]) ?_ 7 _ rfl; (with_reducible repeat (first | refine zq1 ?_ _ | refine zq2 ?_ | refine zq3 ?_ _)); refine zq4 (cs := #[.int .i64 t130, .int .i64 t131, .int .i64 t132, .int .i64 t133, .int .i64 t134, .int .i64 t135, .int .i64 0, .int .i64 0, .int .i64 0, .int .i64 0, .int .i64 0, .int .i64 0, .int .i64 0, .int .i64 0, .int .i64 0, .int .i64 0, .int .i64 0, .int .i64 0, .int .i64 0, .int .i64 0, .bool false]) ?_ 6 _ rfl; (with_reducible repeat (first | refine zq1 ?_ _ | refine zq2 ?_ | refine zq3 ?_ _)); refine zq4 (cs := #[.int .i64 t130, .int .i64 t131, .int .i64 t132, .int .i64 t133, .int .i64 t134, .int .i64 0, .int .i64 0, .int .i64 0, .int .i64 0, .int .i64 0, .int .i64 0, .int .i64 0, .int .i64 0, .int .i64 0, .int .i64 0, .int .i64 0, .int .i64 0, .int .i64 0, .int .i64 0, .int .i64 0, .bool false]) ?_ 5 _ rfl; (with_reducible repeat (first | refine zq1 ?_ _ | refine zq2 ?_ | refine zq3 ?_ _)); exact BK129.out) hb); have n3_ := mk_ (zr3 (by repeat (first | (with_reducible first | exact HB.out | apply zq7 | apply zq8 | apply zq9 | refine zr1 ?_ GE127.out | refine zr1 ?_ GE128.out | refine zr1 ?_ GE129.out) | exact HB.out)) hb); clear BK127; clear BK128; clear BK129; clear HB; have BK127 := n0_; have BK128 := n1_; have BK129 := n2_; have HB := n3_; clear n0_ n1_ n2_ n3_; (try clear hb); (try clear hb2); (try clear hk); (try clear hi); obtain ⟨hcz20_0, hcz20_1, hcz20_2, hcz20_3, hcz20_4, hcz20_5, hcz20_6, hcz20_7, hcz20_8, hcz20_9, hcz20_10, hcz20_11, hcz20_12, hcz20_13, hcz20_14, hcz20_15, hcz20_16, hcz20_17, hcz20_18, hcz20_19, hcz20_20⟩ := cz21 BK129.out; obtain ⟨hfz20_0, hfz20_1, hfz20_2, hfz20_3, hfz20_4, hfz20_5, hfz20_6, hfz20_7, hfz20_8, hfz20_9, hfz20_10, hfz20_11, hfz20_12, hfz20_13, hfz20_14, hfz20_15, hfz20_16, hfz20_17, hfz20_18, hfz20_19, hfz20_20⟩ := fz21 BK129.out; obtain ⟨hcz21_0, hcz21_1, hcz21_2, hcz21_3, hcz21_4, hcz21_5, hcz21_6, hcz21_7, hcz21_8, hcz21_9, hcz21_10, hcz21_11, hcz21_12, hcz21_13, hcz21_14, hcz21_15, hcz21_16, hcz21_17, hcz21_18, hcz21_19, hcz21_20⟩ := cz21 BK127.out; obtain ⟨hfz21_0, hfz21_1, hfz21_2, hfz21_3, hfz21_4, hfz21_5, hfz21_6, hfz21_7, hfz21_8, hfz21_9, hfz21_10, hfz21_11, hfz21_12, hfz21_13, hfz21_14, hfz21_15, hfz21_16, hfz21_17, hfz21_18, hfz21_19, hfz21_20⟩ := fz21 BK127.out) | ((with_reducible refine gate_callee (f := 47) rfl ?_); refine goesL_ (some 18) rfl rfl Try.func47 (by kernel_rfl) rfl #[.agg #[.int .i64 a0_15, .int .i64 a0_16, .int .i64 a0_17, .int .i64 a0_18, .int .i64 a0_19]] rfl (by (try simp only [List.map_toArray, List.map_cons, List.map_nil]); first | done | rfl | (simp only [List.length_drop, List.length_take]; rfl)) ?_; (with_reducible refine (laws_toCfgOpts.calls a0_15 a0_16 a0_17 a0_18 a0_19 t145 t146 t147 t148 t149 _ A5.out).mono ?_); rintro e w22 ⟨rfl, hb⟩; refine ⟨_, rfl, ?_⟩; have n0_ := mk_ (zq6 (g := gb127) (o := .cells #[.int .i64 a0_0, .int .i64 a0_1, .int .i64 a0_2, .int .i64 a0_3, .int .i64 a0_4, .int .i64 a0_5, .int .i64 a0_6, .int .i64 a0_7, .int .i64 a0_8, .int .i64 a0_9, .int .i64 a0_10, .int .i64 a0_11, .int .i64 a0_12, .int .i64 a0_13, .int .i64 a0_14, .int .i64 a0_15, .int .i64 a0_16, .int .i64 a0_17, .int .i64 a0_18, .int .i64 a0_19, .bool a0_20] 44 (0, 0)) (by (with_reducible repeat (first | refine zq1 ?_ _ | refine zq2 ?_ | refine zq3 ?_ _)); refine fa5 ?_ NB127_129.out; (with_reducible repeat (first | refine zq1 ?_ _ | refine zq2 ?_ | refine zq3 ?_ _)); exact BK127.out) hb); have n1_ := mk_ (zq6 (g := gb128) (o := .cells #[.int .i64 0, .int .i64 0, .int .i64 0, .int .i64 0, .int .i64 0, .int .i64 0, .int .i64 0, .int .i64 0, .int .i64 0, .int .i64 0, .int .i64 0, .int .i64 0, .int .i64 0, .int .i64 0, .int .i64 0, .int .i64 0, .int .i64 0, .int .i64 0, .int .i64 0, .int .i64 0, .bool false] 50 (0, 0)) (by (with_reducible repeat (first | refine zq1 ?_ _ | refine zq2 ?_ | refine zq3 ?_ _)); refine fa5 ?_ NB128_129.out; (with_reducible repeat (first | refine zq1 ?_ _ | refine zq2 ?_ | refine zq3 ?_ _)); exact BK128.out) hb); have n2_ := mk_ (zq6 (g := gb129) (o := .cells #[.int .i64 t130, .int .i64 t131, .int .i64 t132, .int .i64 t133, .int .i64 t134, .int .i64 t135, .int .i64 t136, .int .i64 t137, .int .i64 t138, .int .i64 t139, .int .i64 t140, .int .i64 t141, .int .i64 t142, .int .i64 t143, .int .i64 t144, .int .i64 0, .int .i64 0, .int .i64 0, .int .i64 0, .int .i64 0, .bool false] 50 (0, 0)) (by (with_reducible repeat (first | refine zq1 ?_ _ | refine zq2 ?_ | refine zq3 ?_ _)); refine zq4 (cs := #[.int .i64 t130, .int .i64 t131, .int .i64 t132, .int .i64 t133, .int .i64 t134, .int .i64 t135, .int .i64 t136, .int .i64 t137, .int .i64 t138, .int .i64 t139, .int .i64 t140, .int .i64 t141, .int .i64 t142, .int .i64 t143, .int .i64 0, .int .i64 0, .int .i64 0, .int .i64 0, .int .i64 0, .int .i64 0, .bool false]) ?_ 14 _ rfl; (with_reducible repeat (first | refine zq1 ?_ _ | refine zq2 ?_ | refine zq3 ?_ _)); refine zq4 (cs := #[.int .i64 t130, .int .i64 t131, .int .i64 t132, .int .i64 t133, .int .i64 t134, .int .i64 t135, .int .i64 t136, .int .i64 t137, .int .i64 t138, .int .i64 t139, .int .i64 t140, .int .i64 t141, .int .i64 t142, .int .i64 0, .int .i64 0, .int .i64 0, .int .i64 0, .int .i64 0, .int .i64 0, .int .i64 0, .bool false]) ?_ 13 _ rfl; (with_reducible repeat (first | refine zq1 ?_ _ | refine zq2 ?_ | refine zq3 ?_ _)); refine zq4 (cs := #[.int .i64 t130, .int .i64 t131, .int .i64 t132, .int .i64 t133, .int .i64 t134, .int .i64 t135, .int .i64 t136, .int .i64 t137, .int .i64 t138, .int .i64 t139, .int .i64 t140, .int .i64 t141, .int .i64 0, .int .i64 0, .int .i64 0, .int .i64 0, .int .i64 0, .int .i64 0, .int .i64 0, .int .i64 0, .bool false]) ?_ 12 _ rfl; (with_reducible repeat (first | refine zq1 ?_ _ | refine zq2 ?_ | refine zq3 ?_ _)); refine zq4 (cs := #[.int .i64 t130, .int .i64 t131, .int .i64 t132, .int .i64 t133, .int .i64 t134, .int .i64 t135, .int .i64 t136, .int .i64 t137, .int .i64 t138, .int .i64 t139, .int .i64 t140, .int .i64 0, .int .i64 0, .int .i64 0, .int .i64 0, .int .i64 0, .int .i64 0, .int .i64 0, .int .i64 0, .int .i64 0, .bool false]) ?_ 11 _ rfl; (with_reducible repeat (first | refine zq1 ?_ _ | refine zq2 ?_ | refine zq3 ?_ _)); refine zq4 (cs := #[.int .i64 t130, .int .i64 t131, .int .i64 t132, .int .i64 t133, .int .i64 t134, .int .i64 t135, .int .i64 t136, .int .i64 t137, .int .i64 t138, .int .i64 t139, .int .i64 0, .int .i64 0, .int .i64 0, .int .i64 0, .int .i64 0, .int .i64 0, .int .i64 0, .int .i64 0, .int .i64 0, .int .i64 0, .bool false]) ?_ 10 _ rfl; (with_reducible repeat (first | refine zq1 ?_ _ | refine zq2 ?_ | refine zq3 ?_ _)); exact BK129.out) hb); have n3_ := mk_ (zr3 (by repeat (first | (with_reducible first | exact HB.out | apply zq7 | apply zq8 | apply zq9 | refine zr1 ?_ GE127.out | refine zr1 ?_ GE128.out | refine zr1 ?_ GE129.out) | exact HB.out)) hb); clear BK127; clear BK128; clear BK129; clear HB; have BK127 := n0_; have BK128 := n1_; have BK129 := n2_; have HB := n3_; clear n0_ n1_ n2_ n3_; (try clear hb); (try clear hb2); (try clear hk); (try clear hi); obtain ⟨hcz23_0, hcz23_1, hcz23_2, hcz23_3, hcz23_4, hcz23_5, hcz23_6, hcz23_7, hcz23_8, hcz23_9, hcz23_10, hcz23_11, hcz23_12, hcz23_13, hcz23_14, hcz23_15, hcz23_16, hcz23_17, hcz23_18, hcz23_19, hcz23_20⟩ := cz21 BK129.out; obtain ⟨hfz23_0, hfz23_1, hfz23_2, hfz23_3, hfz23_4, hfz23_5, hfz23_6, hfz23_7, hfz23_8, hfz23_9, hfz23_10, hfz23_11, hfz23_12, hfz23_13, hfz23_14, hfz23_15, hfz23_16, hfz23_17, hfz23_18, hfz23_19, hfz23_20⟩ := fz21 BK129.out; obtain ⟨hcz24_0, hcz24_1, hcz24_2, hcz24_3, hcz24_4, hcz24_5, hcz24_6, hcz24_7, hcz24_8, hcz24_9, hcz24_10, hcz24_11, hcz24_12, hcz24_13, hcz24_14, hcz24_15, hcz24_16, hcz24_17, hcz24_18, hcz24_19, hcz24_20⟩ := cz21 BK127.out; obtain ⟨hfz24_0, hfz24_1, hfz24_2, hfz24_3, hfz24_4, hfz24_5, hfz24_6, hfz24_7, hfz24_8, hfz24_9, hfz24_10, hfz24_11, hfz24_12, hfz24_13, hfz24_14, hfz24_15, hfz24_16, hfz24_17, hfz24_18, hfz24_19, hfz24_20⟩ := fz21 BK127.out; obtain ⟨hcz25_0, hcz25_1, hcz25_2, hcz25_3, hcz25_4, hcz25_5, hcz25_6, hcz25_7, hcz25_8, hcz25_9, hcz25_10, hcz25_11, hcz25_12, hcz25_13, hcz25_14, hcz25_15, hcz25_16, hcz25_17, hcz25_18, hcz25_19, hcz25_20⟩ := cz21 BK128.out; obtain ⟨hfz25_0, hfz25_1, hfz25_2, hfz25_3, hfz25_4, hfz25_5, hfz25_6, hfz25_7, hfz25_8, hfz25_9, hfz25_10, hfz25_11, hfz25_12, hfz25_13, hfz25_14, hfz25_15, hfz25_16, hfz25_17, hfz25_18, hfz25_19, hfz25_20⟩ := fz21 BK128.out))
 refine bodyPost_ret (results_cell_row rfl _ _ gb128 50 #[.int .i64 t130, .int .i64 t131, .int .i64 t132, .int .i64 t133, .int .i64 t134, .int .i64 t135, .int .i64 t136, .int .i64 t137, .int .i64 t138, .int .i64 t139, .int .i64 t140, .int .i64 t141, .int .i64 t142, .int .i64 t143, .int .i64 t144, .int .i64 t145, .int .i64 t146, .int .i64 t147, .int .i64 t148, .int .i64 t149, .bool a0_20] (0, 0) _ rfl (by (with_reducible repeat (first | refine zq1 ?_ _ | refine zq2 ?_ | refine zq3 ?_ _)); apply pu21; (with_reducible repeat (first | refine zq1 ?_ _ | refine zq2 ?_ | refine zq3 ?_ _)); refine fa6 ?_ NB128_129.out; (with_reducible repeat (first | refine zq1 ?_ _ | refine zq2 ?_ | refine zq3 ?_ _)); exact BK128.out) Try.underlying50 rfl (by kernel_rfl)) rfl ?_
 exact ⟨by first | rfl | (simp [errW_none, errW_some] <;> rfl) | (simp [*, errW_none, errW_some] <;> rfl), by repeat (first | (with_reducible first | exact HB.out | apply zq7 | apply zq8 | apply zq9 | refine zr1 ?_ GE127.out | refine zr1 ?_ GE128.out | refine zr1 ?_ GE129.out) | exact HB.out)⟩

/-! ### impl_in: function 36 -/
def impl_in.f (a0 : Int) (a1 : Int) (a2 : Int) : Option (Bool) := if a0 ≥ a1 then (some (decide (a0 ≤ a2))) else (some false)
set_option maxHeartbeats 8000000 in
set_option maxRecDepth 100000 in
theorem impl_in.calls (a0 : Int) (a1 : Int) (a2 : Int) (r : Bool) (w : World) (h : impl_in.f a0 a1 a2 = some r) :
    Calls Try.prog 36 #[.int .i64 a0, .int .i64 a1, .int .i64 a2] w fun e w' => e = .returned (.bool r) ∧ Drawn0 w w' := by
 have H : (if a0 ≥ a1 then (some (decide (a0 ≤ a2))) else (some false)) = some r := h
 clear h
 by_cases c4 : a0 ≥ a1
 · rw [if_pos c4] at H
   have c4b0 : decide (a1 ≤ a0) = true := decide_eq_true c4
   clear c4
   obtain rfl := Option.some.inj H
   go_enter Try.func36, Try.ntmps36
   go_wp2
   go_ret
   exact ⟨by first | rfl | (simp; done) | (simp [*]; done), by repeat (first | exact Drawn0.refl _ | apply Drawn0.step)⟩
 rw [if_neg c4] at H
 have c4b0 : decide (a1 ≤ a0) = false := decide_eq_false c4
 clear c4
 obtain rfl := Option.some.inj H
 go_enter Try.func36, Try.ntmps36
 go_wp2
 go_ret
 exact ⟨by first | rfl | (simp; done) | (simp [*]; done), by repeat (first | exact Drawn0.refl _ | apply Drawn0.step)⟩

/-! ### impl_CfgOk: function 18 -/
def impl_CfgOk.f (a0_0 : Int) (a0_1 : Int) (a0_2 : Int) (a0_3 : Int) (a0_4 : Int) : Option (Bool) := (impl_in.f a0_0 1 2).bind fun t151 => (if t151 = true then ((impl_in.f a0_1 1 4).bind fun t152 => (if t152 = true then ((impl_in.f a0_2 1 8).bind fun t153 => (if t153 = true then ((impl_in.f a0_3 1 24).bind fun t154 => (if t154 = true then ((impl_in.f a0_4 1 5).bind fun t155 => (some t155)) else (some false))) else (some false))) else (some false))) else (some false))
set_option maxHeartbeats 8000000 in
set_option maxRecDepth 100000 in
theorem impl_CfgOk.calls (a0_0 : Int) (a0_1 : Int) (a0_2 : Int) (a0_3 : Int) (a0_4 : Int) (r : Bool) (w : World) (h : impl_CfgOk.f a0_0 a0_1 a0_2 a0_3 a0_4 = some r) :
    Calls Try.prog 18 #[.agg #[.int .i64 a0_0, .int .i64 a0_1, .int .i64 a0_2, .int .i64 a0_3, .int .i64 a0_4]] w fun e w' => e = .returned (.bool r) ∧ Below w.heap.size w w' := by
 have hu24 := Try.underlying24
 have HB := mk_ (Below.refl w.heap.size w)
 have H : ((impl_in.f a0_0 1 2).bind fun t151 => (if t151 = true then ((impl_in.f a0_1 1 4).bind fun t152 => (if t152 = true then ((impl_in.f a0_2 1 8).bind fun t153 => (if t153 = true then ((impl_in.f a0_3 1 24).bind fun t154 => (if t154 = true then ((impl_in.f a0_4 1 5).bind fun t155 => (some t155)) else (some false))) else (some false))) else (some false))) else (some false))) = some r := h
 clear h
 replace H := Option.bind_eq_some_iff.mp H
 obtain ⟨t151, A20, H⟩ := H
 try dsimp only at H
 have A2 := mk_ A20
 clear A20
 by_cases c3 : t151 = true
 rotate_left
 · replace c3 := Bool.eq_false_iff.mpr c3
   subst c3
   have H1 : (some false) = some r := by rw [if_neg (show ¬ (false = true) by decide)] at H; exact H
   clear H
   have H := H1
   clear H1
   obtain rfl := Option.some.inj H
   go_enter Try.func18, Try.ntmps18
   go_wp2_with (first | ((with_reducible refine gate_dst (N := 1) rfl ?_); refine box_event ?hg (N := 1) ?hd (cs := #[.int .i64 a0_0, .int .i64 a0_1, .int .i64 a0_2, .int .i64 a0_3, .int .i64 a0_4]) (t := 24) ?hr ?_; (case hd => rfl); (case hg => rfl); (case hr => first | (go_simp; done) | (go_simp; rfl)); intro gb150 hg w19 hbox hb; have n0_ := mk_ (zr3 (by repeat (first | (with_reducible first | exact HB.out | apply zq7 | apply zq8 | apply zq9) | exact HB.out)) hb); have n1_ := mk_ (hbox); have n2_ := mk_ ((by rw [hg]; exact (zr2 (by repeat (first | (with_reducible first | exact HB.out | apply zq7 | apply zq8 | apply zq9) | exact HB.out))) : w.heap.size ≤ gb150)); have n3_ := mk_ ((by rw [hg]; exact (zr2 (by repeat (first | (with_reducible first | exact HB.out | apply zq7 | apply zq8 | apply zq9) | exact HB.out))) : w.heap.size ≤ gb150)); clear HB; have HB := n0_; have BK150 := n1_; have GW150 := n2_; have GE150 := n3_; clear n0_ n1_ n2_ n3_; clear hb hbox hg; obtain ⟨hcz20_0, hcz20_1, hcz20_2, hcz20_3, hcz20_4⟩ := cz5 BK150.out; obtain ⟨hfz20_0, hfz20_1, hfz20_2, hfz20_3, hfz20_4⟩ := fz5 BK150.out) | ((with_reducible refine gate_callee (f := 36) rfl ?_); refine goesL_ (some 5) rfl rfl Try.func36 (by kernel_rfl) rfl #[.int .i64 a0_0, .int .i64 1, .int .i64 2] rfl (by (try simp only [List.map_toArray, List.map_cons, List.map_nil]); first | done | rfl | (simp only [List.length_drop, List.length_take]; rfl)) ?_; (with_reducible refine (impl_in.calls a0_0 1 2 false _ A2.out).mono ?_); rintro e w' ⟨rfl, ⟨nd, rfl⟩⟩; refine ⟨_, rfl, ?_⟩))
   go_ret
   exact ⟨by first | rfl | (simp [errW_none, errW_some] <;> rfl) | (simp [*, errW_none, errW_some] <;> rfl), by repeat (first | (with_reducible first | exact HB.out | apply zq7 | apply zq8 | apply zq9 | refine zr1 ?_ GE150.out) | exact HB.out)⟩
 subst c3
 have H1 : ((impl_in.f a0_1 1 4).bind fun t152 => (if t152 = true then ((impl_in.f a0_2 1 8).bind fun t153 => (if t153 = true then ((impl_in.f a0_3 1 24).bind fun t154 => (if t154 = true then ((impl_in.f a0_4 1 5).bind fun t155 => (some t155)) else (some false))) else (some false))) else (some false))) = some r := by rw [if_pos rfl] at H; exact H
 clear H
 have H := H1
 clear H1
 replace H := Option.bind_eq_some_iff.mp H
 obtain ⟨t152, A40, H⟩ := H
 try dsimp only at H
 have A4 := mk_ A40
 clear A40
 have HH_ := mk_ H
 clear H
 go_enter Try.func18, Try.ntmps18
 go_wp2_with (first | ((with_reducible refine gate_dst (N := 1) rfl ?_); refine box_event ?hg (N := 1) ?hd (cs := #[.int .i64 a0_0, .int .i64 a0_1, .int .i64 a0_2, .int .i64 a0_3, .int .i64 a0_4]) (t := 24) ?hr ?_; (case hd => rfl); (case hg => rfl); (case hr => first | (go_simp; done) | (go_simp; rfl)); intro gb150 hg w11 hbox hb; have n0_ := mk_ (zr3 (by repeat (first | (with_reducible first | exact HB.out | apply zq7 | apply zq8 | apply zq9) | exact HB.out)) hb); have n1_ := mk_ (hbox); have n2_ := mk_ ((by rw [hg]; exact (zr2 (by repeat (first | (with_reducible first | exact HB.out | apply zq7 | apply zq8 | apply zq9) | exact HB.out))) : w.heap.size ≤ gb150)); have n3_ := mk_ ((by rw [hg]; exact (zr2 (by repeat (first | (with_reducible first | exact HB.out | apply zq7 | apply zq8 | apply zq9) | exact HB.out))) : w.heap.size ≤ gb150)); clear HB; have HB := n0_; have BK150 := n1_; have GW150 := n2_; have GE150 := n3_; clear n0_ n1_ n2_ n3_; clear hb hbox hg; obtain ⟨hcz12_0, hcz12_1, hcz12_2, hcz12_3, hcz12_4⟩ := cz5 BK150.out; obtain ⟨hfz12_0, hfz12_1, hfz12_2, hfz12_3, hfz12_4⟩ := fz5 BK150.out) | ((with_reducible refine gate_callee (f := 36) rfl ?_); refine goesL_ (some 5) rfl rfl Try.func36 (by kernel_rfl) rfl #[.int .i64 a0_0, .int .i64 1, .int .i64 2] rfl (by (try simp only [List.map_toArray, List.map_cons, List.map_nil]); first | done | rfl | (simp only [List.length_drop, List.length_take]; rfl)) ?_; (with_reducible refine (impl_in.calls a0_0 1 2 true _ A2.out).mono ?_); rintro e w' ⟨rfl, ⟨nd, rfl⟩⟩; refine ⟨_, rfl, ?_⟩))
 have H := HH_.out
 clear HH_
 by_cases c5 : t152 = true
 rotate_left
 · replace c5 := Bool.eq_false_iff.mpr c5
   subst c5
   have H1 : (some false) = some r := by rw [if_neg (show ¬ (false = true) by decide)] at H; exact H
   clear H
   have H := H1
   clear H1
   obtain rfl := Option.some.inj H
   go_wp2_with (first | (go_at_call 36; (with_reducible refine (impl_in.calls a0_1 1 4 false _ A4.out).mono ?_); rintro e w' ⟨rfl, ⟨nd, rfl⟩⟩))
   go_ret
   exact ⟨by first | rfl | (simp [errW_none, errW_some] <;> rfl) | (simp [*, errW_none, errW_some] <;> rfl), by repeat (first | (with_reducible first | exact HB.out | apply zq7 | apply zq8 | apply zq9 | refine zr1 ?_ GE150.out) | exact HB.out)⟩
 subst c5
 have H1 : ((impl_in.f a0_2 1 8).bind fun t153 => (if t153 = true then ((impl_in.f a0_3 1 24).bind fun t154 => (if t154 = true then ((impl_in.f a0_4 1 5).bind fun t155 => (some t155)) else (some false))) else (some false))) = some r := by rw [if_pos rfl] at H; exact H
 clear H
 have H := H1
 clear H1
 replace H := Option.bind_eq_some_iff.mp H
 obtain ⟨t153, A60, H⟩ := H
 try dsimp only at H
 have A6 := mk_ A60
 clear A60
 have HH_ := mk_ H
 clear H
 go_wp2_with (first | (go_at_call 36; (with_reducible refine (impl_in.calls a0_1 1 4 true _ A4.out).mono ?_); rintro e w' ⟨rfl, ⟨nd, rfl⟩⟩))
 have H := HH_.out
 clear HH_
 by_cases c7 : t153 = true
 rotate_left
 · replace c7 := Bool.eq_false_iff.mpr c7
   subst c7
   have H1 : (some false) = some r := by rw [if_neg (show ¬ (false = true) by decide)] at H; exact H
   clear H
   have H := H1
   clear H1
   obtain rfl := Option.some.inj H
   go_wp2_with (first | (go_at_call 36; (with_reducible refine (impl_in.calls a0_2 1 8 false _ A6.out).mono ?_); rintro e w' ⟨rfl, ⟨nd, rfl⟩⟩))
   go_ret
   exact ⟨by first | rfl | (simp [errW_none, errW_some] <;> rfl) | (simp [*, errW_none, errW_some] <;> rfl), by repeat (first | (with_reducible first | exact HB.out | apply zq7 | apply zq8 | apply zq9 | refine zr1 ?_ GE150.out) | exact HB.out)⟩
 subst c7
 have H1 : ((impl_in.f a0_3 1 24).bind fun t154 => (if t154 = true then ((impl_in.f a0_4 1 5).bind fun t155 => (some t155)) else (some false))) = some r := by rw [if_pos rfl] at H; exact H
 clear H
 have H := H1
 clear H1
 replace H := Option.bind_eq_some_iff.mp H
 obtain ⟨t154, A80, H⟩ := H
 try dsimp only at H
 have A8 := mk_ A80
 clear A80
 have HH_ := mk_ H
 clear H
 go_wp2_with (first | (go_at_call 36; (with_reducible refine (impl_in.calls a0_2 1 8 true _ A6.out).mono ?_); rintro e w' ⟨rfl, ⟨nd, rfl⟩⟩))
 have H := HH_.out
 clear HH_
 by_cases c9 : t154 = true
 rotate_left
 · replace c9 := Bool.eq_false_iff.mpr c9
   subst c9
   have H1 : (some false) = some r := by rw [if_neg (show ¬ (false = true) by decide)] at H; exact H
   clear H
   have H := H1
   clear H1
   obtain rfl := Option.some.inj H
   go_wp2_with (first | (go_at_call 36; (with_reducible refine (impl_in.calls a0_3 1 24 false _ A8.out).mono ?_); rintro e w' ⟨rfl, ⟨nd, rfl⟩⟩))
   go_ret
   exact ⟨by first | rfl | (simp [errW_none, errW_some] <;> rfl) | (simp [*, errW_none, errW_some] <;> rfl), by repeat (first | (with_reducible first | exact HB.out | apply zq7 | apply zq8 | apply zq9 | refine zr1 ?_ GE150.out) | exact HB.out)⟩
 subst c9
 have H1 : ((impl_in.f a0_4 1 5).bind fun t155 => (some t155)) = some r := by rw [if_pos rfl] at H; exact H
 clear H
 have H := H1
 clear H1
 replace H := Option.bind_eq_some_iff.mp H
 obtain ⟨t155, A100, H⟩ := H
 try dsimp only at H
 have A10 := mk_ A100
 clear A100
 obtain rfl := Option.some.inj H
 go_wp2_with (first | (go_at_call 36; (with_reducible refine (impl_in.calls a0_3 1 24 true _ A8.out).mono ?_); rintro e w' ⟨rfl, ⟨nd, rfl⟩⟩) | (go_at_call 36; (with_reducible refine (impl_in.calls a0_4 1 5 t155 _ A10.out).mono ?_); rintro e w' ⟨rfl, ⟨nd, rfl⟩⟩))
 go_ret
 exact ⟨by first | rfl | (simp [errW_none, errW_some] <;> rfl) | (simp [*, errW_none, errW_some] <;> rfl), by repeat (first | (with_reducible first | exact HB.out | apply zq7 | apply zq8 | apply zq9 | refine zr1 ?_ GE150.out) | exact HB.out)⟩

/-! ### impl_CfgOpts_may: function 70 -/
def impl_CfgOpts_may.f (a0_0 : Int) (a0_1 : Int) (a0_2 : Int) (a0_3 : Int) (a0_4 : Int) (a1 : Int) : Option (Bool) := if (a0_0 == 0 && (a0_1 == 0 && (a0_2 == 0 && (a0_3 == 0 && (a0_4 == 0))))) = true then (some true) else ((impl_CfgOk.f a0_0 a0_1 a0_2 a0_3 a0_4).bind fun t157 => (if t157 = true then (some (a0_0 == a1)) else (some false)))
set_option maxHeartbeats 8000000 in
set_option maxRecDepth 100000 in
theorem impl_CfgOpts_may.calls (a0_0 : Int) (a0_1 : Int) (a0_2 : Int) (a0_3 : Int) (a0_4 : Int) (a1 : Int) (r : Bool) (w : World) (h : impl_CfgOpts_may.f a0_0 a0_1 a0_2 a0_3 a0_4 a1 = some r) :
    Calls Try.prog 70 #[.agg #[.int .i64 a0_0, .int .i64 a0_1, .int .i64 a0_2, .int .i64 a0_3, .int .i64 a0_4], .int .i64 a1] w fun e w' => e = .returned (.bool r) ∧ Below w.heap.size w w' := by
 have hu24 := Try.underlying24
 have HB := mk_ (Below.refl w.heap.size w)
 have H : (if (a0_0 == 0 && (a0_1 == 0 && (a0_2 == 0 && (a0_3 == 0 && (a0_4 == 0))))) = true then (some true) else ((impl_CfgOk.f a0_0 a0_1 a0_2 a0_3 a0_4).bind fun t157 => (if t157 = true then (some (a0_0 == a1)) else (some false)))) = some r := h
 clear h
 by_cases c3 : (a0_0 == 0 && (a0_1 == 0 && (a0_2 == 0 && (a0_3 == 0 && (a0_4 == 0))))) = true
 · rw [if_pos c3] at H
   have c3b0 : (a0_0 == 0 && (a0_1 == 0 && (a0_2 == 0 && (a0_3 == 0 && (a0_4 == 0))))) = true := c3
   (try (have c3b1 : decide (a0_0 = 0 && (a0_1 == 0 && (a0_2 == 0 && (a0_3 == 0 && (a0_4 == 0))))) = true := by simpa using c3))
   (try (have c3b2 : (a0_0 == 0 && (a0_1 == 0 && (a0_2 == 0 && (a0_3 == 0 && (a0_4 == 0))))) = true := by simpa using c3))
   clear c3
   obtain rfl := Option.some.inj H
   go_enter Try.func70, Try.ntmps70
   go_wp2_with (first | ((with_reducible refine gate_dst (N := 2) rfl ?_); refine box_event ?hg (N := 2) ?hd (cs := #[.int .i64 a0_0, .int .i64 a0_1, .int .i64 a0_2, .int .i64 a0_3, .int .i64 a0_4]) (t := 24) ?hr ?_; (case hd => rfl); (case hg => rfl); (case hr => first | (go_simp; done) | (go_simp; rfl)); intro gb156 hg w4 hbox hb; have n0_ := mk_ (zr3 (by repeat (first | (with_reducible first | exact HB.out | apply zq7 | apply zq8 | apply zq9) | exact HB.out)) hb); have n1_ := mk_ (hbox); have n2_ := mk_ ((by rw [hg]; exact (zr2 (by repeat (first | (with_reducible first | exact HB.out | apply zq7 | apply zq8 | apply zq9) | exact HB.out))) : w.heap.size ≤ gb156)); have n3_ := mk_ ((by rw [hg]; exact (zr2 (by repeat (first | (with_reducible first | exact HB.out | apply zq7 | apply zq8 | apply zq9) | exact HB.out))) : w.heap.size ≤ gb156)); clear HB; have HB := n0_; have BK156 := n1_; have GW156 := n2_; have GE156 := n3_; clear n0_ n1_ n2_ n3_; clear hb hbox hg; obtain ⟨hcz5_0, hcz5_1, hcz5_2, hcz5_3, hcz5_4⟩ := cz5 BK156.out; obtain ⟨hfz5_0, hfz5_1, hfz5_2, hfz5_3, hfz5_4⟩ := fz5 BK156.out))
   go_ret
   exact ⟨by first | rfl | (simp [errW_none, errW_some] <;> rfl) | (simp [*, errW_none, errW_some] <;> rfl), by repeat (first | (with_reducible first | exact HB.out | apply zq7 | apply zq8 | apply zq9 | refine zr1 ?_ GE156.out) | exact HB.out)⟩
 rw [if_neg c3] at H
 have c3b0 : (a0_0 == 0 && (a0_1 == 0 && (a0_2 == 0 && (a0_3 == 0 && (a0_4 == 0))))) = false := by simpa using c3
 (try (have c3b1 : decide (a0_0 = 0 && (a0_1 == 0 && (a0_2 == 0 && (a0_3 == 0 && (a0_4 == 0))))) = false := by simpa using c3))
 (try (have c3b2 : (a0_0 == 0 && (a0_1 == 0 && (a0_2 == 0 && (a0_3 == 0 && (a0_4 == 0))))) = false := by simpa using c3))
 (try (have c3b3 : ¬ (a0_0 = 0 && (a0_1 == 0 && (a0_2 == 0 && (a0_3 == 0 && (a0_4 == 0))))) := by simpa using c3))
 clear c3
 replace H := Option.bind_eq_some_iff.mp H
 obtain ⟨t157, A60, H⟩ := H
 try dsimp only at H
 have A6 := mk_ A60
 clear A60
 by_cases c7 : t157 = true
 rotate_left
 · replace c7 := Bool.eq_false_iff.mpr c7
   subst c7
   have H1 : (some false) = some r := by rw [if_neg (show ¬ (false = true) by decide)] at H; exact H
   clear H
   have H := H1
   clear H1
   obtain rfl := Option.some.inj H
   go_enter Try.func70, Try.ntmps70
   go_wp2_with (first | (go_at_call 18; (with_reducible refine (impl_CfgOk.calls a0_0 a0_1 a0_2 a0_3 a0_4 false _ A6.out).mono ?_); rintro e w14 ⟨rfl, hb⟩; have n0_ := mk_ (zq6 (by exact BK156.out) hb); have n1_ := mk_ (zr3 (by repeat (first | (with_reducible first | exact HB.out | apply zq7 | apply zq8 | apply zq9 | refine zr1 ?_ GE156.out) | exact HB.out)) hb); clear BK156; clear HB; have BK156 := n0_; have HB := n1_; clear n0_ n1_; (try clear hb); (try clear hb2); (try clear hk); (try clear hi)) | ((with_reducible refine gate_dst (N := 2) rfl ?_); refine box_event ?hg (N := 2) ?hd (cs := #[.int .i64 a0_0, .int .i64 a0_1, .int .i64 a0_2, .int .i64 a0_3, .int .i64 a0_4]) (t := 24) ?hr ?_; (case hd => rfl); (case hg => rfl); (case hr => first | (go_simp; done) | (go_simp; rfl)); intro gb156 hg w12 hbox hb; have n0_ := mk_ (zr3 (by repeat (first | (with_reducible first | exact HB.out | apply zq7 | apply zq8 | apply zq9) | exact HB.out)) hb); have n1_ := mk_ (hbox); have n2_ := mk_ ((by rw [hg]; exact (zr2 (by repeat (first | (with_reducible first | exact HB.out | apply zq7 | apply zq8 | apply zq9) | exact HB.out))) : w.heap.size ≤ gb156)); have n3_ := mk_ ((by rw [hg]; exact (zr2 (by repeat (first | (with_reducible first | exact HB.out | apply zq7 | apply zq8 | apply zq9) | exact HB.out))) : w.heap.size ≤ gb156)); clear HB; have HB := n0_; have BK156 := n1_; have GW156 := n2_; have GE156 := n3_; clear n0_ n1_ n2_ n3_; clear hb hbox hg; obtain ⟨hcz13_0, hcz13_1, hcz13_2, hcz13_3, hcz13_4⟩ := cz5 BK156.out; obtain ⟨hfz13_0, hfz13_1, hfz13_2, hfz13_3, hfz13_4⟩ := fz5 BK156.out))
   go_ret
   exact ⟨by first | rfl | (simp [errW_none, errW_some] <;> rfl) | (simp [*, errW_none, errW_some] <;> rfl), by repeat (first | (with_reducible first | exact HB.out | apply zq7 | apply zq8 | apply zq9 | refine zr1 ?_ GE156.out) | exact HB.out)⟩
 subst c7
 have H1 : (some (a0_0 == a1)) = some r := by rw [if_pos rfl] at H; exact H
 clear H
 have H := H1
 clear H1
 obtain rfl := Option.some.inj H
 go_enter Try.func70, Try.ntmps70
 go_wp2_with (first | (go_at_call 18; (with_reducible refine (impl_CfgOk.calls a0_0 a0_1 a0_2 a0_3 a0_4 true _ A6.out).mono ?_); rintro e w10 ⟨rfl, hb⟩; have n0_ := mk_ (zq6 (by exact BK156.out) hb); have n1_ := mk_ (zr3 (by repeat (first | (with_reducible first | exact HB.out | apply zq7 | apply zq8 | apply zq9 | refine zr1 ?_ GE156.out) | exact HB.out)) hb); clear BK156; clear HB; have BK156 := n0_; have HB := n1_; clear n0_ n1_; (try clear hb); (try clear hb2); (try clear hk); (try clear hi); obtain ⟨hcz11_0, hcz11_1, hcz11_2, hcz11_3, hcz11_4⟩ := cz5 BK156.out; obtain ⟨hfz11_0, hfz11_1, hfz11_2, hfz11_3, hfz11_4⟩ := fz5 BK156.out) | ((with_reducible refine gate_dst (N := 2) rfl ?_); refine box_event ?hg (N := 2) ?hd (cs := #[.int .i64 a0_0, .int .i64 a0_1, .int .i64 a0_2, .int .i64 a0_3, .int .i64 a0_4]) (t := 24) ?hr ?_; (case hd => rfl); (case hg => rfl); (case hr => first | (go_simp; done) | (go_simp; rfl)); intro gb156 hg w8 hbox hb; have n0_ := mk_ (zr3 (by repeat (first | (with_reducible first | exact HB.out | apply zq7 | apply zq8 | apply zq9) | exact HB.out)) hb); have n1_ := mk_ (hbox); have n2_ := mk_ ((by rw [hg]; exact (zr2 (by repeat (first | (with_reducible first | exact HB.out | apply zq7 | apply zq8 | apply zq9) | exact HB.out))) : w.heap.size ≤ gb156)); have n3_ := mk_ ((by rw [hg]; exact (zr2 (by repeat (first | (with_reducible first | exact HB.out | apply zq7 | apply zq8 | apply zq9) | exact HB.out))) : w.heap.size ≤ gb156)); clear HB; have HB := n0_; have BK156 := n1_; have GW156 := n2_; have GE156 := n3_; clear n0_ n1_ n2_ n3_; clear hb hbox hg; obtain ⟨hcz9_0, hcz9_1, hcz9_2, hcz9_3, hcz9_4⟩ := cz5 BK156.out; obtain ⟨hfz9_0, hfz9_1, hfz9_2, hfz9_3, hfz9_4⟩ := fz5 BK156.out))
 go_ret
 exact ⟨by first | rfl | (simp [errW_none, errW_some] <;> rfl) | (simp [*, errW_none, errW_some] <;> rfl), by repeat (first | (with_reducible first | exact HB.out | apply zq7 | apply zq8 | apply zq9 | refine zr1 ?_ GE156.out) | exact HB.out)⟩

/-! ### impl_NegOk: function 48 -/
def impl_NegOk.f (a0_0 : Int) (a0_1 : Int) (a0_2 : Int) (a0_3 : Int) (a0_4 : Int) (a0_5 : Int) (a0_6 : Int) (a0_7 : Int) (a0_8 : Int) (a0_9 : Int) (a0_10 : Int) (a0_11 : Int) (a0_12 : Int) (a0_13 : Int) (a0_14 : Int) (a0_15 : Int) (a0_16 : Int) (a0_17 : Int) (a0_18 : Int) (a0_19 : Int) (a0_20 : Bool) : Option (Bool) := (impl_CfgOk.f a0_0 a0_1 a0_2 a0_3 a0_4).bind fun t159 => (if t159 = true then ((impl_CfgOk.f a0_5 a0_6 a0_7 a0_8 a0_9).bind fun t160 => (if t160 = true then (if a0_5 = a0_0 then ((impl_CfgOpts_may.f a0_10 a0_11 a0_12 a0_13 a0_14 a0_0).bind fun t161 => (if t161 = true then ((impl_CfgOpts_may.f a0_15 a0_16 a0_17 a0_18 a0_19 a0_0).bind fun t162 => (some t162)) else (some false))) else (some false)) else (some false))) else (some false))
set_option maxHeartbeats 8000000 in
set_option maxRecDepth 100000 in
theorem impl_NegOk.calls (a0_0 : Int) (a0_1 : Int) (a0_2 : Int) (a0_3 : Int) (a0_4 : Int) (a0_5 : Int) (a0_6 : Int) (a0_7 : Int) (a0_8 : Int) (a0_9 : Int) (a0_10 : Int) (a0_11 : Int) (a0_12 : Int) (a0_13 : Int) (a0_14 : Int) (a0_15 : Int) (a0_16 : Int) (a0_17 : Int) (a0_18 : Int) (a0_19 : Int) (a0_20 : Bool) (r : Bool) (w : World) (h : impl_NegOk.f a0_0 a0_1 a0_2 a0_3 a0_4 a0_5 a0_6 a0_7 a0_8 a0_9 a0_10 a0_11 a0_12 a0_13 a0_14 a0_15 a0_16 a0_17 a0_18 a0_19 a0_20 = some r) :
    Calls Try.prog 48 #[.agg #[.int .i64 a0_0, .int .i64 a0_1, .int .i64 a0_2, .int .i64 a0_3, .int .i64 a0_4, .int .i64 a0_5, .int .i64 a0_6, .int .i64 a0_7, .int .i64 a0_8, .int .i64 a0_9, .int .i64 a0_10, .int .i64 a0_11, .int .i64 a0_12, .int .i64 a0_13, .int .i64 a0_14, .int .i64 a0_15, .int .i64 a0_16, .int .i64 a0_17, .int .i64 a0_18, .int .i64 a0_19, .bool a0_20]] w fun e w' => e = .returned (.bool r) ∧ Below w.heap.size w w' := by
 have hu50 := Try.underlying50
 have hu24 := Try.underlying24
 have HB := mk_ (Below.refl w.heap.size w)
 have H : ((impl_CfgOk.f a0_0 a0_1 a0_2 a0_3 a0_4).bind fun t159 => (if t159 = true then ((impl_CfgOk.f a0_5 a0_6 a0_7 a0_8 a0_9).bind fun t160 => (if t160 = true then (if a0_5 = a0_0 then ((impl_CfgOpts_may.f a0_10 a0_11 a0_12 a0_13 a0_14 a0_0).bind fun t161 => (if t161 = true then ((impl_CfgOpts_may.f a0_15 a0_16 a0_17 a0_18 a0_19 a0_0).bind fun t162 => (some t162)) else (some false))) else (some false)) else (some false))) else (some false))) = some r := h
 clear h
 replace H := Option.bind_eq_some_iff.mp H
 obtain ⟨t159, A20, H⟩ := H
 try dsimp only at H
 have A2 := mk_ A20
 clear A20
 by_cases c3 : t159 = true
 rotate_left
 · replace c3 := Bool.eq_false_iff.mpr c3
   subst c3
   have H1 : (some false) = some r := by rw [if_neg (show ¬ (false = true) by decide)] at H; exact H
   clear H
   have H := H1
   clear H1
   obtain rfl := Option.some.inj H
   go_enter Try.func48, Try.ntmps48
   go_wp2_with (first | ((with_reducible refine gate_ty (t := 50) (x := .tmp 1) rfl ?_); refine st21 rfl rfl rfl rfl (by first | (with_reducible exact BK158.out) | (with_reducible exact (pu21 BK158.out))) (by kernel_rfl) rfl ?_) | ((with_reducible refine gate_ld (t := 50) (x := .tmp 1) rfl ?_); refine wpList_load_row rfl 50 _ rfl _ rfl _ _ _ _ (by first | (with_reducible exact BK158.out) | (with_reducible exact (pu21 BK158.out))) Try.underlying50 rfl (by kernel_rfl) ?_) | ((with_reducible refine gate_dst (N := 1) rfl ?_); refine box_event ?hg (N := 1) ?hd (cs := #[.int .i64 a0_0, .int .i64 a0_1, .int .i64 a0_2, .int .i64 a0_3, .int .i64 a0_4, .int .i64 a0_5, .int .i64 a0_6, .int .i64 a0_7, .int .i64 a0_8, .int .i64 a0_9, .int .i64 a0_10, .int .i64 a0_11, .int .i64 a0_12, .int .i64 a0_13, .int .i64 a0_14, .int .i64 a0_15, .int .i64 a0_16, .int .i64 a0_17, .int .i64 a0_18, .int .i64 a0_19, .bool a0_20]) (t := 50) ?hr ?_; (case hd => rfl); (case hg => rfl); (case hr => first | (go_simp; done) | (go_simp; rfl)); intro gb158 hg w37 hbox hb; have n0_ := mk_ (zr3 (by repeat (first | (with_reducible first | exact HB.out | apply zq7 | apply zq8 | apply zq9) | exact HB.out)) hb); have n1_ := mk_ (hbox); have n2_ := mk_ ((by rw [hg]; exact (zr2 (by repeat (first | (with_reducible first | exact HB.out | apply zq7 | apply zq8 | apply zq9) | exact HB.out))) : w.heap.size ≤ gb158)); have n3_ := mk_ ((by rw [hg]; exact (zr2 (by repeat (first | (with_reducible first | exact HB.out | apply zq7 | apply zq8 | apply zq9) | exact HB.out))) : w.heap.size ≤ gb158)); clear HB; have HB := n0_; have BK158 := n1_; have GW158 := n2_; have GE158 := n3_; clear n0_ n1_ n2_ n3_; clear hb hbox hg; obtain ⟨hcz38_0, hcz38_1, hcz38_2, hcz38_3, hcz38_4, hcz38_5, hcz38_6, hcz38_7, hcz38_8, hcz38_9, hcz38_10, hcz38_11, hcz38_12, hcz38_13, hcz38_14, hcz38_15, hcz38_16, hcz38_17, hcz38_18, hcz38_19, hcz38_20⟩ := cz21 BK158.out; obtain ⟨hfz38_0, hfz38_1, hfz38_2, hfz38_3, hfz38_4, hfz38_5, hfz38_6, hfz38_7, hfz38_8, hfz38_9, hfz38_10, hfz38_11, hfz38_12, hfz38_13, hfz38_14, hfz38_15, hfz38_16, hfz38_17, hfz38_18, hfz38_19, hfz38_20⟩ := fz21 BK158.out) | ((with_reducible refine gate_callee (f := 18) rfl ?_); refine goesL_ (some 5) rfl rfl Try.func18 (by kernel_rfl) rfl #[.agg #[.int .i64 a0_0, .int .i64 a0_1, .int .i64 a0_2, .int .i64 a0_3, .int .i64 a0_4]] rfl (by (try simp only [List.map_toArray, List.map_cons, List.map_nil]); first | done | rfl | (simp only [List.length_drop, List.length_take]; rfl)) ?_; (with_reducible refine (impl_CfgOk.calls a0_0 a0_1 a0_2 a0_3 a0_4 false _ A2.out).mono ?_); rintro e w39 ⟨rfl, hb⟩; refine ⟨_, rfl, ?_⟩; have n0_ := mk_ (zq6 (by exact BK158.out) hb); have n1_ := mk_ (zr3 (by repeat (first | (with_reducible first | exact HB.out | apply zq7 | apply zq8 | apply zq9 | refine zr1 ?_ GE158.out) | exact HB.out)) hb); clear BK158; clear HB; have BK158 := n0_; have HB := n1_; clear n0_ n1_; (try clear hb); (try clear hb2); (try clear hk); (try clear hi)))
   go_ret
   exact ⟨by first | rfl | (simp [errW_none, errW_some] <;> rfl) | (simp [*, errW_none, errW_some] <;> rfl), by repeat (first | (with_reducible first | exact HB.out | apply zq7 | apply zq8 | apply zq9 | refine zr1 ?_ GE158.out) | exact HB.out)⟩
 subst c3
 have H1 : ((impl_CfgOk.f a0_5 a0_6 a0_7 a0_8 a0_9).bind fun t160 => (if t160 = true then (if a0_5 = a0_0 then ((impl_CfgOpts_may.f a0_10 a0_11 a0_12 a0_13 a0_14 a0_0).bind fun t161 => (if t161 = true then ((impl_CfgOpts_may.f a0_15 a0_16 a0_17 a0_18 a0_19 a0_0).bind fun t162 => (some t162)) else (some false))) else (some false)) else (some false))) = some r := by rw [if_pos rfl] at H; exact H
 clear H
 have H := H1
 clear H1
 replace H := Option.bind_eq_some_iff.mp H
 obtain ⟨t160, A40, H⟩ := H
 try dsimp only at H
 have A4 := mk_ A40
 clear A40
 have HH_ := mk_ H
 clear H
 go_enter Try.func48, Try.ntmps48
 go_wp2_with (first | ((with_reducible refine gate_ty (t := 50) (x := .tmp 1) rfl ?_); refine st21 rfl rfl rfl rfl (by first | (with_reducible exact BK158.out) | (with_reducible exact (pu21 BK158.out))) (by kernel_rfl) rfl ?_) | ((with_reducible refine gate_ld (t := 50) (x := .tmp 1) rfl ?_); refine wpList_load_row rfl 50 _ rfl _ rfl _ _ _ _ (by first | (with_reducible exact BK158.out) | (with_reducible exact (pu21 BK158.out))) Try.underlying50 rfl (by kernel_rfl) ?_) | ((with_reducible refine gate_dst (N := 1) rfl ?_); refine box_event ?hg (N := 1) ?hd (cs := #[.int .i64 a0_0, .int .i64 a0_1, .int .i64 a0_2, .int .i64 a0_3, .int .i64 a0_4, .int .i64 a0_5, .int .i64 a0_6, .int .i64 a0_7, .int .i64 a0_8, .int .i64 a0_9, .int .i64 a0_10, .int .i64 a0_11, .int .i64 a0_12, .int .i64 a0_13, .int .i64 a0_14, .int .i64 a0_15, .int .i64 a0_16, .int .i64 a0_17, .int .i64 a0_18, .int .i64 a0_19, .bool a0_20]) (t := 50) ?hr ?_; (case hd => rfl); (case hg => rfl); (case hr => first | (go_simp; done) | (go_simp; rfl)); intro gb158 hg w10 hbox hb; have n0_ := mk_ (zr3 (by repeat (first | (with_reducible first | exact HB.out | apply zq7 | apply zq8 | apply zq9) | exact HB.out)) hb); have n1_ := mk_ (hbox); have n2_ := mk_ ((by rw [hg]; exact (zr2 (by repeat (first | (with_reducible first | exact HB.out | apply zq7 | apply zq8 | apply zq9) | exact HB.out))) : w.heap.size ≤ gb158)); have n3_ := mk_ ((by rw [hg]; exact (zr2 (by repeat (first | (with_reducible first | exact HB.out | apply zq7 | apply zq8 | apply zq9) | exact HB.out))) : w.heap.size ≤ gb158)); clear HB; have HB := n0_; have BK158 := n1_; have GW158 := n2_; have GE158 := n3_; clear n0_ n1_ n2_ n3_; clear hb hbox hg; obtain ⟨hcz11_0, hcz11_1, hcz11_2, hcz11_3, hcz11_4, hcz11_5, hcz11_6, hcz11_7, hcz11_8, hcz11_9, hcz11_10, hcz11_11, hcz11_12, hcz11_13, hcz11_14, hcz11_15, hcz11_16, hcz11_17, hcz11_18, hcz11_19, hcz11_20⟩ := cz21 BK158.out; obtain ⟨hfz11_0, hfz11_1, hfz11_2, hfz11_3, hfz11_4, hfz11_5, hfz11_6, hfz11_7, hfz11_8, hfz11_9, hfz11_10, hfz11_11, hfz11_12, hfz11_13, hfz11_14, hfz11_15, hfz11_16, hfz11_17, hfz11_18, hfz11_19, hfz11_20⟩ := fz21 BK158.out) | ((with_reducible refine gate_callee (f := 18) rfl ?_); refine goesL_ (some 5) rfl rfl Try.func18 (by kernel_rfl) rfl #[.agg #[.int .i64 a0_0, .int .i64 a0_1, .int .i64 a0_2, .int .i64 a0_3, .int .i64 a0_4]] rfl (by (try simp only [List.map_toArray, List.map_cons, List.map_nil]); first | done | rfl | (simp only [List.length_drop, List.length_take]; rfl)) ?_; (with_reducible refine (impl_CfgOk.calls a0_0 a0_1 a0_2 a0_3 a0_4 true _ A2.out).mono ?_); rintro e w12 ⟨rfl, hb⟩; refine ⟨_, rfl, ?_⟩; have n0_ := mk_ (zq6 (by exact BK158.out) hb); have n1_ := mk_ (zr3 (by repeat (first | (with_reducible first | exact HB.out | apply zq7 | apply zq8 | apply zq9 | refine zr1 ?_ GE158.out) | exact HB.out)) hb); clear BK158; clear HB; have BK158 := n0_; have HB := n1_; clear n0_ n1_; (try clear hb); (try clear hb2); (try clear hk); (try clear hi); obtain ⟨hcz13_0, hcz13_1, hcz13_2, hcz13_3, hcz13_4, hcz13_5, hcz13_6, hcz13_7, hcz13_8, hcz13_9, hcz13_10, hcz13_11, hcz13_12, hcz13_13, hcz13_14, hcz13_15, hcz13_16, hcz13_17, hcz13_18, hcz13_19, hcz13_20⟩ := cz21 BK158.out; obtain ⟨hfz13_0, hfz13_1, hfz13_2, hfz13_3, hfz13_4, hfz13_5, hfz13_6, hfz13_7, hfz13_8, hfz13_9, hfz13_10, hfz13_11, hfz13_12, hfz13_13, hfz13_14, hfz13_15, hfz13_16, hfz13_17, hfz13_18, hfz13_19, hfz13_20⟩ := fz21 BK158.out))
 have H := HH_.out
 clear HH_
 by_cases c5 : t160 = true
 rotate_left
 · replace c5 := Bool.eq_false_iff.mpr c5
   subst c5
   have H1 : (some false) = some r := by rw [if_neg (show ¬ (false = true) by decide)] at H; exact H
   clear H
   have H := H1
   clear H1
   obtain rfl := Option.some.inj H
   go_wp2_with (first | ((with_reducible refine gate_ty (t := 50) (x := .tmp 1) rfl ?_); refine st21 rfl rfl rfl rfl (by first | (with_reducible exact BK158.out) | (with_reducible exact (pu21 BK158.out))) (by kernel_rfl) rfl ?_) | ((with_reducible refine gate_ld (t := 50) (x := .tmp 1) rfl ?_); refine wpList_load_row rfl 50 _ rfl _ rfl _ _ _ _ (by first | (with_reducible exact BK158.out) | (with_reducible exact (pu21 BK158.out))) Try.underlying50 rfl (by kernel_rfl) ?_) | (go_at_call 18; (with_reducible refine (impl_CfgOk.calls a0_5 a0_6 a0_7 a0_8 a0_9 false _ A4.out).mono ?_); rintro e w36 ⟨rfl, hb⟩; have n0_ := mk_ (zq6 (by exact BK158.out) hb); have n1_ := mk_ (zr3 (by repeat (first | (with_reducible first | exact HB.out | apply zq7 | apply zq8 | apply zq9 | refine zr1 ?_ GE158.out) | exact HB.out)) hb); clear BK158; clear HB; have BK158 := n0_; have HB := n1_; clear n0_ n1_; (try clear hb); (try clear hb2); (try clear hk); (try clear hi)))
   go_ret
   exact ⟨by first | rfl | (simp [errW_none, errW_some] <;> rfl) | (simp [*, errW_none, errW_some] <;> rfl), by repeat (first | (with_reducible first | exact HB.out | apply zq7 | apply zq8 | apply zq9 | refine zr1 ?_ GE158.out) | exact HB.out)⟩
 subst c5
 have H1 : (if a0_5 = a0_0 then ((impl_CfgOpts_may.f a0_10 a0_11 a0_12 a0_13 a0_14 a0_0).bind fun t161 => (if t161 = true then ((impl_CfgOpts_may.f a0_15 a0_16 a0_17 a0_18 a0_19 a0_0).bind fun t162 => (some t162)) else (some false))) else (some false)) = some r := by rw [if_pos rfl] at H; exact H
 clear H
 have H := H1
 clear H1
 by_cases c6 : a0_5 = a0_0
 rotate_left
 · rw [if_neg c6] at H
   have c6b0 : (a0_5 == a0_0) = false := beq_eq_false_iff_ne.mpr c6
   have c6b1 : (a0_5 != a0_0) = true := bne_iff_ne.mpr c6
   obtain rfl := Option.some.inj H
   go_wp2_with (first | ((with_reducible refine gate_ty (t := 50) (x := .tmp 1) rfl ?_); refine st21 rfl rfl rfl rfl (by first | (with_reducible exact BK158.out) | (with_reducible exact (pu21 BK158.out))) (by kernel_rfl) rfl ?_) | ((with_reducible refine gate_ld (t := 50) (x := .tmp 1) rfl ?_); refine wpList_load_row rfl 50 _ rfl _ rfl _ _ _ _ (by first | (with_reducible exact BK158.out) | (with_reducible exact (pu21 BK158.out))) Try.underlying50 rfl (by kernel_rfl) ?_) | (go_at_call 18; (with_reducible refine (impl_CfgOk.calls a0_5 a0_6 a0_7 a0_8 a0_9 true _ A4.out).mono ?_); rintro e w30 ⟨rfl, hb⟩; have n0_ := mk_ (zq6 (by exact BK158.out) hb); have n1_ := mk_ (zr3 (by repeat (first | (with_reducible first | exact HB.out | apply zq7 | apply zq8 | apply zq9 | refine zr1 ?_ GE158.out) | exact HB.out)) hb); clear BK158; clear HB; have BK158 := n0_; have HB := n1_; clear n0_ n1_; (try clear hb); (try clear hb2); (try clear hk); (try clear hi); obtain ⟨hcz31_0, hcz31_1, hcz31_2, hcz31_3, hcz31_4, hcz31_5, hcz31_6, hcz31_7, hcz31_8, hcz31_9, hcz31_10, hcz31_11, hcz31_12, hcz31_13, hcz31_14, hcz31_15, hcz31_16, hcz31_17, hcz31_18, hcz31_19, hcz31_20⟩ := cz21 BK158.out; obtain ⟨hfz31_0, hfz31_1, hfz31_2, hfz31_3, hfz31_4, hfz31_5, hfz31_6, hfz31_7, hfz31_8, hfz31_9, hfz31_10, hfz31_11, hfz31_12, hfz31_13, hfz31_14, hfz31_15, hfz31_16, hfz31_17, hfz31_18, hfz31_19, hfz31_20⟩ := fz21 BK158.out))
   go_ret
   exact ⟨by first | rfl | (simp [errW_none, errW_some] <;> rfl) | (simp [*, errW_none, errW_some] <;> rfl), by repeat (first | (with_reducible first | exact HB.out | apply zq7 | apply zq8 | apply zq9 | refine zr1 ?_ GE158.out) | exact HB.out)⟩
 rw [if_pos c6] at H
 have c6b0 : (a0_5 == a0_0) = true := beq_iff_eq.mpr c6
 have c6b1 : (a0_5 != a0_0) = false := bne_eq_false_iff_eq.mpr c6
 clear c6
 replace H := Option.bind_eq_some_iff.mp H
 obtain ⟨t161, A70, H⟩ := H
 try dsimp only at H
 have A7 := mk_ A70
 clear A70
 have HH_ := mk_ H
 clear H
 go_wp2_with (first | ((with_reducible refine gate_ty (t := 50) (x := .tmp 1) rfl ?_); refine st21 rfl rfl rfl rfl (by first | (with_reducible exact BK158.out) | (with_reducible exact (pu21 BK158.out))) (by kernel_rfl) rfl ?_) | ((with_reducible refine gate_ld (t := 50) (x := .tmp 1) rfl ?_); refine wpList_load_row rfl 50 _ rfl _ rfl _ _ _ _ (by first | (with_reducible exact BK158.out) | (with_reducible exact (pu21 BK158.out))) Try.underlying50 rfl (by kernel_rfl) ?_) | (go_at_call 18; (with_reducible refine (impl_CfgOk.calls a0_5 a0_6 a0_7 a0_8 a0_9 true _ A4.out).mono ?_); rintro e w14 ⟨rfl, hb⟩; have n0_ := mk_ (zq6 (by exact BK158.out) hb); have n1_ := mk_ (zr3 (by repeat (first | (with_reducible first | exact HB.out | apply zq7 | apply zq8 | apply zq9 | refine zr1 ?_ GE158.out) | exact HB.out)) hb); clear BK158; clear HB; have BK158 := n0_; have HB := n1_; clear n0_ n1_; (try clear hb); (try clear hb2); (try clear hk); (try clear hi); obtain ⟨hcz15_0, hcz15_1, hcz15_2, hcz15_3, hcz15_4, hcz15_5, hcz15_6, hcz15_7, hcz15_8, hcz15_9, hcz15_10, hcz15_11, hcz15_12, hcz15_13, hcz15_14, hcz15_15, hcz15_16, hcz15_17, hcz15_18, hcz15_19, hcz15_20⟩ := cz21 BK158.out; obtain ⟨hfz15_0, hfz15_1, hfz15_2, hfz15_3, hfz15_4, hfz15_5, hfz15_6, hfz15_7, hfz15_8, hfz15_9, hfz15_10, hfz15_11, hfz15_12, hfz15_13, hfz15_14, hfz15_15, hfz15_16, hfz15_17, hfz15_18, hfz15_19, hfz15_20⟩ := fz21 BK158.out))
 have H := HH_.out
 clear HH_
 by_cases c8 : t161 = true
 rotate_left
 · replace c8 := Bool.eq_false_iff.mpr c8
   subst c8
   have H1 : (some false) = some r := by rw [if_neg (show ¬ (false = true) by decide)] at H; exact H
   clear H
   have H := H1
   clear H1
   obtain rfl := Option.some.inj H
   go_wp2_with (first | ((with_reducible refine gate_ty (t := 50) (x := .tmp 1) rfl ?_); refine st21 rfl rfl rfl rfl (by first | (with_reducible exact BK158.out) | (with_reducible exact (pu21 BK158.out))) (by kernel_rfl) rfl ?_) | ((with_reducible refine gate_ld (t := 50) (x := .tmp 1) rfl ?_); refine wpList_load_row rfl 50 _ rfl _ rfl _ _ _ _ (by first | (with_reducible exact BK158.out) | (with_reducible exact (pu21 BK158.out))) Try.underlying50 rfl (by kernel_rfl) ?_) | (go_at_call 70; (with_reducible refine (impl_CfgOpts_may.calls a0_10 a0_11 a0_12 a0_13 a0_14 a0_0 false _ A7.out).mono ?_); rintro e w25 ⟨rfl, hb⟩; have n0_ := mk_ (zq6 (by exact BK158.out) hb); have n1_ := mk_ (zr3 (by repeat (first | (with_reducible first | exact HB.out | apply zq7 | apply zq8 | apply zq9 | refine zr1 ?_ GE158.out) | exact HB.out)) hb); clear BK158; clear HB; have BK158 := n0_; have HB := n1_; clear n0_ n1_; (try clear hb); (try clear hb2); (try clear hk); (try clear hi)))
   go_ret
   exact ⟨by first | rfl | (simp [errW_none, errW_some] <;> rfl) | (simp [*, errW_none, errW_some] <;> rfl), by repeat (first | (with_reducible first | exact HB.out | apply zq7 | apply zq8 | apply zq9 | refine zr1 ?_ GE158.out) | exact HB.out)⟩
 subst c8
 have H1 : ((impl_CfgOpts_may.f a0_15 a0_16 a0_17 a0_18 a0_19 a0_0).bind fun t162 => (some t162)) = some r := by rw [if_pos rfl] at H; exact H
 clear H
 have H := H1
 clear H1
 replace H := Option.bind_eq_some_iff.mp H
 obtain ⟨t162, A90, H⟩ := H
 try dsimp only at H
 have A9 := mk_ A90
 clear A90
 obtain rfl := Option.some.inj H
 go_wp2_with (first | ((with_reducible refine gate_ty (t := 50) (x := .tmp 1) rfl ?_); refine st21 rfl rfl rfl rfl (by first | (with_reducible exact BK158.out) | (with_reducible exact (pu21 BK158.out))) (by kernel_rfl) rfl ?_) | ((with_reducible refine gate_ld (t := 50) (x := .tmp 1) rfl ?_); refine wpList_load_row rfl 50 _ rfl _ rfl _ _ _ _ (by first | (with_reducible exact BK158.out) | (with_reducible exact (pu21 BK158.out))) Try.underlying50 rfl (by kernel_rfl) ?_) | (go_at_call 70; (with_reducible refine (impl_CfgOpts_may.calls a0_10 a0_11 a0_12 a0_13 a0_14 a0_0 true _ A7.out).mono ?_); rintro e w16 ⟨rfl, hb⟩; have n0_ := mk_ (zq6 (by exact BK158.out) hb); have n1_ := mk_ (zr3 (by repeat (first | (with_reducible first | exact HB.out | apply zq7 | apply zq8 | apply zq9 | refine zr1 ?_ GE158.out) | exact HB.out)) hb); clear BK158; clear HB; have BK158 := n0_; have HB := n1_; clear n0_ n1_; (try clear hb); (try clear hb2); (try clear hk); (try clear hi); obtain ⟨hcz17_0, hcz17_1, hcz17_2, hcz17_3, hcz17_4, hcz17_5, hcz17_6, hcz17_7, hcz17_8, hcz17_9, hcz17_10, hcz17_11, hcz17_12, hcz17_13, hcz17_14, hcz17_15, hcz17_16, hcz17_17, hcz17_18, hcz17_19, hcz17_20⟩ := cz21 BK158.out; obtain ⟨hfz17_0, hfz17_1, hfz17_2, hfz17_3, hfz17_4, hfz17_5, hfz17_6, hfz17_7, hfz17_8, hfz17_9, hfz17_10, hfz17_11, hfz17_12, hfz17_13, hfz17_14, hfz17_15, hfz17_16, hfz17_17, hfz17_18, hfz17_19, hfz17_20⟩ := fz21 BK158.out) | (go_at_call 70; (with_reducible refine (impl_CfgOpts_may.calls a0_15 a0_16 a0_17 a0_18 a0_19 a0_0 t162 _ A9.out).mono ?_); rintro e w18 ⟨rfl, hb⟩; have n0_ := mk_ (zq6 (by exact BK158.out) hb); have n1_ := mk_ (zr3 (by repeat (first | (with_reducible first | exact HB.out | apply zq7 | apply zq8 | apply zq9 | refine zr1 ?_ GE158.out) | exact HB.out)) hb); clear BK158; clear HB; have BK158 := n0_; have HB := n1_; clear n0_ n1_; (try clear hb); (try clear hb2); (try clear hk); (try clear hi)))
 go_ret
 exact ⟨by first | rfl | (simp [errW_none, errW_some] <;> rfl) | (simp [*, errW_none, errW_some] <;> rfl), by repeat (first | (with_reducible first | exact HB.out | apply zq7 | apply zq8 | apply zq9 | refine zr1 ?_ GE158.out) | exact HB.out)⟩

end Go.Proofs.Ytommafidnphkcaa.QFnExactNegSay
