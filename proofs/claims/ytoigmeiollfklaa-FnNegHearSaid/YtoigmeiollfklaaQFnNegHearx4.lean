-- Written by a program of this session, a turned copy of the print (not by print.sh itself). Lean checks it.
import Derived.Test.YtoigmeiollfklaaQFnNegHearx0
import Derived.Test.YtoigmeiollfklaaQFnNegHearx1
namespace Go.Proofs.Ytoigmeiollfklaa.QFnNegHear
open Go.RowKit Go.Proofs.YtoigmeiollfklaaW.PrintWords Go.Proofs.YtoigmeiollfklaaW.PrintLast Go.Proofs.YtoigmeiollfklaaW.PrintMore Go.Proofs.YtoigmeiollfklaaLoc
attribute [local go_sem] max2_int min2_int max_two min_two max_three min_three max_four min_four   -- for this text's walks alone
set_option linter.unusedVariables false
set_option linter.unusedSimpArgs false

attribute [local go_sem high] eqA28
/-! ### spec_l1In: function 44 -/
def spec_l1In.f (a0 : Int) (a1 : Int) (a2 : Int) : Option (Bool) := if a0 ≥ a1 then (some (decide (a0 ≤ a2))) else (some false)
set_option maxHeartbeats 60000000 in
set_option maxRecDepth 100000 in
theorem spec_l1In.calls (a0 : Int) (a1 : Int) (a2 : Int) (r : Bool) (w : World) (h : spec_l1In.f a0 a1 a2 = some r) :
    Calls Try.prog 44 #[.int .i64 a0, .int .i64 a1, .int .i64 a2] w fun e w' => e = .returned (.bool r) ∧ Drawn0 w w' := by
 have H : (if a0 ≥ a1 then (some (decide (a0 ≤ a2))) else (some false)) = some r := h
 clear h
 by_cases c4 : a0 ≥ a1
 · rw [if_pos c4] at H
   have c4b0 : decide (a1 ≤ a0) = true := decide_eq_true c4
   clear c4
   obtain rfl := Option.some.inj H
   go_enter Try.func44, Try.ntmps44
   go_wp2
   go_ret
   exact ⟨by first | rfl | (simp; done) | (simp [*]; done), by repeat (first | exact Drawn0.refl _ | apply Drawn0.step)⟩
 rw [if_neg c4] at H
 have c4b0 : decide (a1 ≤ a0) = false := decide_eq_false c4
 clear c4
 obtain rfl := Option.some.inj H
 go_enter Try.func44, Try.ntmps44
 go_wp2
 go_ret
 exact ⟨by first | rfl | (simp; done) | (simp [*]; done), by repeat (first | exact Drawn0.refl _ | apply Drawn0.step)⟩

/-! ### spec_CfgOk: function 30 -/
def spec_CfgOk.f (a0_0 : Int) (a0_1 : Int) (a0_2 : Int) (a0_3 : Int) (a0_4 : Int) : Option (Bool) := (spec_l1In.f a0_0 1 2).bind fun t102 => (if t102 = true then ((spec_l1In.f a0_1 1 4).bind fun t103 => (if t103 = true then ((spec_l1In.f a0_2 1 8).bind fun t104 => (if t104 = true then ((spec_l1In.f a0_3 1 24).bind fun t105 => (if t105 = true then ((spec_l1In.f a0_4 1 5).bind fun t106 => (some t106)) else (some false))) else (some false))) else (some false))) else (some false))
set_option maxHeartbeats 60000000 in
set_option maxRecDepth 100000 in
theorem spec_CfgOk.calls (a0_0 : Int) (a0_1 : Int) (a0_2 : Int) (a0_3 : Int) (a0_4 : Int) (r : Bool) (w : World) (h : spec_CfgOk.f a0_0 a0_1 a0_2 a0_3 a0_4 = some r) :
    Calls Try.prog 30 #[.agg #[.int .i64 a0_0, .int .i64 a0_1, .int .i64 a0_2, .int .i64 a0_3, .int .i64 a0_4]] w fun e w' => e = .returned (.bool r) ∧ Below w.heap.size w w' := by
 have hu28 := Try.underlying28
 have HB := mk_ (Below.refl w.heap.size w)
 have H : ((spec_l1In.f a0_0 1 2).bind fun t102 => (if t102 = true then ((spec_l1In.f a0_1 1 4).bind fun t103 => (if t103 = true then ((spec_l1In.f a0_2 1 8).bind fun t104 => (if t104 = true then ((spec_l1In.f a0_3 1 24).bind fun t105 => (if t105 = true then ((spec_l1In.f a0_4 1 5).bind fun t106 => (some t106)) else (some false))) else (some false))) else (some false))) else (some false))) = some r := h
 clear h
 replace H := Option.bind_eq_some_iff.mp H
 obtain ⟨t102, A20, H⟩ := H
 try dsimp only at H
 have A2 := mk_ A20
 clear A20
 by_cases c3 : t102 = true
 rotate_left
 · replace c3 := Bool.eq_false_iff.mpr c3
   subst c3
   have H1 : (some false) = some r := by rw [if_neg (show ¬ (false = true) by decide)] at H; exact H
   clear H
   have H := H1
   clear H1
   obtain rfl := Option.some.inj H
   go_enter Try.func30, Try.ntmps30
   go_wp2_with (first | ((with_reducible refine gate_dst (N := 1) rfl ?_); refine box_event ?hg (N := 1) ?hd (cs := #[.int .i64 a0_0, .int .i64 a0_1, .int .i64 a0_2, .int .i64 a0_3, .int .i64 a0_4]) (t := 28) ?hr ?_; (case hd => rfl); (case hg => rfl); (case hr => first | (go_simp; done) | (go_simp; rfl)); intro gb101 hg w19 hbox hb; have BK101 := mk_ (hbox); have GW101 := mk_ ((by rw [hg]; exact (zr2 (by repeat (first | (with_reducible first | exact HB.out | apply zq7 | apply zq8 | apply zq9) | exact HB.out))) : w.heap.size ≤ gb101)); have GE101 := GW101; replace HB := mk_ (zr3 (by repeat (first | (with_reducible first | exact HB.out | apply zq7 | apply zq8 | apply zq9) | exact HB.out)) hb); clear hb hbox hg; obtain ⟨hcz20_0, hcz20_1, hcz20_2, hcz20_3, hcz20_4⟩ := cz5 BK101.out; obtain ⟨hfz20_0, hfz20_1, hfz20_2, hfz20_3, hfz20_4⟩ := fz5 BK101.out) | ((with_reducible refine gate_callee (f := 44) rfl ?_); refine goesL_ (some 5) rfl rfl Try.func44 (by kernel_rfl) rfl #[.int .i64 a0_0, .int .i64 1, .int .i64 2] rfl (by (try simp only [List.map_toArray, List.map_cons, List.map_nil]); first | done | rfl | (simp only [List.length_drop, List.length_take]; rfl)) ?_; (with_reducible refine (spec_l1In.calls a0_0 1 2 false _ A2.out).mono ?_); rintro e w' ⟨rfl, ⟨nd, rfl⟩⟩; refine ⟨_, rfl, ?_⟩))
   go_ret
   exact ⟨by first | rfl | (simp [errW_none, errW_some] <;> rfl) | (simp [*, errW_none, errW_some] <;> rfl), by repeat (first | (with_reducible first | exact HB.out | apply zq7 | apply zq8 | apply zq9 | refine zr1 ?_ GE101.out) | exact HB.out)⟩
 subst c3
 have H1 : ((spec_l1In.f a0_1 1 4).bind fun t103 => (if t103 = true then ((spec_l1In.f a0_2 1 8).bind fun t104 => (if t104 = true then ((spec_l1In.f a0_3 1 24).bind fun t105 => (if t105 = true then ((spec_l1In.f a0_4 1 5).bind fun t106 => (some t106)) else (some false))) else (some false))) else (some false))) = some r := by rw [if_pos rfl] at H; exact H
 clear H
 have H := H1
 clear H1
 replace H := Option.bind_eq_some_iff.mp H
 obtain ⟨t103, A40, H⟩ := H
 try dsimp only at H
 have A4 := mk_ A40
 clear A40
 have HH_ := mk_ H
 clear H
 go_enter Try.func30, Try.ntmps30
 go_wp2_with (first | ((with_reducible refine gate_dst (N := 1) rfl ?_); refine box_event ?hg (N := 1) ?hd (cs := #[.int .i64 a0_0, .int .i64 a0_1, .int .i64 a0_2, .int .i64 a0_3, .int .i64 a0_4]) (t := 28) ?hr ?_; (case hd => rfl); (case hg => rfl); (case hr => first | (go_simp; done) | (go_simp; rfl)); intro gb101 hg w11 hbox hb; have BK101 := mk_ (hbox); have GW101 := mk_ ((by rw [hg]; exact (zr2 (by repeat (first | (with_reducible first | exact HB.out | apply zq7 | apply zq8 | apply zq9) | exact HB.out))) : w.heap.size ≤ gb101)); have GE101 := GW101; replace HB := mk_ (zr3 (by repeat (first | (with_reducible first | exact HB.out | apply zq7 | apply zq8 | apply zq9) | exact HB.out)) hb); clear hb hbox hg; obtain ⟨hcz12_0, hcz12_1, hcz12_2, hcz12_3, hcz12_4⟩ := cz5 BK101.out; obtain ⟨hfz12_0, hfz12_1, hfz12_2, hfz12_3, hfz12_4⟩ := fz5 BK101.out) | ((with_reducible refine gate_callee (f := 44) rfl ?_); refine goesL_ (some 5) rfl rfl Try.func44 (by kernel_rfl) rfl #[.int .i64 a0_0, .int .i64 1, .int .i64 2] rfl (by (try simp only [List.map_toArray, List.map_cons, List.map_nil]); first | done | rfl | (simp only [List.length_drop, List.length_take]; rfl)) ?_; (with_reducible refine (spec_l1In.calls a0_0 1 2 true _ A2.out).mono ?_); rintro e w' ⟨rfl, ⟨nd, rfl⟩⟩; refine ⟨_, rfl, ?_⟩))
 have H := HH_.out
 clear HH_
 by_cases c5 : t103 = true
 rotate_left
 · replace c5 := Bool.eq_false_iff.mpr c5
   subst c5
   have H1 : (some false) = some r := by rw [if_neg (show ¬ (false = true) by decide)] at H; exact H
   clear H
   have H := H1
   clear H1
   obtain rfl := Option.some.inj H
   go_wp2_with (first | (go_at_call 44; (with_reducible refine (spec_l1In.calls a0_1 1 4 false _ A4.out).mono ?_); rintro e w' ⟨rfl, ⟨nd, rfl⟩⟩))
   go_ret
   exact ⟨by first | rfl | (simp [errW_none, errW_some] <;> rfl) | (simp [*, errW_none, errW_some] <;> rfl), by repeat (first | (with_reducible first | exact HB.out | apply zq7 | apply zq8 | apply zq9 | refine zr1 ?_ GE101.out) | exact HB.out)⟩
 subst c5
 have H1 : ((spec_l1In.f a0_2 1 8).bind fun t104 => (if t104 = true then ((spec_l1In.f a0_3 1 24).bind fun t105 => (if t105 = true then ((spec_l1In.f a0_4 1 5).bind fun t106 => (some t106)) else (some false))) else (some false))) = some r := by rw [if_pos rfl] at H; exact H
 clear H
 have H := H1
 clear H1
 replace H := Option.bind_eq_some_iff.mp H
 obtain ⟨t104, A60, H⟩ := H
 try dsimp only at H
 have A6 := mk_ A60
 clear A60
 have HH_ := mk_ H
 clear H
 go_wp2_with (first | (go_at_call 44; (with_reducible refine (spec_l1In.calls a0_1 1 4 true _ A4.out).mono ?_); rintro e w' ⟨rfl, ⟨nd, rfl⟩⟩))
 have H := HH_.out
 clear HH_
 by_cases c7 : t104 = true
 rotate_left
 · replace c7 := Bool.eq_false_iff.mpr c7
   subst c7
   have H1 : (some false) = some r := by rw [if_neg (show ¬ (false = true) by decide)] at H; exact H
   clear H
   have H := H1
   clear H1
   obtain rfl := Option.some.inj H
   go_wp2_with (first | (go_at_call 44; (with_reducible refine (spec_l1In.calls a0_2 1 8 false _ A6.out).mono ?_); rintro e w' ⟨rfl, ⟨nd, rfl⟩⟩))
   go_ret
   exact ⟨by first | rfl | (simp [errW_none, errW_some] <;> rfl) | (simp [*, errW_none, errW_some] <;> rfl), by repeat (first | (with_reducible first | exact HB.out | apply zq7 | apply zq8 | apply zq9 | refine zr1 ?_ GE101.out) | exact HB.out)⟩
 subst c7
 have H1 : ((spec_l1In.f a0_3 1 24).bind fun t105 => (if t105 = true then ((spec_l1In.f a0_4 1 5).bind fun t106 => (some t106)) else (some false))) = some r := by rw [if_pos rfl] at H; exact H
 clear H
 have H := H1
 clear H1
 replace H := Option.bind_eq_some_iff.mp H
 obtain ⟨t105, A80, H⟩ := H
 try dsimp only at H
 have A8 := mk_ A80
 clear A80
 have HH_ := mk_ H
 clear H
 go_wp2_with (first | (go_at_call 44; (with_reducible refine (spec_l1In.calls a0_2 1 8 true _ A6.out).mono ?_); rintro e w' ⟨rfl, ⟨nd, rfl⟩⟩))
 have H := HH_.out
 clear HH_
 by_cases c9 : t105 = true
 rotate_left
 · replace c9 := Bool.eq_false_iff.mpr c9
   subst c9
   have H1 : (some false) = some r := by rw [if_neg (show ¬ (false = true) by decide)] at H; exact H
   clear H
   have H := H1
   clear H1
   obtain rfl := Option.some.inj H
   go_wp2_with (first | (go_at_call 44; (with_reducible refine (spec_l1In.calls a0_3 1 24 false _ A8.out).mono ?_); rintro e w' ⟨rfl, ⟨nd, rfl⟩⟩))
   go_ret
   exact ⟨by first | rfl | (simp [errW_none, errW_some] <;> rfl) | (simp [*, errW_none, errW_some] <;> rfl), by repeat (first | (with_reducible first | exact HB.out | apply zq7 | apply zq8 | apply zq9 | refine zr1 ?_ GE101.out) | exact HB.out)⟩
 subst c9
 have H1 : ((spec_l1In.f a0_4 1 5).bind fun t106 => (some t106)) = some r := by rw [if_pos rfl] at H; exact H
 clear H
 have H := H1
 clear H1
 replace H := Option.bind_eq_some_iff.mp H
 obtain ⟨t106, A100, H⟩ := H
 try dsimp only at H
 have A10 := mk_ A100
 clear A100
 obtain rfl := Option.some.inj H
 go_wp2_with (first | (go_at_call 44; (with_reducible refine (spec_l1In.calls a0_3 1 24 true _ A8.out).mono ?_); rintro e w' ⟨rfl, ⟨nd, rfl⟩⟩) | (go_at_call 44; (with_reducible refine (spec_l1In.calls a0_4 1 5 t106 _ A10.out).mono ?_); rintro e w' ⟨rfl, ⟨nd, rfl⟩⟩))
 go_ret
 exact ⟨by first | rfl | (simp [errW_none, errW_some] <;> rfl) | (simp [*, errW_none, errW_some] <;> rfl), by repeat (first | (with_reducible first | exact HB.out | apply zq7 | apply zq8 | apply zq9 | refine zr1 ?_ GE101.out) | exact HB.out)⟩

/-! ### spec_l5One: function 53 -/
def spec_l5One.f (a0_0 : Int) (a0_1 : Int) (a0_2 : Int) (a0_3 : Int) (a0_4 : Int) (a1_0 : Int) (a1_1 : Int) (a1_2 : Int) (a1_3 : Int) (a1_4 : Int) : Option (Bool) := (spec_CfgOk.f a1_0 a1_1 a1_2 a1_3 a1_4).bind fun t109 => (if t109 = true then (some (a0_0 == a1_0)) else (some false))
set_option maxHeartbeats 60000000 in
set_option maxRecDepth 100000 in
theorem spec_l5One.calls (a0_0 : Int) (a0_1 : Int) (a0_2 : Int) (a0_3 : Int) (a0_4 : Int) (a1_0 : Int) (a1_1 : Int) (a1_2 : Int) (a1_3 : Int) (a1_4 : Int) (r : Bool) (w : World) (h : spec_l5One.f a0_0 a0_1 a0_2 a0_3 a0_4 a1_0 a1_1 a1_2 a1_3 a1_4 = some r) :
    Calls Try.prog 53 #[.agg #[.int .i64 a0_0, .int .i64 a0_1, .int .i64 a0_2, .int .i64 a0_3, .int .i64 a0_4], .agg #[.int .i64 a1_0, .int .i64 a1_1, .int .i64 a1_2, .int .i64 a1_3, .int .i64 a1_4]] w fun e w' => e = .returned (.bool r) ∧ Below w.heap.size w w' := by
 have hu28 := Try.underlying28
 have HB := mk_ (Below.refl w.heap.size w)
 have H : ((spec_CfgOk.f a1_0 a1_1 a1_2 a1_3 a1_4).bind fun t109 => (if t109 = true then (some (a0_0 == a1_0)) else (some false))) = some r := h
 clear h
 replace H := Option.bind_eq_some_iff.mp H
 obtain ⟨t109, A30, H⟩ := H
 try dsimp only at H
 have A3 := mk_ A30
 clear A30
 by_cases c4 : t109 = true
 rotate_left
 · replace c4 := Bool.eq_false_iff.mpr c4
   subst c4
   have H1 : (some false) = some r := by rw [if_neg (show ¬ (false = true) by decide)] at H; exact H
   clear H
   have H := H1
   clear H1
   obtain rfl := Option.some.inj H
   go_enter Try.func53, Try.ntmps53
   go_wp2_with (first | ((with_reducible refine gate_dst (N := 2) rfl ?_); refine box_event ?hg (N := 2) ?hd (cs := #[.int .i64 a0_0, .int .i64 a0_1, .int .i64 a0_2, .int .i64 a0_3, .int .i64 a0_4]) (t := 28) ?hr ?_; (case hd => rfl); (case hg => rfl); (case hr => first | (go_simp; done) | (go_simp; rfl)); intro gb107 hg w12 hbox hb; have BK107 := mk_ (hbox); have GW107 := mk_ ((by rw [hg]; exact (zr2 (by repeat (first | (with_reducible first | exact HB.out | apply zq7 | apply zq8 | apply zq9) | exact HB.out))) : w.heap.size ≤ gb107)); have GE107 := GW107; replace HB := mk_ (zr3 (by repeat (first | (with_reducible first | exact HB.out | apply zq7 | apply zq8 | apply zq9) | exact HB.out)) hb); clear hb hbox hg) | ((with_reducible refine gate_dst (N := 3) rfl ?_); refine box_event ?hg (N := 3) ?hd (cs := #[.int .i64 a1_0, .int .i64 a1_1, .int .i64 a1_2, .int .i64 a1_3, .int .i64 a1_4]) (t := 28) ?hr ?_; (case hd => rfl); (case hg => rfl); (case hr => first | (go_simp; done) | (go_simp; rfl)); intro gb108 hg w13 hbox hb; have BK108 := mk_ (hbox); have GW108 := mk_ ((by rw [hg]; exact (zr2 (by repeat (first | (with_reducible first | exact HB.out | apply zq7 | apply zq8 | apply zq9 | refine zr1 ?_ GE107.out) | exact HB.out))) : w.heap.size ≤ gb108)); have GE108 := GW108; replace HB := mk_ (zr3 (by repeat (first | (with_reducible first | exact HB.out | apply zq7 | apply zq8 | apply zq9 | refine zr1 ?_ GE107.out) | exact HB.out)) hb); have NB107_108 := mk_ ((by rw [hg]; exact zm2 (zr6 (by exact BK107.out)) : gb107 ≠ gb108)); replace BK107 := mk_ (zq6 (by exact BK107.out) hb); have NB108_107 := mk_ NB107_108.out.symm; clear hb hbox hg; have hnb14 := NB108_107.out; have hnc14 := NB107_108.out; obtain ⟨hcz15_0, hcz15_1, hcz15_2, hcz15_3, hcz15_4⟩ := cz5 BK108.out; obtain ⟨hfz15_0, hfz15_1, hfz15_2, hfz15_3, hfz15_4⟩ := fz5 BK108.out) | ((with_reducible refine gate_callee (f := 30) rfl ?_); refine goesL_ (some 6) rfl rfl Try.func30 (by kernel_rfl) rfl #[.agg #[.int .i64 a1_0, .int .i64 a1_1, .int .i64 a1_2, .int .i64 a1_3, .int .i64 a1_4]] rfl (by (try simp only [List.map_toArray, List.map_cons, List.map_nil]); first | done | rfl | (simp only [List.length_drop, List.length_take]; rfl)) ?_; (with_reducible refine (spec_CfgOk.calls a1_0 a1_1 a1_2 a1_3 a1_4 false _ A3.out).mono ?_); rintro e w16 ⟨rfl, hb⟩; refine ⟨_, rfl, ?_⟩; replace BK107 := mk_ (zq6 (by exact BK107.out) hb); replace BK108 := mk_ (zq6 (by exact BK108.out) hb); replace HB := mk_ (zr3 (by repeat (first | (with_reducible first | exact HB.out | apply zq7 | apply zq8 | apply zq9 | refine zr1 ?_ GE107.out | refine zr1 ?_ GE108.out) | exact HB.out)) hb); (try clear hb); (try clear hb2); (try clear hk); (try clear hi)))
   go_ret
   exact ⟨by first | rfl | (simp [errW_none, errW_some] <;> rfl) | (simp [*, errW_none, errW_some] <;> rfl), by repeat (first | (with_reducible first | exact HB.out | apply zq7 | apply zq8 | apply zq9 | refine zr1 ?_ GE107.out | refine zr1 ?_ GE108.out) | exact HB.out)⟩
 subst c4
 have H1 : (some (a0_0 == a1_0)) = some r := by rw [if_pos rfl] at H; exact H
 clear H
 have H := H1
 clear H1
 obtain rfl := Option.some.inj H
 go_enter Try.func53, Try.ntmps53
 go_wp2_with (first | ((with_reducible refine gate_dst (N := 2) rfl ?_); refine box_event ?hg (N := 2) ?hd (cs := #[.int .i64 a0_0, .int .i64 a0_1, .int .i64 a0_2, .int .i64 a0_3, .int .i64 a0_4]) (t := 28) ?hr ?_; (case hd => rfl); (case hg => rfl); (case hr => first | (go_simp; done) | (go_simp; rfl)); intro gb107 hg w5 hbox hb; have BK107 := mk_ (hbox); have GW107 := mk_ ((by rw [hg]; exact (zr2 (by repeat (first | (with_reducible first | exact HB.out | apply zq7 | apply zq8 | apply zq9) | exact HB.out))) : w.heap.size ≤ gb107)); have GE107 := GW107; replace HB := mk_ (zr3 (by repeat (first | (with_reducible first | exact HB.out | apply zq7 | apply zq8 | apply zq9) | exact HB.out)) hb); clear hb hbox hg) | ((with_reducible refine gate_dst (N := 3) rfl ?_); refine box_event ?hg (N := 3) ?hd (cs := #[.int .i64 a1_0, .int .i64 a1_1, .int .i64 a1_2, .int .i64 a1_3, .int .i64 a1_4]) (t := 28) ?hr ?_; (case hd => rfl); (case hg => rfl); (case hr => first | (go_simp; done) | (go_simp; rfl)); intro gb108 hg w6 hbox hb; have BK108 := mk_ (hbox); have GW108 := mk_ ((by rw [hg]; exact (zr2 (by repeat (first | (with_reducible first | exact HB.out | apply zq7 | apply zq8 | apply zq9 | refine zr1 ?_ GE107.out) | exact HB.out))) : w.heap.size ≤ gb108)); have GE108 := GW108; replace HB := mk_ (zr3 (by repeat (first | (with_reducible first | exact HB.out | apply zq7 | apply zq8 | apply zq9 | refine zr1 ?_ GE107.out) | exact HB.out)) hb); have NB107_108 := mk_ ((by rw [hg]; exact zm2 (zr6 (by exact BK107.out)) : gb107 ≠ gb108)); replace BK107 := mk_ (zq6 (by exact BK107.out) hb); have NB108_107 := mk_ NB107_108.out.symm; clear hb hbox hg; have hnb7 := NB108_107.out; have hnc7 := NB107_108.out; obtain ⟨hcz8_0, hcz8_1, hcz8_2, hcz8_3, hcz8_4⟩ := cz5 BK108.out; obtain ⟨hfz8_0, hfz8_1, hfz8_2, hfz8_3, hfz8_4⟩ := fz5 BK108.out) | ((with_reducible refine gate_callee (f := 30) rfl ?_); refine goesL_ (some 6) rfl rfl Try.func30 (by kernel_rfl) rfl #[.agg #[.int .i64 a1_0, .int .i64 a1_1, .int .i64 a1_2, .int .i64 a1_3, .int .i64 a1_4]] rfl (by (try simp only [List.map_toArray, List.map_cons, List.map_nil]); first | done | rfl | (simp only [List.length_drop, List.length_take]; rfl)) ?_; (with_reducible refine (spec_CfgOk.calls a1_0 a1_1 a1_2 a1_3 a1_4 true _ A3.out).mono ?_); rintro e w9 ⟨rfl, hb⟩; refine ⟨_, rfl, ?_⟩; replace BK107 := mk_ (zq6 (by exact BK107.out) hb); replace BK108 := mk_ (zq6 (by exact BK108.out) hb); replace HB := mk_ (zr3 (by repeat (first | (with_reducible first | exact HB.out | apply zq7 | apply zq8 | apply zq9 | refine zr1 ?_ GE107.out | refine zr1 ?_ GE108.out) | exact HB.out)) hb); (try clear hb); (try clear hb2); (try clear hk); (try clear hi); obtain ⟨hcz10_0, hcz10_1, hcz10_2, hcz10_3, hcz10_4⟩ := cz5 BK107.out; obtain ⟨hfz10_0, hfz10_1, hfz10_2, hfz10_3, hfz10_4⟩ := fz5 BK107.out; obtain ⟨hcz11_0, hcz11_1, hcz11_2, hcz11_3, hcz11_4⟩ := cz5 BK108.out; obtain ⟨hfz11_0, hfz11_1, hfz11_2, hfz11_3, hfz11_4⟩ := fz5 BK108.out))
 go_ret
 exact ⟨by first | rfl | (simp [errW_none, errW_some] <;> rfl) | (simp [*, errW_none, errW_some] <;> rfl), by repeat (first | (with_reducible first | exact HB.out | apply zq7 | apply zq8 | apply zq9 | refine zr1 ?_ GE107.out | refine zr1 ?_ GE108.out) | exact HB.out)⟩

/-! ### spec_l5None: function 54 -/
def spec_l5None.f (a0_0 : Int) (a0_1 : Int) (a0_2 : Int) (a0_3 : Int) (a0_4 : Int) : Option (Bool) := some (a0_0 == 0 && (a0_1 == 0 && (a0_2 == 0 && (a0_3 == 0 && (a0_4 == 0)))))
set_option maxHeartbeats 60000000 in
set_option maxRecDepth 100000 in
theorem spec_l5None.calls (a0_0 : Int) (a0_1 : Int) (a0_2 : Int) (a0_3 : Int) (a0_4 : Int) (r : Bool) (w : World) (h : spec_l5None.f a0_0 a0_1 a0_2 a0_3 a0_4 = some r) :
    Calls Try.prog 54 #[.agg #[.int .i64 a0_0, .int .i64 a0_1, .int .i64 a0_2, .int .i64 a0_3, .int .i64 a0_4]] w fun e w' => e = .returned (.bool r) ∧ Below w.heap.size w w' := by
 have hu28 := Try.underlying28
 have HB := mk_ (Below.refl w.heap.size w)
 have H : (some (a0_0 == 0 && (a0_1 == 0 && (a0_2 == 0 && (a0_3 == 0 && (a0_4 == 0)))))) = some r := h
 clear h
 obtain rfl := Option.some.inj H
 go_enter Try.func54, Try.ntmps54
 go_wp2_with (first | ((with_reducible refine gate_dst (N := 1) rfl ?_); refine box_event ?hg (N := 1) ?hd (cs := #[.int .i64 a0_0, .int .i64 a0_1, .int .i64 a0_2, .int .i64 a0_3, .int .i64 a0_4]) (t := 28) ?hr ?_; (case hd => rfl); (case hg => rfl); (case hr => first | (go_simp; done) | (go_simp; rfl)); intro gb110 hg w2 hbox hb; have BK110 := mk_ (hbox); have GW110 := mk_ ((by rw [hg]; exact (zr2 (by repeat (first | (with_reducible first | exact HB.out | apply zq7 | apply zq8 | apply zq9) | exact HB.out))) : w.heap.size ≤ gb110)); have GE110 := GW110; replace HB := mk_ (zr3 (by repeat (first | (with_reducible first | exact HB.out | apply zq7 | apply zq8 | apply zq9) | exact HB.out)) hb); clear hb hbox hg; obtain ⟨hcz3_0, hcz3_1, hcz3_2, hcz3_3, hcz3_4⟩ := cz5 BK110.out; obtain ⟨hfz3_0, hfz3_1, hfz3_2, hfz3_3, hfz3_4⟩ := fz5 BK110.out))
 go_ret
 exact ⟨by first | rfl | (simp [errW_none, errW_some] <;> rfl) | (simp [*, errW_none, errW_some] <;> rfl), by repeat (first | (with_reducible first | exact HB.out | apply zq7 | apply zq8 | apply zq9 | refine zr1 ?_ GE110.out) | exact HB.out)⟩

/-! ### spec_NegOk: function 21 -/
def spec_NegOk.f (a0_0 : Int) (a0_1 : Int) (a0_2 : Int) (a0_3 : Int) (a0_4 : Int) (a0_5 : Int) (a0_6 : Int) (a0_7 : Int) (a0_8 : Int) (a0_9 : Int) (a0_10 : Int) (a0_11 : Int) (a0_12 : Int) (a0_13 : Int) (a0_14 : Int) (a0_15 : Int) (a0_16 : Int) (a0_17 : Int) (a0_18 : Int) (a0_19 : Int) (a0_20 : Bool) : Option (Bool) := (spec_CfgOk.f a0_0 a0_1 a0_2 a0_3 a0_4).bind fun t112 => (if t112 = true then ((spec_l5One.f a0_0 a0_1 a0_2 a0_3 a0_4 a0_5 a0_6 a0_7 a0_8 a0_9).bind fun t113 => (if t113 = true then ((spec_l5None.f a0_10 a0_11 a0_12 a0_13 a0_14).bind fun t114 => (if t114 = true then ((spec_l5None.f a0_15 a0_16 a0_17 a0_18 a0_19).bind fun t115 => (if t115 = true then (some true) else ((spec_l5One.f a0_0 a0_1 a0_2 a0_3 a0_4 a0_15 a0_16 a0_17 a0_18 a0_19).bind fun t116 => (some t116)))) else ((spec_l5One.f a0_0 a0_1 a0_2 a0_3 a0_4 a0_10 a0_11 a0_12 a0_13 a0_14).bind fun t117 => (if t117 = true then ((spec_l5None.f a0_15 a0_16 a0_17 a0_18 a0_19).bind fun t118 => (if t118 = true then (some true) else ((spec_l5One.f a0_0 a0_1 a0_2 a0_3 a0_4 a0_15 a0_16 a0_17 a0_18 a0_19).bind fun t119 => (some t119)))) else (some false))))) else (some false))) else (some false))
set_option maxHeartbeats 60000000 in
set_option maxRecDepth 100000 in
theorem spec_NegOk.calls (a0_0 : Int) (a0_1 : Int) (a0_2 : Int) (a0_3 : Int) (a0_4 : Int) (a0_5 : Int) (a0_6 : Int) (a0_7 : Int) (a0_8 : Int) (a0_9 : Int) (a0_10 : Int) (a0_11 : Int) (a0_12 : Int) (a0_13 : Int) (a0_14 : Int) (a0_15 : Int) (a0_16 : Int) (a0_17 : Int) (a0_18 : Int) (a0_19 : Int) (a0_20 : Bool) (r : Bool) (w : World) (h : spec_NegOk.f a0_0 a0_1 a0_2 a0_3 a0_4 a0_5 a0_6 a0_7 a0_8 a0_9 a0_10 a0_11 a0_12 a0_13 a0_14 a0_15 a0_16 a0_17 a0_18 a0_19 a0_20 = some r) :
    Calls Try.prog 21 #[.agg #[.int .i64 a0_0, .int .i64 a0_1, .int .i64 a0_2, .int .i64 a0_3, .int .i64 a0_4, .int .i64 a0_5, .int .i64 a0_6, .int .i64 a0_7, .int .i64 a0_8, .int .i64 a0_9, .int .i64 a0_10, .int .i64 a0_11, .int .i64 a0_12, .int .i64 a0_13, .int .i64 a0_14, .int .i64 a0_15, .int .i64 a0_16, .int .i64 a0_17, .int .i64 a0_18, .int .i64 a0_19, .bool a0_20]] w fun e w' => e = .returned (.bool r) ∧ Below w.heap.size w w' := by
  have H : ((spec_CfgOk.f a0_0 a0_1 a0_2 a0_3 a0_4).bind fun t112 => (if t112 = true then ((spec_l5One.f a0_0 a0_1 a0_2 a0_3 a0_4 a0_5 a0_6 a0_7 a0_8 a0_9).bind fun t113 => (if t113 = true then ((spec_l5None.f a0_10 a0_11 a0_12 a0_13 a0_14).bind fun t114 => (if t114 = true then ((spec_l5None.f a0_15 a0_16 a0_17 a0_18 a0_19).bind fun t115 => (if t115 = true then (some true) else ((spec_l5One.f a0_0 a0_1 a0_2 a0_3 a0_4 a0_15 a0_16 a0_17 a0_18 a0_19).bind fun t116 => (some t116)))) else ((spec_l5One.f a0_0 a0_1 a0_2 a0_3 a0_4 a0_10 a0_11 a0_12 a0_13 a0_14).bind fun t117 => (if t117 = true then ((spec_l5None.f a0_15 a0_16 a0_17 a0_18 a0_19).bind fun t118 => (if t118 = true then (some true) else ((spec_l5One.f a0_0 a0_1 a0_2 a0_3 a0_4 a0_15 a0_16 a0_17 a0_18 a0_19).bind fun t119 => (some t119)))) else (some false))))) else (some false))) else (some false))) = some r := h
  clear h
  replace H := Option.bind_eq_some_iff.mp H
  obtain ⟨t112, A20, H⟩ := H
  try dsimp only at H
  have A2 := mk_ A20
  clear A20
  by_cases c3 : t112 = true
  rotate_left
  · replace c3 := Bool.eq_false_iff.mpr c3
    subst c3
    rw [if_neg Bool.false_ne_true] at H
    try dsimp only at H
    obtain rfl := Option.some.inj H
    have HL := mk_ (Lok.start w)
    go_enter Try.func21, Try.ntmps21
    go_wp2_with (first | ((with_reducible refine gate_dst (N := 5) rfl ?_); (with_reducible refine gate_callee (f := 30) rfl ?_); refine goesL_ (some 5) rfl rfl Try.func30 (by kernel_rfl) rfl #[.agg #[.int .i64 a0_0, .int .i64 a0_1, .int .i64 a0_2, .int .i64 a0_3, .int .i64 a0_4]] rfl (by (try simp only [List.map_toArray, List.map_cons, List.map_nil]); first | done | rfl) ?_; (with_reducible refine (spec_CfgOk.calls a0_0 a0_1 a0_2 a0_3 a0_4 false _ A2.out).mono ?_); rintro e w_ ⟨rfl, hb_⟩; refine ⟨_, rfl, ?_⟩; replace HL := mk_ (HL.out.call hb_); clear hb_) | ((with_reducible refine gate_gd rfl ?_); first | ((with_reducible refine gd_on rfl ?_ ?_); rfl; dsimp only) | ((with_reducible refine gd_off rfl ?_ ?_); rfl)) | ((with_reducible refine gate_dst (N := 1) rfl ?_); refine loc_box rfl rfl (by first | (go_simp; done) | (go_simp; rfl)) HL.out ?_; intro gb1 w_ HL_; replace HL := mk_ HL_; clear HL_) | ((with_reducible refine gate_ld0 (t := 28) rfl ?_); refine loc_load (n := 5) rfl rfl (by kernel_rfl) rfl (by kernel_rfl) HL.out (by with_reducible repeat (first | exact Sel.done | apply Sel.take | apply Sel.skip | apply Get.here | apply Get.next)) ?_) | ((with_reducible refine gate_ld0 (t := 30) rfl ?_); refine loc_load (n := 21) rfl rfl (by kernel_rfl) rfl (by kernel_rfl) HL.out (by with_reducible repeat (first | exact Sel.done | apply Sel.take | apply Sel.skip | apply Get.here | apply Get.next)) ?_) | ((with_reducible refine gate_ld0 rfl ?_); refine loc_load1 rfl rfl (by kernel_rfl) rfl HL.out (by with_reducible repeat (first | exact Sel.done | apply Sel.take | apply Sel.skip | apply Get.here | apply Get.next)) ?_) | ((with_reducible refine gate_st0 rfl ?_); refine loc_store rfl rfl rfl (by first | (go_simp; done) | (go_simp; rfl)) (by kernel_rfl) (by kernel_rfl) HL.out (by with_reducible repeat (first | exact Spl.done | apply Spl.put | apply Spl.skip | apply Upd.here | apply Upd.next)) ?_; intro w_ HL_; replace HL := mk_ HL_; clear HL_))
    go_ret
    exact ⟨by first | rfl | (simp [errW_none, errW_some] <;> rfl) | (simp [*, errW_none, errW_some] <;> rfl), HL.out.bel⟩
  subst c3
  rw [if_pos rfl] at H
  try dsimp only at H
  replace H := Option.bind_eq_some_iff.mp H
  obtain ⟨t113, A40, H⟩ := H
  try dsimp only at H
  have A4 := mk_ A40
  clear A40
  by_cases c5 : t113 = true
  rotate_left
  · replace c5 := Bool.eq_false_iff.mpr c5
    subst c5
    rw [if_neg Bool.false_ne_true] at H
    try dsimp only at H
    obtain rfl := Option.some.inj H
    have HL := mk_ (Lok.start w)
    go_enter Try.func21, Try.ntmps21
    go_wp2_with (first | ((with_reducible refine gate_dst (N := 5) rfl ?_); (with_reducible refine gate_callee (f := 30) rfl ?_); refine goesL_ (some 5) rfl rfl Try.func30 (by kernel_rfl) rfl #[.agg #[.int .i64 a0_0, .int .i64 a0_1, .int .i64 a0_2, .int .i64 a0_3, .int .i64 a0_4]] rfl (by (try simp only [List.map_toArray, List.map_cons, List.map_nil]); first | done | rfl) ?_; (with_reducible refine (spec_CfgOk.calls a0_0 a0_1 a0_2 a0_3 a0_4 true _ A2.out).mono ?_); rintro e w_ ⟨rfl, hb_⟩; refine ⟨_, rfl, ?_⟩; replace HL := mk_ (HL.out.call hb_); clear hb_) | ((with_reducible refine gate_dst (N := 11) rfl ?_); (with_reducible refine gate_callee (f := 53) rfl ?_); refine goesL_ (some 11) rfl rfl Try.func53 (by kernel_rfl) rfl #[.agg #[.int .i64 a0_0, .int .i64 a0_1, .int .i64 a0_2, .int .i64 a0_3, .int .i64 a0_4], .agg #[.int .i64 a0_5, .int .i64 a0_6, .int .i64 a0_7, .int .i64 a0_8, .int .i64 a0_9]] rfl (by (try simp only [List.map_toArray, List.map_cons, List.map_nil]); first | done | rfl) ?_; (with_reducible refine (spec_l5One.calls a0_0 a0_1 a0_2 a0_3 a0_4 a0_5 a0_6 a0_7 a0_8 a0_9 false _ A4.out).mono ?_); rintro e w_ ⟨rfl, hb_⟩; refine ⟨_, rfl, ?_⟩; replace HL := mk_ (HL.out.call hb_); clear hb_) | ((with_reducible refine gate_gd rfl ?_); first | ((with_reducible refine gd_on rfl ?_ ?_); rfl; dsimp only) | ((with_reducible refine gd_off rfl ?_ ?_); rfl)) | ((with_reducible refine gate_dst (N := 1) rfl ?_); refine loc_box rfl rfl (by first | (go_simp; done) | (go_simp; rfl)) HL.out ?_; intro gb1 w_ HL_; replace HL := mk_ HL_; clear HL_) | ((with_reducible refine gate_ld0 (t := 28) rfl ?_); refine loc_load (n := 5) rfl rfl (by kernel_rfl) rfl (by kernel_rfl) HL.out (by with_reducible repeat (first | exact Sel.done | apply Sel.take | apply Sel.skip | apply Get.here | apply Get.next)) ?_) | ((with_reducible refine gate_ld0 (t := 30) rfl ?_); refine loc_load (n := 21) rfl rfl (by kernel_rfl) rfl (by kernel_rfl) HL.out (by with_reducible repeat (first | exact Sel.done | apply Sel.take | apply Sel.skip | apply Get.here | apply Get.next)) ?_) | ((with_reducible refine gate_ld0 rfl ?_); refine loc_load1 rfl rfl (by kernel_rfl) rfl HL.out (by with_reducible repeat (first | exact Sel.done | apply Sel.take | apply Sel.skip | apply Get.here | apply Get.next)) ?_) | ((with_reducible refine gate_st0 rfl ?_); refine loc_store rfl rfl rfl (by first | (go_simp; done) | (go_simp; rfl)) (by kernel_rfl) (by kernel_rfl) HL.out (by with_reducible repeat (first | exact Spl.done | apply Spl.put | apply Spl.skip | apply Upd.here | apply Upd.next)) ?_; intro w_ HL_; replace HL := mk_ HL_; clear HL_))
    go_ret
    exact ⟨by first | rfl | (simp [errW_none, errW_some] <;> rfl) | (simp [*, errW_none, errW_some] <;> rfl), HL.out.bel⟩
  subst c5
  rw [if_pos rfl] at H
  try dsimp only at H
  replace H := Option.bind_eq_some_iff.mp H
  obtain ⟨t114, A60, H⟩ := H
  try dsimp only at H
  have A6 := mk_ A60
  clear A60
  by_cases c7 : t114 = true
  · subst c7
    rw [if_pos rfl] at H
    try dsimp only at H
    replace H := Option.bind_eq_some_iff.mp H
    obtain ⟨t115, A80, H⟩ := H
    try dsimp only at H
    have A8 := mk_ A80
    clear A80
    by_cases c9 : t115 = true
    · subst c9
      rw [if_pos rfl] at H
      try dsimp only at H
      obtain rfl := Option.some.inj H
      have HL := mk_ (Lok.start w)
      go_enter Try.func21, Try.ntmps21
      go_wp2_with (first | ((with_reducible refine gate_dst (N := 5) rfl ?_); (with_reducible refine gate_callee (f := 30) rfl ?_); refine goesL_ (some 5) rfl rfl Try.func30 (by kernel_rfl) rfl #[.agg #[.int .i64 a0_0, .int .i64 a0_1, .int .i64 a0_2, .int .i64 a0_3, .int .i64 a0_4]] rfl (by (try simp only [List.map_toArray, List.map_cons, List.map_nil]); first | done | rfl) ?_; (with_reducible refine (spec_CfgOk.calls a0_0 a0_1 a0_2 a0_3 a0_4 true _ A2.out).mono ?_); rintro e w_ ⟨rfl, hb_⟩; refine ⟨_, rfl, ?_⟩; replace HL := mk_ (HL.out.call hb_); clear hb_) | ((with_reducible refine gate_dst (N := 11) rfl ?_); (with_reducible refine gate_callee (f := 53) rfl ?_); refine goesL_ (some 11) rfl rfl Try.func53 (by kernel_rfl) rfl #[.agg #[.int .i64 a0_0, .int .i64 a0_1, .int .i64 a0_2, .int .i64 a0_3, .int .i64 a0_4], .agg #[.int .i64 a0_5, .int .i64 a0_6, .int .i64 a0_7, .int .i64 a0_8, .int .i64 a0_9]] rfl (by (try simp only [List.map_toArray, List.map_cons, List.map_nil]); first | done | rfl) ?_; (with_reducible refine (spec_l5One.calls a0_0 a0_1 a0_2 a0_3 a0_4 a0_5 a0_6 a0_7 a0_8 a0_9 true _ A4.out).mono ?_); rintro e w_ ⟨rfl, hb_⟩; refine ⟨_, rfl, ?_⟩; replace HL := mk_ (HL.out.call hb_); clear hb_) | ((with_reducible refine gate_dst (N := 16) rfl ?_); (with_reducible refine gate_callee (f := 54) rfl ?_); refine goesL_ (some 16) rfl rfl Try.func54 (by kernel_rfl) rfl #[.agg #[.int .i64 a0_10, .int .i64 a0_11, .int .i64 a0_12, .int .i64 a0_13, .int .i64 a0_14]] rfl (by (try simp only [List.map_toArray, List.map_cons, List.map_nil]); first | done | rfl) ?_; (with_reducible refine (spec_l5None.calls a0_10 a0_11 a0_12 a0_13 a0_14 true _ A6.out).mono ?_); rintro e w_ ⟨rfl, hb_⟩; refine ⟨_, rfl, ?_⟩; replace HL := mk_ (HL.out.call hb_); clear hb_) | ((with_reducible refine gate_dst (N := 28) rfl ?_); (with_reducible refine gate_callee (f := 54) rfl ?_); refine goesL_ (some 28) rfl rfl Try.func54 (by kernel_rfl) rfl #[.agg #[.int .i64 a0_15, .int .i64 a0_16, .int .i64 a0_17, .int .i64 a0_18, .int .i64 a0_19]] rfl (by (try simp only [List.map_toArray, List.map_cons, List.map_nil]); first | done | rfl) ?_; (with_reducible refine (spec_l5None.calls a0_15 a0_16 a0_17 a0_18 a0_19 true _ A8.out).mono ?_); rintro e w_ ⟨rfl, hb_⟩; refine ⟨_, rfl, ?_⟩; replace HL := mk_ (HL.out.call hb_); clear hb_) | ((with_reducible refine gate_gd rfl ?_); first | ((with_reducible refine gd_on rfl ?_ ?_); rfl; dsimp only) | ((with_reducible refine gd_off rfl ?_ ?_); rfl)) | ((with_reducible refine gate_dst (N := 1) rfl ?_); refine loc_box rfl rfl (by first | (go_simp; done) | (go_simp; rfl)) HL.out ?_; intro gb1 w_ HL_; replace HL := mk_ HL_; clear HL_) | ((with_reducible refine gate_ld0 (t := 28) rfl ?_); refine loc_load (n := 5) rfl rfl (by kernel_rfl) rfl (by kernel_rfl) HL.out (by with_reducible repeat (first | exact Sel.done | apply Sel.take | apply Sel.skip | apply Get.here | apply Get.next)) ?_) | ((with_reducible refine gate_ld0 (t := 30) rfl ?_); refine loc_load (n := 21) rfl rfl (by kernel_rfl) rfl (by kernel_rfl) HL.out (by with_reducible repeat (first | exact Sel.done | apply Sel.take | apply Sel.skip | apply Get.here | apply Get.next)) ?_) | ((with_reducible refine gate_ld0 rfl ?_); refine loc_load1 rfl rfl (by kernel_rfl) rfl HL.out (by with_reducible repeat (first | exact Sel.done | apply Sel.take | apply Sel.skip | apply Get.here | apply Get.next)) ?_) | ((with_reducible refine gate_st0 rfl ?_); refine loc_store rfl rfl rfl (by first | (go_simp; done) | (go_simp; rfl)) (by kernel_rfl) (by kernel_rfl) HL.out (by with_reducible repeat (first | exact Spl.done | apply Spl.put | apply Spl.skip | apply Upd.here | apply Upd.next)) ?_; intro w_ HL_; replace HL := mk_ HL_; clear HL_))
      go_ret
      exact ⟨by first | rfl | (simp [errW_none, errW_some] <;> rfl) | (simp [*, errW_none, errW_some] <;> rfl), HL.out.bel⟩
    replace c9 := Bool.eq_false_iff.mpr c9
    subst c9
    rw [if_neg Bool.false_ne_true] at H
    try dsimp only at H
    replace H := Option.bind_eq_some_iff.mp H
    obtain ⟨t116, A100, H⟩ := H
    try dsimp only at H
    have A10 := mk_ A100
    clear A100
    obtain rfl := Option.some.inj H
    have HL := mk_ (Lok.start w)
    go_enter Try.func21, Try.ntmps21
    go_wp2_with (first | ((with_reducible refine gate_dst (N := 5) rfl ?_); (with_reducible refine gate_callee (f := 30) rfl ?_); refine goesL_ (some 5) rfl rfl Try.func30 (by kernel_rfl) rfl #[.agg #[.int .i64 a0_0, .int .i64 a0_1, .int .i64 a0_2, .int .i64 a0_3, .int .i64 a0_4]] rfl (by (try simp only [List.map_toArray, List.map_cons, List.map_nil]); first | done | rfl) ?_; (with_reducible refine (spec_CfgOk.calls a0_0 a0_1 a0_2 a0_3 a0_4 true _ A2.out).mono ?_); rintro e w_ ⟨rfl, hb_⟩; refine ⟨_, rfl, ?_⟩; replace HL := mk_ (HL.out.call hb_); clear hb_) | ((with_reducible refine gate_dst (N := 11) rfl ?_); (with_reducible refine gate_callee (f := 53) rfl ?_); refine goesL_ (some 11) rfl rfl Try.func53 (by kernel_rfl) rfl #[.agg #[.int .i64 a0_0, .int .i64 a0_1, .int .i64 a0_2, .int .i64 a0_3, .int .i64 a0_4], .agg #[.int .i64 a0_5, .int .i64 a0_6, .int .i64 a0_7, .int .i64 a0_8, .int .i64 a0_9]] rfl (by (try simp only [List.map_toArray, List.map_cons, List.map_nil]); first | done | rfl) ?_; (with_reducible refine (spec_l5One.calls a0_0 a0_1 a0_2 a0_3 a0_4 a0_5 a0_6 a0_7 a0_8 a0_9 true _ A4.out).mono ?_); rintro e w_ ⟨rfl, hb_⟩; refine ⟨_, rfl, ?_⟩; replace HL := mk_ (HL.out.call hb_); clear hb_) | ((with_reducible refine gate_dst (N := 16) rfl ?_); (with_reducible refine gate_callee (f := 54) rfl ?_); refine goesL_ (some 16) rfl rfl Try.func54 (by kernel_rfl) rfl #[.agg #[.int .i64 a0_10, .int .i64 a0_11, .int .i64 a0_12, .int .i64 a0_13, .int .i64 a0_14]] rfl (by (try simp only [List.map_toArray, List.map_cons, List.map_nil]); first | done | rfl) ?_; (with_reducible refine (spec_l5None.calls a0_10 a0_11 a0_12 a0_13 a0_14 true _ A6.out).mono ?_); rintro e w_ ⟨rfl, hb_⟩; refine ⟨_, rfl, ?_⟩; replace HL := mk_ (HL.out.call hb_); clear hb_) | ((with_reducible refine gate_dst (N := 28) rfl ?_); (with_reducible refine gate_callee (f := 54) rfl ?_); refine goesL_ (some 28) rfl rfl Try.func54 (by kernel_rfl) rfl #[.agg #[.int .i64 a0_15, .int .i64 a0_16, .int .i64 a0_17, .int .i64 a0_18, .int .i64 a0_19]] rfl (by (try simp only [List.map_toArray, List.map_cons, List.map_nil]); first | done | rfl) ?_; (with_reducible refine (spec_l5None.calls a0_15 a0_16 a0_17 a0_18 a0_19 false _ A8.out).mono ?_); rintro e w_ ⟨rfl, hb_⟩; refine ⟨_, rfl, ?_⟩; replace HL := mk_ (HL.out.call hb_); clear hb_) | ((with_reducible refine gate_dst (N := 34) rfl ?_); (with_reducible refine gate_callee (f := 53) rfl ?_); refine goesL_ (some 34) rfl rfl Try.func53 (by kernel_rfl) rfl #[.agg #[.int .i64 a0_0, .int .i64 a0_1, .int .i64 a0_2, .int .i64 a0_3, .int .i64 a0_4], .agg #[.int .i64 a0_15, .int .i64 a0_16, .int .i64 a0_17, .int .i64 a0_18, .int .i64 a0_19]] rfl (by (try simp only [List.map_toArray, List.map_cons, List.map_nil]); first | done | rfl) ?_; (with_reducible refine (spec_l5One.calls a0_0 a0_1 a0_2 a0_3 a0_4 a0_15 a0_16 a0_17 a0_18 a0_19 t116 _ A10.out).mono ?_); rintro e w_ ⟨rfl, hb_⟩; refine ⟨_, rfl, ?_⟩; replace HL := mk_ (HL.out.call hb_); clear hb_) | ((with_reducible refine gate_gd rfl ?_); first | ((with_reducible refine gd_on rfl ?_ ?_); rfl; dsimp only) | ((with_reducible refine gd_off rfl ?_ ?_); rfl)) | ((with_reducible refine gate_dst (N := 1) rfl ?_); refine loc_box rfl rfl (by first | (go_simp; done) | (go_simp; rfl)) HL.out ?_; intro gb1 w_ HL_; replace HL := mk_ HL_; clear HL_) | ((with_reducible refine gate_ld0 (t := 28) rfl ?_); refine loc_load (n := 5) rfl rfl (by kernel_rfl) rfl (by kernel_rfl) HL.out (by with_reducible repeat (first | exact Sel.done | apply Sel.take | apply Sel.skip | apply Get.here | apply Get.next)) ?_) | ((with_reducible refine gate_ld0 (t := 30) rfl ?_); refine loc_load (n := 21) rfl rfl (by kernel_rfl) rfl (by kernel_rfl) HL.out (by with_reducible repeat (first | exact Sel.done | apply Sel.take | apply Sel.skip | apply Get.here | apply Get.next)) ?_) | ((with_reducible refine gate_ld0 rfl ?_); refine loc_load1 rfl rfl (by kernel_rfl) rfl HL.out (by with_reducible repeat (first | exact Sel.done | apply Sel.take | apply Sel.skip | apply Get.here | apply Get.next)) ?_) | ((with_reducible refine gate_st0 rfl ?_); refine loc_store rfl rfl rfl (by first | (go_simp; done) | (go_simp; rfl)) (by kernel_rfl) (by kernel_rfl) HL.out (by with_reducible repeat (first | exact Spl.done | apply Spl.put | apply Spl.skip | apply Upd.here | apply Upd.next)) ?_; intro w_ HL_; replace HL := mk_ HL_; clear HL_))
    go_ret
    exact ⟨by first | rfl | (simp [errW_none, errW_some] <;> rfl) | (simp [*, errW_none, errW_some] <;> rfl), HL.out.bel⟩
  replace c7 := Bool.eq_false_iff.mpr c7
  subst c7
  rw [if_neg Bool.false_ne_true] at H
  try dsimp only at H
  replace H := Option.bind_eq_some_iff.mp H
  obtain ⟨t117, A110, H⟩ := H
  try dsimp only at H
  have A11 := mk_ A110
  clear A110
  by_cases c12 : t117 = true
  rotate_left
  · replace c12 := Bool.eq_false_iff.mpr c12
    subst c12
    rw [if_neg Bool.false_ne_true] at H
    try dsimp only at H
    obtain rfl := Option.some.inj H
    have HL := mk_ (Lok.start w)
    go_enter Try.func21, Try.ntmps21
    go_wp2_with (first | ((with_reducible refine gate_dst (N := 5) rfl ?_); (with_reducible refine gate_callee (f := 30) rfl ?_); refine goesL_ (some 5) rfl rfl Try.func30 (by kernel_rfl) rfl #[.agg #[.int .i64 a0_0, .int .i64 a0_1, .int .i64 a0_2, .int .i64 a0_3, .int .i64 a0_4]] rfl (by (try simp only [List.map_toArray, List.map_cons, List.map_nil]); first | done | rfl) ?_; (with_reducible refine (spec_CfgOk.calls a0_0 a0_1 a0_2 a0_3 a0_4 true _ A2.out).mono ?_); rintro e w_ ⟨rfl, hb_⟩; refine ⟨_, rfl, ?_⟩; replace HL := mk_ (HL.out.call hb_); clear hb_) | ((with_reducible refine gate_dst (N := 11) rfl ?_); (with_reducible refine gate_callee (f := 53) rfl ?_); refine goesL_ (some 11) rfl rfl Try.func53 (by kernel_rfl) rfl #[.agg #[.int .i64 a0_0, .int .i64 a0_1, .int .i64 a0_2, .int .i64 a0_3, .int .i64 a0_4], .agg #[.int .i64 a0_5, .int .i64 a0_6, .int .i64 a0_7, .int .i64 a0_8, .int .i64 a0_9]] rfl (by (try simp only [List.map_toArray, List.map_cons, List.map_nil]); first | done | rfl) ?_; (with_reducible refine (spec_l5One.calls a0_0 a0_1 a0_2 a0_3 a0_4 a0_5 a0_6 a0_7 a0_8 a0_9 true _ A4.out).mono ?_); rintro e w_ ⟨rfl, hb_⟩; refine ⟨_, rfl, ?_⟩; replace HL := mk_ (HL.out.call hb_); clear hb_) | ((with_reducible refine gate_dst (N := 16) rfl ?_); (with_reducible refine gate_callee (f := 54) rfl ?_); refine goesL_ (some 16) rfl rfl Try.func54 (by kernel_rfl) rfl #[.agg #[.int .i64 a0_10, .int .i64 a0_11, .int .i64 a0_12, .int .i64 a0_13, .int .i64 a0_14]] rfl (by (try simp only [List.map_toArray, List.map_cons, List.map_nil]); first | done | rfl) ?_; (with_reducible refine (spec_l5None.calls a0_10 a0_11 a0_12 a0_13 a0_14 false _ A6.out).mono ?_); rintro e w_ ⟨rfl, hb_⟩; refine ⟨_, rfl, ?_⟩; replace HL := mk_ (HL.out.call hb_); clear hb_) | ((with_reducible refine gate_dst (N := 22) rfl ?_); (with_reducible refine gate_callee (f := 53) rfl ?_); refine goesL_ (some 22) rfl rfl Try.func53 (by kernel_rfl) rfl #[.agg #[.int .i64 a0_0, .int .i64 a0_1, .int .i64 a0_2, .int .i64 a0_3, .int .i64 a0_4], .agg #[.int .i64 a0_10, .int .i64 a0_11, .int .i64 a0_12, .int .i64 a0_13, .int .i64 a0_14]] rfl (by (try simp only [List.map_toArray, List.map_cons, List.map_nil]); first | done | rfl) ?_; (with_reducible refine (spec_l5One.calls a0_0 a0_1 a0_2 a0_3 a0_4 a0_10 a0_11 a0_12 a0_13 a0_14 false _ A11.out).mono ?_); rintro e w_ ⟨rfl, hb_⟩; refine ⟨_, rfl, ?_⟩; replace HL := mk_ (HL.out.call hb_); clear hb_) | ((with_reducible refine gate_gd rfl ?_); first | ((with_reducible refine gd_on rfl ?_ ?_); rfl; dsimp only) | ((with_reducible refine gd_off rfl ?_ ?_); rfl)) | ((with_reducible refine gate_dst (N := 1) rfl ?_); refine loc_box rfl rfl (by first | (go_simp; done) | (go_simp; rfl)) HL.out ?_; intro gb1 w_ HL_; replace HL := mk_ HL_; clear HL_) | ((with_reducible refine gate_ld0 (t := 28) rfl ?_); refine loc_load (n := 5) rfl rfl (by kernel_rfl) rfl (by kernel_rfl) HL.out (by with_reducible repeat (first | exact Sel.done | apply Sel.take | apply Sel.skip | apply Get.here | apply Get.next)) ?_) | ((with_reducible refine gate_ld0 (t := 30) rfl ?_); refine loc_load (n := 21) rfl rfl (by kernel_rfl) rfl (by kernel_rfl) HL.out (by with_reducible repeat (first | exact Sel.done | apply Sel.take | apply Sel.skip | apply Get.here | apply Get.next)) ?_) | ((with_reducible refine gate_ld0 rfl ?_); refine loc_load1 rfl rfl (by kernel_rfl) rfl HL.out (by with_reducible repeat (first | exact Sel.done | apply Sel.take | apply Sel.skip | apply Get.here | apply Get.next)) ?_) | ((with_reducible refine gate_st0 rfl ?_); refine loc_store rfl rfl rfl (by first | (go_simp; done) | (go_simp; rfl)) (by kernel_rfl) (by kernel_rfl) HL.out (by with_reducible repeat (first | exact Spl.done | apply Spl.put | apply Spl.skip | apply Upd.here | apply Upd.next)) ?_; intro w_ HL_; replace HL := mk_ HL_; clear HL_))
    go_ret
    exact ⟨by first | rfl | (simp [errW_none, errW_some] <;> rfl) | (simp [*, errW_none, errW_some] <;> rfl), HL.out.bel⟩
  subst c12
  rw [if_pos rfl] at H
  try dsimp only at H
  replace H := Option.bind_eq_some_iff.mp H
  obtain ⟨t118, A130, H⟩ := H
  try dsimp only at H
  have A13 := mk_ A130
  clear A130
  by_cases c14 : t118 = true
  · subst c14
    rw [if_pos rfl] at H
    try dsimp only at H
    obtain rfl := Option.some.inj H
    have HL := mk_ (Lok.start w)
    go_enter Try.func21, Try.ntmps21
    go_wp2_with (first | ((with_reducible refine gate_dst (N := 5) rfl ?_); (with_reducible refine gate_callee (f := 30) rfl ?_); refine goesL_ (some 5) rfl rfl Try.func30 (by kernel_rfl) rfl #[.agg #[.int .i64 a0_0, .int .i64 a0_1, .int .i64 a0_2, .int .i64 a0_3, .int .i64 a0_4]] rfl (by (try simp only [List.map_toArray, List.map_cons, List.map_nil]); first | done | rfl) ?_; (with_reducible refine (spec_CfgOk.calls a0_0 a0_1 a0_2 a0_3 a0_4 true _ A2.out).mono ?_); rintro e w_ ⟨rfl, hb_⟩; refine ⟨_, rfl, ?_⟩; replace HL := mk_ (HL.out.call hb_); clear hb_) | ((with_reducible refine gate_dst (N := 11) rfl ?_); (with_reducible refine gate_callee (f := 53) rfl ?_); refine goesL_ (some 11) rfl rfl Try.func53 (by kernel_rfl) rfl #[.agg #[.int .i64 a0_0, .int .i64 a0_1, .int .i64 a0_2, .int .i64 a0_3, .int .i64 a0_4], .agg #[.int .i64 a0_5, .int .i64 a0_6, .int .i64 a0_7, .int .i64 a0_8, .int .i64 a0_9]] rfl (by (try simp only [List.map_toArray, List.map_cons, List.map_nil]); first | done | rfl) ?_; (with_reducible refine (spec_l5One.calls a0_0 a0_1 a0_2 a0_3 a0_4 a0_5 a0_6 a0_7 a0_8 a0_9 true _ A4.out).mono ?_); rintro e w_ ⟨rfl, hb_⟩; refine ⟨_, rfl, ?_⟩; replace HL := mk_ (HL.out.call hb_); clear hb_) | ((with_reducible refine gate_dst (N := 16) rfl ?_); (with_reducible refine gate_callee (f := 54) rfl ?_); refine goesL_ (some 16) rfl rfl Try.func54 (by kernel_rfl) rfl #[.agg #[.int .i64 a0_10, .int .i64 a0_11, .int .i64 a0_12, .int .i64 a0_13, .int .i64 a0_14]] rfl (by (try simp only [List.map_toArray, List.map_cons, List.map_nil]); first | done | rfl) ?_; (with_reducible refine (spec_l5None.calls a0_10 a0_11 a0_12 a0_13 a0_14 false _ A6.out).mono ?_); rintro e w_ ⟨rfl, hb_⟩; refine ⟨_, rfl, ?_⟩; replace HL := mk_ (HL.out.call hb_); clear hb_) | ((with_reducible refine gate_dst (N := 22) rfl ?_); (with_reducible refine gate_callee (f := 53) rfl ?_); refine goesL_ (some 22) rfl rfl Try.func53 (by kernel_rfl) rfl #[.agg #[.int .i64 a0_0, .int .i64 a0_1, .int .i64 a0_2, .int .i64 a0_3, .int .i64 a0_4], .agg #[.int .i64 a0_10, .int .i64 a0_11, .int .i64 a0_12, .int .i64 a0_13, .int .i64 a0_14]] rfl (by (try simp only [List.map_toArray, List.map_cons, List.map_nil]); first | done | rfl) ?_; (with_reducible refine (spec_l5One.calls a0_0 a0_1 a0_2 a0_3 a0_4 a0_10 a0_11 a0_12 a0_13 a0_14 true _ A11.out).mono ?_); rintro e w_ ⟨rfl, hb_⟩; refine ⟨_, rfl, ?_⟩; replace HL := mk_ (HL.out.call hb_); clear hb_) | ((with_reducible refine gate_dst (N := 28) rfl ?_); (with_reducible refine gate_callee (f := 54) rfl ?_); refine goesL_ (some 28) rfl rfl Try.func54 (by kernel_rfl) rfl #[.agg #[.int .i64 a0_15, .int .i64 a0_16, .int .i64 a0_17, .int .i64 a0_18, .int .i64 a0_19]] rfl (by (try simp only [List.map_toArray, List.map_cons, List.map_nil]); first | done | rfl) ?_; (with_reducible refine (spec_l5None.calls a0_15 a0_16 a0_17 a0_18 a0_19 true _ A13.out).mono ?_); rintro e w_ ⟨rfl, hb_⟩; refine ⟨_, rfl, ?_⟩; replace HL := mk_ (HL.out.call hb_); clear hb_) | ((with_reducible refine gate_gd rfl ?_); first | ((with_reducible refine gd_on rfl ?_ ?_); rfl; dsimp only) | ((with_reducible refine gd_off rfl ?_ ?_); rfl)) | ((with_reducible refine gate_dst (N := 1) rfl ?_); refine loc_box rfl rfl (by first | (go_simp; done) | (go_simp; rfl)) HL.out ?_; intro gb1 w_ HL_; replace HL := mk_ HL_; clear HL_) | ((with_reducible refine gate_ld0 (t := 28) rfl ?_); refine loc_load (n := 5) rfl rfl (by kernel_rfl) rfl (by kernel_rfl) HL.out (by with_reducible repeat (first | exact Sel.done | apply Sel.take | apply Sel.skip | apply Get.here | apply Get.next)) ?_) | ((with_reducible refine gate_ld0 (t := 30) rfl ?_); refine loc_load (n := 21) rfl rfl (by kernel_rfl) rfl (by kernel_rfl) HL.out (by with_reducible repeat (first | exact Sel.done | apply Sel.take | apply Sel.skip | apply Get.here | apply Get.next)) ?_) | ((with_reducible refine gate_ld0 rfl ?_); refine loc_load1 rfl rfl (by kernel_rfl) rfl HL.out (by with_reducible repeat (first | exact Sel.done | apply Sel.take | apply Sel.skip | apply Get.here | apply Get.next)) ?_) | ((with_reducible refine gate_st0 rfl ?_); refine loc_store rfl rfl rfl (by first | (go_simp; done) | (go_simp; rfl)) (by kernel_rfl) (by kernel_rfl) HL.out (by with_reducible repeat (first | exact Spl.done | apply Spl.put | apply Spl.skip | apply Upd.here | apply Upd.next)) ?_; intro w_ HL_; replace HL := mk_ HL_; clear HL_))
    go_ret
    exact ⟨by first | rfl | (simp [errW_none, errW_some] <;> rfl) | (simp [*, errW_none, errW_some] <;> rfl), HL.out.bel⟩
  replace c14 := Bool.eq_false_iff.mpr c14
  subst c14
  rw [if_neg Bool.false_ne_true] at H
  try dsimp only at H
  replace H := Option.bind_eq_some_iff.mp H
  obtain ⟨t119, A150, H⟩ := H
  try dsimp only at H
  have A15 := mk_ A150
  clear A150
  obtain rfl := Option.some.inj H
  have HL := mk_ (Lok.start w)
  go_enter Try.func21, Try.ntmps21
  go_wp2_with (first | ((with_reducible refine gate_dst (N := 5) rfl ?_); (with_reducible refine gate_callee (f := 30) rfl ?_); refine goesL_ (some 5) rfl rfl Try.func30 (by kernel_rfl) rfl #[.agg #[.int .i64 a0_0, .int .i64 a0_1, .int .i64 a0_2, .int .i64 a0_3, .int .i64 a0_4]] rfl (by (try simp only [List.map_toArray, List.map_cons, List.map_nil]); first | done | rfl) ?_; (with_reducible refine (spec_CfgOk.calls a0_0 a0_1 a0_2 a0_3 a0_4 true _ A2.out).mono ?_); rintro e w_ ⟨rfl, hb_⟩; refine ⟨_, rfl, ?_⟩; replace HL := mk_ (HL.out.call hb_); clear hb_) | ((with_reducible refine gate_dst (N := 11) rfl ?_); (with_reducible refine gate_callee (f := 53) rfl ?_); refine goesL_ (some 11) rfl rfl Try.func53 (by kernel_rfl) rfl #[.agg #[.int .i64 a0_0, .int .i64 a0_1, .int .i64 a0_2, .int .i64 a0_3, .int .i64 a0_4], .agg #[.int .i64 a0_5, .int .i64 a0_6, .int .i64 a0_7, .int .i64 a0_8, .int .i64 a0_9]] rfl (by (try simp only [List.map_toArray, List.map_cons, List.map_nil]); first | done | rfl) ?_; (with_reducible refine (spec_l5One.calls a0_0 a0_1 a0_2 a0_3 a0_4 a0_5 a0_6 a0_7 a0_8 a0_9 true _ A4.out).mono ?_); rintro e w_ ⟨rfl, hb_⟩; refine ⟨_, rfl, ?_⟩; replace HL := mk_ (HL.out.call hb_); clear hb_) | ((with_reducible refine gate_dst (N := 16) rfl ?_); (with_reducible refine gate_callee (f := 54) rfl ?_); refine goesL_ (some 16) rfl rfl Try.func54 (by kernel_rfl) rfl #[.agg #[.int .i64 a0_10, .int .i64 a0_11, .int .i64 a0_12, .int .i64 a0_13, .int .i64 a0_14]] rfl (by (try simp only [List.map_toArray, List.map_cons, List.map_nil]); first | done | rfl) ?_; (with_reducible refine (spec_l5None.calls a0_10 a0_11 a0_12 a0_13 a0_14 false _ A6.out).mono ?_); rintro e w_ ⟨rfl, hb_⟩; refine ⟨_, rfl, ?_⟩; replace HL := mk_ (HL.out.call hb_); clear hb_) | ((with_reducible refine gate_dst (N := 22) rfl ?_); (with_reducible refine gate_callee (f := 53) rfl ?_); refine goesL_ (some 22) rfl rfl Try.func53 (by kernel_rfl) rfl #[.agg #[.int .i64 a0_0, .int .i64 a0_1, .int .i64 a0_2, .int .i64 a0_3, .int .i64 a0_4], .agg #[.int .i64 a0_10, .int .i64 a0_11, .int .i64 a0_12, .int .i64 a0_13, .int .i64 a0_14]] rfl (by (try simp only [List.map_toArray, List.map_cons, List.map_nil]); first | done | rfl) ?_; (with_reducible refine (spec_l5One.calls a0_0 a0_1 a0_2 a0_3 a0_4 a0_10 a0_11 a0_12 a0_13 a0_14 true _ A11.out).mono ?_); rintro e w_ ⟨rfl, hb_⟩; refine ⟨_, rfl, ?_⟩; replace HL := mk_ (HL.out.call hb_); clear hb_) | ((with_reducible refine gate_dst (N := 28) rfl ?_); (with_reducible refine gate_callee (f := 54) rfl ?_); refine goesL_ (some 28) rfl rfl Try.func54 (by kernel_rfl) rfl #[.agg #[.int .i64 a0_15, .int .i64 a0_16, .int .i64 a0_17, .int .i64 a0_18, .int .i64 a0_19]] rfl (by (try simp only [List.map_toArray, List.map_cons, List.map_nil]); first | done | rfl) ?_; (with_reducible refine (spec_l5None.calls a0_15 a0_16 a0_17 a0_18 a0_19 false _ A13.out).mono ?_); rintro e w_ ⟨rfl, hb_⟩; refine ⟨_, rfl, ?_⟩; replace HL := mk_ (HL.out.call hb_); clear hb_) | ((with_reducible refine gate_dst (N := 34) rfl ?_); (with_reducible refine gate_callee (f := 53) rfl ?_); refine goesL_ (some 34) rfl rfl Try.func53 (by kernel_rfl) rfl #[.agg #[.int .i64 a0_0, .int .i64 a0_1, .int .i64 a0_2, .int .i64 a0_3, .int .i64 a0_4], .agg #[.int .i64 a0_15, .int .i64 a0_16, .int .i64 a0_17, .int .i64 a0_18, .int .i64 a0_19]] rfl (by (try simp only [List.map_toArray, List.map_cons, List.map_nil]); first | done | rfl) ?_; (with_reducible refine (spec_l5One.calls a0_0 a0_1 a0_2 a0_3 a0_4 a0_15 a0_16 a0_17 a0_18 a0_19 t119 _ A15.out).mono ?_); rintro e w_ ⟨rfl, hb_⟩; refine ⟨_, rfl, ?_⟩; replace HL := mk_ (HL.out.call hb_); clear hb_) | ((with_reducible refine gate_gd rfl ?_); first | ((with_reducible refine gd_on rfl ?_ ?_); rfl; dsimp only) | ((with_reducible refine gd_off rfl ?_ ?_); rfl)) | ((with_reducible refine gate_dst (N := 1) rfl ?_); refine loc_box rfl rfl (by first | (go_simp; done) | (go_simp; rfl)) HL.out ?_; intro gb1 w_ HL_; replace HL := mk_ HL_; clear HL_) | ((with_reducible refine gate_ld0 (t := 28) rfl ?_); refine loc_load (n := 5) rfl rfl (by kernel_rfl) rfl (by kernel_rfl) HL.out (by with_reducible repeat (first | exact Sel.done | apply Sel.take | apply Sel.skip | apply Get.here | apply Get.next)) ?_) | ((with_reducible refine gate_ld0 (t := 30) rfl ?_); refine loc_load (n := 21) rfl rfl (by kernel_rfl) rfl (by kernel_rfl) HL.out (by with_reducible repeat (first | exact Sel.done | apply Sel.take | apply Sel.skip | apply Get.here | apply Get.next)) ?_) | ((with_reducible refine gate_ld0 rfl ?_); refine loc_load1 rfl rfl (by kernel_rfl) rfl HL.out (by with_reducible repeat (first | exact Sel.done | apply Sel.take | apply Sel.skip | apply Get.here | apply Get.next)) ?_) | ((with_reducible refine gate_st0 rfl ?_); refine loc_store rfl rfl rfl (by first | (go_simp; done) | (go_simp; rfl)) (by kernel_rfl) (by kernel_rfl) HL.out (by with_reducible repeat (first | exact Spl.done | apply Spl.put | apply Spl.skip | apply Upd.here | apply Upd.next)) ?_; intro w_ HL_; replace HL := mk_ HL_; clear HL_))
  go_ret
  exact ⟨by first | rfl | (simp [errW_none, errW_some] <;> rfl) | (simp [*, errW_none, errW_some] <;> rfl), HL.out.bel⟩

/-! ### spec_l5Least: function 59 -/
def spec_l5Least.f (a0_0 : Int) (a0_1 : Int) (a0_2 : Int) (a0_3 : Int) (a0_4 : Int) (a1_0 : Int) (a1_1 : Int) (a1_2 : Int) (a1_3 : Int) (a1_4 : Int) : Option (Int × Int × Int × Int × Int) := some (a0_0, mn a0_1 a1_1, mn a0_2 a1_2, mn a0_3 a1_3, mn a0_4 a1_4)
set_option maxHeartbeats 60000000 in
set_option maxRecDepth 100000 in
theorem spec_l5Least.calls (a0_0 : Int) (a0_1 : Int) (a0_2 : Int) (a0_3 : Int) (a0_4 : Int) (a1_0 : Int) (a1_1 : Int) (a1_2 : Int) (a1_3 : Int) (a1_4 : Int) (r1 : Int) (r2 : Int) (r3 : Int) (r4 : Int) (r5 : Int) (w : World) (h : spec_l5Least.f a0_0 a0_1 a0_2 a0_3 a0_4 a1_0 a1_1 a1_2 a1_3 a1_4 = some (r1, r2, r3, r4, r5)) :
    Calls Try.prog 59 #[.agg #[.int .i64 a0_0, .int .i64 a0_1, .int .i64 a0_2, .int .i64 a0_3, .int .i64 a0_4], .agg #[.int .i64 a1_0, .int .i64 a1_1, .int .i64 a1_2, .int .i64 a1_3, .int .i64 a1_4]] w fun e w' => e = .returned (.agg #[.int .i64 r1, .int .i64 r2, .int .i64 r3, .int .i64 r4, .int .i64 r5]) ∧ Below w.heap.size w w' := by
 have hu28 := Try.underlying28
 have HB := mk_ (Below.refl w.heap.size w)
 have H : (some (a0_0, mn a0_1 a1_1, mn a0_2 a1_2, mn a0_3 a1_3, mn a0_4 a1_4)) = some (r1, r2, r3, r4, r5) := h
 clear h
 obtain ⟨ji3, hji3⟩ : ∃ j_ : Int, (mn a0_1 a1_1) = j_ := ⟨_, rfl⟩
 replace H : (some (a0_0, ji3, mn a0_2 a1_2, mn a0_3 a1_3, mn a0_4 a1_4)) = some (r1, r2, r3, r4, r5) := by first | (rw [hji3] at H; exact H) | (simp only [hji3] at H ⊢; exact H)
 have hji3_ : (if a1_1 < a0_1 then a1_1 else a0_1) = ji3 := hji3
 obtain ⟨ji4, hji4⟩ : ∃ j_ : Int, (mn a0_2 a1_2) = j_ := ⟨_, rfl⟩
 replace H : (some (a0_0, ji3, ji4, mn a0_3 a1_3, mn a0_4 a1_4)) = some (r1, r2, r3, r4, r5) := by first | (rw [hji4] at H; exact H) | (simp only [hji4] at H ⊢; exact H)
 have hji4_ : (if a1_2 < a0_2 then a1_2 else a0_2) = ji4 := hji4
 obtain ⟨ji5, hji5⟩ : ∃ j_ : Int, (mn a0_3 a1_3) = j_ := ⟨_, rfl⟩
 replace H : (some (a0_0, ji3, ji4, ji5, mn a0_4 a1_4)) = some (r1, r2, r3, r4, r5) := by first | (rw [hji5] at H; exact H) | (simp only [hji5] at H ⊢; exact H)
 have hji5_ : (if a1_3 < a0_3 then a1_3 else a0_3) = ji5 := hji5
 obtain ⟨ji6, hji6⟩ : ∃ j_ : Int, (mn a0_4 a1_4) = j_ := ⟨_, rfl⟩
 replace H : (some (a0_0, ji3, ji4, ji5, ji6)) = some (r1, r2, r3, r4, r5) := by first | (rw [hji6] at H; exact H) | (simp only [hji6] at H ⊢; exact H)
 have hji6_ : (if a1_4 < a0_4 then a1_4 else a0_4) = ji6 := hji6
 simp only [Option.some.injEq, Prod.mk.injEq] at H
 obtain ⟨rfl, rfl, rfl, rfl, rfl⟩ := H
 go_enter Try.func59, Try.ntmps59
 go_wp2_with (first | ((with_reducible refine gate_dst (N := 2) rfl ?_); refine box_event ?hg (N := 2) ?hd (cs := #[.int .i64 a0_0, .int .i64 a0_1, .int .i64 a0_2, .int .i64 a0_3, .int .i64 a0_4]) (t := 28) ?hr ?_; (case hd => rfl); (case hg => rfl); (case hr => first | (go_simp; done) | (go_simp; rfl)); intro gb120 hg w7 hbox hb; have BK120 := mk_ (hbox); have GW120 := mk_ ((by rw [hg]; exact (zr2 (by repeat (first | (with_reducible first | exact HB.out | apply zq7 | apply zq8 | apply zq9) | exact HB.out))) : w.heap.size ≤ gb120)); have GE120 := GW120; replace HB := mk_ (zr3 (by repeat (first | (with_reducible first | exact HB.out | apply zq7 | apply zq8 | apply zq9) | exact HB.out)) hb); clear hb hbox hg) | ((with_reducible refine gate_dst (N := 3) rfl ?_); refine box_event ?hg (N := 3) ?hd (cs := #[.int .i64 a1_0, .int .i64 a1_1, .int .i64 a1_2, .int .i64 a1_3, .int .i64 a1_4]) (t := 28) ?hr ?_; (case hd => rfl); (case hg => rfl); (case hr => first | (go_simp; done) | (go_simp; rfl)); intro gb121 hg w8 hbox hb; have BK121 := mk_ (hbox); have GW121 := mk_ ((by rw [hg]; exact (zr2 (by repeat (first | (with_reducible first | exact HB.out | apply zq7 | apply zq8 | apply zq9 | refine zr1 ?_ GE120.out) | exact HB.out))) : w.heap.size ≤ gb121)); have GE121 := GW121; replace HB := mk_ (zr3 (by repeat (first | (with_reducible first | exact HB.out | apply zq7 | apply zq8 | apply zq9 | refine zr1 ?_ GE120.out) | exact HB.out)) hb); have NB120_121 := mk_ ((by rw [hg]; exact zm2 (zr6 (by exact BK120.out)) : gb120 ≠ gb121)); replace BK120 := mk_ (zq6 (by exact BK120.out) hb); have NB121_120 := mk_ NB120_121.out.symm; clear hb hbox hg) | ((with_reducible refine gate_dst (N := 4) rfl ?_); refine box_event ?hg (N := 4) ?hd (cs := #[.int .i64 0, .int .i64 0, .int .i64 0, .int .i64 0, .int .i64 0]) (t := 28) ?hr ?_; (case hd => rfl); (case hg => rfl); (case hr => first | (go_simp; done) | (go_simp; rfl)); intro gb122 hg w9 hbox hb; have BK122 := mk_ (hbox); have GW122 := mk_ ((by rw [hg]; exact (zr2 (by repeat (first | (with_reducible first | exact HB.out | apply zq7 | apply zq8 | apply zq9 | refine zr1 ?_ GE120.out | refine zr1 ?_ GE121.out) | exact HB.out))) : w.heap.size ≤ gb122)); have GE122 := GW122; replace HB := mk_ (zr3 (by repeat (first | (with_reducible first | exact HB.out | apply zq7 | apply zq8 | apply zq9 | refine zr1 ?_ GE120.out | refine zr1 ?_ GE121.out) | exact HB.out)) hb); have NB120_122 := mk_ ((by rw [hg]; exact zm2 (zr6 (by exact BK120.out)) : gb120 ≠ gb122)); replace BK120 := mk_ (zq6 (by exact BK120.out) hb); have NB122_120 := mk_ NB120_122.out.symm; have NB121_122 := mk_ ((by rw [hg]; exact zm2 (zr6 (by exact BK121.out)) : gb121 ≠ gb122)); replace BK121 := mk_ (zq6 (by exact BK121.out) hb); have NB122_121 := mk_ NB121_122.out.symm; clear hb hbox hg; have hnb10 := NB120_121.out; have hnc10 := NB121_120.out; have hnb11 := NB120_122.out; have hnc11 := NB122_120.out; obtain ⟨hcz12_0, hcz12_1, hcz12_2, hcz12_3, hcz12_4⟩ := cz5 BK120.out; obtain ⟨hfz12_0, hfz12_1, hfz12_2, hfz12_3, hfz12_4⟩ := fz5 BK120.out; have hnb13 := NB121_122.out; have hnc13 := NB122_121.out; obtain ⟨hcz14_0, hcz14_1, hcz14_2, hcz14_3, hcz14_4⟩ := cz5 BK121.out; obtain ⟨hfz14_0, hfz14_1, hfz14_2, hfz14_3, hfz14_4⟩ := fz5 BK121.out; obtain ⟨hcz15_0, hcz15_1, hcz15_2, hcz15_3, hcz15_4⟩ := cz5 BK122.out; obtain ⟨hfz15_0, hfz15_1, hfz15_2, hfz15_3, hfz15_4⟩ := fz5 BK122.out))
 refine bodyPost_ret (results_cell_row rfl _ _ gb122 28 #[.int .i64 a0_0, .int .i64 ji3, .int .i64 ji4, .int .i64 ji5, .int .i64 ji6] (0, 0) _ rfl (by (with_reducible repeat (first | refine zq1 ?_ _ | refine zq2 ?_ | refine zq3 ?_ _)); apply pu5; (with_reducible repeat (first | refine zq1 ?_ _ | refine zq2 ?_ | refine zq3 ?_ _)); exact BK122.out) Try.underlying28 rfl (by kernel_rfl)) rfl ?_
 exact ⟨by first | rfl | (simp [errW_none, errW_some] <;> rfl) | (simp only [← hji3, ← hji4, ← hji5, ← hji6]; first | rfl | (simp [errW_none, errW_some] <;> rfl)) | (simp [*, errW_none, errW_some] <;> rfl), by repeat (first | (with_reducible first | exact HB.out | apply zq7 | apply zq8 | apply zq9 | refine zr1 ?_ GE120.out | refine zr1 ?_ GE121.out | refine zr1 ?_ GE122.out) | exact HB.out)⟩

/-! ### spec_l5Hear: function 45 -/
def spec_l5Hear.f (a0_0 : Int) (a0_1 : Int) (a0_2 : Int) (a0_3 : Int) (a0_4 : Int) (a0_5 : Int) (a0_6 : Int) (a0_7 : Int) (a0_8 : Int) (a0_9 : Int) (a0_10 : Int) (a0_11 : Int) (a0_12 : Int) (a0_13 : Int) (a0_14 : Int) (a0_15 : Int) (a0_16 : Int) (a0_17 : Int) (a0_18 : Int) (a0_19 : Int) (a0_20 : Bool) (a1_0 : Int) (a1_1 : Int) (a1_2 : Int) (a1_3 : Int) (a1_4 : Int) (a1_5 : Int) : Option (Int × Int × Int × Int × Int × Int × Int × Int × Int × Int × Int × Int × Int × Int × Int × Int × Int × Int × Int × Int × Bool × Int × Int × Int × Int × Int × Int × Bool) := if a1_1 = a0_0 then ((spec_l5Least.f a0_0 a0_1 a0_2 a0_3 a0_4 a1_1 a1_2 a1_3 a1_4 a1_5).bind fun bt127 => (if a1_0 = 1 then (if (!(bt127.1 == a1_1) || (!(bt127.2.1 == a1_2) || (!(bt127.2.2.1 == a1_3) || (!(bt127.2.2.2.1 == a1_4) || (!(bt127.2.2.2.2 == a1_5)))))) = true then (some (a0_0, a0_1, a0_2, a0_3, a0_4, a0_5, a0_6, a0_7, a0_8, a0_9, a0_10, a0_11, a0_12, a0_13, a0_14, a0_15, a0_16, a0_17, a0_18, a0_19, a0_20, 3, bt127.1, bt127.2.1, bt127.2.2.1, bt127.2.2.2.1, bt127.2.2.2.2, true)) else (some (a0_0, a0_1, a0_2, a0_3, a0_4, a0_5, a0_6, a0_7, a0_8, a0_9, a0_10, a0_11, a0_12, a0_13, a0_14, a1_1, a1_2, a1_3, a1_4, a1_5, a0_20, 2, a1_1, a1_2, a1_3, a1_4, a1_5, true))) else (if a1_0 = 2 then (if (a1_1 == a0_5 && (a1_2 == a0_6 && (a1_3 == a0_7 && (a1_4 == a0_8 && (a1_5 == a0_9))))) = true then (some (a0_0, a0_1, a0_2, a0_3, a0_4, a0_5, a0_6, a0_7, a0_8, a0_9, a1_1, a1_2, a1_3, a1_4, a1_5, a0_15, a0_16, a0_17, a0_18, a0_19, a0_20, 0, 0, 0, 0, 0, 0, false)) else (some (a0_0, a0_1, a0_2, a0_3, a0_4, a0_5, a0_6, a0_7, a0_8, a0_9, a0_10, a0_11, a0_12, a0_13, a0_14, a0_15, a0_16, a0_17, a0_18, a0_19, a0_20, 0, 0, 0, 0, 0, 0, false))) else ((spec_l5None.f a0_10 a0_11 a0_12 a0_13 a0_14).bind fun t133 => (if t133 = true then ((spec_l5Least.f a0_5 a0_6 a0_7 a0_8 a0_9 a1_1 a1_2 a1_3 a1_4 a1_5).bind fun bt134 => (some (a0_0, a0_1, a0_2, a0_3, a0_4, bt134.1, bt134.2.1, bt134.2.2.1, bt134.2.2.2.1, bt134.2.2.2.2, a0_10, a0_11, a0_12, a0_13, a0_14, a0_15, a0_16, a0_17, a0_18, a0_19, a0_20, 0, 0, 0, 0, 0, 0, false))) else (some (a0_0, a0_1, a0_2, a0_3, a0_4, a0_5, a0_6, a0_7, a0_8, a0_9, a0_10, a0_11, a0_12, a0_13, a0_14, a0_15, a0_16, a0_17, a0_18, a0_19, a0_20, 0, 0, 0, 0, 0, 0, false))))))) else (some (a0_0, a0_1, a0_2, a0_3, a0_4, a0_5, a0_6, a0_7, a0_8, a0_9, a0_10, a0_11, a0_12, a0_13, a0_14, a0_15, a0_16, a0_17, a0_18, a0_19, true, 0, 0, 0, 0, 0, 0, false))
theorem za28 : ((Try.prog.info? 28).bind (·.zero)).map (·.cells.toList) = some [.int .i64 0, .int .i64 0, .int .i64 0, .int .i64 0, .int .i64 0] := by kernel_rfl
theorem za30 : ((Try.prog.info? 30).bind (·.zero)).map (·.cells.toList) = some [.int .i64 0, .int .i64 0, .int .i64 0, .int .i64 0, .int .i64 0, .int .i64 0, .int .i64 0, .int .i64 0, .int .i64 0, .int .i64 0, .int .i64 0, .int .i64 0, .int .i64 0, .int .i64 0, .int .i64 0, .int .i64 0, .int .i64 0, .int .i64 0, .int .i64 0, .int .i64 0, .bool false] := by kernel_rfl
theorem za32 : ((Try.prog.info? 32).bind (·.zero)).map (·.cells.toList) = some [.int .i64 0, .int .i64 0, .int .i64 0, .int .i64 0, .int .i64 0, .int .i64 0] := by kernel_rfl
def spec_l5Hear.T10 : Bool × List (List Nat × List Nat) := (true, [([], []), ([], []), ([1], [1]), ([0, 0], [0]), ([2, 3, 0, 1, 2, 3], [2]), ([4, 0, 1, 2, 3, 4], [])])
theorem spec_l5Hear.tab10 : rtab .any (opsOf Try.f45 10) = spec_l5Hear.T10 := by kernel_rfl
def spec_l5Hear.T12 : Bool × List (List Nat × List Nat) := (true, [([], []), ([], []), ([1], [1]), ([2], [2]), ([0, 0], [0]), ([3, 4, 0, 1, 2, 3, 4], [3]), ([5, 0, 1, 2, 3, 4, 5], [])])
theorem spec_l5Hear.tab12 : rtab .any (opsOf Try.f45 12) = spec_l5Hear.T12 := by kernel_rfl
set_option maxHeartbeats 60000000 in
set_option maxRecDepth 100000 in
theorem spec_l5Hear.calls (a0_0 : Int) (a0_1 : Int) (a0_2 : Int) (a0_3 : Int) (a0_4 : Int) (a0_5 : Int) (a0_6 : Int) (a0_7 : Int) (a0_8 : Int) (a0_9 : Int) (a0_10 : Int) (a0_11 : Int) (a0_12 : Int) (a0_13 : Int) (a0_14 : Int) (a0_15 : Int) (a0_16 : Int) (a0_17 : Int) (a0_18 : Int) (a0_19 : Int) (a0_20 : Bool) (a1_0 : Int) (a1_1 : Int) (a1_2 : Int) (a1_3 : Int) (a1_4 : Int) (a1_5 : Int) (r1 : Int) (r2 : Int) (r3 : Int) (r4 : Int) (r5 : Int) (r6 : Int) (r7 : Int) (r8 : Int) (r9 : Int) (r10 : Int) (r11 : Int) (r12 : Int) (r13 : Int) (r14 : Int) (r15 : Int) (r16 : Int) (r17 : Int) (r18 : Int) (r19 : Int) (r20 : Int) (r21 : Bool) (r22 : Int) (r23 : Int) (r24 : Int) (r25 : Int) (r26 : Int) (r27 : Int) (r28 : Bool) (w : World) (h : spec_l5Hear.f a0_0 a0_1 a0_2 a0_3 a0_4 a0_5 a0_6 a0_7 a0_8 a0_9 a0_10 a0_11 a0_12 a0_13 a0_14 a0_15 a0_16 a0_17 a0_18 a0_19 a0_20 a1_0 a1_1 a1_2 a1_3 a1_4 a1_5 = some (r1, r2, r3, r4, r5, r6, r7, r8, r9, r10, r11, r12, r13, r14, r15, r16, r17, r18, r19, r20, r21, r22, r23, r24, r25, r26, r27, r28)) :
    Calls Try.prog 45 #[.agg #[.int .i64 a0_0, .int .i64 a0_1, .int .i64 a0_2, .int .i64 a0_3, .int .i64 a0_4, .int .i64 a0_5, .int .i64 a0_6, .int .i64 a0_7, .int .i64 a0_8, .int .i64 a0_9, .int .i64 a0_10, .int .i64 a0_11, .int .i64 a0_12, .int .i64 a0_13, .int .i64 a0_14, .int .i64 a0_15, .int .i64 a0_16, .int .i64 a0_17, .int .i64 a0_18, .int .i64 a0_19, .bool a0_20], .agg #[.int .i64 a1_0, .int .i64 a1_1, .int .i64 a1_2, .int .i64 a1_3, .int .i64 a1_4, .int .i64 a1_5]] w fun e w' => e = .returned (.tuple #[.agg #[.int .i64 r1, .int .i64 r2, .int .i64 r3, .int .i64 r4, .int .i64 r5, .int .i64 r6, .int .i64 r7, .int .i64 r8, .int .i64 r9, .int .i64 r10, .int .i64 r11, .int .i64 r12, .int .i64 r13, .int .i64 r14, .int .i64 r15, .int .i64 r16, .int .i64 r17, .int .i64 r18, .int .i64 r19, .int .i64 r20, .bool r21], .agg #[.int .i64 r22, .int .i64 r23, .int .i64 r24, .int .i64 r25, .int .i64 r26, .int .i64 r27], .bool r28]) ∧ Below w.heap.size w w' := by
  have H : (if a1_1 = a0_0 then ((spec_l5Least.f a0_0 a0_1 a0_2 a0_3 a0_4 a1_1 a1_2 a1_3 a1_4 a1_5).bind fun bt127 => (if a1_0 = 1 then (if (!(bt127.1 == a1_1) || (!(bt127.2.1 == a1_2) || (!(bt127.2.2.1 == a1_3) || (!(bt127.2.2.2.1 == a1_4) || (!(bt127.2.2.2.2 == a1_5)))))) = true then (some (a0_0, a0_1, a0_2, a0_3, a0_4, a0_5, a0_6, a0_7, a0_8, a0_9, a0_10, a0_11, a0_12, a0_13, a0_14, a0_15, a0_16, a0_17, a0_18, a0_19, a0_20, 3, bt127.1, bt127.2.1, bt127.2.2.1, bt127.2.2.2.1, bt127.2.2.2.2, true)) else (some (a0_0, a0_1, a0_2, a0_3, a0_4, a0_5, a0_6, a0_7, a0_8, a0_9, a0_10, a0_11, a0_12, a0_13, a0_14, a1_1, a1_2, a1_3, a1_4, a1_5, a0_20, 2, a1_1, a1_2, a1_3, a1_4, a1_5, true))) else (if a1_0 = 2 then (if (a1_1 == a0_5 && (a1_2 == a0_6 && (a1_3 == a0_7 && (a1_4 == a0_8 && (a1_5 == a0_9))))) = true then (some (a0_0, a0_1, a0_2, a0_3, a0_4, a0_5, a0_6, a0_7, a0_8, a0_9, a1_1, a1_2, a1_3, a1_4, a1_5, a0_15, a0_16, a0_17, a0_18, a0_19, a0_20, 0, 0, 0, 0, 0, 0, false)) else (some (a0_0, a0_1, a0_2, a0_3, a0_4, a0_5, a0_6, a0_7, a0_8, a0_9, a0_10, a0_11, a0_12, a0_13, a0_14, a0_15, a0_16, a0_17, a0_18, a0_19, a0_20, 0, 0, 0, 0, 0, 0, false))) else ((spec_l5None.f a0_10 a0_11 a0_12 a0_13 a0_14).bind fun t133 => (if t133 = true then ((spec_l5Least.f a0_5 a0_6 a0_7 a0_8 a0_9 a1_1 a1_2 a1_3 a1_4 a1_5).bind fun bt134 => (some (a0_0, a0_1, a0_2, a0_3, a0_4, bt134.1, bt134.2.1, bt134.2.2.1, bt134.2.2.2.1, bt134.2.2.2.2, a0_10, a0_11, a0_12, a0_13, a0_14, a0_15, a0_16, a0_17, a0_18, a0_19, a0_20, 0, 0, 0, 0, 0, 0, false))) else (some (a0_0, a0_1, a0_2, a0_3, a0_4, a0_5, a0_6, a0_7, a0_8, a0_9, a0_10, a0_11, a0_12, a0_13, a0_14, a0_15, a0_16, a0_17, a0_18, a0_19, a0_20, 0, 0, 0, 0, 0, 0, false))))))) else (some (a0_0, a0_1, a0_2, a0_3, a0_4, a0_5, a0_6, a0_7, a0_8, a0_9, a0_10, a0_11, a0_12, a0_13, a0_14, a0_15, a0_16, a0_17, a0_18, a0_19, true, 0, 0, 0, 0, 0, 0, false))) = some (r1, r2, r3, r4, r5, r6, r7, r8, r9, r10, r11, r12, r13, r14, r15, r16, r17, r18, r19, r20, r21, r22, r23, r24, r25, r26, r27, r28) := h
  clear h
  by_cases c3 : a1_1 = a0_0
  rotate_left
  · rw [if_neg c3] at H
    have c3b0 : (a1_1 == a0_0) = false := beq_eq_false_iff_ne.mpr c3
    have c3b1 : (a1_1 != a0_0) = true := bne_iff_ne.mpr c3
    try dsimp only at H
    simp only [Option.some.injEq, Prod.mk.injEq] at H
    obtain ⟨rfl, rfl, rfl, rfl, rfl, rfl, rfl, rfl, rfl, rfl, rfl, rfl, rfl, rfl, rfl, rfl, rfl, rfl, rfl, rfl, rfl, rfl, rfl, rfl, rfl, rfl, rfl, rfl⟩ := H
    have HL := mk_ (Lok.start w)
    go_enter Try.func45, Try.ntmps45
    go_wp2_with (first | ((with_reducible refine gate_dst (N := 2) rfl ?_); refine loc_box rfl rfl (by first | (go_simp; done) | (go_simp; rfl)) HL.out ?_; intro gb2 w_ HL_; replace HL := mk_ HL_; clear HL_) | ((with_reducible refine gate_dst (N := 3) rfl ?_); refine loc_box rfl rfl (by first | (go_simp; done) | (go_simp; rfl)) HL.out ?_; intro gb3 w_ HL_; replace HL := mk_ HL_; clear HL_) | ((with_reducible refine gate_dst (N := 4) rfl ?_); refine loc_alloc rfl rfl za30 HL.out ?_; intro gb4 w_ HL_; replace HL := mk_ HL_; clear HL_) | ((with_reducible refine gate_dst (N := 5) rfl ?_); refine loc_alloc rfl rfl za32 HL.out ?_; intro gb5 w_ HL_; replace HL := mk_ HL_; clear HL_) | ((with_reducible refine gate_ld0 (t := 28) rfl ?_); refine loc_load (n := 5) rfl rfl (by kernel_rfl) rfl (by kernel_rfl) HL.out (by with_reducible repeat (first | exact Sel.done | apply Sel.take | apply Sel.skip | apply Get.here | apply Get.next)) ?_) | ((with_reducible refine gate_ld0 (t := 30) rfl ?_); refine loc_load (n := 21) rfl rfl (by kernel_rfl) rfl (by kernel_rfl) HL.out (by with_reducible repeat (first | exact Sel.done | apply Sel.take | apply Sel.skip | apply Get.here | apply Get.next)) ?_) | ((with_reducible refine gate_ld0 (t := 32) rfl ?_); refine loc_load (n := 6) rfl rfl (by kernel_rfl) rfl (by kernel_rfl) HL.out (by with_reducible repeat (first | exact Sel.done | apply Sel.take | apply Sel.skip | apply Get.here | apply Get.next)) ?_) | ((with_reducible refine gate_ld0 rfl ?_); refine loc_load1 rfl rfl (by kernel_rfl) rfl HL.out (by with_reducible repeat (first | exact Sel.done | apply Sel.take | apply Sel.skip | apply Get.here | apply Get.next)) ?_) | ((with_reducible refine gate_st0 rfl ?_); refine loc_store rfl rfl rfl (by first | (go_simp; done) | (go_simp; rfl)) (by kernel_rfl) (by kernel_rfl) HL.out (by with_reducible repeat (first | exact Spl.done | apply Spl.put | apply Spl.skip | apply Upd.here | apply Upd.next)) ?_; intro w_ HL_; replace HL := mk_ HL_; clear HL_))
    refine bodyPost_ret (results_list (rs := [.cell 4 30, .cell 5 32, .tmp 6]) rfl (by simp) (.cell _ 30 _ (0, 0) _ rfl (HL.out.blk (by with_reducible repeat (first | exact Has.here | apply Has.next))) Try.underlying30 rfl (by kernel_rfl) (.cell _ 32 _ (0, 0) _ rfl (HL.out.blk (by with_reducible repeat (first | exact Has.here | apply Has.next))) Try.underlying32 rfl (by kernel_rfl) (.tmp .nil)))) rfl ?_
    exact ⟨by first | rfl | (simp [errW_none, errW_some] <;> rfl) | (simp [*, errW_none, errW_some] <;> rfl), HL.out.bel⟩
  rw [if_pos c3] at H
  have c3b0 : (a1_1 == a0_0) = true := beq_iff_eq.mpr c3
  have c3b1 : (a1_1 != a0_0) = false := bne_eq_false_iff_eq.mpr c3
  try dsimp only at H
  clear c3
  replace H := Option.bind_eq_some_iff.mp H
  obtain ⟨⟨t127, t128, t129, t130, t131⟩, A40, H⟩ := H
  try dsimp only at H
  have A4 := mk_ A40
  clear A40
  by_cases c5 : a1_0 = 1
  rotate_left
  · rw [if_neg c5] at H
    have c5b0 : (a1_0 == 1) = false := beq_eq_false_iff_ne.mpr c5
    have c5b1 : (a1_0 != 1) = true := bne_iff_ne.mpr c5
    try dsimp only at H
    by_cases c7 : a1_0 = 2
    · rw [if_pos c7] at H
      have c7b0 : (a1_0 == 2) = true := beq_iff_eq.mpr c7
      have c7b1 : (a1_0 != 2) = false := bne_eq_false_iff_eq.mpr c7
      try dsimp only at H
      clear c7
      by_cases c8 : (a1_1 == a0_5 && (a1_2 == a0_6 && (a1_3 == a0_7 && (a1_4 == a0_8 && (a1_5 == a0_9))))) = true
      · rw [if_pos c8] at H
        have c8b0 : (a1_1 == a0_5 && (a1_2 == a0_6 && (a1_3 == a0_7 && (a1_4 == a0_8 && (a1_5 == a0_9))))) = true := c8
        (try (have c8b1 : decide (a1_1 = a0_5 && (a1_2 == a0_6 && (a1_3 == a0_7 && (a1_4 == a0_8 && (a1_5 == a0_9))))) = true := by simpa using c8))
        (try (have c8b2 : (a1_1 == a0_5 && (a1_2 == a0_6 && (a1_3 == a0_7 && (a1_4 == a0_8 && (a1_5 == a0_9))))) = true := by simpa using c8))
        try dsimp only at H
        clear c8
        simp only [Option.some.injEq, Prod.mk.injEq] at H
        obtain ⟨rfl, rfl, rfl, rfl, rfl, rfl, rfl, rfl, rfl, rfl, rfl, rfl, rfl, rfl, rfl, rfl, rfl, rfl, rfl, rfl, rfl, rfl, rfl, rfl, rfl, rfl, rfl, rfl⟩ := H
        have HL := mk_ (Lok.start w)
        go_enter Try.func45, Try.ntmps45
        go_wp2_with (first | ((with_reducible refine gate_dst (N := 22) rfl ?_); (with_reducible refine gate_callee (f := 59) rfl ?_); refine goesL_ (some 22) rfl rfl Try.func59 (by kernel_rfl) rfl #[.agg #[.int .i64 a0_0, .int .i64 a0_1, .int .i64 a0_2, .int .i64 a0_3, .int .i64 a0_4], .agg #[.int .i64 a1_1, .int .i64 a1_2, .int .i64 a1_3, .int .i64 a1_4, .int .i64 a1_5]] rfl (by (try simp only [List.map_toArray, List.map_cons, List.map_nil]); first | done | rfl) ?_; (with_reducible refine (spec_l5Least.calls a0_0 a0_1 a0_2 a0_3 a0_4 a1_1 a1_2 a1_3 a1_4 a1_5 t127 t128 t129 t130 t131 _ A4.out).mono ?_); rintro e w_ ⟨rfl, hb_⟩; refine ⟨_, rfl, ?_⟩; replace HL := mk_ (HL.out.call hb_); clear hb_) | ((with_reducible refine gate_dst (N := 2) rfl ?_); refine loc_box rfl rfl (by first | (go_simp; done) | (go_simp; rfl)) HL.out ?_; intro gb2 w_ HL_; replace HL := mk_ HL_; clear HL_) | ((with_reducible refine gate_dst (N := 3) rfl ?_); refine loc_box rfl rfl (by first | (go_simp; done) | (go_simp; rfl)) HL.out ?_; intro gb3 w_ HL_; replace HL := mk_ HL_; clear HL_) | ((with_reducible refine gate_dst (N := 4) rfl ?_); refine loc_alloc rfl rfl za30 HL.out ?_; intro gb4 w_ HL_; replace HL := mk_ HL_; clear HL_) | ((with_reducible refine gate_dst (N := 5) rfl ?_); refine loc_alloc rfl rfl za32 HL.out ?_; intro gb5 w_ HL_; replace HL := mk_ HL_; clear HL_) | ((with_reducible refine gate_dst (N := 7) rfl ?_); refine loc_alloc rfl rfl za28 HL.out ?_; intro gb7 w_ HL_; replace HL := mk_ HL_; clear HL_) | ((with_reducible refine gate_ld0 (t := 28) rfl ?_); refine loc_load (n := 5) rfl rfl (by kernel_rfl) rfl (by kernel_rfl) HL.out (by with_reducible repeat (first | exact Sel.done | apply Sel.take | apply Sel.skip | apply Get.here | apply Get.next)) ?_) | ((with_reducible refine gate_ld0 (t := 30) rfl ?_); refine loc_load (n := 21) rfl rfl (by kernel_rfl) rfl (by kernel_rfl) HL.out (by with_reducible repeat (first | exact Sel.done | apply Sel.take | apply Sel.skip | apply Get.here | apply Get.next)) ?_) | ((with_reducible refine gate_ld0 (t := 32) rfl ?_); refine loc_load (n := 6) rfl rfl (by kernel_rfl) rfl (by kernel_rfl) HL.out (by with_reducible repeat (first | exact Sel.done | apply Sel.take | apply Sel.skip | apply Get.here | apply Get.next)) ?_) | ((with_reducible refine gate_ld0 rfl ?_); refine loc_load1 rfl rfl (by kernel_rfl) rfl HL.out (by with_reducible repeat (first | exact Sel.done | apply Sel.take | apply Sel.skip | apply Get.here | apply Get.next)) ?_) | ((with_reducible refine gate_st0 rfl ?_); refine loc_store rfl rfl rfl (by first | (go_simp; done) | (go_simp; rfl)) (by kernel_rfl) (by kernel_rfl) HL.out (by with_reducible repeat (first | exact Spl.done | apply Spl.put | apply Spl.skip | apply Upd.here | apply Upd.next)) ?_; intro w_ HL_; replace HL := mk_ HL_; clear HL_))
        refine bodyPost_ret (results_list (rs := [.cell 4 30, .cell 5 32, .tmp 6]) rfl (by simp) (.cell _ 30 _ (0, 0) _ rfl (HL.out.blk (by with_reducible repeat (first | exact Has.here | apply Has.next))) Try.underlying30 rfl (by kernel_rfl) (.cell _ 32 _ (0, 0) _ rfl (HL.out.blk (by with_reducible repeat (first | exact Has.here | apply Has.next))) Try.underlying32 rfl (by kernel_rfl) (.tmp .nil)))) rfl ?_
        exact ⟨by first | rfl | (simp [errW_none, errW_some] <;> rfl) | (simp [*, errW_none, errW_some] <;> rfl), HL.out.bel⟩
      rw [if_neg c8] at H
      have c8b0 : (a1_1 == a0_5 && (a1_2 == a0_6 && (a1_3 == a0_7 && (a1_4 == a0_8 && (a1_5 == a0_9))))) = false := by simpa using c8
      (try (have c8b1 : decide (a1_1 = a0_5 && (a1_2 == a0_6 && (a1_3 == a0_7 && (a1_4 == a0_8 && (a1_5 == a0_9))))) = false := by simpa using c8))
      (try (have c8b2 : (a1_1 == a0_5 && (a1_2 == a0_6 && (a1_3 == a0_7 && (a1_4 == a0_8 && (a1_5 == a0_9))))) = false := by simpa using c8))
      (try (have c8b3 : ¬ (a1_1 = a0_5 && (a1_2 == a0_6 && (a1_3 == a0_7 && (a1_4 == a0_8 && (a1_5 == a0_9))))) := by simpa using c8))
      try dsimp only at H
      clear c8
      simp only [Option.some.injEq, Prod.mk.injEq] at H
      obtain ⟨rfl, rfl, rfl, rfl, rfl, rfl, rfl, rfl, rfl, rfl, rfl, rfl, rfl, rfl, rfl, rfl, rfl, rfl, rfl, rfl, rfl, rfl, rfl, rfl, rfl, rfl, rfl, rfl⟩ := H
      have HL := mk_ (Lok.start w)
      go_enter Try.func45, Try.ntmps45
      go_wp2_with (first | ((with_reducible refine gate_dst (N := 22) rfl ?_); (with_reducible refine gate_callee (f := 59) rfl ?_); refine goesL_ (some 22) rfl rfl Try.func59 (by kernel_rfl) rfl #[.agg #[.int .i64 a0_0, .int .i64 a0_1, .int .i64 a0_2, .int .i64 a0_3, .int .i64 a0_4], .agg #[.int .i64 a1_1, .int .i64 a1_2, .int .i64 a1_3, .int .i64 a1_4, .int .i64 a1_5]] rfl (by (try simp only [List.map_toArray, List.map_cons, List.map_nil]); first | done | rfl) ?_; (with_reducible refine (spec_l5Least.calls a0_0 a0_1 a0_2 a0_3 a0_4 a1_1 a1_2 a1_3 a1_4 a1_5 t127 t128 t129 t130 t131 _ A4.out).mono ?_); rintro e w_ ⟨rfl, hb_⟩; refine ⟨_, rfl, ?_⟩; replace HL := mk_ (HL.out.call hb_); clear hb_) | ((with_reducible refine gate_dst (N := 2) rfl ?_); refine loc_box rfl rfl (by first | (go_simp; done) | (go_simp; rfl)) HL.out ?_; intro gb2 w_ HL_; replace HL := mk_ HL_; clear HL_) | ((with_reducible refine gate_dst (N := 3) rfl ?_); refine loc_box rfl rfl (by first | (go_simp; done) | (go_simp; rfl)) HL.out ?_; intro gb3 w_ HL_; replace HL := mk_ HL_; clear HL_) | ((with_reducible refine gate_dst (N := 4) rfl ?_); refine loc_alloc rfl rfl za30 HL.out ?_; intro gb4 w_ HL_; replace HL := mk_ HL_; clear HL_) | ((with_reducible refine gate_dst (N := 5) rfl ?_); refine loc_alloc rfl rfl za32 HL.out ?_; intro gb5 w_ HL_; replace HL := mk_ HL_; clear HL_) | ((with_reducible refine gate_dst (N := 7) rfl ?_); refine loc_alloc rfl rfl za28 HL.out ?_; intro gb7 w_ HL_; replace HL := mk_ HL_; clear HL_) | ((with_reducible refine gate_ld0 (t := 28) rfl ?_); refine loc_load (n := 5) rfl rfl (by kernel_rfl) rfl (by kernel_rfl) HL.out (by with_reducible repeat (first | exact Sel.done | apply Sel.take | apply Sel.skip | apply Get.here | apply Get.next)) ?_) | ((with_reducible refine gate_ld0 (t := 30) rfl ?_); refine loc_load (n := 21) rfl rfl (by kernel_rfl) rfl (by kernel_rfl) HL.out (by with_reducible repeat (first | exact Sel.done | apply Sel.take | apply Sel.skip | apply Get.here | apply Get.next)) ?_) | ((with_reducible refine gate_ld0 (t := 32) rfl ?_); refine loc_load (n := 6) rfl rfl (by kernel_rfl) rfl (by kernel_rfl) HL.out (by with_reducible repeat (first | exact Sel.done | apply Sel.take | apply Sel.skip | apply Get.here | apply Get.next)) ?_) | ((with_reducible refine gate_ld0 rfl ?_); refine loc_load1 rfl rfl (by kernel_rfl) rfl HL.out (by with_reducible repeat (first | exact Sel.done | apply Sel.take | apply Sel.skip | apply Get.here | apply Get.next)) ?_) | ((with_reducible refine gate_st0 rfl ?_); refine loc_store rfl rfl rfl (by first | (go_simp; done) | (go_simp; rfl)) (by kernel_rfl) (by kernel_rfl) HL.out (by with_reducible repeat (first | exact Spl.done | apply Spl.put | apply Spl.skip | apply Upd.here | apply Upd.next)) ?_; intro w_ HL_; replace HL := mk_ HL_; clear HL_))
      refine bodyPost_ret (results_list (rs := [.cell 4 30, .cell 5 32, .tmp 6]) rfl (by simp) (.cell _ 30 _ (0, 0) _ rfl (HL.out.blk (by with_reducible repeat (first | exact Has.here | apply Has.next))) Try.underlying30 rfl (by kernel_rfl) (.cell _ 32 _ (0, 0) _ rfl (HL.out.blk (by with_reducible repeat (first | exact Has.here | apply Has.next))) Try.underlying32 rfl (by kernel_rfl) (.tmp .nil)))) rfl ?_
      exact ⟨by first | rfl | (simp [errW_none, errW_some] <;> rfl) | (simp [*, errW_none, errW_some] <;> rfl), HL.out.bel⟩
    rw [if_neg c7] at H
    have c7b0 : (a1_0 == 2) = false := beq_eq_false_iff_ne.mpr c7
    have c7b1 : (a1_0 != 2) = true := bne_iff_ne.mpr c7
    try dsimp only at H
    replace H := Option.bind_eq_some_iff.mp H
    obtain ⟨t133, A90, H⟩ := H
    try dsimp only at H
    have A9 := mk_ A90
    clear A90
    by_cases c10 : t133 = true
    rotate_left
    · replace c10 := Bool.eq_false_iff.mpr c10
      subst c10
      rw [if_neg Bool.false_ne_true] at H
      try dsimp only at H
      simp only [Option.some.injEq, Prod.mk.injEq] at H
      obtain ⟨rfl, rfl, rfl, rfl, rfl, rfl, rfl, rfl, rfl, rfl, rfl, rfl, rfl, rfl, rfl, rfl, rfl, rfl, rfl, rfl, rfl, rfl, rfl, rfl, rfl, rfl, rfl, rfl⟩ := H
      have HL := mk_ (Lok.start w)
      go_enter Try.func45, Try.ntmps45
      go_wp2_with (first | ((with_reducible refine gate_dst (N := 22) rfl ?_); (with_reducible refine gate_callee (f := 59) rfl ?_); refine goesL_ (some 22) rfl rfl Try.func59 (by kernel_rfl) rfl #[.agg #[.int .i64 a0_0, .int .i64 a0_1, .int .i64 a0_2, .int .i64 a0_3, .int .i64 a0_4], .agg #[.int .i64 a1_1, .int .i64 a1_2, .int .i64 a1_3, .int .i64 a1_4, .int .i64 a1_5]] rfl (by (try simp only [List.map_toArray, List.map_cons, List.map_nil]); first | done | rfl) ?_; (with_reducible refine (spec_l5Least.calls a0_0 a0_1 a0_2 a0_3 a0_4 a1_1 a1_2 a1_3 a1_4 a1_5 t127 t128 t129 t130 t131 _ A4.out).mono ?_); rintro e w_ ⟨rfl, hb_⟩; refine ⟨_, rfl, ?_⟩; replace HL := mk_ (HL.out.call hb_); clear hb_) | ((with_reducible refine gate_dst (N := 27) rfl ?_); (with_reducible refine gate_callee (f := 54) rfl ?_); refine goesL_ (some 27) rfl rfl Try.func54 (by kernel_rfl) rfl #[.agg #[.int .i64 a0_10, .int .i64 a0_11, .int .i64 a0_12, .int .i64 a0_13, .int .i64 a0_14]] rfl (by (try simp only [List.map_toArray, List.map_cons, List.map_nil]); first | done | rfl) ?_; (with_reducible refine (spec_l5None.calls a0_10 a0_11 a0_12 a0_13 a0_14 false _ A9.out).mono ?_); rintro e w_ ⟨rfl, hb_⟩; refine ⟨_, rfl, ?_⟩; replace HL := mk_ (HL.out.call hb_); clear hb_) | ((with_reducible refine gate_dst (N := 2) rfl ?_); refine loc_box rfl rfl (by first | (go_simp; done) | (go_simp; rfl)) HL.out ?_; intro gb2 w_ HL_; replace HL := mk_ HL_; clear HL_) | ((with_reducible refine gate_dst (N := 3) rfl ?_); refine loc_box rfl rfl (by first | (go_simp; done) | (go_simp; rfl)) HL.out ?_; intro gb3 w_ HL_; replace HL := mk_ HL_; clear HL_) | ((with_reducible refine gate_dst (N := 4) rfl ?_); refine loc_alloc rfl rfl za30 HL.out ?_; intro gb4 w_ HL_; replace HL := mk_ HL_; clear HL_) | ((with_reducible refine gate_dst (N := 5) rfl ?_); refine loc_alloc rfl rfl za32 HL.out ?_; intro gb5 w_ HL_; replace HL := mk_ HL_; clear HL_) | ((with_reducible refine gate_dst (N := 7) rfl ?_); refine loc_alloc rfl rfl za28 HL.out ?_; intro gb7 w_ HL_; replace HL := mk_ HL_; clear HL_) | ((with_reducible refine gate_ld0 (t := 28) rfl ?_); refine loc_load (n := 5) rfl rfl (by kernel_rfl) rfl (by kernel_rfl) HL.out (by with_reducible repeat (first | exact Sel.done | apply Sel.take | apply Sel.skip | apply Get.here | apply Get.next)) ?_) | ((with_reducible refine gate_ld0 (t := 30) rfl ?_); refine loc_load (n := 21) rfl rfl (by kernel_rfl) rfl (by kernel_rfl) HL.out (by with_reducible repeat (first | exact Sel.done | apply Sel.take | apply Sel.skip | apply Get.here | apply Get.next)) ?_) | ((with_reducible refine gate_ld0 (t := 32) rfl ?_); refine loc_load (n := 6) rfl rfl (by kernel_rfl) rfl (by kernel_rfl) HL.out (by with_reducible repeat (first | exact Sel.done | apply Sel.take | apply Sel.skip | apply Get.here | apply Get.next)) ?_) | ((with_reducible refine gate_ld0 rfl ?_); refine loc_load1 rfl rfl (by kernel_rfl) rfl HL.out (by with_reducible repeat (first | exact Sel.done | apply Sel.take | apply Sel.skip | apply Get.here | apply Get.next)) ?_) | ((with_reducible refine gate_st0 rfl ?_); refine loc_store rfl rfl rfl (by first | (go_simp; done) | (go_simp; rfl)) (by kernel_rfl) (by kernel_rfl) HL.out (by with_reducible repeat (first | exact Spl.done | apply Spl.put | apply Spl.skip | apply Upd.here | apply Upd.next)) ?_; intro w_ HL_; replace HL := mk_ HL_; clear HL_))
      refine bodyPost_ret (results_list (rs := [.cell 4 30, .cell 5 32, .tmp 6]) rfl (by simp) (.cell _ 30 _ (0, 0) _ rfl (HL.out.blk (by with_reducible repeat (first | exact Has.here | apply Has.next))) Try.underlying30 rfl (by kernel_rfl) (.cell _ 32 _ (0, 0) _ rfl (HL.out.blk (by with_reducible repeat (first | exact Has.here | apply Has.next))) Try.underlying32 rfl (by kernel_rfl) (.tmp .nil)))) rfl ?_
      exact ⟨by first | rfl | (simp [errW_none, errW_some] <;> rfl) | (simp [*, errW_none, errW_some] <;> rfl), HL.out.bel⟩
    subst c10
    rw [if_pos rfl] at H
    try dsimp only at H
    replace H := Option.bind_eq_some_iff.mp H
    obtain ⟨⟨t134, t135, t136, t137, t138⟩, A110, H⟩ := H
    try dsimp only at H
    have A11 := mk_ A110
    clear A110
    simp only [Option.some.injEq, Prod.mk.injEq] at H
    obtain ⟨rfl, rfl, rfl, rfl, rfl, rfl, rfl, rfl, rfl, rfl, rfl, rfl, rfl, rfl, rfl, rfl, rfl, rfl, rfl, rfl, rfl, rfl, rfl, rfl, rfl, rfl, rfl, rfl⟩ := H
    have HL := mk_ (Lok.start w)
    go_enter Try.func45, Try.ntmps45
    go_wp2_with (first | ((with_reducible refine gate_dst (N := 22) rfl ?_); (with_reducible refine gate_callee (f := 59) rfl ?_); refine goesL_ (some 22) rfl rfl Try.func59 (by kernel_rfl) rfl #[.agg #[.int .i64 a0_0, .int .i64 a0_1, .int .i64 a0_2, .int .i64 a0_3, .int .i64 a0_4], .agg #[.int .i64 a1_1, .int .i64 a1_2, .int .i64 a1_3, .int .i64 a1_4, .int .i64 a1_5]] rfl (by (try simp only [List.map_toArray, List.map_cons, List.map_nil]); first | done | rfl) ?_; (with_reducible refine (spec_l5Least.calls a0_0 a0_1 a0_2 a0_3 a0_4 a1_1 a1_2 a1_3 a1_4 a1_5 t127 t128 t129 t130 t131 _ A4.out).mono ?_); rintro e w_ ⟨rfl, hb_⟩; refine ⟨_, rfl, ?_⟩; replace HL := mk_ (HL.out.call hb_); clear hb_) | ((with_reducible refine gate_dst (N := 27) rfl ?_); (with_reducible refine gate_callee (f := 54) rfl ?_); refine goesL_ (some 27) rfl rfl Try.func54 (by kernel_rfl) rfl #[.agg #[.int .i64 a0_10, .int .i64 a0_11, .int .i64 a0_12, .int .i64 a0_13, .int .i64 a0_14]] rfl (by (try simp only [List.map_toArray, List.map_cons, List.map_nil]); first | done | rfl) ?_; (with_reducible refine (spec_l5None.calls a0_10 a0_11 a0_12 a0_13 a0_14 true _ A9.out).mono ?_); rintro e w_ ⟨rfl, hb_⟩; refine ⟨_, rfl, ?_⟩; replace HL := mk_ (HL.out.call hb_); clear hb_) | ((with_reducible refine gate_dst (N := 32) rfl ?_); (with_reducible refine gate_callee (f := 59) rfl ?_); refine goesL_ (some 32) rfl rfl Try.func59 (by kernel_rfl) rfl #[.agg #[.int .i64 a0_5, .int .i64 a0_6, .int .i64 a0_7, .int .i64 a0_8, .int .i64 a0_9], .agg #[.int .i64 a1_1, .int .i64 a1_2, .int .i64 a1_3, .int .i64 a1_4, .int .i64 a1_5]] rfl (by (try simp only [List.map_toArray, List.map_cons, List.map_nil]); first | done | rfl) ?_; (with_reducible refine (spec_l5Least.calls a0_5 a0_6 a0_7 a0_8 a0_9 a1_1 a1_2 a1_3 a1_4 a1_5 t134 t135 t136 t137 t138 _ A11.out).mono ?_); rintro e w_ ⟨rfl, hb_⟩; refine ⟨_, rfl, ?_⟩; replace HL := mk_ (HL.out.call hb_); clear hb_) | ((with_reducible refine gate_dst (N := 2) rfl ?_); refine loc_box rfl rfl (by first | (go_simp; done) | (go_simp; rfl)) HL.out ?_; intro gb2 w_ HL_; replace HL := mk_ HL_; clear HL_) | ((with_reducible refine gate_dst (N := 3) rfl ?_); refine loc_box rfl rfl (by first | (go_simp; done) | (go_simp; rfl)) HL.out ?_; intro gb3 w_ HL_; replace HL := mk_ HL_; clear HL_) | ((with_reducible refine gate_dst (N := 4) rfl ?_); refine loc_alloc rfl rfl za30 HL.out ?_; intro gb4 w_ HL_; replace HL := mk_ HL_; clear HL_) | ((with_reducible refine gate_dst (N := 5) rfl ?_); refine loc_alloc rfl rfl za32 HL.out ?_; intro gb5 w_ HL_; replace HL := mk_ HL_; clear HL_) | ((with_reducible refine gate_dst (N := 7) rfl ?_); refine loc_alloc rfl rfl za28 HL.out ?_; intro gb7 w_ HL_; replace HL := mk_ HL_; clear HL_) | ((with_reducible refine gate_ld0 (t := 28) rfl ?_); refine loc_load (n := 5) rfl rfl (by kernel_rfl) rfl (by kernel_rfl) HL.out (by with_reducible repeat (first | exact Sel.done | apply Sel.take | apply Sel.skip | apply Get.here | apply Get.next)) ?_) | ((with_reducible refine gate_ld0 (t := 30) rfl ?_); refine loc_load (n := 21) rfl rfl (by kernel_rfl) rfl (by kernel_rfl) HL.out (by with_reducible repeat (first | exact Sel.done | apply Sel.take | apply Sel.skip | apply Get.here | apply Get.next)) ?_) | ((with_reducible refine gate_ld0 (t := 32) rfl ?_); refine loc_load (n := 6) rfl rfl (by kernel_rfl) rfl (by kernel_rfl) HL.out (by with_reducible repeat (first | exact Sel.done | apply Sel.take | apply Sel.skip | apply Get.here | apply Get.next)) ?_) | ((with_reducible refine gate_ld0 rfl ?_); refine loc_load1 rfl rfl (by kernel_rfl) rfl HL.out (by with_reducible repeat (first | exact Sel.done | apply Sel.take | apply Sel.skip | apply Get.here | apply Get.next)) ?_) | ((with_reducible refine gate_st0 rfl ?_); refine loc_store rfl rfl rfl (by first | (go_simp; done) | (go_simp; rfl)) (by kernel_rfl) (by kernel_rfl) HL.out (by with_reducible repeat (first | exact Spl.done | apply Spl.put | apply Spl.skip | apply Upd.here | apply Upd.next)) ?_; intro w_ HL_; replace HL := mk_ HL_; clear HL_))
    refine bodyPost_ret (results_list (rs := [.cell 4 30, .cell 5 32, .tmp 6]) rfl (by simp) (.cell _ 30 _ (0, 0) _ rfl (HL.out.blk (by with_reducible repeat (first | exact Has.here | apply Has.next))) Try.underlying30 rfl (by kernel_rfl) (.cell _ 32 _ (0, 0) _ rfl (HL.out.blk (by with_reducible repeat (first | exact Has.here | apply Has.next))) Try.underlying32 rfl (by kernel_rfl) (.tmp .nil)))) rfl ?_
    exact ⟨by first | rfl | (simp [errW_none, errW_some] <;> rfl) | (simp [*, errW_none, errW_some] <;> rfl), HL.out.bel⟩
  rw [if_pos c5] at H
  have c5b0 : (a1_0 == 1) = true := beq_iff_eq.mpr c5
  have c5b1 : (a1_0 != 1) = false := bne_eq_false_iff_eq.mpr c5
  try dsimp only at H
  clear c5
  by_cases c6 : (!(t127 == a1_1) || (!(t128 == a1_2) || (!(t129 == a1_3) || (!(t130 == a1_4) || (!(t131 == a1_5)))))) = true
  · rw [if_pos c6] at H
    have c6b0 : (!(t127 == a1_1) || (!(t128 == a1_2) || (!(t129 == a1_3) || (!(t130 == a1_4) || (!(t131 == a1_5)))))) = true := c6
    try dsimp only at H
    clear c6
    simp only [Option.some.injEq, Prod.mk.injEq] at H
    obtain ⟨rfl, rfl, rfl, rfl, rfl, rfl, rfl, rfl, rfl, rfl, rfl, rfl, rfl, rfl, rfl, rfl, rfl, rfl, rfl, rfl, rfl, rfl, rfl, rfl, rfl, rfl, rfl, rfl⟩ := H
    have HL := mk_ (Lok.start w)
    go_enter Try.func45, Try.ntmps45
    go_wp2_with (first | ((with_reducible refine gate_dst (N := 22) rfl ?_); (with_reducible refine gate_callee (f := 59) rfl ?_); refine goesL_ (some 22) rfl rfl Try.func59 (by kernel_rfl) rfl #[.agg #[.int .i64 a0_0, .int .i64 a0_1, .int .i64 a0_2, .int .i64 a0_3, .int .i64 a0_4], .agg #[.int .i64 a1_1, .int .i64 a1_2, .int .i64 a1_3, .int .i64 a1_4, .int .i64 a1_5]] rfl (by (try simp only [List.map_toArray, List.map_cons, List.map_nil]); first | done | rfl) ?_; (with_reducible refine (spec_l5Least.calls a0_0 a0_1 a0_2 a0_3 a0_4 a1_1 a1_2 a1_3 a1_4 a1_5 t127 t128 t129 t130 t131 _ A4.out).mono ?_); rintro e w_ ⟨rfl, hb_⟩; refine ⟨_, rfl, ?_⟩; replace HL := mk_ (HL.out.call hb_); clear hb_) | ((with_reducible refine gate_dst (N := 2) rfl ?_); refine loc_box rfl rfl (by first | (go_simp; done) | (go_simp; rfl)) HL.out ?_; intro gb2 w_ HL_; replace HL := mk_ HL_; clear HL_) | ((with_reducible refine gate_dst (N := 3) rfl ?_); refine loc_box rfl rfl (by first | (go_simp; done) | (go_simp; rfl)) HL.out ?_; intro gb3 w_ HL_; replace HL := mk_ HL_; clear HL_) | ((with_reducible refine gate_dst (N := 4) rfl ?_); refine loc_alloc rfl rfl za30 HL.out ?_; intro gb4 w_ HL_; replace HL := mk_ HL_; clear HL_) | ((with_reducible refine gate_dst (N := 5) rfl ?_); refine loc_alloc rfl rfl za32 HL.out ?_; intro gb5 w_ HL_; replace HL := mk_ HL_; clear HL_) | ((with_reducible refine gate_dst (N := 7) rfl ?_); refine loc_alloc rfl rfl za28 HL.out ?_; intro gb7 w_ HL_; replace HL := mk_ HL_; clear HL_) | ((with_reducible refine gate_ld0 (t := 28) rfl ?_); refine loc_load (n := 5) rfl rfl (by kernel_rfl) rfl (by kernel_rfl) HL.out (by with_reducible repeat (first | exact Sel.done | apply Sel.take | apply Sel.skip | apply Get.here | apply Get.next)) ?_) | ((with_reducible refine gate_ld0 (t := 30) rfl ?_); refine loc_load (n := 21) rfl rfl (by kernel_rfl) rfl (by kernel_rfl) HL.out (by with_reducible repeat (first | exact Sel.done | apply Sel.take | apply Sel.skip | apply Get.here | apply Get.next)) ?_) | ((with_reducible refine gate_ld0 (t := 32) rfl ?_); refine loc_load (n := 6) rfl rfl (by kernel_rfl) rfl (by kernel_rfl) HL.out (by with_reducible repeat (first | exact Sel.done | apply Sel.take | apply Sel.skip | apply Get.here | apply Get.next)) ?_) | ((with_reducible refine gate_ld0 rfl ?_); refine loc_load1 rfl rfl (by kernel_rfl) rfl HL.out (by with_reducible repeat (first | exact Sel.done | apply Sel.take | apply Sel.skip | apply Get.here | apply Get.next)) ?_) | ((with_reducible refine gate_st0 rfl ?_); refine loc_store rfl rfl rfl (by first | (go_simp; done) | (go_simp; rfl)) (by kernel_rfl) (by kernel_rfl) HL.out (by with_reducible repeat (first | exact Spl.done | apply Spl.put | apply Spl.skip | apply Upd.here | apply Upd.next)) ?_; intro w_ HL_; replace HL := mk_ HL_; clear HL_))
    refine u_start (S := fun l_ w' => Lok w w' [(gb7, [.int .i64 t127, .int .i64 t128, .int .i64 t129, .int .i64 t130, .int .i64 t131], 28), (gb5, cond (l_.getD 4 true) [.int .i64 3, .int .i64 t127, .int .i64 t128, .int .i64 t129, .int .i64 t130, .int .i64 t131] [.int .i64 0, .int .i64 0, .int .i64 0, .int .i64 0, .int .i64 0, .int .i64 0], 32), (gb4, cond (l_.getD 3 true) [.int .i64 a0_0, .int .i64 a0_1, .int .i64 a0_2, .int .i64 a0_3, .int .i64 a0_4, .int .i64 a0_5, .int .i64 a0_6, .int .i64 a0_7, .int .i64 a0_8, .int .i64 a0_9, .int .i64 a0_10, .int .i64 a0_11, .int .i64 a0_12, .int .i64 a0_13, .int .i64 a0_14, .int .i64 a0_15, .int .i64 a0_16, .int .i64 a0_17, .int .i64 a0_18, .int .i64 a0_19, .bool a0_20] [.int .i64 0, .int .i64 0, .int .i64 0, .int .i64 0, .int .i64 0, .int .i64 0, .int .i64 0, .int .i64 0, .int .i64 0, .int .i64 0, .int .i64 0, .int .i64 0, .int .i64 0, .int .i64 0, .int .i64 0, .int .i64 0, .int .i64 0, .int .i64 0, .int .i64 0, .int .i64 0, .bool false], 30), (gb3, [.int .i64 a1_0, .int .i64 a1_1, .int .i64 a1_2, .int .i64 a1_3, .int .i64 a1_4, .int .i64 a1_5], 32), (gb2, [.int .i64 a0_0, .int .i64 a0_1, .int .i64 a0_2, .int .i64 a0_3, .int .i64 a0_4, .int .i64 a0_5, .int .i64 a0_6, .int .i64 a0_7, .int .i64 a0_8, .int .i64 a0_9, .int .i64 a0_10, .int .i64 a0_11, .int .i64 a0_12, .int .i64 a0_13, .int .i64 a0_14, .int .i64 a0_15, .int .i64 a0_16, .int .i64 a0_17, .int .i64 a0_18, .int .i64 a0_19, .bool a0_20], 30)]) (bm 6 0) (by kernel_rfl) rfl rfl HL.out.drew ?_
    refine u_tab spec_l5Hear.tab10 (fun HT_ => ?_)
    refine uL 0 (some 40) (bm 6 1) rfl rfl HT_.out (by kernel_rfl) (fun _ _ _ h => h) (fun l_ w_ => by simp only [getD_set_ne true (show (0 : Nat) ≠ 3 by decide), getD_set_ne true (show (0 : Nat) ≠ 4 by decide)]) (by rfl) (fun l_ w_ hS_ => loc_load_run (n := 21) (by kernel_rfl) rfl rfl (by kernel_rfl) hS_ (by with_reducible repeat (first | exact Sel.done | apply Sel.take | apply Sel.skip | apply Get.here | apply Get.next))) (by simp only [Act.put, zs1, zs2, zs3, i64_w, i32_w]; rfl) ?_
    refine uL 1 (some 41) (bm 6 3) rfl rfl HT_.out (by kernel_rfl) (fun _ _ _ h => h) (fun l_ w_ => by simp only [getD_set_ne true (show (1 : Nat) ≠ 3 by decide), getD_set_ne true (show (1 : Nat) ≠ 4 by decide)]) (by rfl) (fun l_ w_ hS_ => loc_load_run (n := 5) (by kernel_rfl) rfl rfl (by kernel_rfl) hS_ (by with_reducible repeat (first | exact Sel.done | apply Sel.take | apply Sel.skip | apply Get.here | apply Get.next))) (by simp only [Act.put, zs1, zs2, zs3, i64_w, i32_w]; rfl) ?_
    refine uP 2 (some 42) (bm 6 7) rfl rfl HT_.out (by kernel_rfl) (fun _ _ _ h => h) (fun l_ w_ => by simp only [getD_set_ne true (show (2 : Nat) ≠ 3 by decide), getD_set_ne true (show (2 : Nat) ≠ 4 by decide)]) (by rfl) (by intro w'; go_simp; with_reducible rfl) (by simp only [Act.put, zs1, zs2, zs3, i64_w, i32_w]; rfl) ?_
    refine u_one (i := 3) HT_.out (by kernel_rfl) ?_
    refine uS (bm 6 15) rfl rfl (by kernel_rfl) (by rfl) (fun w_ hS_ => ⟨_, loc_store_run (vs := [.int .i64 a0_0, .int .i64 a0_1, .int .i64 a0_2, .int .i64 a0_3, .int .i64 a0_4, .int .i64 a0_5, .int .i64 a0_6, .int .i64 a0_7, .int .i64 a0_8, .int .i64 a0_9, .int .i64 a0_10, .int .i64 a0_11, .int .i64 a0_12, .int .i64 a0_13, .int .i64 a0_14, .int .i64 a0_15, .int .i64 a0_16, .int .i64 a0_17, .int .i64 a0_18, .int .i64 a0_19, .bool a0_20]) rfl rfl (by first | (go_simp; done) | (go_simp; rfl)) (by kernel_rfl) (by kernel_rfl) hS_ (by repeat (first | ((with_reducible refine Upd.whole ?_); rfl) | (with_reducible apply Upd.next))), by have z_ := Lok.upd (g := gb4) (k := 0) (vs := [.int .i64 a0_0, .int .i64 a0_1, .int .i64 a0_2, .int .i64 a0_3, .int .i64 a0_4, .int .i64 a0_5, .int .i64 a0_6, .int .i64 a0_7, .int .i64 a0_8, .int .i64 a0_9, .int .i64 a0_10, .int .i64 a0_11, .int .i64 a0_12, .int .i64 a0_13, .int .i64 a0_14, .int .i64 a0_15, .int .i64 a0_16, .int .i64 a0_17, .int .i64 a0_18, .int .i64 a0_19, .bool a0_20]) hS_ (by repeat (first | ((with_reducible refine Upd.whole ?_); rfl) | (with_reducible apply Upd.next))); exact z_⟩) ?_
    refine u_one (i := 4) HT_.out (by kernel_rfl) ?_
    refine uS (bm 6 31) rfl rfl (by kernel_rfl) (by rfl) (fun w_ hS_ => ⟨_, loc_store_run (vs := [.int .i64 3, .int .i64 t127, .int .i64 t128, .int .i64 t129, .int .i64 t130, .int .i64 t131]) rfl rfl (by first | (go_simp; done) | (go_simp; rfl)) (by kernel_rfl) (by kernel_rfl) hS_ (by repeat (first | ((with_reducible refine Upd.whole ?_); rfl) | (with_reducible apply Upd.next))), by have z_ := Lok.upd (g := gb5) (k := 0) (vs := [.int .i64 3, .int .i64 t127, .int .i64 t128, .int .i64 t129, .int .i64 t130, .int .i64 t131]) hS_ (by repeat (first | ((with_reducible refine Upd.whole ?_); rfl) | (with_reducible apply Upd.next))); exact z_⟩) ?_
    refine uP 5 (some 6) (bm 6 63) rfl rfl HT_.out (by kernel_rfl) (fun _ _ _ h => h) (fun l_ w_ => by simp only [getD_set_ne true (show (5 : Nat) ≠ 3 by decide), getD_set_ne true (show (5 : Nat) ≠ 4 by decide)]) (by rfl) (by intro w'; go_simp; with_reducible rfl) (by simp only [Act.put, zs1, zs2, zs3, i64_w, i32_w]; rfl) ?_
    refine uD HT_.out (by kernel_rfl) ?_
    intro w_ HL_
    replace HL := mk_ (show Lok w w_ [(gb7, [.int .i64 t127, .int .i64 t128, .int .i64 t129, .int .i64 t130, .int .i64 t131], 28), (gb5, [.int .i64 3, .int .i64 t127, .int .i64 t128, .int .i64 t129, .int .i64 t130, .int .i64 t131], 32), (gb4, [.int .i64 a0_0, .int .i64 a0_1, .int .i64 a0_2, .int .i64 a0_3, .int .i64 a0_4, .int .i64 a0_5, .int .i64 a0_6, .int .i64 a0_7, .int .i64 a0_8, .int .i64 a0_9, .int .i64 a0_10, .int .i64 a0_11, .int .i64 a0_12, .int .i64 a0_13, .int .i64 a0_14, .int .i64 a0_15, .int .i64 a0_16, .int .i64 a0_17, .int .i64 a0_18, .int .i64 a0_19, .bool a0_20], 30), (gb3, [.int .i64 a1_0, .int .i64 a1_1, .int .i64 a1_2, .int .i64 a1_3, .int .i64 a1_4, .int .i64 a1_5], 32), (gb2, [.int .i64 a0_0, .int .i64 a0_1, .int .i64 a0_2, .int .i64 a0_3, .int .i64 a0_4, .int .i64 a0_5, .int .i64 a0_6, .int .i64 a0_7, .int .i64 a0_8, .int .i64 a0_9, .int .i64 a0_10, .int .i64 a0_11, .int .i64 a0_12, .int .i64 a0_13, .int .i64 a0_14, .int .i64 a0_15, .int .i64 a0_16, .int .i64 a0_17, .int .i64 a0_18, .int .i64 a0_19, .bool a0_20], 30)] from HL_)
    clear HL_
    go_wp2_with (first | ((with_reducible refine gate_ld0 (t := 28) rfl ?_); refine loc_load (n := 5) rfl rfl (by kernel_rfl) rfl (by kernel_rfl) HL.out (by with_reducible repeat (first | exact Sel.done | apply Sel.take | apply Sel.skip | apply Get.here | apply Get.next)) ?_) | ((with_reducible refine gate_ld0 (t := 30) rfl ?_); refine loc_load (n := 21) rfl rfl (by kernel_rfl) rfl (by kernel_rfl) HL.out (by with_reducible repeat (first | exact Sel.done | apply Sel.take | apply Sel.skip | apply Get.here | apply Get.next)) ?_) | ((with_reducible refine gate_ld0 (t := 32) rfl ?_); refine loc_load (n := 6) rfl rfl (by kernel_rfl) rfl (by kernel_rfl) HL.out (by with_reducible repeat (first | exact Sel.done | apply Sel.take | apply Sel.skip | apply Get.here | apply Get.next)) ?_) | ((with_reducible refine gate_ld0 rfl ?_); refine loc_load1 rfl rfl (by kernel_rfl) rfl HL.out (by with_reducible repeat (first | exact Sel.done | apply Sel.take | apply Sel.skip | apply Get.here | apply Get.next)) ?_) | ((with_reducible refine gate_st0 rfl ?_); refine loc_store rfl rfl rfl (by first | (go_simp; done) | (go_simp; rfl)) (by kernel_rfl) (by kernel_rfl) HL.out (by with_reducible repeat (first | exact Spl.done | apply Spl.put | apply Spl.skip | apply Upd.here | apply Upd.next)) ?_; intro w_ HL_; replace HL := mk_ HL_; clear HL_))
    refine bodyPost_ret (results_list (rs := [.cell 4 30, .cell 5 32, .tmp 6]) rfl (by simp) (.cell _ 30 _ (0, 0) _ rfl (HL.out.blk (by with_reducible repeat (first | exact Has.here | apply Has.next))) Try.underlying30 rfl (by kernel_rfl) (.cell _ 32 _ (0, 0) _ rfl (HL.out.blk (by with_reducible repeat (first | exact Has.here | apply Has.next))) Try.underlying32 rfl (by kernel_rfl) (.tmp .nil)))) rfl ?_
    exact ⟨by first | rfl | (simp [errW_none, errW_some] <;> rfl) | (simp [*, errW_none, errW_some] <;> rfl), HL.out.bel⟩
  rw [if_neg c6] at H
  have c6b0 : (!(t127 == a1_1) || (!(t128 == a1_2) || (!(t129 == a1_3) || (!(t130 == a1_4) || (!(t131 == a1_5)))))) = false := by simpa using c6
  try dsimp only at H
  clear c6
  simp only [Option.some.injEq, Prod.mk.injEq] at H
  obtain ⟨rfl, rfl, rfl, rfl, rfl, rfl, rfl, rfl, rfl, rfl, rfl, rfl, rfl, rfl, rfl, rfl, rfl, rfl, rfl, rfl, rfl, rfl, rfl, rfl, rfl, rfl, rfl, rfl⟩ := H
  have HL := mk_ (Lok.start w)
  go_enter Try.func45, Try.ntmps45
  go_wp2_with (first | ((with_reducible refine gate_dst (N := 22) rfl ?_); (with_reducible refine gate_callee (f := 59) rfl ?_); refine goesL_ (some 22) rfl rfl Try.func59 (by kernel_rfl) rfl #[.agg #[.int .i64 a0_0, .int .i64 a0_1, .int .i64 a0_2, .int .i64 a0_3, .int .i64 a0_4], .agg #[.int .i64 a1_1, .int .i64 a1_2, .int .i64 a1_3, .int .i64 a1_4, .int .i64 a1_5]] rfl (by (try simp only [List.map_toArray, List.map_cons, List.map_nil]); first | done | rfl) ?_; (with_reducible refine (spec_l5Least.calls a0_0 a0_1 a0_2 a0_3 a0_4 a1_1 a1_2 a1_3 a1_4 a1_5 t127 t128 t129 t130 t131 _ A4.out).mono ?_); rintro e w_ ⟨rfl, hb_⟩; refine ⟨_, rfl, ?_⟩; replace HL := mk_ (HL.out.call hb_); clear hb_) | ((with_reducible refine gate_dst (N := 2) rfl ?_); refine loc_box rfl rfl (by first | (go_simp; done) | (go_simp; rfl)) HL.out ?_; intro gb2 w_ HL_; replace HL := mk_ HL_; clear HL_) | ((with_reducible refine gate_dst (N := 3) rfl ?_); refine loc_box rfl rfl (by first | (go_simp; done) | (go_simp; rfl)) HL.out ?_; intro gb3 w_ HL_; replace HL := mk_ HL_; clear HL_) | ((with_reducible refine gate_dst (N := 4) rfl ?_); refine loc_alloc rfl rfl za30 HL.out ?_; intro gb4 w_ HL_; replace HL := mk_ HL_; clear HL_) | ((with_reducible refine gate_dst (N := 5) rfl ?_); refine loc_alloc rfl rfl za32 HL.out ?_; intro gb5 w_ HL_; replace HL := mk_ HL_; clear HL_) | ((with_reducible refine gate_dst (N := 7) rfl ?_); refine loc_alloc rfl rfl za28 HL.out ?_; intro gb7 w_ HL_; replace HL := mk_ HL_; clear HL_) | ((with_reducible refine gate_ld0 (t := 28) rfl ?_); refine loc_load (n := 5) rfl rfl (by kernel_rfl) rfl (by kernel_rfl) HL.out (by with_reducible repeat (first | exact Sel.done | apply Sel.take | apply Sel.skip | apply Get.here | apply Get.next)) ?_) | ((with_reducible refine gate_ld0 (t := 30) rfl ?_); refine loc_load (n := 21) rfl rfl (by kernel_rfl) rfl (by kernel_rfl) HL.out (by with_reducible repeat (first | exact Sel.done | apply Sel.take | apply Sel.skip | apply Get.here | apply Get.next)) ?_) | ((with_reducible refine gate_ld0 (t := 32) rfl ?_); refine loc_load (n := 6) rfl rfl (by kernel_rfl) rfl (by kernel_rfl) HL.out (by with_reducible repeat (first | exact Sel.done | apply Sel.take | apply Sel.skip | apply Get.here | apply Get.next)) ?_) | ((with_reducible refine gate_ld0 rfl ?_); refine loc_load1 rfl rfl (by kernel_rfl) rfl HL.out (by with_reducible repeat (first | exact Sel.done | apply Sel.take | apply Sel.skip | apply Get.here | apply Get.next)) ?_) | ((with_reducible refine gate_st0 rfl ?_); refine loc_store rfl rfl rfl (by first | (go_simp; done) | (go_simp; rfl)) (by kernel_rfl) (by kernel_rfl) HL.out (by with_reducible repeat (first | exact Spl.done | apply Spl.put | apply Spl.skip | apply Upd.here | apply Upd.next)) ?_; intro w_ HL_; replace HL := mk_ HL_; clear HL_))
  refine u_start (S := fun l_ w' => Lok w w' [(gb7, [.int .i64 t127, .int .i64 t128, .int .i64 t129, .int .i64 t130, .int .i64 t131], 28), (gb5, cond (l_.getD 5 true) [.int .i64 2, .int .i64 a1_1, .int .i64 a1_2, .int .i64 a1_3, .int .i64 a1_4, .int .i64 a1_5] [.int .i64 0, .int .i64 0, .int .i64 0, .int .i64 0, .int .i64 0, .int .i64 0], 32), (gb4, cond (l_.getD 4 true) [.int .i64 a0_0, .int .i64 a0_1, .int .i64 a0_2, .int .i64 a0_3, .int .i64 a0_4, .int .i64 a0_5, .int .i64 a0_6, .int .i64 a0_7, .int .i64 a0_8, .int .i64 a0_9, .int .i64 a0_10, .int .i64 a0_11, .int .i64 a0_12, .int .i64 a0_13, .int .i64 a0_14, .int .i64 a1_1, .int .i64 a1_2, .int .i64 a1_3, .int .i64 a1_4, .int .i64 a1_5, .bool a0_20] [.int .i64 0, .int .i64 0, .int .i64 0, .int .i64 0, .int .i64 0, .int .i64 0, .int .i64 0, .int .i64 0, .int .i64 0, .int .i64 0, .int .i64 0, .int .i64 0, .int .i64 0, .int .i64 0, .int .i64 0, .int .i64 0, .int .i64 0, .int .i64 0, .int .i64 0, .int .i64 0, .bool false], 30), (gb3, [.int .i64 a1_0, .int .i64 a1_1, .int .i64 a1_2, .int .i64 a1_3, .int .i64 a1_4, .int .i64 a1_5], 32), (gb2, [.int .i64 a0_0, .int .i64 a0_1, .int .i64 a0_2, .int .i64 a0_3, .int .i64 a0_4, .int .i64 a0_5, .int .i64 a0_6, .int .i64 a0_7, .int .i64 a0_8, .int .i64 a0_9, .int .i64 a0_10, .int .i64 a0_11, .int .i64 a0_12, .int .i64 a0_13, .int .i64 a0_14, .int .i64 a1_1, .int .i64 a1_2, .int .i64 a1_3, .int .i64 a1_4, .int .i64 a1_5, .bool a0_20], 30)]) (bm 7 0) (by kernel_rfl) rfl rfl HL.out.drew ?_
  refine u_tab spec_l5Hear.tab12 (fun HT_ => ?_)
  refine uL 0 (some 46) (bm 7 1) rfl rfl HT_.out (by kernel_rfl) (fun _ _ _ h => h) (fun l_ w_ => by simp only [getD_set_ne true (show (0 : Nat) ≠ 4 by decide), getD_set_ne true (show (0 : Nat) ≠ 5 by decide)]) (by rfl) (fun l_ w_ hS_ => loc_load_run (n := 21) (by kernel_rfl) rfl rfl (by kernel_rfl) hS_ (by with_reducible repeat (first | exact Sel.done | apply Sel.take | apply Sel.skip | apply Get.here | apply Get.next))) (by simp only [Act.put, zs1, zs2, zs3, i64_w, i32_w]; rfl) ?_
  refine uP 1 (some 47) (bm 7 3) rfl rfl HT_.out (by kernel_rfl) (fun _ _ _ h => h) (fun l_ w_ => by simp only [getD_set_ne true (show (1 : Nat) ≠ 4 by decide), getD_set_ne true (show (1 : Nat) ≠ 5 by decide)]) (by rfl) (by intro w'; go_simp; with_reducible rfl) (by simp only [Act.put, zs1, zs2, zs3, i64_w, i32_w]; rfl) ?_
  refine uL 2 (some 48) (bm 7 7) rfl rfl HT_.out (by kernel_rfl) (fun _ _ _ h => h) (fun l_ w_ => by simp only [getD_set_ne true (show (2 : Nat) ≠ 4 by decide), getD_set_ne true (show (2 : Nat) ≠ 5 by decide)]) (by rfl) (fun l_ w_ hS_ => loc_load_run (n := 5) (by kernel_rfl) rfl rfl (by kernel_rfl) hS_ (by with_reducible repeat (first | exact Sel.done | apply Sel.take | apply Sel.skip | apply Get.here | apply Get.next))) (by simp only [Act.put, zs1, zs2, zs3, i64_w, i32_w]; rfl) ?_
  refine uP 3 (some 49) (bm 7 15) rfl rfl HT_.out (by kernel_rfl) (fun _ _ _ h => h) (fun l_ w_ => by simp only [getD_set_ne true (show (3 : Nat) ≠ 4 by decide), getD_set_ne true (show (3 : Nat) ≠ 5 by decide)]) (by rfl) (by intro w'; go_simp; with_reducible rfl) (by simp only [Act.put, zs1, zs2, zs3, i64_w, i32_w]; rfl) ?_
  refine u_one (i := 4) HT_.out (by kernel_rfl) ?_
  refine uS (bm 7 31) rfl rfl (by kernel_rfl) (by rfl) (fun w_ hS_ => ⟨_, loc_store_run (vs := [.int .i64 a0_0, .int .i64 a0_1, .int .i64 a0_2, .int .i64 a0_3, .int .i64 a0_4, .int .i64 a0_5, .int .i64 a0_6, .int .i64 a0_7, .int .i64 a0_8, .int .i64 a0_9, .int .i64 a0_10, .int .i64 a0_11, .int .i64 a0_12, .int .i64 a0_13, .int .i64 a0_14, .int .i64 a1_1, .int .i64 a1_2, .int .i64 a1_3, .int .i64 a1_4, .int .i64 a1_5, .bool a0_20]) rfl rfl (by first | (go_simp; done) | (go_simp; rfl)) (by kernel_rfl) (by kernel_rfl) hS_ (by repeat (first | ((with_reducible refine Upd.whole ?_); rfl) | (with_reducible apply Upd.next))), by have z_ := Lok.upd (g := gb4) (k := 0) (vs := [.int .i64 a0_0, .int .i64 a0_1, .int .i64 a0_2, .int .i64 a0_3, .int .i64 a0_4, .int .i64 a0_5, .int .i64 a0_6, .int .i64 a0_7, .int .i64 a0_8, .int .i64 a0_9, .int .i64 a0_10, .int .i64 a0_11, .int .i64 a0_12, .int .i64 a0_13, .int .i64 a0_14, .int .i64 a1_1, .int .i64 a1_2, .int .i64 a1_3, .int .i64 a1_4, .int .i64 a1_5, .bool a0_20]) hS_ (by repeat (first | ((with_reducible refine Upd.whole ?_); rfl) | (with_reducible apply Upd.next))); exact z_⟩) ?_
  refine u_one (i := 5) HT_.out (by kernel_rfl) ?_
  refine uS (bm 7 63) rfl rfl (by kernel_rfl) (by rfl) (fun w_ hS_ => ⟨_, loc_store_run (vs := [.int .i64 2, .int .i64 a1_1, .int .i64 a1_2, .int .i64 a1_3, .int .i64 a1_4, .int .i64 a1_5]) rfl rfl (by first | (go_simp; done) | (go_simp; rfl)) (by kernel_rfl) (by kernel_rfl) hS_ (by repeat (first | ((with_reducible refine Upd.whole ?_); rfl) | (with_reducible apply Upd.next))), by have z_ := Lok.upd (g := gb5) (k := 0) (vs := [.int .i64 2, .int .i64 a1_1, .int .i64 a1_2, .int .i64 a1_3, .int .i64 a1_4, .int .i64 a1_5]) hS_ (by repeat (first | ((with_reducible refine Upd.whole ?_); rfl) | (with_reducible apply Upd.next))); exact z_⟩) ?_
  refine uP 6 (some 6) (bm 7 127) rfl rfl HT_.out (by kernel_rfl) (fun _ _ _ h => h) (fun l_ w_ => by simp only [getD_set_ne true (show (6 : Nat) ≠ 4 by decide), getD_set_ne true (show (6 : Nat) ≠ 5 by decide)]) (by rfl) (by intro w'; go_simp; with_reducible rfl) (by simp only [Act.put, zs1, zs2, zs3, i64_w, i32_w]; rfl) ?_
  refine uD HT_.out (by kernel_rfl) ?_
  intro w_ HL_
  replace HL := mk_ (show Lok w w_ [(gb7, [.int .i64 t127, .int .i64 t128, .int .i64 t129, .int .i64 t130, .int .i64 t131], 28), (gb5, [.int .i64 2, .int .i64 a1_1, .int .i64 a1_2, .int .i64 a1_3, .int .i64 a1_4, .int .i64 a1_5], 32), (gb4, [.int .i64 a0_0, .int .i64 a0_1, .int .i64 a0_2, .int .i64 a0_3, .int .i64 a0_4, .int .i64 a0_5, .int .i64 a0_6, .int .i64 a0_7, .int .i64 a0_8, .int .i64 a0_9, .int .i64 a0_10, .int .i64 a0_11, .int .i64 a0_12, .int .i64 a0_13, .int .i64 a0_14, .int .i64 a1_1, .int .i64 a1_2, .int .i64 a1_3, .int .i64 a1_4, .int .i64 a1_5, .bool a0_20], 30), (gb3, [.int .i64 a1_0, .int .i64 a1_1, .int .i64 a1_2, .int .i64 a1_3, .int .i64 a1_4, .int .i64 a1_5], 32), (gb2, [.int .i64 a0_0, .int .i64 a0_1, .int .i64 a0_2, .int .i64 a0_3, .int .i64 a0_4, .int .i64 a0_5, .int .i64 a0_6, .int .i64 a0_7, .int .i64 a0_8, .int .i64 a0_9, .int .i64 a0_10, .int .i64 a0_11, .int .i64 a0_12, .int .i64 a0_13, .int .i64 a0_14, .int .i64 a1_1, .int .i64 a1_2, .int .i64 a1_3, .int .i64 a1_4, .int .i64 a1_5, .bool a0_20], 30)] from HL_)
  clear HL_
  go_wp2_with (first | ((with_reducible refine gate_ld0 (t := 28) rfl ?_); refine loc_load (n := 5) rfl rfl (by kernel_rfl) rfl (by kernel_rfl) HL.out (by with_reducible repeat (first | exact Sel.done | apply Sel.take | apply Sel.skip | apply Get.here | apply Get.next)) ?_) | ((with_reducible refine gate_ld0 (t := 30) rfl ?_); refine loc_load (n := 21) rfl rfl (by kernel_rfl) rfl (by kernel_rfl) HL.out (by with_reducible repeat (first | exact Sel.done | apply Sel.take | apply Sel.skip | apply Get.here | apply Get.next)) ?_) | ((with_reducible refine gate_ld0 (t := 32) rfl ?_); refine loc_load (n := 6) rfl rfl (by kernel_rfl) rfl (by kernel_rfl) HL.out (by with_reducible repeat (first | exact Sel.done | apply Sel.take | apply Sel.skip | apply Get.here | apply Get.next)) ?_) | ((with_reducible refine gate_ld0 rfl ?_); refine loc_load1 rfl rfl (by kernel_rfl) rfl HL.out (by with_reducible repeat (first | exact Sel.done | apply Sel.take | apply Sel.skip | apply Get.here | apply Get.next)) ?_) | ((with_reducible refine gate_st0 rfl ?_); refine loc_store rfl rfl rfl (by first | (go_simp; done) | (go_simp; rfl)) (by kernel_rfl) (by kernel_rfl) HL.out (by with_reducible repeat (first | exact Spl.done | apply Spl.put | apply Spl.skip | apply Upd.here | apply Upd.next)) ?_; intro w_ HL_; replace HL := mk_ HL_; clear HL_))
  refine bodyPost_ret (results_list (rs := [.cell 4 30, .cell 5 32, .tmp 6]) rfl (by simp) (.cell _ 30 _ (0, 0) _ rfl (HL.out.blk (by with_reducible repeat (first | exact Has.here | apply Has.next))) Try.underlying30 rfl (by kernel_rfl) (.cell _ 32 _ (0, 0) _ rfl (HL.out.blk (by with_reducible repeat (first | exact Has.here | apply Has.next))) Try.underlying32 rfl (by kernel_rfl) (.tmp .nil)))) rfl ?_
  exact ⟨by first | rfl | (simp [errW_none, errW_some] <;> rfl) | (simp [*, errW_none, errW_some] <;> rfl), HL.out.bel⟩

/-! ### spec_NegHear: function 13 -/
def spec_NegHear.f (a0_0 : Int) (a0_1 : Int) (a0_2 : Int) (a0_3 : Int) (a0_4 : Int) (a0_5 : Int) (a0_6 : Int) (a0_7 : Int) (a0_8 : Int) (a0_9 : Int) (a0_10 : Int) (a0_11 : Int) (a0_12 : Int) (a0_13 : Int) (a0_14 : Int) (a0_15 : Int) (a0_16 : Int) (a0_17 : Int) (a0_18 : Int) (a0_19 : Int) (a0_20 : Bool) (a1_0 : Int) (a1_1 : Int) (a1_2 : Int) (a1_3 : Int) (a1_4 : Int) (a1_5 : Int) : Option (Int × Int × Int × Int × Int × Int × Int × Int × Int × Int × Int × Int × Int × Int × Int × Int × Int × Int × Int × Int × Bool × Int × Int × Int × Int × Int × Int × Bool) := (spec_NegOk.f a0_0 a0_1 a0_2 a0_3 a0_4 a0_5 a0_6 a0_7 a0_8 a0_9 a0_10 a0_11 a0_12 a0_13 a0_14 a0_15 a0_16 a0_17 a0_18 a0_19 a0_20).bind fun t143 => (if t143 = true then ((spec_l1In.f a1_0 1 3).bind fun t144 => (if t144 = true then ((spec_CfgOk.f a1_1 a1_2 a1_3 a1_4 a1_5).bind fun t145 => (if t145 = true then ((spec_l5Hear.f a0_0 a0_1 a0_2 a0_3 a0_4 a0_5 a0_6 a0_7 a0_8 a0_9 a0_10 a0_11 a0_12 a0_13 a0_14 a0_15 a0_16 a0_17 a0_18 a0_19 a0_20 a1_0 a1_1 a1_2 a1_3 a1_4 a1_5).bind fun bt146 => (some (bt146.1, bt146.2.1, bt146.2.2.1, bt146.2.2.2.1, bt146.2.2.2.2.1, bt146.2.2.2.2.2.1, bt146.2.2.2.2.2.2.1, bt146.2.2.2.2.2.2.2.1, bt146.2.2.2.2.2.2.2.2.1, bt146.2.2.2.2.2.2.2.2.2.1, bt146.2.2.2.2.2.2.2.2.2.2.1, bt146.2.2.2.2.2.2.2.2.2.2.2.1, bt146.2.2.2.2.2.2.2.2.2.2.2.2.1, bt146.2.2.2.2.2.2.2.2.2.2.2.2.2.1, bt146.2.2.2.2.2.2.2.2.2.2.2.2.2.2.1, bt146.2.2.2.2.2.2.2.2.2.2.2.2.2.2.2.1, bt146.2.2.2.2.2.2.2.2.2.2.2.2.2.2.2.2.1, bt146.2.2.2.2.2.2.2.2.2.2.2.2.2.2.2.2.2.1, bt146.2.2.2.2.2.2.2.2.2.2.2.2.2.2.2.2.2.2.1, bt146.2.2.2.2.2.2.2.2.2.2.2.2.2.2.2.2.2.2.2.1, bt146.2.2.2.2.2.2.2.2.2.2.2.2.2.2.2.2.2.2.2.2.1, bt146.2.2.2.2.2.2.2.2.2.2.2.2.2.2.2.2.2.2.2.2.2.1, bt146.2.2.2.2.2.2.2.2.2.2.2.2.2.2.2.2.2.2.2.2.2.2.1, bt146.2.2.2.2.2.2.2.2.2.2.2.2.2.2.2.2.2.2.2.2.2.2.2.1, bt146.2.2.2.2.2.2.2.2.2.2.2.2.2.2.2.2.2.2.2.2.2.2.2.2.1, bt146.2.2.2.2.2.2.2.2.2.2.2.2.2.2.2.2.2.2.2.2.2.2.2.2.2.1, bt146.2.2.2.2.2.2.2.2.2.2.2.2.2.2.2.2.2.2.2.2.2.2.2.2.2.2.1, bt146.2.2.2.2.2.2.2.2.2.2.2.2.2.2.2.2.2.2.2.2.2.2.2.2.2.2.2))) else (some (0, 0, 0, 0, 0, 0, 0, 0, 0, 0, 0, 0, 0, 0, 0, 0, 0, 0, 0, 0, false, 0, 0, 0, 0, 0, 0, false)))) else (some (0, 0, 0, 0, 0, 0, 0, 0, 0, 0, 0, 0, 0, 0, 0, 0, 0, 0, 0, 0, false, 0, 0, 0, 0, 0, 0, false)))) else (some (0, 0, 0, 0, 0, 0, 0, 0, 0, 0, 0, 0, 0, 0, 0, 0, 0, 0, 0, 0, false, 0, 0, 0, 0, 0, 0, false)))
set_option maxHeartbeats 60000000 in
set_option maxRecDepth 100000 in
theorem spec_NegHear.calls (a0_0 : Int) (a0_1 : Int) (a0_2 : Int) (a0_3 : Int) (a0_4 : Int) (a0_5 : Int) (a0_6 : Int) (a0_7 : Int) (a0_8 : Int) (a0_9 : Int) (a0_10 : Int) (a0_11 : Int) (a0_12 : Int) (a0_13 : Int) (a0_14 : Int) (a0_15 : Int) (a0_16 : Int) (a0_17 : Int) (a0_18 : Int) (a0_19 : Int) (a0_20 : Bool) (a1_0 : Int) (a1_1 : Int) (a1_2 : Int) (a1_3 : Int) (a1_4 : Int) (a1_5 : Int) (r1 : Int) (r2 : Int) (r3 : Int) (r4 : Int) (r5 : Int) (r6 : Int) (r7 : Int) (r8 : Int) (r9 : Int) (r10 : Int) (r11 : Int) (r12 : Int) (r13 : Int) (r14 : Int) (r15 : Int) (r16 : Int) (r17 : Int) (r18 : Int) (r19 : Int) (r20 : Int) (r21 : Bool) (r22 : Int) (r23 : Int) (r24 : Int) (r25 : Int) (r26 : Int) (r27 : Int) (r28 : Bool) (w : World) (h : spec_NegHear.f a0_0 a0_1 a0_2 a0_3 a0_4 a0_5 a0_6 a0_7 a0_8 a0_9 a0_10 a0_11 a0_12 a0_13 a0_14 a0_15 a0_16 a0_17 a0_18 a0_19 a0_20 a1_0 a1_1 a1_2 a1_3 a1_4 a1_5 = some (r1, r2, r3, r4, r5, r6, r7, r8, r9, r10, r11, r12, r13, r14, r15, r16, r17, r18, r19, r20, r21, r22, r23, r24, r25, r26, r27, r28)) :
    Calls Try.prog 13 #[.agg #[.int .i64 a0_0, .int .i64 a0_1, .int .i64 a0_2, .int .i64 a0_3, .int .i64 a0_4, .int .i64 a0_5, .int .i64 a0_6, .int .i64 a0_7, .int .i64 a0_8, .int .i64 a0_9, .int .i64 a0_10, .int .i64 a0_11, .int .i64 a0_12, .int .i64 a0_13, .int .i64 a0_14, .int .i64 a0_15, .int .i64 a0_16, .int .i64 a0_17, .int .i64 a0_18, .int .i64 a0_19, .bool a0_20], .agg #[.int .i64 a1_0, .int .i64 a1_1, .int .i64 a1_2, .int .i64 a1_3, .int .i64 a1_4, .int .i64 a1_5]] w fun e w' => e = .returned (.tuple #[.agg #[.int .i64 r1, .int .i64 r2, .int .i64 r3, .int .i64 r4, .int .i64 r5, .int .i64 r6, .int .i64 r7, .int .i64 r8, .int .i64 r9, .int .i64 r10, .int .i64 r11, .int .i64 r12, .int .i64 r13, .int .i64 r14, .int .i64 r15, .int .i64 r16, .int .i64 r17, .int .i64 r18, .int .i64 r19, .int .i64 r20, .bool r21], .agg #[.int .i64 r22, .int .i64 r23, .int .i64 r24, .int .i64 r25, .int .i64 r26, .int .i64 r27], .bool r28]) ∧ Below w.heap.size w w' := by
  have H : ((spec_NegOk.f a0_0 a0_1 a0_2 a0_3 a0_4 a0_5 a0_6 a0_7 a0_8 a0_9 a0_10 a0_11 a0_12 a0_13 a0_14 a0_15 a0_16 a0_17 a0_18 a0_19 a0_20).bind fun t143 => (if t143 = true then ((spec_l1In.f a1_0 1 3).bind fun t144 => (if t144 = true then ((spec_CfgOk.f a1_1 a1_2 a1_3 a1_4 a1_5).bind fun t145 => (if t145 = true then ((spec_l5Hear.f a0_0 a0_1 a0_2 a0_3 a0_4 a0_5 a0_6 a0_7 a0_8 a0_9 a0_10 a0_11 a0_12 a0_13 a0_14 a0_15 a0_16 a0_17 a0_18 a0_19 a0_20 a1_0 a1_1 a1_2 a1_3 a1_4 a1_5).bind fun bt146 => (some (bt146.1, bt146.2.1, bt146.2.2.1, bt146.2.2.2.1, bt146.2.2.2.2.1, bt146.2.2.2.2.2.1, bt146.2.2.2.2.2.2.1, bt146.2.2.2.2.2.2.2.1, bt146.2.2.2.2.2.2.2.2.1, bt146.2.2.2.2.2.2.2.2.2.1, bt146.2.2.2.2.2.2.2.2.2.2.1, bt146.2.2.2.2.2.2.2.2.2.2.2.1, bt146.2.2.2.2.2.2.2.2.2.2.2.2.1, bt146.2.2.2.2.2.2.2.2.2.2.2.2.2.1, bt146.2.2.2.2.2.2.2.2.2.2.2.2.2.2.1, bt146.2.2.2.2.2.2.2.2.2.2.2.2.2.2.2.1, bt146.2.2.2.2.2.2.2.2.2.2.2.2.2.2.2.2.1, bt146.2.2.2.2.2.2.2.2.2.2.2.2.2.2.2.2.2.1, bt146.2.2.2.2.2.2.2.2.2.2.2.2.2.2.2.2.2.2.1, bt146.2.2.2.2.2.2.2.2.2.2.2.2.2.2.2.2.2.2.2.1, bt146.2.2.2.2.2.2.2.2.2.2.2.2.2.2.2.2.2.2.2.2.1, bt146.2.2.2.2.2.2.2.2.2.2.2.2.2.2.2.2.2.2.2.2.2.1, bt146.2.2.2.2.2.2.2.2.2.2.2.2.2.2.2.2.2.2.2.2.2.2.1, bt146.2.2.2.2.2.2.2.2.2.2.2.2.2.2.2.2.2.2.2.2.2.2.2.1, bt146.2.2.2.2.2.2.2.2.2.2.2.2.2.2.2.2.2.2.2.2.2.2.2.2.1, bt146.2.2.2.2.2.2.2.2.2.2.2.2.2.2.2.2.2.2.2.2.2.2.2.2.2.1, bt146.2.2.2.2.2.2.2.2.2.2.2.2.2.2.2.2.2.2.2.2.2.2.2.2.2.2.1, bt146.2.2.2.2.2.2.2.2.2.2.2.2.2.2.2.2.2.2.2.2.2.2.2.2.2.2.2))) else (some (0, 0, 0, 0, 0, 0, 0, 0, 0, 0, 0, 0, 0, 0, 0, 0, 0, 0, 0, 0, false, 0, 0, 0, 0, 0, 0, false)))) else (some (0, 0, 0, 0, 0, 0, 0, 0, 0, 0, 0, 0, 0, 0, 0, 0, 0, 0, 0, 0, false, 0, 0, 0, 0, 0, 0, false)))) else (some (0, 0, 0, 0, 0, 0, 0, 0, 0, 0, 0, 0, 0, 0, 0, 0, 0, 0, 0, 0, false, 0, 0, 0, 0, 0, 0, false)))) = some (r1, r2, r3, r4, r5, r6, r7, r8, r9, r10, r11, r12, r13, r14, r15, r16, r17, r18, r19, r20, r21, r22, r23, r24, r25, r26, r27, r28) := h
  clear h
  replace H := Option.bind_eq_some_iff.mp H
  obtain ⟨t143, A30, H⟩ := H
  try dsimp only at H
  have A3 := mk_ A30
  clear A30
  by_cases c4 : t143 = true
  rotate_left
  · replace c4 := Bool.eq_false_iff.mpr c4
    subst c4
    rw [if_neg Bool.false_ne_true] at H
    try dsimp only at H
    simp only [Option.some.injEq, Prod.mk.injEq] at H
    obtain ⟨rfl, rfl, rfl, rfl, rfl, rfl, rfl, rfl, rfl, rfl, rfl, rfl, rfl, rfl, rfl, rfl, rfl, rfl, rfl, rfl, rfl, rfl, rfl, rfl, rfl, rfl, rfl, rfl⟩ := H
    have HL := mk_ (Lok.start w)
    go_enter Try.func13, Try.ntmps13
    go_wp2_with (first | ((with_reducible refine gate_dst (N := 8) rfl ?_); (with_reducible refine gate_callee (f := 21) rfl ?_); refine goesL_ (some 8) rfl rfl Try.func21 (by kernel_rfl) rfl #[.agg #[.int .i64 a0_0, .int .i64 a0_1, .int .i64 a0_2, .int .i64 a0_3, .int .i64 a0_4, .int .i64 a0_5, .int .i64 a0_6, .int .i64 a0_7, .int .i64 a0_8, .int .i64 a0_9, .int .i64 a0_10, .int .i64 a0_11, .int .i64 a0_12, .int .i64 a0_13, .int .i64 a0_14, .int .i64 a0_15, .int .i64 a0_16, .int .i64 a0_17, .int .i64 a0_18, .int .i64 a0_19, .bool a0_20]] rfl (by (try simp only [List.map_toArray, List.map_cons, List.map_nil]); first | done | rfl) ?_; (with_reducible refine (spec_NegOk.calls a0_0 a0_1 a0_2 a0_3 a0_4 a0_5 a0_6 a0_7 a0_8 a0_9 a0_10 a0_11 a0_12 a0_13 a0_14 a0_15 a0_16 a0_17 a0_18 a0_19 a0_20 false _ A3.out).mono ?_); rintro e w_ ⟨rfl, hb_⟩; refine ⟨_, rfl, ?_⟩; replace HL := mk_ (HL.out.call hb_); clear hb_) | ((with_reducible refine gate_gd rfl ?_); first | ((with_reducible refine gd_on rfl ?_ ?_); rfl; dsimp only) | ((with_reducible refine gd_off rfl ?_ ?_); rfl)) | ((with_reducible refine gate_dst (N := 2) rfl ?_); refine loc_box rfl rfl (by first | (go_simp; done) | (go_simp; rfl)) HL.out ?_; intro gb2 w_ HL_; replace HL := mk_ HL_; clear HL_) | ((with_reducible refine gate_dst (N := 3) rfl ?_); refine loc_box rfl rfl (by first | (go_simp; done) | (go_simp; rfl)) HL.out ?_; intro gb3 w_ HL_; replace HL := mk_ HL_; clear HL_) | ((with_reducible refine gate_dst (N := 4) rfl ?_); refine loc_alloc rfl rfl za30 HL.out ?_; intro gb4 w_ HL_; replace HL := mk_ HL_; clear HL_) | ((with_reducible refine gate_dst (N := 5) rfl ?_); refine loc_alloc rfl rfl za32 HL.out ?_; intro gb5 w_ HL_; replace HL := mk_ HL_; clear HL_) | ((with_reducible refine gate_ld0 (t := 28) rfl ?_); refine loc_load (n := 5) rfl rfl (by kernel_rfl) rfl (by kernel_rfl) HL.out (by with_reducible repeat (first | exact Sel.done | apply Sel.take | apply Sel.skip | apply Get.here | apply Get.next)) ?_) | ((with_reducible refine gate_ld0 (t := 30) rfl ?_); refine loc_load (n := 21) rfl rfl (by kernel_rfl) rfl (by kernel_rfl) HL.out (by with_reducible repeat (first | exact Sel.done | apply Sel.take | apply Sel.skip | apply Get.here | apply Get.next)) ?_) | ((with_reducible refine gate_ld0 (t := 32) rfl ?_); refine loc_load (n := 6) rfl rfl (by kernel_rfl) rfl (by kernel_rfl) HL.out (by with_reducible repeat (first | exact Sel.done | apply Sel.take | apply Sel.skip | apply Get.here | apply Get.next)) ?_) | ((with_reducible refine gate_ld0 rfl ?_); refine loc_load1 rfl rfl (by kernel_rfl) rfl HL.out (by with_reducible repeat (first | exact Sel.done | apply Sel.take | apply Sel.skip | apply Get.here | apply Get.next)) ?_) | ((with_reducible refine gate_st0 rfl ?_); refine loc_store rfl rfl rfl (by first | (go_simp; done) | (go_simp; rfl)) (by kernel_rfl) (by kernel_rfl) HL.out (by with_reducible repeat (first | exact Spl.done | apply Spl.put | apply Spl.skip | apply Upd.here | apply Upd.next)) ?_; intro w_ HL_; replace HL := mk_ HL_; clear HL_))
    refine bodyPost_ret (results_list (rs := [.cell 4 30, .cell 5 32, .tmp 6]) rfl (by simp) (.cell _ 30 _ (0, 0) _ rfl (HL.out.blk (by with_reducible repeat (first | exact Has.here | apply Has.next))) Try.underlying30 rfl (by kernel_rfl) (.cell _ 32 _ (0, 0) _ rfl (HL.out.blk (by with_reducible repeat (first | exact Has.here | apply Has.next))) Try.underlying32 rfl (by kernel_rfl) (.tmp .nil)))) rfl ?_
    exact ⟨by first | rfl | (simp [errW_none, errW_some] <;> rfl) | (simp [*, errW_none, errW_some] <;> rfl), HL.out.bel⟩
  subst c4
  rw [if_pos rfl] at H
  try dsimp only at H
  replace H := Option.bind_eq_some_iff.mp H
  obtain ⟨t144, A50, H⟩ := H
  try dsimp only at H
  have A5 := mk_ A50
  clear A50
  by_cases c6 : t144 = true
  rotate_left
  · replace c6 := Bool.eq_false_iff.mpr c6
    subst c6
    rw [if_neg Bool.false_ne_true] at H
    try dsimp only at H
    simp only [Option.some.injEq, Prod.mk.injEq] at H
    obtain ⟨rfl, rfl, rfl, rfl, rfl, rfl, rfl, rfl, rfl, rfl, rfl, rfl, rfl, rfl, rfl, rfl, rfl, rfl, rfl, rfl, rfl, rfl, rfl, rfl, rfl, rfl, rfl, rfl⟩ := H
    have HL := mk_ (Lok.start w)
    go_enter Try.func13, Try.ntmps13
    go_wp2_with (first | ((with_reducible refine gate_dst (N := 8) rfl ?_); (with_reducible refine gate_callee (f := 21) rfl ?_); refine goesL_ (some 8) rfl rfl Try.func21 (by kernel_rfl) rfl #[.agg #[.int .i64 a0_0, .int .i64 a0_1, .int .i64 a0_2, .int .i64 a0_3, .int .i64 a0_4, .int .i64 a0_5, .int .i64 a0_6, .int .i64 a0_7, .int .i64 a0_8, .int .i64 a0_9, .int .i64 a0_10, .int .i64 a0_11, .int .i64 a0_12, .int .i64 a0_13, .int .i64 a0_14, .int .i64 a0_15, .int .i64 a0_16, .int .i64 a0_17, .int .i64 a0_18, .int .i64 a0_19, .bool a0_20]] rfl (by (try simp only [List.map_toArray, List.map_cons, List.map_nil]); first | done | rfl) ?_; (with_reducible refine (spec_NegOk.calls a0_0 a0_1 a0_2 a0_3 a0_4 a0_5 a0_6 a0_7 a0_8 a0_9 a0_10 a0_11 a0_12 a0_13 a0_14 a0_15 a0_16 a0_17 a0_18 a0_19 a0_20 true _ A3.out).mono ?_); rintro e w_ ⟨rfl, hb_⟩; refine ⟨_, rfl, ?_⟩; replace HL := mk_ (HL.out.call hb_); clear hb_) | ((with_reducible refine gate_dst (N := 13) rfl ?_); (with_reducible refine gate_callee (f := 44) rfl ?_); refine goesL_ (some 13) rfl rfl Try.func44 (by kernel_rfl) rfl #[.int .i64 a1_0, .int .i64 1, .int .i64 3] rfl (by (try simp only [List.map_toArray, List.map_cons, List.map_nil]); first | done | rfl) ?_; (with_reducible refine (spec_l1In.calls a1_0 1 3 false _ A5.out).mono ?_); rintro e w_ ⟨rfl, hb_⟩; refine ⟨_, rfl, ?_⟩; replace HL := mk_ (HL.out.drawn hb_); clear hb_) | ((with_reducible refine gate_gd rfl ?_); first | ((with_reducible refine gd_on rfl ?_ ?_); rfl; dsimp only) | ((with_reducible refine gd_off rfl ?_ ?_); rfl)) | ((with_reducible refine gate_dst (N := 2) rfl ?_); refine loc_box rfl rfl (by first | (go_simp; done) | (go_simp; rfl)) HL.out ?_; intro gb2 w_ HL_; replace HL := mk_ HL_; clear HL_) | ((with_reducible refine gate_dst (N := 3) rfl ?_); refine loc_box rfl rfl (by first | (go_simp; done) | (go_simp; rfl)) HL.out ?_; intro gb3 w_ HL_; replace HL := mk_ HL_; clear HL_) | ((with_reducible refine gate_dst (N := 4) rfl ?_); refine loc_alloc rfl rfl za30 HL.out ?_; intro gb4 w_ HL_; replace HL := mk_ HL_; clear HL_) | ((with_reducible refine gate_dst (N := 5) rfl ?_); refine loc_alloc rfl rfl za32 HL.out ?_; intro gb5 w_ HL_; replace HL := mk_ HL_; clear HL_) | ((with_reducible refine gate_ld0 (t := 28) rfl ?_); refine loc_load (n := 5) rfl rfl (by kernel_rfl) rfl (by kernel_rfl) HL.out (by with_reducible repeat (first | exact Sel.done | apply Sel.take | apply Sel.skip | apply Get.here | apply Get.next)) ?_) | ((with_reducible refine gate_ld0 (t := 30) rfl ?_); refine loc_load (n := 21) rfl rfl (by kernel_rfl) rfl (by kernel_rfl) HL.out (by with_reducible repeat (first | exact Sel.done | apply Sel.take | apply Sel.skip | apply Get.here | apply Get.next)) ?_) | ((with_reducible refine gate_ld0 (t := 32) rfl ?_); refine loc_load (n := 6) rfl rfl (by kernel_rfl) rfl (by kernel_rfl) HL.out (by with_reducible repeat (first | exact Sel.done | apply Sel.take | apply Sel.skip | apply Get.here | apply Get.next)) ?_) | ((with_reducible refine gate_ld0 rfl ?_); refine loc_load1 rfl rfl (by kernel_rfl) rfl HL.out (by with_reducible repeat (first | exact Sel.done | apply Sel.take | apply Sel.skip | apply Get.here | apply Get.next)) ?_) | ((with_reducible refine gate_st0 rfl ?_); refine loc_store rfl rfl rfl (by first | (go_simp; done) | (go_simp; rfl)) (by kernel_rfl) (by kernel_rfl) HL.out (by with_reducible repeat (first | exact Spl.done | apply Spl.put | apply Spl.skip | apply Upd.here | apply Upd.next)) ?_; intro w_ HL_; replace HL := mk_ HL_; clear HL_))
    refine bodyPost_ret (results_list (rs := [.cell 4 30, .cell 5 32, .tmp 6]) rfl (by simp) (.cell _ 30 _ (0, 0) _ rfl (HL.out.blk (by with_reducible repeat (first | exact Has.here | apply Has.next))) Try.underlying30 rfl (by kernel_rfl) (.cell _ 32 _ (0, 0) _ rfl (HL.out.blk (by with_reducible repeat (first | exact Has.here | apply Has.next))) Try.underlying32 rfl (by kernel_rfl) (.tmp .nil)))) rfl ?_
    exact ⟨by first | rfl | (simp [errW_none, errW_some] <;> rfl) | (simp [*, errW_none, errW_some] <;> rfl), HL.out.bel⟩
  subst c6
  rw [if_pos rfl] at H
  try dsimp only at H
  replace H := Option.bind_eq_some_iff.mp H
  obtain ⟨t145, A70, H⟩ := H
  try dsimp only at H
  have A7 := mk_ A70
  clear A70
  by_cases c8 : t145 = true
  rotate_left
  · replace c8 := Bool.eq_false_iff.mpr c8
    subst c8
    rw [if_neg Bool.false_ne_true] at H
    try dsimp only at H
    simp only [Option.some.injEq, Prod.mk.injEq] at H
    obtain ⟨rfl, rfl, rfl, rfl, rfl, rfl, rfl, rfl, rfl, rfl, rfl, rfl, rfl, rfl, rfl, rfl, rfl, rfl, rfl, rfl, rfl, rfl, rfl, rfl, rfl, rfl, rfl, rfl⟩ := H
    have HL := mk_ (Lok.start w)
    go_enter Try.func13, Try.ntmps13
    go_wp2_with (first | ((with_reducible refine gate_dst (N := 8) rfl ?_); (with_reducible refine gate_callee (f := 21) rfl ?_); refine goesL_ (some 8) rfl rfl Try.func21 (by kernel_rfl) rfl #[.agg #[.int .i64 a0_0, .int .i64 a0_1, .int .i64 a0_2, .int .i64 a0_3, .int .i64 a0_4, .int .i64 a0_5, .int .i64 a0_6, .int .i64 a0_7, .int .i64 a0_8, .int .i64 a0_9, .int .i64 a0_10, .int .i64 a0_11, .int .i64 a0_12, .int .i64 a0_13, .int .i64 a0_14, .int .i64 a0_15, .int .i64 a0_16, .int .i64 a0_17, .int .i64 a0_18, .int .i64 a0_19, .bool a0_20]] rfl (by (try simp only [List.map_toArray, List.map_cons, List.map_nil]); first | done | rfl) ?_; (with_reducible refine (spec_NegOk.calls a0_0 a0_1 a0_2 a0_3 a0_4 a0_5 a0_6 a0_7 a0_8 a0_9 a0_10 a0_11 a0_12 a0_13 a0_14 a0_15 a0_16 a0_17 a0_18 a0_19 a0_20 true _ A3.out).mono ?_); rintro e w_ ⟨rfl, hb_⟩; refine ⟨_, rfl, ?_⟩; replace HL := mk_ (HL.out.call hb_); clear hb_) | ((with_reducible refine gate_dst (N := 13) rfl ?_); (with_reducible refine gate_callee (f := 44) rfl ?_); refine goesL_ (some 13) rfl rfl Try.func44 (by kernel_rfl) rfl #[.int .i64 a1_0, .int .i64 1, .int .i64 3] rfl (by (try simp only [List.map_toArray, List.map_cons, List.map_nil]); first | done | rfl) ?_; (with_reducible refine (spec_l1In.calls a1_0 1 3 true _ A5.out).mono ?_); rintro e w_ ⟨rfl, hb_⟩; refine ⟨_, rfl, ?_⟩; replace HL := mk_ (HL.out.drawn hb_); clear hb_) | ((with_reducible refine gate_dst (N := 19) rfl ?_); (with_reducible refine gate_callee (f := 30) rfl ?_); refine goesL_ (some 19) rfl rfl Try.func30 (by kernel_rfl) rfl #[.agg #[.int .i64 a1_1, .int .i64 a1_2, .int .i64 a1_3, .int .i64 a1_4, .int .i64 a1_5]] rfl (by (try simp only [List.map_toArray, List.map_cons, List.map_nil]); first | done | rfl) ?_; (with_reducible refine (spec_CfgOk.calls a1_1 a1_2 a1_3 a1_4 a1_5 false _ A7.out).mono ?_); rintro e w_ ⟨rfl, hb_⟩; refine ⟨_, rfl, ?_⟩; replace HL := mk_ (HL.out.call hb_); clear hb_) | ((with_reducible refine gate_gd rfl ?_); first | ((with_reducible refine gd_on rfl ?_ ?_); rfl; dsimp only) | ((with_reducible refine gd_off rfl ?_ ?_); rfl)) | ((with_reducible refine gate_dst (N := 2) rfl ?_); refine loc_box rfl rfl (by first | (go_simp; done) | (go_simp; rfl)) HL.out ?_; intro gb2 w_ HL_; replace HL := mk_ HL_; clear HL_) | ((with_reducible refine gate_dst (N := 3) rfl ?_); refine loc_box rfl rfl (by first | (go_simp; done) | (go_simp; rfl)) HL.out ?_; intro gb3 w_ HL_; replace HL := mk_ HL_; clear HL_) | ((with_reducible refine gate_dst (N := 4) rfl ?_); refine loc_alloc rfl rfl za30 HL.out ?_; intro gb4 w_ HL_; replace HL := mk_ HL_; clear HL_) | ((with_reducible refine gate_dst (N := 5) rfl ?_); refine loc_alloc rfl rfl za32 HL.out ?_; intro gb5 w_ HL_; replace HL := mk_ HL_; clear HL_) | ((with_reducible refine gate_ld0 (t := 28) rfl ?_); refine loc_load (n := 5) rfl rfl (by kernel_rfl) rfl (by kernel_rfl) HL.out (by with_reducible repeat (first | exact Sel.done | apply Sel.take | apply Sel.skip | apply Get.here | apply Get.next)) ?_) | ((with_reducible refine gate_ld0 (t := 30) rfl ?_); refine loc_load (n := 21) rfl rfl (by kernel_rfl) rfl (by kernel_rfl) HL.out (by with_reducible repeat (first | exact Sel.done | apply Sel.take | apply Sel.skip | apply Get.here | apply Get.next)) ?_) | ((with_reducible refine gate_ld0 (t := 32) rfl ?_); refine loc_load (n := 6) rfl rfl (by kernel_rfl) rfl (by kernel_rfl) HL.out (by with_reducible repeat (first | exact Sel.done | apply Sel.take | apply Sel.skip | apply Get.here | apply Get.next)) ?_) | ((with_reducible refine gate_ld0 rfl ?_); refine loc_load1 rfl rfl (by kernel_rfl) rfl HL.out (by with_reducible repeat (first | exact Sel.done | apply Sel.take | apply Sel.skip | apply Get.here | apply Get.next)) ?_) | ((with_reducible refine gate_st0 rfl ?_); refine loc_store rfl rfl rfl (by first | (go_simp; done) | (go_simp; rfl)) (by kernel_rfl) (by kernel_rfl) HL.out (by with_reducible repeat (first | exact Spl.done | apply Spl.put | apply Spl.skip | apply Upd.here | apply Upd.next)) ?_; intro w_ HL_; replace HL := mk_ HL_; clear HL_))
    refine bodyPost_ret (results_list (rs := [.cell 4 30, .cell 5 32, .tmp 6]) rfl (by simp) (.cell _ 30 _ (0, 0) _ rfl (HL.out.blk (by with_reducible repeat (first | exact Has.here | apply Has.next))) Try.underlying30 rfl (by kernel_rfl) (.cell _ 32 _ (0, 0) _ rfl (HL.out.blk (by with_reducible repeat (first | exact Has.here | apply Has.next))) Try.underlying32 rfl (by kernel_rfl) (.tmp .nil)))) rfl ?_
    exact ⟨by first | rfl | (simp [errW_none, errW_some] <;> rfl) | (simp [*, errW_none, errW_some] <;> rfl), HL.out.bel⟩
  subst c8
  rw [if_pos rfl] at H
  try dsimp only at H
  replace H := Option.bind_eq_some_iff.mp H
  obtain ⟨⟨t146, t147, t148, t149, t150, t151, t152, t153, t154, t155, t156, t157, t158, t159, t160, t161, t162, t163, t164, t165, t166, t167, t168, t169, t170, t171, t172, t173⟩, A90, H⟩ := H
  try dsimp only at H
  have A9 := mk_ A90
  clear A90
  simp only [Option.some.injEq, Prod.mk.injEq] at H
  obtain ⟨rfl, rfl, rfl, rfl, rfl, rfl, rfl, rfl, rfl, rfl, rfl, rfl, rfl, rfl, rfl, rfl, rfl, rfl, rfl, rfl, rfl, rfl, rfl, rfl, rfl, rfl, rfl, rfl⟩ := H
  have HL := mk_ (Lok.start w)
  go_enter Try.func13, Try.ntmps13
  go_wp2_with (first | ((with_reducible refine gate_dst (N := 8) rfl ?_); (with_reducible refine gate_callee (f := 21) rfl ?_); refine goesL_ (some 8) rfl rfl Try.func21 (by kernel_rfl) rfl #[.agg #[.int .i64 a0_0, .int .i64 a0_1, .int .i64 a0_2, .int .i64 a0_3, .int .i64 a0_4, .int .i64 a0_5, .int .i64 a0_6, .int .i64 a0_7, .int .i64 a0_8, .int .i64 a0_9, .int .i64 a0_10, .int .i64 a0_11, .int .i64 a0_12, .int .i64 a0_13, .int .i64 a0_14, .int .i64 a0_15, .int .i64 a0_16, .int .i64 a0_17, .int .i64 a0_18, .int .i64 a0_19, .bool a0_20]] rfl (by (try simp only [List.map_toArray, List.map_cons, List.map_nil]); first | done | rfl) ?_; (with_reducible refine (spec_NegOk.calls a0_0 a0_1 a0_2 a0_3 a0_4 a0_5 a0_6 a0_7 a0_8 a0_9 a0_10 a0_11 a0_12 a0_13 a0_14 a0_15 a0_16 a0_17 a0_18 a0_19 a0_20 true _ A3.out).mono ?_); rintro e w_ ⟨rfl, hb_⟩; refine ⟨_, rfl, ?_⟩; replace HL := mk_ (HL.out.call hb_); clear hb_) | ((with_reducible refine gate_dst (N := 13) rfl ?_); (with_reducible refine gate_callee (f := 44) rfl ?_); refine goesL_ (some 13) rfl rfl Try.func44 (by kernel_rfl) rfl #[.int .i64 a1_0, .int .i64 1, .int .i64 3] rfl (by (try simp only [List.map_toArray, List.map_cons, List.map_nil]); first | done | rfl) ?_; (with_reducible refine (spec_l1In.calls a1_0 1 3 true _ A5.out).mono ?_); rintro e w_ ⟨rfl, hb_⟩; refine ⟨_, rfl, ?_⟩; replace HL := mk_ (HL.out.drawn hb_); clear hb_) | ((with_reducible refine gate_dst (N := 19) rfl ?_); (with_reducible refine gate_callee (f := 30) rfl ?_); refine goesL_ (some 19) rfl rfl Try.func30 (by kernel_rfl) rfl #[.agg #[.int .i64 a1_1, .int .i64 a1_2, .int .i64 a1_3, .int .i64 a1_4, .int .i64 a1_5]] rfl (by (try simp only [List.map_toArray, List.map_cons, List.map_nil]); first | done | rfl) ?_; (with_reducible refine (spec_CfgOk.calls a1_1 a1_2 a1_3 a1_4 a1_5 true _ A7.out).mono ?_); rintro e w_ ⟨rfl, hb_⟩; refine ⟨_, rfl, ?_⟩; replace HL := mk_ (HL.out.call hb_); clear hb_) | ((with_reducible refine gate_dst (N := 26) rfl ?_); (with_reducible refine gate_callee (f := 45) rfl ?_); refine goesL_ (some 26) rfl rfl Try.func45 (by kernel_rfl) rfl #[.agg #[.int .i64 a0_0, .int .i64 a0_1, .int .i64 a0_2, .int .i64 a0_3, .int .i64 a0_4, .int .i64 a0_5, .int .i64 a0_6, .int .i64 a0_7, .int .i64 a0_8, .int .i64 a0_9, .int .i64 a0_10, .int .i64 a0_11, .int .i64 a0_12, .int .i64 a0_13, .int .i64 a0_14, .int .i64 a0_15, .int .i64 a0_16, .int .i64 a0_17, .int .i64 a0_18, .int .i64 a0_19, .bool a0_20], .agg #[.int .i64 a1_0, .int .i64 a1_1, .int .i64 a1_2, .int .i64 a1_3, .int .i64 a1_4, .int .i64 a1_5]] rfl (by (try simp only [List.map_toArray, List.map_cons, List.map_nil]); first | done | rfl) ?_; (with_reducible refine (spec_l5Hear.calls a0_0 a0_1 a0_2 a0_3 a0_4 a0_5 a0_6 a0_7 a0_8 a0_9 a0_10 a0_11 a0_12 a0_13 a0_14 a0_15 a0_16 a0_17 a0_18 a0_19 a0_20 a1_0 a1_1 a1_2 a1_3 a1_4 a1_5 t146 t147 t148 t149 t150 t151 t152 t153 t154 t155 t156 t157 t158 t159 t160 t161 t162 t163 t164 t165 t166 t167 t168 t169 t170 t171 t172 t173 _ A9.out).mono ?_); rintro e w_ ⟨rfl, hb_⟩; refine ⟨_, rfl, ?_⟩; replace HL := mk_ (HL.out.call hb_); clear hb_) | ((with_reducible refine gate_gd rfl ?_); first | ((with_reducible refine gd_on rfl ?_ ?_); rfl; dsimp only) | ((with_reducible refine gd_off rfl ?_ ?_); rfl)) | ((with_reducible refine gate_dst (N := 2) rfl ?_); refine loc_box rfl rfl (by first | (go_simp; done) | (go_simp; rfl)) HL.out ?_; intro gb2 w_ HL_; replace HL := mk_ HL_; clear HL_) | ((with_reducible refine gate_dst (N := 3) rfl ?_); refine loc_box rfl rfl (by first | (go_simp; done) | (go_simp; rfl)) HL.out ?_; intro gb3 w_ HL_; replace HL := mk_ HL_; clear HL_) | ((with_reducible refine gate_dst (N := 4) rfl ?_); refine loc_alloc rfl rfl za30 HL.out ?_; intro gb4 w_ HL_; replace HL := mk_ HL_; clear HL_) | ((with_reducible refine gate_dst (N := 5) rfl ?_); refine loc_alloc rfl rfl za32 HL.out ?_; intro gb5 w_ HL_; replace HL := mk_ HL_; clear HL_) | ((with_reducible refine gate_ld0 (t := 28) rfl ?_); refine loc_load (n := 5) rfl rfl (by kernel_rfl) rfl (by kernel_rfl) HL.out (by with_reducible repeat (first | exact Sel.done | apply Sel.take | apply Sel.skip | apply Get.here | apply Get.next)) ?_) | ((with_reducible refine gate_ld0 (t := 30) rfl ?_); refine loc_load (n := 21) rfl rfl (by kernel_rfl) rfl (by kernel_rfl) HL.out (by with_reducible repeat (first | exact Sel.done | apply Sel.take | apply Sel.skip | apply Get.here | apply Get.next)) ?_) | ((with_reducible refine gate_ld0 (t := 32) rfl ?_); refine loc_load (n := 6) rfl rfl (by kernel_rfl) rfl (by kernel_rfl) HL.out (by with_reducible repeat (first | exact Sel.done | apply Sel.take | apply Sel.skip | apply Get.here | apply Get.next)) ?_) | ((with_reducible refine gate_ld0 rfl ?_); refine loc_load1 rfl rfl (by kernel_rfl) rfl HL.out (by with_reducible repeat (first | exact Sel.done | apply Sel.take | apply Sel.skip | apply Get.here | apply Get.next)) ?_) | ((with_reducible refine gate_st0 rfl ?_); refine loc_store rfl rfl rfl (by first | (go_simp; done) | (go_simp; rfl)) (by kernel_rfl) (by kernel_rfl) HL.out (by with_reducible repeat (first | exact Spl.done | apply Spl.put | apply Spl.skip | apply Upd.here | apply Upd.next)) ?_; intro w_ HL_; replace HL := mk_ HL_; clear HL_))
  refine bodyPost_ret (results_list (rs := [.cell 4 30, .cell 5 32, .tmp 6]) rfl (by simp) (.cell _ 30 _ (0, 0) _ rfl (HL.out.blk (by with_reducible repeat (first | exact Has.here | apply Has.next))) Try.underlying30 rfl (by kernel_rfl) (.cell _ 32 _ (0, 0) _ rfl (HL.out.blk (by with_reducible repeat (first | exact Has.here | apply Has.next))) Try.underlying32 rfl (by kernel_rfl) (.tmp .nil)))) rfl ?_
  exact ⟨by first | rfl | (simp [errW_none, errW_some] <;> rfl) | (simp [*, errW_none, errW_some] <;> rfl), HL.out.bel⟩

/-! ### impl_in: function 47 -/
def impl_in.f (a0 : Int) (a1 : Int) (a2 : Int) : Option (Bool) := if a0 ≥ a1 then (some (decide (a0 ≤ a2))) else (some false)
set_option maxHeartbeats 60000000 in
set_option maxRecDepth 100000 in
theorem impl_in.calls (a0 : Int) (a1 : Int) (a2 : Int) (r : Bool) (w : World) (h : impl_in.f a0 a1 a2 = some r) :
    Calls Try.prog 47 #[.int .i64 a0, .int .i64 a1, .int .i64 a2] w fun e w' => e = .returned (.bool r) ∧ Drawn0 w w' := by
 have H : (if a0 ≥ a1 then (some (decide (a0 ≤ a2))) else (some false)) = some r := h
 clear h
 by_cases c4 : a0 ≥ a1
 · rw [if_pos c4] at H
   have c4b0 : decide (a1 ≤ a0) = true := decide_eq_true c4
   clear c4
   obtain rfl := Option.some.inj H
   go_enter Try.func47, Try.ntmps47
   go_wp2
   go_ret
   exact ⟨by first | rfl | (simp; done) | (simp [*]; done), by repeat (first | exact Drawn0.refl _ | apply Drawn0.step)⟩
 rw [if_neg c4] at H
 have c4b0 : decide (a1 ≤ a0) = false := decide_eq_false c4
 clear c4
 obtain rfl := Option.some.inj H
 go_enter Try.func47, Try.ntmps47
 go_wp2
 go_ret
 exact ⟨by first | rfl | (simp; done) | (simp [*]; done), by repeat (first | exact Drawn0.refl _ | apply Drawn0.step)⟩

/-! ### impl_CfgOk: function 48 -/
def impl_CfgOk.f (a0_0 : Int) (a0_1 : Int) (a0_2 : Int) (a0_3 : Int) (a0_4 : Int) : Option (Bool) := (impl_in.f a0_0 1 2).bind fun t175 => (if t175 = true then ((impl_in.f a0_1 1 4).bind fun t176 => (if t176 = true then ((impl_in.f a0_2 1 8).bind fun t177 => (if t177 = true then ((impl_in.f a0_3 1 24).bind fun t178 => (if t178 = true then ((impl_in.f a0_4 1 5).bind fun t179 => (some t179)) else (some false))) else (some false))) else (some false))) else (some false))
set_option maxHeartbeats 60000000 in
set_option maxRecDepth 100000 in
theorem impl_CfgOk.calls (a0_0 : Int) (a0_1 : Int) (a0_2 : Int) (a0_3 : Int) (a0_4 : Int) (r : Bool) (w : World) (h : impl_CfgOk.f a0_0 a0_1 a0_2 a0_3 a0_4 = some r) :
    Calls Try.prog 48 #[.agg #[.int .i64 a0_0, .int .i64 a0_1, .int .i64 a0_2, .int .i64 a0_3, .int .i64 a0_4]] w fun e w' => e = .returned (.bool r) ∧ Below w.heap.size w w' := by
 have hu28 := Try.underlying28
 have HB := mk_ (Below.refl w.heap.size w)
 have H : ((impl_in.f a0_0 1 2).bind fun t175 => (if t175 = true then ((impl_in.f a0_1 1 4).bind fun t176 => (if t176 = true then ((impl_in.f a0_2 1 8).bind fun t177 => (if t177 = true then ((impl_in.f a0_3 1 24).bind fun t178 => (if t178 = true then ((impl_in.f a0_4 1 5).bind fun t179 => (some t179)) else (some false))) else (some false))) else (some false))) else (some false))) = some r := h
 clear h
 replace H := Option.bind_eq_some_iff.mp H
 obtain ⟨t175, A20, H⟩ := H
 try dsimp only at H
 have A2 := mk_ A20
 clear A20
 by_cases c3 : t175 = true
 rotate_left
 · replace c3 := Bool.eq_false_iff.mpr c3
   subst c3
   have H1 : (some false) = some r := by rw [if_neg (show ¬ (false = true) by decide)] at H; exact H
   clear H
   have H := H1
   clear H1
   obtain rfl := Option.some.inj H
   go_enter Try.func48, Try.ntmps48
   go_wp2_with (first | ((with_reducible refine gate_dst (N := 1) rfl ?_); refine box_event ?hg (N := 1) ?hd (cs := #[.int .i64 a0_0, .int .i64 a0_1, .int .i64 a0_2, .int .i64 a0_3, .int .i64 a0_4]) (t := 28) ?hr ?_; (case hd => rfl); (case hg => rfl); (case hr => first | (go_simp; done) | (go_simp; rfl)); intro gb174 hg w19 hbox hb; have BK174 := mk_ (hbox); have GW174 := mk_ ((by rw [hg]; exact (zr2 (by repeat (first | (with_reducible first | exact HB.out | apply zq7 | apply zq8 | apply zq9) | exact HB.out))) : w.heap.size ≤ gb174)); have GE174 := GW174; replace HB := mk_ (zr3 (by repeat (first | (with_reducible first | exact HB.out | apply zq7 | apply zq8 | apply zq9) | exact HB.out)) hb); clear hb hbox hg; obtain ⟨hcz20_0, hcz20_1, hcz20_2, hcz20_3, hcz20_4⟩ := cz5 BK174.out; obtain ⟨hfz20_0, hfz20_1, hfz20_2, hfz20_3, hfz20_4⟩ := fz5 BK174.out) | ((with_reducible refine gate_callee (f := 47) rfl ?_); refine goesL_ (some 5) rfl rfl Try.func47 (by kernel_rfl) rfl #[.int .i64 a0_0, .int .i64 1, .int .i64 2] rfl (by (try simp only [List.map_toArray, List.map_cons, List.map_nil]); first | done | rfl | (simp only [List.length_drop, List.length_take]; rfl)) ?_; (with_reducible refine (impl_in.calls a0_0 1 2 false _ A2.out).mono ?_); rintro e w' ⟨rfl, ⟨nd, rfl⟩⟩; refine ⟨_, rfl, ?_⟩))
   go_ret
   exact ⟨by first | rfl | (simp [errW_none, errW_some] <;> rfl) | (simp [*, errW_none, errW_some] <;> rfl), by repeat (first | (with_reducible first | exact HB.out | apply zq7 | apply zq8 | apply zq9 | refine zr1 ?_ GE174.out) | exact HB.out)⟩
 subst c3
 have H1 : ((impl_in.f a0_1 1 4).bind fun t176 => (if t176 = true then ((impl_in.f a0_2 1 8).bind fun t177 => (if t177 = true then ((impl_in.f a0_3 1 24).bind fun t178 => (if t178 = true then ((impl_in.f a0_4 1 5).bind fun t179 => (some t179)) else (some false))) else (some false))) else (some false))) = some r := by rw [if_pos rfl] at H; exact H
 clear H
 have H := H1
 clear H1
 replace H := Option.bind_eq_some_iff.mp H
 obtain ⟨t176, A40, H⟩ := H
 try dsimp only at H
 have A4 := mk_ A40
 clear A40
 have HH_ := mk_ H
 clear H
 go_enter Try.func48, Try.ntmps48
 go_wp2_with (first | ((with_reducible refine gate_dst (N := 1) rfl ?_); refine box_event ?hg (N := 1) ?hd (cs := #[.int .i64 a0_0, .int .i64 a0_1, .int .i64 a0_2, .int .i64 a0_3, .int .i64 a0_4]) (t := 28) ?hr ?_; (case hd => rfl); (case hg => rfl); (case hr => first | (go_simp; done) | (go_simp; rfl)); intro gb174 hg w11 hbox hb; have BK174 := mk_ (hbox); have GW174 := mk_ ((by rw [hg]; exact (zr2 (by repeat (first | (with_reducible first | exact HB.out | apply zq7 | apply zq8 | apply zq9) | exact HB.out))) : w.heap.size ≤ gb174)); have GE174 := GW174; replace HB := mk_ (zr3 (by repeat (first | (with_reducible first | exact HB.out | apply zq7 | apply zq8 | apply zq9) | exact HB.out)) hb); clear hb hbox hg; obtain ⟨hcz12_0, hcz12_1, hcz12_2, hcz12_3, hcz12_4⟩ := cz5 BK174.out; obtain ⟨hfz12_0, hfz12_1, hfz12_2, hfz12_3, hfz12_4⟩ := fz5 BK174.out) | ((with_reducible refine gate_callee (f := 47) rfl ?_); refine goesL_ (some 5) rfl rfl Try.func47 (by kernel_rfl) rfl #[.int .i64 a0_0, .int .i64 1, .int .i64 2] rfl (by (try simp only [List.map_toArray, List.map_cons, List.map_nil]); first | done | rfl | (simp only [List.length_drop, List.length_take]; rfl)) ?_; (with_reducible refine (impl_in.calls a0_0 1 2 true _ A2.out).mono ?_); rintro e w' ⟨rfl, ⟨nd, rfl⟩⟩; refine ⟨_, rfl, ?_⟩))
 have H := HH_.out
 clear HH_
 by_cases c5 : t176 = true
 rotate_left
 · replace c5 := Bool.eq_false_iff.mpr c5
   subst c5
   have H1 : (some false) = some r := by rw [if_neg (show ¬ (false = true) by decide)] at H; exact H
   clear H
   have H := H1
   clear H1
   obtain rfl := Option.some.inj H
   go_wp2_with (first | (go_at_call 47; (with_reducible refine (impl_in.calls a0_1 1 4 false _ A4.out).mono ?_); rintro e w' ⟨rfl, ⟨nd, rfl⟩⟩))
   go_ret
   exact ⟨by first | rfl | (simp [errW_none, errW_some] <;> rfl) | (simp [*, errW_none, errW_some] <;> rfl), by repeat (first | (with_reducible first | exact HB.out | apply zq7 | apply zq8 | apply zq9 | refine zr1 ?_ GE174.out) | exact HB.out)⟩
 subst c5
 have H1 : ((impl_in.f a0_2 1 8).bind fun t177 => (if t177 = true then ((impl_in.f a0_3 1 24).bind fun t178 => (if t178 = true then ((impl_in.f a0_4 1 5).bind fun t179 => (some t179)) else (some false))) else (some false))) = some r := by rw [if_pos rfl] at H; exact H
 clear H
 have H := H1
 clear H1
 replace H := Option.bind_eq_some_iff.mp H
 obtain ⟨t177, A60, H⟩ := H
 try dsimp only at H
 have A6 := mk_ A60
 clear A60
 have HH_ := mk_ H
 clear H
 go_wp2_with (first | (go_at_call 47; (with_reducible refine (impl_in.calls a0_1 1 4 true _ A4.out).mono ?_); rintro e w' ⟨rfl, ⟨nd, rfl⟩⟩))
 have H := HH_.out
 clear HH_
 by_cases c7 : t177 = true
 rotate_left
 · replace c7 := Bool.eq_false_iff.mpr c7
   subst c7
   have H1 : (some false) = some r := by rw [if_neg (show ¬ (false = true) by decide)] at H; exact H
   clear H
   have H := H1
   clear H1
   obtain rfl := Option.some.inj H
   go_wp2_with (first | (go_at_call 47; (with_reducible refine (impl_in.calls a0_2 1 8 false _ A6.out).mono ?_); rintro e w' ⟨rfl, ⟨nd, rfl⟩⟩))
   go_ret
   exact ⟨by first | rfl | (simp [errW_none, errW_some] <;> rfl) | (simp [*, errW_none, errW_some] <;> rfl), by repeat (first | (with_reducible first | exact HB.out | apply zq7 | apply zq8 | apply zq9 | refine zr1 ?_ GE174.out) | exact HB.out)⟩
 subst c7
 have H1 : ((impl_in.f a0_3 1 24).bind fun t178 => (if t178 = true then ((impl_in.f a0_4 1 5).bind fun t179 => (some t179)) else (some false))) = some r := by rw [if_pos rfl] at H; exact H
 clear H
 have H := H1
 clear H1
 replace H := Option.bind_eq_some_iff.mp H
 obtain ⟨t178, A80, H⟩ := H
 try dsimp only at H
 have A8 := mk_ A80
 clear A80
 have HH_ := mk_ H
 clear H
 go_wp2_with (first | (go_at_call 47; (with_reducible refine (impl_in.calls a0_2 1 8 true _ A6.out).mono ?_); rintro e w' ⟨rfl, ⟨nd, rfl⟩⟩))
 have H := HH_.out
 clear HH_
 by_cases c9 : t178 = true
 rotate_left
 · replace c9 := Bool.eq_false_iff.mpr c9
   subst c9
   have H1 : (some false) = some r := by rw [if_neg (show ¬ (false = true) by decide)] at H; exact H
   clear H
   have H := H1
   clear H1
   obtain rfl := Option.some.inj H
   go_wp2_with (first | (go_at_call 47; (with_reducible refine (impl_in.calls a0_3 1 24 false _ A8.out).mono ?_); rintro e w' ⟨rfl, ⟨nd, rfl⟩⟩))
   go_ret
   exact ⟨by first | rfl | (simp [errW_none, errW_some] <;> rfl) | (simp [*, errW_none, errW_some] <;> rfl), by repeat (first | (with_reducible first | exact HB.out | apply zq7 | apply zq8 | apply zq9 | refine zr1 ?_ GE174.out) | exact HB.out)⟩
 subst c9
 have H1 : ((impl_in.f a0_4 1 5).bind fun t179 => (some t179)) = some r := by rw [if_pos rfl] at H; exact H
 clear H
 have H := H1
 clear H1
 replace H := Option.bind_eq_some_iff.mp H
 obtain ⟨t179, A100, H⟩ := H
 try dsimp only at H
 have A10 := mk_ A100
 clear A100
 obtain rfl := Option.some.inj H
 go_wp2_with (first | (go_at_call 47; (with_reducible refine (impl_in.calls a0_3 1 24 true _ A8.out).mono ?_); rintro e w' ⟨rfl, ⟨nd, rfl⟩⟩) | (go_at_call 47; (with_reducible refine (impl_in.calls a0_4 1 5 t179 _ A10.out).mono ?_); rintro e w' ⟨rfl, ⟨nd, rfl⟩⟩))
 go_ret
 exact ⟨by first | rfl | (simp [errW_none, errW_some] <;> rfl) | (simp [*, errW_none, errW_some] <;> rfl), by repeat (first | (with_reducible first | exact HB.out | apply zq7 | apply zq8 | apply zq9 | refine zr1 ?_ GE174.out) | exact HB.out)⟩

/-! ### impl_CfgOpts_may: function 52 -/
def impl_CfgOpts_may.f (a0_0 : Int) (a0_1 : Int) (a0_2 : Int) (a0_3 : Int) (a0_4 : Int) (a1 : Int) : Option (Bool) := if (a0_0 == 0 && (a0_1 == 0 && (a0_2 == 0 && (a0_3 == 0 && (a0_4 == 0))))) = true then (some true) else ((impl_CfgOk.f a0_0 a0_1 a0_2 a0_3 a0_4).bind fun t181 => (if t181 = true then (some (a0_0 == a1)) else (some false)))
set_option maxHeartbeats 60000000 in
set_option maxRecDepth 100000 in
theorem impl_CfgOpts_may.calls (a0_0 : Int) (a0_1 : Int) (a0_2 : Int) (a0_3 : Int) (a0_4 : Int) (a1 : Int) (r : Bool) (w : World) (h : impl_CfgOpts_may.f a0_0 a0_1 a0_2 a0_3 a0_4 a1 = some r) :
    Calls Try.prog 52 #[.agg #[.int .i64 a0_0, .int .i64 a0_1, .int .i64 a0_2, .int .i64 a0_3, .int .i64 a0_4], .int .i64 a1] w fun e w' => e = .returned (.bool r) ∧ Below w.heap.size w w' := by
  have H : (if (a0_0 == 0 && (a0_1 == 0 && (a0_2 == 0 && (a0_3 == 0 && (a0_4 == 0))))) = true then (some true) else ((impl_CfgOk.f a0_0 a0_1 a0_2 a0_3 a0_4).bind fun t181 => (if t181 = true then (some (a0_0 == a1)) else (some false)))) = some r := h
  clear h
  by_cases c3 : (a0_0 == 0 && (a0_1 == 0 && (a0_2 == 0 && (a0_3 == 0 && (a0_4 == 0))))) = true
  · rw [if_pos c3] at H
    have c3b0 : (a0_0 == 0 && (a0_1 == 0 && (a0_2 == 0 && (a0_3 == 0 && (a0_4 == 0))))) = true := c3
    (try (have c3b1 : decide (a0_0 = 0 && (a0_1 == 0 && (a0_2 == 0 && (a0_3 == 0 && (a0_4 == 0))))) = true := by simpa using c3))
    (try (have c3b2 : (a0_0 == 0 && (a0_1 == 0 && (a0_2 == 0 && (a0_3 == 0 && (a0_4 == 0))))) = true := by simpa using c3))
    try dsimp only at H
    clear c3
    obtain rfl := Option.some.inj H
    have HL := mk_ (Lok.start w)
    go_enter Try.func52, Try.ntmps52
    go_wp2_with (first | ((with_reducible refine gate_gd rfl ?_); first | ((with_reducible refine gd_on rfl ?_ ?_); rfl; dsimp only) | ((with_reducible refine gd_off rfl ?_ ?_); rfl)) | ((with_reducible refine gate_dst (N := 2) rfl ?_); refine loc_box rfl rfl (by first | (go_simp; done) | (go_simp; rfl)) HL.out ?_; intro gb2 w_ HL_; replace HL := mk_ HL_; clear HL_) | ((with_reducible refine gate_ld0 (t := 28) rfl ?_); refine loc_load (n := 5) rfl rfl (by kernel_rfl) rfl (by kernel_rfl) HL.out (by with_reducible repeat (first | exact Sel.done | apply Sel.take | apply Sel.skip | apply Get.here | apply Get.next)) ?_) | ((with_reducible refine gate_ld0 rfl ?_); refine loc_load1 rfl rfl (by kernel_rfl) rfl HL.out (by with_reducible repeat (first | exact Sel.done | apply Sel.take | apply Sel.skip | apply Get.here | apply Get.next)) ?_) | ((with_reducible refine gate_st0 rfl ?_); refine loc_store rfl rfl rfl (by first | (go_simp; done) | (go_simp; rfl)) (by kernel_rfl) (by kernel_rfl) HL.out (by with_reducible repeat (first | exact Spl.done | apply Spl.put | apply Spl.skip | apply Upd.here | apply Upd.next)) ?_; intro w_ HL_; replace HL := mk_ HL_; clear HL_))
    go_ret
    exact ⟨by first | rfl | (simp [errW_none, errW_some] <;> rfl) | (simp [*, errW_none, errW_some] <;> rfl), HL.out.bel⟩
  rw [if_neg c3] at H
  have c3b0 : (a0_0 == 0 && (a0_1 == 0 && (a0_2 == 0 && (a0_3 == 0 && (a0_4 == 0))))) = false := by simpa using c3
  (try (have c3b1 : decide (a0_0 = 0 && (a0_1 == 0 && (a0_2 == 0 && (a0_3 == 0 && (a0_4 == 0))))) = false := by simpa using c3))
  (try (have c3b2 : (a0_0 == 0 && (a0_1 == 0 && (a0_2 == 0 && (a0_3 == 0 && (a0_4 == 0))))) = false := by simpa using c3))
  (try (have c3b3 : ¬ (a0_0 = 0 && (a0_1 == 0 && (a0_2 == 0 && (a0_3 == 0 && (a0_4 == 0))))) := by simpa using c3))
  try dsimp only at H
  clear c3
  replace H := Option.bind_eq_some_iff.mp H
  obtain ⟨t181, A40, H⟩ := H
  try dsimp only at H
  have A4 := mk_ A40
  clear A40
  by_cases c5 : t181 = true
  · subst c5
    rw [if_pos rfl] at H
    try dsimp only at H
    obtain rfl := Option.some.inj H
    have HL := mk_ (Lok.start w)
    go_enter Try.func52, Try.ntmps52
    go_wp2_with (first | ((with_reducible refine gate_dst (N := 10) rfl ?_); (with_reducible refine gate_callee (f := 48) rfl ?_); refine goesL_ (some 10) rfl rfl Try.func48 (by kernel_rfl) rfl #[.agg #[.int .i64 a0_0, .int .i64 a0_1, .int .i64 a0_2, .int .i64 a0_3, .int .i64 a0_4]] rfl (by (try simp only [List.map_toArray, List.map_cons, List.map_nil]); first | done | rfl) ?_; (with_reducible refine (impl_CfgOk.calls a0_0 a0_1 a0_2 a0_3 a0_4 true _ A4.out).mono ?_); rintro e w_ ⟨rfl, hb_⟩; refine ⟨_, rfl, ?_⟩; replace HL := mk_ (HL.out.call hb_); clear hb_) | ((with_reducible refine gate_gd rfl ?_); first | ((with_reducible refine gd_on rfl ?_ ?_); rfl; dsimp only) | ((with_reducible refine gd_off rfl ?_ ?_); rfl)) | ((with_reducible refine gate_dst (N := 2) rfl ?_); refine loc_box rfl rfl (by first | (go_simp; done) | (go_simp; rfl)) HL.out ?_; intro gb2 w_ HL_; replace HL := mk_ HL_; clear HL_) | ((with_reducible refine gate_ld0 (t := 28) rfl ?_); refine loc_load (n := 5) rfl rfl (by kernel_rfl) rfl (by kernel_rfl) HL.out (by with_reducible repeat (first | exact Sel.done | apply Sel.take | apply Sel.skip | apply Get.here | apply Get.next)) ?_) | ((with_reducible refine gate_ld0 rfl ?_); refine loc_load1 rfl rfl (by kernel_rfl) rfl HL.out (by with_reducible repeat (first | exact Sel.done | apply Sel.take | apply Sel.skip | apply Get.here | apply Get.next)) ?_) | ((with_reducible refine gate_st0 rfl ?_); refine loc_store rfl rfl rfl (by first | (go_simp; done) | (go_simp; rfl)) (by kernel_rfl) (by kernel_rfl) HL.out (by with_reducible repeat (first | exact Spl.done | apply Spl.put | apply Spl.skip | apply Upd.here | apply Upd.next)) ?_; intro w_ HL_; replace HL := mk_ HL_; clear HL_))
    go_ret
    exact ⟨by first | rfl | (simp [errW_none, errW_some] <;> rfl) | (simp [*, errW_none, errW_some] <;> rfl), HL.out.bel⟩
  replace c5 := Bool.eq_false_iff.mpr c5
  subst c5
  rw [if_neg Bool.false_ne_true] at H
  try dsimp only at H
  obtain rfl := Option.some.inj H
  have HL := mk_ (Lok.start w)
  go_enter Try.func52, Try.ntmps52
  go_wp2_with (first | ((with_reducible refine gate_dst (N := 10) rfl ?_); (with_reducible refine gate_callee (f := 48) rfl ?_); refine goesL_ (some 10) rfl rfl Try.func48 (by kernel_rfl) rfl #[.agg #[.int .i64 a0_0, .int .i64 a0_1, .int .i64 a0_2, .int .i64 a0_3, .int .i64 a0_4]] rfl (by (try simp only [List.map_toArray, List.map_cons, List.map_nil]); first | done | rfl) ?_; (with_reducible refine (impl_CfgOk.calls a0_0 a0_1 a0_2 a0_3 a0_4 false _ A4.out).mono ?_); rintro e w_ ⟨rfl, hb_⟩; refine ⟨_, rfl, ?_⟩; replace HL := mk_ (HL.out.call hb_); clear hb_) | ((with_reducible refine gate_gd rfl ?_); first | ((with_reducible refine gd_on rfl ?_ ?_); rfl; dsimp only) | ((with_reducible refine gd_off rfl ?_ ?_); rfl)) | ((with_reducible refine gate_dst (N := 2) rfl ?_); refine loc_box rfl rfl (by first | (go_simp; done) | (go_simp; rfl)) HL.out ?_; intro gb2 w_ HL_; replace HL := mk_ HL_; clear HL_) | ((with_reducible refine gate_ld0 (t := 28) rfl ?_); refine loc_load (n := 5) rfl rfl (by kernel_rfl) rfl (by kernel_rfl) HL.out (by with_reducible repeat (first | exact Sel.done | apply Sel.take | apply Sel.skip | apply Get.here | apply Get.next)) ?_) | ((with_reducible refine gate_ld0 rfl ?_); refine loc_load1 rfl rfl (by kernel_rfl) rfl HL.out (by with_reducible repeat (first | exact Sel.done | apply Sel.take | apply Sel.skip | apply Get.here | apply Get.next)) ?_) | ((with_reducible refine gate_st0 rfl ?_); refine loc_store rfl rfl rfl (by first | (go_simp; done) | (go_simp; rfl)) (by kernel_rfl) (by kernel_rfl) HL.out (by with_reducible repeat (first | exact Spl.done | apply Spl.put | apply Spl.skip | apply Upd.here | apply Upd.next)) ?_; intro w_ HL_; replace HL := mk_ HL_; clear HL_))
  go_ret
  exact ⟨by first | rfl | (simp [errW_none, errW_some] <;> rfl) | (simp [*, errW_none, errW_some] <;> rfl), HL.out.bel⟩

end Go.Proofs.Ytoigmeiollfklaa.QFnNegHear
