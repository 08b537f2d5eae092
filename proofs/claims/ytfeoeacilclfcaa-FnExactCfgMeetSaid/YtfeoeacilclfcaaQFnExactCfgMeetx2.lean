-- Written by a program of this session, a turned copy of the print (not by print.sh itself). Lean checks it.
import Derived.Test.YtfeoeacilclfcaaQFnExactCfgMeetx0
import Derived.Test.YtfeoeacilclfcaaQFnExactCfgMeetx1
namespace Go.Proofs.Ytfeoeacilclfcaa.QFnExactCfgMeet
open Go.RowKit Go.Proofs.YtfeoeacilclfcaaW.PrintWords Go.Proofs.YtfeoeacilclfcaaW.PrintLast Go.Proofs.YtfeoeacilclfcaaW.PrintMore
attribute [local go_sem] max2_int min2_int max_two min_two max_three min_three max_four min_four   -- for this text's walks alone
set_option linter.unusedVariables false
set_option linter.unusedSimpArgs false

/-! ### laws_FnExactCfgMeet: function 8 -/
def laws_FnExactCfgMeet.f (a0_0 : Int) (a0_1 : Int) (a0_2 : Int) (a0_3 : Int) (a0_4 : Int) (a1_0 : Int) (a1_1 : Int) (a1_2 : Int) (a1_3 : Int) (a1_4 : Int) : Option (Bool) := (laws_toCfgOpts.f a0_0 a0_1 a0_2 a0_3 a0_4).bind fun bt138 => ((laws_toCfgOpts.f a1_0 a1_1 a1_2 a1_3 a1_4).bind fun bt143 => ((spec_CfgMeet.f bt138.1 bt138.2.1 bt138.2.2.1 bt138.2.2.2.1 bt138.2.2.2.2 bt143.1 bt143.2.1 bt143.2.2.1 bt143.2.2.2.1 bt143.2.2.2.2).bind fun bt148 => ((laws_toCfgOpts.f a0_0 a0_1 a0_2 a0_3 a0_4).bind fun bt155 => ((laws_toCfgOpts.f a1_0 a1_1 a1_2 a1_3 a1_4).bind fun bt160 => ((impl_CfgMeet.f bt155.1 bt155.2.1 bt155.2.2.1 bt155.2.2.2.1 bt155.2.2.2.2 bt160.1 bt160.2.1 bt160.2.2.1 bt160.2.2.2.1 bt160.2.2.2.2).bind fun bt165 => ((laws_eqCfgOpts.f bt165.1 bt165.2.1 bt165.2.2.1 bt165.2.2.2.1 bt165.2.2.2.2.1 bt148.1 bt148.2.1 bt148.2.2.1 bt148.2.2.2.1 bt148.2.2.2.2.1).bind fun t172 => (if t172 = true then (if (bt165.2.2.2.2.2 != bt148.2.2.2.2.2) = true then (some false) else (some true)) else (some false))))))))
def laws_FnExactCfgMeet.T1 : Bool × List (List Nat × List Nat) := (true, [([], []), ([0], [0]), ([], []), ([2, 1], [2]), ([1, 3, 3], [1, 3]), ([4], [4]), ([5], [5]), ([5], [5]), ([], []), ([8, 6, 4, 0, 1, 2, 3, 4, 5, 6, 8], [6, 8]), ([7, 9, 0, 1, 2, 3, 4, 5, 6, 7, 8, 9], [7])])
def laws_FnExactCfgMeet.B1 : List Nat := [0, 1, 0, 7, 15, 31, 63, 63, 0, 383, 1023]
theorem laws_FnExactCfgMeet.tab1 : rtab .any (opsOf Try.f8 1) = laws_FnExactCfgMeet.T1 := by kernel_rfl
theorem laws_FnExactCfgMeet.bits1 : waitsOk laws_FnExactCfgMeet.T1.2 laws_FnExactCfgMeet.B1 = true := by kernel_rfl
def laws_FnExactCfgMeet.T2 : Bool × List (List Nat × List Nat) := (true, [([], []), ([0], [0]), ([], []), ([2, 1], [2]), ([1, 3, 3], [1, 3]), ([4], [4]), ([5], [5]), ([5], [5]), ([], []), ([8, 6, 4, 0, 1, 2, 3, 4, 5, 6, 8], [6, 8]), ([7, 9, 0, 1, 2, 3, 4, 5, 6, 7, 8, 9], [7])])
def laws_FnExactCfgMeet.B2 : List Nat := [0, 1, 0, 7, 15, 31, 63, 63, 0, 383, 1023]
theorem laws_FnExactCfgMeet.tab2 : rtab .any (opsOf Try.f8 2) = laws_FnExactCfgMeet.T2 := by kernel_rfl
theorem laws_FnExactCfgMeet.bits2 : waitsOk laws_FnExactCfgMeet.T2.2 laws_FnExactCfgMeet.B2 = true := by kernel_rfl
set_option maxHeartbeats 8000000 in
set_option maxRecDepth 100000 in
theorem laws_FnExactCfgMeet.calls (a0_0 : Int) (a0_1 : Int) (a0_2 : Int) (a0_3 : Int) (a0_4 : Int) (a1_0 : Int) (a1_1 : Int) (a1_2 : Int) (a1_3 : Int) (a1_4 : Int) (r : Bool) (w : World) (h : laws_FnExactCfgMeet.f a0_0 a0_1 a0_2 a0_3 a0_4 a1_0 a1_1 a1_2 a1_3 a1_4 = some r) :
    Calls Try.prog 8 #[.agg #[.int .i64 a0_0, .int .i64 a0_1, .int .i64 a0_2, .int .i64 a0_3, .int .i64 a0_4], .agg #[.int .i64 a1_0, .int .i64 a1_1, .int .i64 a1_2, .int .i64 a1_3, .int .i64 a1_4]] w fun e w' => e = .returned (.bool r) ∧ Below w.heap.size w w' := by
 have hu25 := Try.underlying25
 have hu29 := Try.underlying29
 have HB := mk_ (Below.refl w.heap.size w)
 have H : ((laws_toCfgOpts.f a0_0 a0_1 a0_2 a0_3 a0_4).bind fun bt138 => ((laws_toCfgOpts.f a1_0 a1_1 a1_2 a1_3 a1_4).bind fun bt143 => ((spec_CfgMeet.f bt138.1 bt138.2.1 bt138.2.2.1 bt138.2.2.2.1 bt138.2.2.2.2 bt143.1 bt143.2.1 bt143.2.2.1 bt143.2.2.2.1 bt143.2.2.2.2).bind fun bt148 => ((laws_toCfgOpts.f a0_0 a0_1 a0_2 a0_3 a0_4).bind fun bt155 => ((laws_toCfgOpts.f a1_0 a1_1 a1_2 a1_3 a1_4).bind fun bt160 => ((impl_CfgMeet.f bt155.1 bt155.2.1 bt155.2.2.1 bt155.2.2.2.1 bt155.2.2.2.2 bt160.1 bt160.2.1 bt160.2.2.1 bt160.2.2.2.1 bt160.2.2.2.2).bind fun bt165 => ((laws_eqCfgOpts.f bt165.1 bt165.2.1 bt165.2.2.1 bt165.2.2.2.1 bt165.2.2.2.2.1 bt148.1 bt148.2.1 bt148.2.2.1 bt148.2.2.2.1 bt148.2.2.2.2.1).bind fun t172 => (if t172 = true then (if (bt165.2.2.2.2.2 != bt148.2.2.2.2.2) = true then (some false) else (some true)) else (some false))))))))) = some r := h
 clear h
 replace H := Option.bind_eq_some_iff.mp H
 obtain ⟨⟨t138, t139, t140, t141, t142⟩, A30, H⟩ := H
 try dsimp only at H
 have A3 := mk_ A30
 clear A30
 replace H := Option.bind_eq_some_iff.mp H
 obtain ⟨⟨t143, t144, t145, t146, t147⟩, A40, H⟩ := H
 try dsimp only at H
 have A4 := mk_ A40
 clear A40
 replace H := Option.bind_eq_some_iff.mp H
 obtain ⟨⟨t148, t149, t150, t151, t152, t153⟩, A50, H⟩ := H
 try dsimp only at H
 have A5 := mk_ A50
 clear A50
 replace H := Option.bind_eq_some_iff.mp H
 obtain ⟨⟨t155, t156, t157, t158, t159⟩, A60, H⟩ := H
 try dsimp only at H
 have A6 := mk_ A60
 clear A60
 replace H := Option.bind_eq_some_iff.mp H
 obtain ⟨⟨t160, t161, t162, t163, t164⟩, A70, H⟩ := H
 try dsimp only at H
 have A7 := mk_ A70
 clear A70
 replace H := Option.bind_eq_some_iff.mp H
 obtain ⟨⟨t165, t166, t167, t168, t169, t170⟩, A80, H⟩ := H
 try dsimp only at H
 have A8 := mk_ A80
 clear A80
 replace H := Option.bind_eq_some_iff.mp H
 obtain ⟨t172, A90, H⟩ := H
 try dsimp only at H
 have A9 := mk_ A90
 clear A90
 by_cases c10 : t172 = true
 rotate_left
 · replace c10 := Bool.eq_false_iff.mpr c10
   subst c10
   have H1 : (some false) = some r := by rw [if_neg (show ¬ (false = true) by decide)] at H; exact H
   clear H
   have H := H1
   clear H1
   obtain rfl := Option.some.inj H
   go_enter Try.func8, Try.ntmps8
   try go_wp2_with (first | ((with_reducible refine gate_dst (N := 2) rfl ?_); refine box_event ?hg (N := 2) ?hd (cs := #[.int .i64 a0_0, .int .i64 a0_1, .int .i64 a0_2, .int .i64 a0_3, .int .i64 a0_4]) (t := 25) ?hr ?_; (case hd => rfl); (case hg => rfl); (case hr => first | (go_simp; done) | (go_simp; rfl)); intro gb136 hg w76 hbox hb; have n0_ := mk_ (r3 (by repeat (first | (with_reducible first | exact HB.out | apply q7 | apply q8 | apply q9) | exact HB.out)) hb); have n1_ := mk_ (hbox); have n2_ := mk_ ((by rw [hg]; exact (r2 (by repeat (first | (with_reducible first | exact HB.out | apply q7 | apply q8 | apply q9) | exact HB.out))) : w.heap.size ≤ gb136)); have n3_ := mk_ ((by rw [hg]; exact (r2 (by repeat (first | (with_reducible first | exact HB.out | apply q7 | apply q8 | apply q9) | exact HB.out))) : w.heap.size ≤ gb136)); clear HB; have HB := n0_; have BK136 := n1_; have GW136 := n2_; have GE136 := n3_; clear n0_ n1_ n2_ n3_; clear hb hbox hg) | ((with_reducible refine gate_dst (N := 3) rfl ?_); refine box_event ?hg (N := 3) ?hd (cs := #[.int .i64 a1_0, .int .i64 a1_1, .int .i64 a1_2, .int .i64 a1_3, .int .i64 a1_4]) (t := 25) ?hr ?_; (case hd => rfl); (case hg => rfl); (case hr => first | (go_simp; done) | (go_simp; rfl)); intro gb137 hg w77 hbox hb; have n0_ := mk_ (q6 (g := gb136) (o := .cells #[.int .i64 a0_0, .int .i64 a0_1, .int .i64 a0_2, .int .i64 a0_3, .int .i64 a0_4] 25 (0, 0)) (by (with_reducible repeat (first | refine q1 ?_ _ | refine q2 ?_ | refine q3 ?_ _)); exact BK136.out) hb); have n1_ := mk_ (r3 (by repeat (first | (with_reducible first | exact HB.out | apply q7 | apply q8 | apply q9 | refine r1 ?_ GE136.out) | exact HB.out)) hb); have n2_ := mk_ (hbox); have n3_ := mk_ ((by rw [hg]; exact (r2 (by repeat (first | (with_reducible first | exact HB.out | apply q7 | apply q8 | apply q9 | refine r1 ?_ GE136.out) | exact HB.out))) : w.heap.size ≤ gb137)); have n4_ := mk_ ((by rw [hg]; exact (r2 (by repeat (first | (with_reducible first | exact HB.out | apply q7 | apply q8 | apply q9 | refine r1 ?_ GE136.out) | exact HB.out))) : w.heap.size ≤ gb137)); have n5_ := mk_ ((by rw [hg]; exact m2 (r6 (g := gb136) (o := .cells #[.int .i64 a0_0, .int .i64 a0_1, .int .i64 a0_2, .int .i64 a0_3, .int .i64 a0_4] 25 (0, 0)) (by (with_reducible repeat (first | refine q1 ?_ _ | refine q2 ?_ | refine q3 ?_ _)); exact BK136.out)) : gb136 ≠ gb137)); have n6_ := mk_ ((by rw [hg]; exact m3 (r6 (g := gb136) (o := .cells #[.int .i64 a0_0, .int .i64 a0_1, .int .i64 a0_2, .int .i64 a0_3, .int .i64 a0_4] 25 (0, 0)) (by (with_reducible repeat (first | refine q1 ?_ _ | refine q2 ?_ | refine q3 ?_ _)); exact BK136.out)) : gb137 ≠ gb136)); clear BK136; clear HB; have BK136 := n0_; have HB := n1_; have BK137 := n2_; have GW137 := n3_; have GE137 := n4_; have NB136_137 := n5_; have NB137_136 := n6_; clear n0_ n1_ n2_ n3_ n4_ n5_ n6_; clear hb hbox hg))
   have n0_ := mk_ (q2 BK136.out)
   have n1_ := mk_ (q2 BK137.out)
   have n2_ := mk_ (q9 HB.out)
   clear BK136
   clear BK137
   clear HB
   have BK136 := n0_
   have BK137 := n1_
   have HB := n2_
   clear n0_ n1_ n2_
   refine start_ (n := 11) (S := fun w' => True) (ds := []) #[false, false, false, false, false, false, false, false, false, false, false] (by kernel_rfl) rfl rfl trivial (fun hHeld => ?_); refine with_tabW laws_FnExactCfgMeet.tab1 laws_FnExactCfgMeet.bits1 (fun HT_ HW_ => ?_)
   generalize w77.drew = w78 at BK136 BK137 HB hHeld ⊢
   refine inv_at [0, 1, 2, 3, 4, 5, 6, 7, 8, 9, 10] (fun a0_ b a w' => ∃ (gb154 : Nat) (m8_ : Value), a = putSel a0_ b [(0, 10, .agg #[.int .i64 a0_0, .int .i64 a0_1, .int .i64 a0_2, .int .i64 a0_3, .int .i64 a0_4]), (1, 11, .agg #[.int .i64 t138, .int .i64 t139, .int .i64 t140, .int .i64 t141, .int .i64 t142]), (2, 12, .agg #[.int .i64 a1_0, .int .i64 a1_1, .int .i64 a1_2, .int .i64 a1_3, .int .i64 a1_4]), (3, 13, .agg #[.int .i64 t143, .int .i64 t144, .int .i64 t145, .int .i64 t146, .int .i64 t147]), (4, 14, .tuple #[.agg #[.int .i64 t148, .int .i64 t149, .int .i64 t150, .int .i64 t151, .int .i64 t152], .bool t153]), (5, 9, .tuple #[.agg #[.int .i64 t148, .int .i64 t149, .int .i64 t150, .int .i64 t151, .int .i64 t152], .bool t153]), (6, 15, .agg #[.int .i64 t148, .int .i64 t149, .int .i64 t150, .int .i64 t151, .int .i64 t152]), (7, 16, .bool t153), (8, 5, m8_), (10, 6, .bool t153)] ∧ (w'.heap[gb136]? = some (.cells #[.int .i64 a0_0, .int .i64 a0_1, .int .i64 a0_2, .int .i64 a0_3, .int .i64 a0_4] 25 (0, 0))) ∧ (w'.heap[gb137]? = some (.cells #[.int .i64 a1_0, .int .i64 a1_1, .int .i64 a1_2, .int .i64 a1_3, .int .i64 a1_4] 25 (0, 0))) ∧ (Below w.heap.size w w') ∧ (b 8 = true → b 9 = false → w'.heap[gb154]? = some (.cells #[.int .i64 0, .int .i64 0, .int .i64 0, .int .i64 0, .int .i64 0] 29 (0, 0))) ∧ (b 8 = true → w.heap.size ≤ gb154) ∧ (b 8 = true → w.heap.size ≤ gb154) ∧ (b 8 = true → gb136 ≠ gb154) ∧ (b 8 = true → gb154 ≠ gb136) ∧ (b 8 = true → gb137 ≠ gb154) ∧ (b 8 = true → gb154 ≠ gb137) ∧ (b 9 = true → w'.heap[gb154]? = some (.cells #[.int .i64 t148, .int .i64 t149, .int .i64 t150, .int .i64 t151, .int .i64 t152] 29 (0, 0))) ∧ (b 8 = true → (m8_ : Value) = .pointer (some ⟨gb154, 0, none⟩))) HT_.out HW_.out (by kernel_rfl) (by kernel_rfl) ?_ ?_ ?_
   · exact ⟨0, .bool false, by simp only [putSel, Bool.false_eq_true, if_false], BK136.out, BK137.out, HB.out, fun h_ => absurd h_ (by decide), fun h_ => absurd h_ (by decide), fun h_ => absurd h_ (by decide), fun h_ => absurd h_ (by decide), fun h_ => absurd h_ (by decide), fun h_ => absurd h_ (by decide), fun h_ => absurd h_ (by decide), fun h_ => absurd h_ (by decide), fun h_ => absurd h_ (by decide)⟩
   · skip
     clear BK136 BK137 HB
     refine steps_cons ?_ ?_
     · rintro b a w' ⟨gb154, m8_, ha, Q_BK136, Q_BK137, Q_HB, Q_BK154, Q_GW154, Q_GE154, Q_NB136_154, Q_NB154_136, Q_NB137_154, Q_NB154_137, Q_BK154_e9, Q_X8_⟩ hb_ hon hoff
       refine ⟨_, rfl, fun K hK => ?_⟩
       have e2 : a.tmps[2]? = some (.pointer (some ⟨gb136, 0, none⟩)) := by rw [ha]; exact (putSel_off rfl).trans rfl
       replace ha := mk_ ha
       have BK136 := mk_ Q_BK136
       have BK137 := mk_ Q_BK137
       have HB := mk_ Q_HB
       have hc0_ : w'.cell? ⟨gb136, 0, none⟩ = some (.int .i64 a0_0) := (r4 BK136.out 0).trans rfl
       have hc1_ : w'.cell? ⟨gb136, 1, none⟩ = some (.int .i64 a0_1) := (r4 BK136.out 1).trans rfl
       have hc2_ : w'.cell? ⟨gb136, 2, none⟩ = some (.int .i64 a0_2) := (r4 BK136.out 2).trans rfl
       have hc3_ : w'.cell? ⟨gb136, 3, none⟩ = some (.int .i64 a0_3) := (r4 BK136.out 3).trans rfl
       have hc4_ : w'.cell? ⟨gb136, 4, none⟩ = some (.int .i64 a0_4) := (r4 BK136.out 4).trans rfl
       refine value_ (w1 := w') (v := .agg #[.int .i64 a0_0, .int .i64 a0_1, .int .i64 a0_2, .int .i64 a0_3, .int .i64 a0_4]) (by rfl) rfl ?_ ?_
       · go_simp
         (try simp only [i64_w])
         try rfl
       refine hK.out _ _ ⟨gb154, m8_, (by rw [ha.out]; exact putSel_upk 0 hb_ rfl rfl rfl), Q_BK136, Q_BK137, Q_HB, Q_BK154, Q_GW154, Q_GE154, Q_NB136_154, Q_NB154_136, Q_NB137_154, Q_NB154_137, fun h0_ => absurd ((hoff 9 (by kernel_rfl)).symm.trans h0_) (by decide), Q_X8_⟩
     refine steps_cons ?_ ?_
     · rintro b a w' ⟨gb154, m8_, ha, Q_BK136, Q_BK137, Q_HB, Q_BK154, Q_GW154, Q_GE154, Q_NB136_154, Q_NB154_136, Q_NB137_154, Q_NB154_137, Q_BK154_e9, Q_X8_⟩ hb_ hon hoff
       refine ⟨_, rfl, fun K hK => ?_⟩
       have e10 : a.tmps[10]? = some (.agg #[.int .i64 a0_0, .int .i64 a0_1, .int .i64 a0_2, .int .i64 a0_3, .int .i64 a0_4]) := by rw [ha]; exact putSel_on (e := (0, 10, .agg #[.int .i64 a0_0, .int .i64 a0_1, .int .i64 a0_2, .int .i64 a0_3, .int .i64 a0_4])) 0 rfl rfl (hon 0 (by kernel_rfl)) rfl
       replace ha := mk_ ha
       have BK136 := mk_ Q_BK136
       have BK137 := mk_ Q_BK137
       have HB := mk_ Q_HB
       refine goes_ Try.func25 (by kernel_rfl) rfl #[.agg #[.int .i64 a0_0, .int .i64 a0_1, .int .i64 a0_2, .int .i64 a0_3, .int .i64 a0_4]] (by rfl) rfl rfl (by first | (simp only [List.map_toArray, List.map_cons, List.map_nil, Act.eval, Array.getD_eq_getD_getElem?, Option.getD_some, e10]; done) | (simp only [List.map_toArray, List.map_cons, List.map_nil, Act.eval, Array.getD_eq_getD_getElem?, Option.getD_some, e10]; rfl)) ?_
       with_reducible refine (laws_toCfgOpts.calls a0_0 a0_1 a0_2 a0_3 a0_4 t138 t139 t140 t141 t142 _ A3.out).mono ?_
       rintro e w79 ⟨rfl, hb⟩
       refine ⟨_, rfl, ?_⟩
       have n0_ := mk_ (q6 (g := gb136) (o := .cells #[.int .i64 a0_0, .int .i64 a0_1, .int .i64 a0_2, .int .i64 a0_3, .int .i64 a0_4] 25 (0, 0)) (by (with_reducible repeat (first | refine q1 ?_ _ | refine q2 ?_ | refine q3 ?_ _)); exact BK136.out) hb)
       have n1_ := mk_ (q6 (g := gb137) (o := .cells #[.int .i64 a1_0, .int .i64 a1_1, .int .i64 a1_2, .int .i64 a1_3, .int .i64 a1_4] 25 (0, 0)) (by (with_reducible repeat (first | refine q1 ?_ _ | refine q2 ?_ | refine q3 ?_ _)); exact BK137.out) hb)
       have n2_ := mk_ (r3 (by repeat (first | (with_reducible first | exact HB.out | apply q7 | apply q8 | apply q9 | refine r1 ?_ GE136.out | refine r1 ?_ GE137.out) | exact HB.out)) hb)
       have z_BK154 := fun (h0_ : b 8 = true) (h1_ : b 9 = false) => (show w79.heap[gb154]? = some (.cells #[.int .i64 0, .int .i64 0, .int .i64 0, .int .i64 0, .int .i64 0] 29 (0, 0)) from by first | exact (q6 (g := gb154) (o := .cells #[.int .i64 0, .int .i64 0, .int .i64 0, .int .i64 0, .int .i64 0] 29 (0, 0)) (by (with_reducible repeat (first | refine q1 ?_ _ | refine q2 ?_ | refine q3 ?_ _)); exact (Q_BK154 h0_ h1_)) hb))
       clear BK136
       clear BK137
       clear HB
       have BK136 := n0_
       have BK137 := n1_
       have HB := n2_
       clear n0_ n1_ n2_
       (try clear hb)
       (try clear hb2)
       (try clear hk)
       (try clear hi)
       refine hK.out _ _ ⟨gb154, m8_, (by rw [ha.out]; exact putSel_upk 1 hb_ rfl rfl rfl), (by (with_reducible repeat (first | refine q1 ?_ _ | refine q2 ?_ | refine q3 ?_ _)); exact BK136.out), (by (with_reducible repeat (first | refine q1 ?_ _ | refine q2 ?_ | refine q3 ?_ _)); exact BK137.out), (by repeat (first | (with_reducible first | exact HB.out | apply q7 | apply q8 | apply q9 | refine r1 ?_ GE136.out | refine r1 ?_ GE137.out) | exact HB.out)), z_BK154, Q_GW154, Q_GE154, Q_NB136_154, Q_NB154_136, Q_NB137_154, Q_NB154_137, fun h0_ => absurd ((hoff 9 (by kernel_rfl)).symm.trans h0_) (by decide), Q_X8_⟩
     refine steps_cons ?_ ?_
     · rintro b a w' ⟨gb154, m8_, ha, Q_BK136, Q_BK137, Q_HB, Q_BK154, Q_GW154, Q_GE154, Q_NB136_154, Q_NB154_136, Q_NB137_154, Q_NB154_137, Q_BK154_e9, Q_X8_⟩ hb_ hon hoff
       refine ⟨_, rfl, fun K hK => ?_⟩
       have e3 : a.tmps[3]? = some (.pointer (some ⟨gb137, 0, none⟩)) := by rw [ha]; exact (putSel_off rfl).trans rfl
       replace ha := mk_ ha
       have BK136 := mk_ Q_BK136
       have BK137 := mk_ Q_BK137
       have HB := mk_ Q_HB
       have hc0_ : w'.cell? ⟨gb137, 0, none⟩ = some (.int .i64 a1_0) := (r4 BK137.out 0).trans rfl
       have hc1_ : w'.cell? ⟨gb137, 1, none⟩ = some (.int .i64 a1_1) := (r4 BK137.out 1).trans rfl
       have hc2_ : w'.cell? ⟨gb137, 2, none⟩ = some (.int .i64 a1_2) := (r4 BK137.out 2).trans rfl
       have hc3_ : w'.cell? ⟨gb137, 3, none⟩ = some (.int .i64 a1_3) := (r4 BK137.out 3).trans rfl
       have hc4_ : w'.cell? ⟨gb137, 4, none⟩ = some (.int .i64 a1_4) := (r4 BK137.out 4).trans rfl
       refine value_ (w1 := w') (v := .agg #[.int .i64 a1_0, .int .i64 a1_1, .int .i64 a1_2, .int .i64 a1_3, .int .i64 a1_4]) (by rfl) rfl ?_ ?_
       · go_simp
         (try simp only [i64_w])
         try rfl
       refine hK.out _ _ ⟨gb154, m8_, (by rw [ha.out]; exact putSel_upk 2 hb_ rfl rfl rfl), Q_BK136, Q_BK137, Q_HB, Q_BK154, Q_GW154, Q_GE154, Q_NB136_154, Q_NB154_136, Q_NB137_154, Q_NB154_137, fun h0_ => absurd ((hoff 9 (by kernel_rfl)).symm.trans h0_) (by decide), Q_X8_⟩
     refine steps_cons ?_ ?_
     · rintro b a w' ⟨gb154, m8_, ha, Q_BK136, Q_BK137, Q_HB, Q_BK154, Q_GW154, Q_GE154, Q_NB136_154, Q_NB154_136, Q_NB137_154, Q_NB154_137, Q_BK154_e9, Q_X8_⟩ hb_ hon hoff
       refine ⟨_, rfl, fun K hK => ?_⟩
       have e12 : a.tmps[12]? = some (.agg #[.int .i64 a1_0, .int .i64 a1_1, .int .i64 a1_2, .int .i64 a1_3, .int .i64 a1_4]) := by rw [ha]; exact putSel_on (e := (2, 12, .agg #[.int .i64 a1_0, .int .i64 a1_1, .int .i64 a1_2, .int .i64 a1_3, .int .i64 a1_4])) 2 rfl rfl (hon 2 (by kernel_rfl)) rfl
       replace ha := mk_ ha
       have BK136 := mk_ Q_BK136
       have BK137 := mk_ Q_BK137
       have HB := mk_ Q_HB
       refine goes_ Try.func25 (by kernel_rfl) rfl #[.agg #[.int .i64 a1_0, .int .i64 a1_1, .int .i64 a1_2, .int .i64 a1_3, .int .i64 a1_4]] (by rfl) rfl rfl (by first | (simp only [List.map_toArray, List.map_cons, List.map_nil, Act.eval, Array.getD_eq_getD_getElem?, Option.getD_some, e12]; done) | (simp only [List.map_toArray, List.map_cons, List.map_nil, Act.eval, Array.getD_eq_getD_getElem?, Option.getD_some, e12]; rfl)) ?_
       with_reducible refine (laws_toCfgOpts.calls a1_0 a1_1 a1_2 a1_3 a1_4 t143 t144 t145 t146 t147 _ A4.out).mono ?_
       rintro e w81 ⟨rfl, hb⟩
       refine ⟨_, rfl, ?_⟩
       have n0_ := mk_ (q6 (g := gb136) (o := .cells #[.int .i64 a0_0, .int .i64 a0_1, .int .i64 a0_2, .int .i64 a0_3, .int .i64 a0_4] 25 (0, 0)) (by (with_reducible repeat (first | refine q1 ?_ _ | refine q2 ?_ | refine q3 ?_ _)); exact BK136.out) hb)
       have n1_ := mk_ (q6 (g := gb137) (o := .cells #[.int .i64 a1_0, .int .i64 a1_1, .int .i64 a1_2, .int .i64 a1_3, .int .i64 a1_4] 25 (0, 0)) (by (with_reducible repeat (first | refine q1 ?_ _ | refine q2 ?_ | refine q3 ?_ _)); exact BK137.out) hb)
       have n2_ := mk_ (r3 (by repeat (first | (with_reducible first | exact HB.out | apply q7 | apply q8 | apply q9 | refine r1 ?_ GE136.out | refine r1 ?_ GE137.out) | exact HB.out)) hb)
       have z_BK154 := fun (h0_ : b 8 = true) (h1_ : b 9 = false) => (show w81.heap[gb154]? = some (.cells #[.int .i64 0, .int .i64 0, .int .i64 0, .int .i64 0, .int .i64 0] 29 (0, 0)) from by first | exact (q6 (g := gb154) (o := .cells #[.int .i64 0, .int .i64 0, .int .i64 0, .int .i64 0, .int .i64 0] 29 (0, 0)) (by (with_reducible repeat (first | refine q1 ?_ _ | refine q2 ?_ | refine q3 ?_ _)); exact (Q_BK154 h0_ h1_)) hb))
       clear BK136
       clear BK137
       clear HB
       have BK136 := n0_
       have BK137 := n1_
       have HB := n2_
       clear n0_ n1_ n2_
       (try clear hb)
       (try clear hb2)
       (try clear hk)
       (try clear hi)
       refine hK.out _ _ ⟨gb154, m8_, (by rw [ha.out]; exact putSel_upk 3 hb_ rfl rfl rfl), (by (with_reducible repeat (first | refine q1 ?_ _ | refine q2 ?_ | refine q3 ?_ _)); exact BK136.out), (by (with_reducible repeat (first | refine q1 ?_ _ | refine q2 ?_ | refine q3 ?_ _)); exact BK137.out), (by repeat (first | (with_reducible first | exact HB.out | apply q7 | apply q8 | apply q9 | refine r1 ?_ GE136.out | refine r1 ?_ GE137.out) | exact HB.out)), z_BK154, Q_GW154, Q_GE154, Q_NB136_154, Q_NB154_136, Q_NB137_154, Q_NB154_137, fun h0_ => absurd ((hoff 9 (by kernel_rfl)).symm.trans h0_) (by decide), Q_X8_⟩
     refine steps_cons ?_ ?_
     · rintro b a w' ⟨gb154, m8_, ha, Q_BK136, Q_BK137, Q_HB, Q_BK154, Q_GW154, Q_GE154, Q_NB136_154, Q_NB154_136, Q_NB137_154, Q_NB154_137, Q_BK154_e9, Q_X8_⟩ hb_ hon hoff
       refine ⟨_, rfl, fun K hK => ?_⟩
       have e11 : a.tmps[11]? = some (.agg #[.int .i64 t138, .int .i64 t139, .int .i64 t140, .int .i64 t141, .int .i64 t142]) := by rw [ha]; exact putSel_on (e := (1, 11, .agg #[.int .i64 t138, .int .i64 t139, .int .i64 t140, .int .i64 t141, .int .i64 t142])) 1 rfl rfl (hon 1 (by kernel_rfl)) rfl
       have e13 : a.tmps[13]? = some (.agg #[.int .i64 t143, .int .i64 t144, .int .i64 t145, .int .i64 t146, .int .i64 t147]) := by rw [ha]; exact putSel_on (e := (3, 13, .agg #[.int .i64 t143, .int .i64 t144, .int .i64 t145, .int .i64 t146, .int .i64 t147])) 3 rfl rfl (hon 3 (by kernel_rfl)) rfl
       replace ha := mk_ ha
       have BK136 := mk_ Q_BK136
       have BK137 := mk_ Q_BK137
       have HB := mk_ Q_HB
       refine goes_ Try.func24 (by kernel_rfl) rfl #[.agg #[.int .i64 t138, .int .i64 t139, .int .i64 t140, .int .i64 t141, .int .i64 t142], .agg #[.int .i64 t143, .int .i64 t144, .int .i64 t145, .int .i64 t146, .int .i64 t147]] (by rfl) rfl rfl (by first | (simp only [List.map_toArray, List.map_cons, List.map_nil, Act.eval, Array.getD_eq_getD_getElem?, Option.getD_some, e11, e13]; done) | (simp only [List.map_toArray, List.map_cons, List.map_nil, Act.eval, Array.getD_eq_getD_getElem?, Option.getD_some, e11, e13]; rfl)) ?_
       with_reducible refine (spec_CfgMeet.calls t138 t139 t140 t141 t142 t143 t144 t145 t146 t147 t148 t149 t150 t151 t152 t153 _ A5.out).mono ?_
       rintro e w82 ⟨rfl, hb⟩
       refine ⟨_, rfl, ?_⟩
       have n0_ := mk_ (q6 (g := gb136) (o := .cells #[.int .i64 a0_0, .int .i64 a0_1, .int .i64 a0_2, .int .i64 a0_3, .int .i64 a0_4] 25 (0, 0)) (by (with_reducible repeat (first | refine q1 ?_ _ | refine q2 ?_ | refine q3 ?_ _)); exact BK136.out) hb)
       have n1_ := mk_ (q6 (g := gb137) (o := .cells #[.int .i64 a1_0, .int .i64 a1_1, .int .i64 a1_2, .int .i64 a1_3, .int .i64 a1_4] 25 (0, 0)) (by (with_reducible repeat (first | refine q1 ?_ _ | refine q2 ?_ | refine q3 ?_ _)); exact BK137.out) hb)
       have n2_ := mk_ (r3 (by repeat (first | (with_reducible first | exact HB.out | apply q7 | apply q8 | apply q9 | refine r1 ?_ GE136.out | refine r1 ?_ GE137.out) | exact HB.out)) hb)
       have z_BK154 := fun (h0_ : b 8 = true) (h1_ : b 9 = false) => (show w82.heap[gb154]? = some (.cells #[.int .i64 0, .int .i64 0, .int .i64 0, .int .i64 0, .int .i64 0] 29 (0, 0)) from by first | exact (q6 (g := gb154) (o := .cells #[.int .i64 0, .int .i64 0, .int .i64 0, .int .i64 0, .int .i64 0] 29 (0, 0)) (by (with_reducible repeat (first | refine q1 ?_ _ | refine q2 ?_ | refine q3 ?_ _)); exact (Q_BK154 h0_ h1_)) hb))
       clear BK136
       clear BK137
       clear HB
       have BK136 := n0_
       have BK137 := n1_
       have HB := n2_
       clear n0_ n1_ n2_
       (try clear hb)
       (try clear hb2)
       (try clear hk)
       (try clear hi)
       refine hK.out _ _ ⟨gb154, m8_, (by rw [ha.out]; exact putSel_upk 4 hb_ rfl rfl rfl), (by (with_reducible repeat (first | refine q1 ?_ _ | refine q2 ?_ | refine q3 ?_ _)); exact BK136.out), (by (with_reducible repeat (first | refine q1 ?_ _ | refine q2 ?_ | refine q3 ?_ _)); exact BK137.out), (by repeat (first | (with_reducible first | exact HB.out | apply q7 | apply q8 | apply q9 | refine r1 ?_ GE136.out | refine r1 ?_ GE137.out) | exact HB.out)), z_BK154, Q_GW154, Q_GE154, Q_NB136_154, Q_NB154_136, Q_NB137_154, Q_NB154_137, fun h0_ => absurd ((hoff 9 (by kernel_rfl)).symm.trans h0_) (by decide), Q_X8_⟩
     refine steps_cons ?_ ?_
     · rintro b a w' ⟨gb154, m8_, ha, Q_BK136, Q_BK137, Q_HB, Q_BK154, Q_GW154, Q_GE154, Q_NB136_154, Q_NB154_136, Q_NB137_154, Q_NB154_137, Q_BK154_e9, Q_X8_⟩ hb_ hon hoff
       refine ⟨_, rfl, fun K hK => ?_⟩
       have e14 : a.tmps[14]? = some (.tuple #[.agg #[.int .i64 t148, .int .i64 t149, .int .i64 t150, .int .i64 t151, .int .i64 t152], .bool t153]) := by rw [ha]; exact putSel_on (e := (4, 14, .tuple #[.agg #[.int .i64 t148, .int .i64 t149, .int .i64 t150, .int .i64 t151, .int .i64 t152], .bool t153])) 4 rfl rfl (hon 4 (by kernel_rfl)) rfl
       replace ha := mk_ ha
       have BK136 := mk_ Q_BK136
       have BK137 := mk_ Q_BK137
       have HB := mk_ Q_HB
       refine value_ (w1 := w') (v := .tuple #[.agg #[.int .i64 t148, .int .i64 t149, .int .i64 t150, .int .i64 t151, .int .i64 t152], .bool t153]) (by rfl) rfl ?_ ?_
       · go_simp
         (try simp only [i64_w])
         try rfl
       refine hK.out _ _ ⟨gb154, m8_, (by rw [ha.out]; exact putSel_upk 5 hb_ rfl rfl rfl), Q_BK136, Q_BK137, Q_HB, Q_BK154, Q_GW154, Q_GE154, Q_NB136_154, Q_NB154_136, Q_NB137_154, Q_NB154_137, fun h0_ => absurd ((hoff 9 (by kernel_rfl)).symm.trans h0_) (by decide), Q_X8_⟩
     refine steps_cons ?_ ?_
     · rintro b a w' ⟨gb154, m8_, ha, Q_BK136, Q_BK137, Q_HB, Q_BK154, Q_GW154, Q_GE154, Q_NB136_154, Q_NB154_136, Q_NB137_154, Q_NB154_137, Q_BK154_e9, Q_X8_⟩ hb_ hon hoff
       refine ⟨_, rfl, fun K hK => ?_⟩
       have e9 : a.tmps[9]? = some (.tuple #[.agg #[.int .i64 t148, .int .i64 t149, .int .i64 t150, .int .i64 t151, .int .i64 t152], .bool t153]) := by rw [ha]; exact putSel_on (e := (5, 9, .tuple #[.agg #[.int .i64 t148, .int .i64 t149, .int .i64 t150, .int .i64 t151, .int .i64 t152], .bool t153])) 5 rfl rfl (hon 5 (by kernel_rfl)) rfl
       replace ha := mk_ ha
       have BK136 := mk_ Q_BK136
       have BK137 := mk_ Q_BK137
       have HB := mk_ Q_HB
       refine value_ (w1 := w') (v := .agg #[.int .i64 t148, .int .i64 t149, .int .i64 t150, .int .i64 t151, .int .i64 t152]) (by rfl) rfl ?_ ?_
       · go_simp
         (try simp only [i64_w])
         try rfl
       refine hK.out _ _ ⟨gb154, m8_, (by rw [ha.out]; exact putSel_upk 6 hb_ rfl rfl rfl), Q_BK136, Q_BK137, Q_HB, Q_BK154, Q_GW154, Q_GE154, Q_NB136_154, Q_NB154_136, Q_NB137_154, Q_NB154_137, fun h0_ => absurd ((hoff 9 (by kernel_rfl)).symm.trans h0_) (by decide), Q_X8_⟩
     refine steps_cons ?_ ?_
     · rintro b a w' ⟨gb154, m8_, ha, Q_BK136, Q_BK137, Q_HB, Q_BK154, Q_GW154, Q_GE154, Q_NB136_154, Q_NB154_136, Q_NB137_154, Q_NB154_137, Q_BK154_e9, Q_X8_⟩ hb_ hon hoff
       refine ⟨_, rfl, fun K hK => ?_⟩
       have e9 : a.tmps[9]? = some (.tuple #[.agg #[.int .i64 t148, .int .i64 t149, .int .i64 t150, .int .i64 t151, .int .i64 t152], .bool t153]) := by rw [ha]; exact putSel_on (e := (5, 9, .tuple #[.agg #[.int .i64 t148, .int .i64 t149, .int .i64 t150, .int .i64 t151, .int .i64 t152], .bool t153])) 5 rfl rfl (hon 5 (by kernel_rfl)) rfl
       replace ha := mk_ ha
       have BK136 := mk_ Q_BK136
       have BK137 := mk_ Q_BK137
       have HB := mk_ Q_HB
       refine value_ (w1 := w') (v := .bool t153) (by rfl) rfl ?_ ?_
       · go_simp
         (try simp only [i64_w])
         try rfl
       refine hK.out _ _ ⟨gb154, m8_, (by rw [ha.out]; exact putSel_upk 7 hb_ rfl rfl rfl), Q_BK136, Q_BK137, Q_HB, Q_BK154, Q_GW154, Q_GE154, Q_NB136_154, Q_NB154_136, Q_NB137_154, Q_NB154_137, Q_BK154_e9, Q_X8_⟩
     refine steps_cons ?_ ?_
     · rintro b a w' ⟨gb154, m8_, ha, Q_BK136, Q_BK137, Q_HB, Q_BK154, Q_GW154, Q_GE154, Q_NB136_154, Q_NB154_136, Q_NB137_154, Q_NB154_137, Q_BK154_e9, Q_X8_⟩ hb_ hon hoff
       refine ⟨_, rfl, fun K hK => ?_⟩
       replace ha := mk_ ha
       have BK136 := mk_ Q_BK136
       have BK137 := mk_ Q_BK137
       have HB := mk_ Q_HB
       refine box_step ?hg (N := 5) ?hd (cs := #[.int .i64 0, .int .i64 0, .int .i64 0, .int .i64 0, .int .i64 0]) (t := 29) ?hr ?_; (case hd => rfl); (case hg => rfl); (case hr => first | (go_simp; done) | (go_simp; rfl))
       intro gb154 hg w79 hbox hb
       have n0_ := mk_ (q6 (g := gb136) (o := .cells #[.int .i64 a0_0, .int .i64 a0_1, .int .i64 a0_2, .int .i64 a0_3, .int .i64 a0_4] 25 (0, 0)) (by (with_reducible repeat (first | refine q1 ?_ _ | refine q2 ?_ | refine q3 ?_ _)); exact BK136.out) hb)
       have n1_ := mk_ (q6 (g := gb137) (o := .cells #[.int .i64 a1_0, .int .i64 a1_1, .int .i64 a1_2, .int .i64 a1_3, .int .i64 a1_4] 25 (0, 0)) (by (with_reducible repeat (first | refine q1 ?_ _ | refine q2 ?_ | refine q3 ?_ _)); exact BK137.out) hb)
       have n2_ := mk_ (r3 (by repeat (first | (with_reducible first | exact HB.out | apply q7 | apply q8 | apply q9 | refine r1 ?_ GE136.out | refine r1 ?_ GE137.out) | exact HB.out)) hb)
       have n3_ := mk_ (hbox)
       have n4_ := mk_ ((by rw [hg]; exact (r2 (by repeat (first | (with_reducible first | exact HB.out | apply q7 | apply q8 | apply q9 | refine r1 ?_ GE136.out | refine r1 ?_ GE137.out) | exact HB.out))) : w.heap.size ≤ gb154))
       have n5_ := mk_ ((by rw [hg]; exact (r2 (by repeat (first | (with_reducible first | exact HB.out | apply q7 | apply q8 | apply q9 | refine r1 ?_ GE136.out | refine r1 ?_ GE137.out) | exact HB.out))) : w.heap.size ≤ gb154))
       have n6_ := mk_ ((by rw [hg]; exact m2 (r6 (g := gb136) (o := .cells #[.int .i64 a0_0, .int .i64 a0_1, .int .i64 a0_2, .int .i64 a0_3, .int .i64 a0_4] 25 (0, 0)) (by (with_reducible repeat (first | refine q1 ?_ _ | refine q2 ?_ | refine q3 ?_ _)); exact BK136.out)) : gb136 ≠ gb154))
       have n7_ := mk_ ((by rw [hg]; exact m3 (r6 (g := gb136) (o := .cells #[.int .i64 a0_0, .int .i64 a0_1, .int .i64 a0_2, .int .i64 a0_3, .int .i64 a0_4] 25 (0, 0)) (by (with_reducible repeat (first | refine q1 ?_ _ | refine q2 ?_ | refine q3 ?_ _)); exact BK136.out)) : gb154 ≠ gb136))
       have n8_ := mk_ ((by rw [hg]; exact m2 (r6 (g := gb137) (o := .cells #[.int .i64 a1_0, .int .i64 a1_1, .int .i64 a1_2, .int .i64 a1_3, .int .i64 a1_4] 25 (0, 0)) (by (with_reducible repeat (first | refine q1 ?_ _ | refine q2 ?_ | refine q3 ?_ _)); exact BK137.out)) : gb137 ≠ gb154))
       have n9_ := mk_ ((by rw [hg]; exact m3 (r6 (g := gb137) (o := .cells #[.int .i64 a1_0, .int .i64 a1_1, .int .i64 a1_2, .int .i64 a1_3, .int .i64 a1_4] 25 (0, 0)) (by (with_reducible repeat (first | refine q1 ?_ _ | refine q2 ?_ | refine q3 ?_ _)); exact BK137.out)) : gb154 ≠ gb137))
       clear BK136
       clear BK137
       clear HB
       have BK136 := n0_
       have BK137 := n1_
       have HB := n2_
       have BK154 := n3_
       have GW154 := n4_
       have GE154 := n5_
       have NB136_154 := n6_
       have NB154_136 := n7_
       have NB137_154 := n8_
       have NB154_137 := n9_
       clear n0_ n1_ n2_ n3_ n4_ n5_ n6_ n7_ n8_ n9_
       clear hb hbox hg
       refine hK.out _ _ ⟨gb154, (.pointer (some ⟨gb154, 0, none⟩)), (by rw [ha.out]; exact putSel_upk 8 hb_ rfl rfl rfl), (by (with_reducible repeat (first | refine q1 ?_ _ | refine q2 ?_ | refine q3 ?_ _)); exact BK136.out), (by (with_reducible repeat (first | refine q1 ?_ _ | refine q2 ?_ | refine q3 ?_ _)); exact BK137.out), (by repeat (first | (with_reducible first | exact HB.out | apply q7 | apply q8 | apply q9 | refine r1 ?_ GE136.out | refine r1 ?_ GE137.out | refine r1 ?_ GE154.out) | exact HB.out)), fun _ _ => (by (with_reducible repeat (first | refine q1 ?_ _ | refine q2 ?_ | refine q3 ?_ _)); exact BK154.out), fun _ => GW154.out, fun _ => GE154.out, fun _ => NB136_154.out, fun _ => NB154_136.out, fun _ => NB137_154.out, fun _ => NB154_137.out, fun h0_ => absurd ((hoff 9 (by kernel_rfl)).symm.trans h0_) (by decide), fun _ => rfl⟩
     refine steps_cons ?_ ?_
     · rintro b a w' ⟨gb154, m8_, ha, Q_BK136, Q_BK137, Q_HB, Q_BK154, Q_GW154, Q_GE154, Q_NB136_154, Q_NB154_136, Q_NB137_154, Q_NB154_137, Q_BK154_e9, Q_X8_⟩ hb_ hon hoff
       refine ⟨_, rfl, fun K hK => ?_⟩
       have e5 : a.tmps[5]? = some (m8_) := by rw [ha]; exact putSel_on (e := (8, 5, m8_)) 8 rfl rfl (hon 8 (by kernel_rfl)) rfl
       rw [Q_X8_ (hon 8 (by kernel_rfl))] at e5
       have e15 : a.tmps[15]? = some (.agg #[.int .i64 t148, .int .i64 t149, .int .i64 t150, .int .i64 t151, .int .i64 t152]) := by rw [ha]; exact putSel_on (e := (6, 15, .agg #[.int .i64 t148, .int .i64 t149, .int .i64 t150, .int .i64 t151, .int .i64 t152])) 6 rfl rfl (hon 6 (by kernel_rfl)) rfl
       replace ha := mk_ ha
       have BK136 := mk_ Q_BK136
       have BK137 := mk_ Q_BK137
       have HB := mk_ Q_HB
       have BK154 := mk_ (Q_BK154 (hon 8 (by kernel_rfl)) hb_)
       have GW154 := mk_ (Q_GW154 (hon 8 (by kernel_rfl)))
       have GE154 := mk_ (Q_GE154 (hon 8 (by kernel_rfl)))
       have NB136_154 := mk_ (Q_NB136_154 (hon 8 (by kernel_rfl)))
       have NB154_136 := mk_ (Q_NB154_136 (hon 8 (by kernel_rfl)))
       have NB137_154 := mk_ (Q_NB137_154 (hon 8 (by kernel_rfl)))
       have NB154_137 := mk_ (Q_NB154_137 (hon 8 (by kernel_rfl)))
       have hs84 : w'.cell? ⟨gb154, 0, none⟩ = some (.int .i64 0) := (r4 BK154.out 0).trans rfl
       have hfs84 := r5 BK154.out 0
       have hns84_0 := NB136_154.out
       have hns84_1 := NB137_154.out
       have hms84_0 := NB154_136.out
       have hms84_1 := NB154_137.out
       have hs85 : w'.cell? ⟨gb154, 1, none⟩ = some (.int .i64 0) := (r4 BK154.out 1).trans rfl
       have hfs85 := r5 BK154.out 1
       have hns85_0 := NB136_154.out
       have hns85_1 := NB137_154.out
       have hms85_0 := NB154_136.out
       have hms85_1 := NB154_137.out
       have hs86 : w'.cell? ⟨gb154, 2, none⟩ = some (.int .i64 0) := (r4 BK154.out 2).trans rfl
       have hfs86 := r5 BK154.out 2
       have hns86_0 := NB136_154.out
       have hns86_1 := NB137_154.out
       have hms86_0 := NB154_136.out
       have hms86_1 := NB154_137.out
       have hs87 : w'.cell? ⟨gb154, 3, none⟩ = some (.int .i64 0) := (r4 BK154.out 3).trans rfl
       have hfs87 := r5 BK154.out 3
       have hns87_0 := NB136_154.out
       have hns87_1 := NB137_154.out
       have hms87_0 := NB154_136.out
       have hms87_1 := NB154_137.out
       have hs88 : w'.cell? ⟨gb154, 4, none⟩ = some (.int .i64 0) := (r4 BK154.out 4).trans rfl
       have hfs88 := r5 BK154.out 4
       have hns88_0 := NB136_154.out
       have hns88_1 := NB137_154.out
       have hms88_0 := NB154_136.out
       have hms88_1 := NB154_137.out
       refine skip_ (w1 := ?_) (by rfl) rfl ?_ ?_
       rotate_left
       · go_simp
         rfl
       refine hK.out _ _ ⟨gb154, m8_, (by rw [ha.out]; exact putSel_none (v := undef) rfl), (by (with_reducible repeat (first | refine q1 ?_ _ | refine q2 ?_ | refine q3 ?_ _)); refine q5 ?_ NB136_154.out _; (with_reducible repeat (first | refine q1 ?_ _ | refine q2 ?_ | refine q3 ?_ _)); refine q5 ?_ NB136_154.out _; (with_reducible repeat (first | refine q1 ?_ _ | refine q2 ?_ | refine q3 ?_ _)); refine q5 ?_ NB136_154.out _; (with_reducible repeat (first | refine q1 ?_ _ | refine q2 ?_ | refine q3 ?_ _)); refine q5 ?_ NB136_154.out _; (with_reducible repeat (first | refine q1 ?_ _ | refine q2 ?_ | refine q3 ?_ _)); refine q5 ?_ NB136_154.out _; (with_reducible repeat (first | refine q1 ?_ _ | refine q2 ?_ | refine q3 ?_ _)); exact BK136.out), (by (with_reducible repeat (first | refine q1 ?_ _ | refine q2 ?_ | refine q3 ?_ _)); refine q5 ?_ NB137_154.out _; (with_reducible repeat (first | refine q1 ?_ _ | refine q2 ?_ | refine q3 ?_ _)); refine q5 ?_ NB137_154.out _; (with_reducible repeat (first | refine q1 ?_ _ | refine q2 ?_ | refine q3 ?_ _)); refine q5 ?_ NB137_154.out _; (with_reducible repeat (first | refine q1 ?_ _ | refine q2 ?_ | refine q3 ?_ _)); refine q5 ?_ NB137_154.out _; (with_reducible repeat (first | refine q1 ?_ _ | refine q2 ?_ | refine q3 ?_ _)); refine q5 ?_ NB137_154.out _; (with_reducible repeat (first | refine q1 ?_ _ | refine q2 ?_ | refine q3 ?_ _)); exact BK137.out), (by repeat (first | (with_reducible first | exact HB.out | apply q7 | apply q8 | apply q9 | refine r1 ?_ GE136.out | refine r1 ?_ GE137.out | refine r1 ?_ GE154.out) | exact HB.out)), fun _ h1_ => absurd ((up_self b 9).symm.trans h1_) (by decide), fun _ => GW154.out, fun _ => GE154.out, fun _ => NB136_154.out, fun _ => NB154_136.out, fun _ => NB137_154.out, fun _ => NB154_137.out, fun _ => (by (with_reducible repeat (first | refine q1 ?_ _ | refine q2 ?_ | refine q3 ?_ _)); refine q4 (cs := #[.int .i64 t148, .int .i64 t149, .int .i64 t150, .int .i64 t151, .int .i64 0]) ?_ 4 _ rfl; (with_reducible repeat (first | refine q1 ?_ _ | refine q2 ?_ | refine q3 ?_ _)); refine q4 (cs := #[.int .i64 t148, .int .i64 t149, .int .i64 t150, .int .i64 0, .int .i64 0]) ?_ 3 _ rfl; (with_reducible repeat (first | refine q1 ?_ _ | refine q2 ?_ | refine q3 ?_ _)); refine q4 (cs := #[.int .i64 t148, .int .i64 t149, .int .i64 0, .int .i64 0, .int .i64 0]) ?_ 2 _ rfl; (with_reducible repeat (first | refine q1 ?_ _ | refine q2 ?_ | refine q3 ?_ _)); refine q4 (cs := #[.int .i64 t148, .int .i64 0, .int .i64 0, .int .i64 0, .int .i64 0]) ?_ 1 _ rfl; (with_reducible repeat (first | refine q1 ?_ _ | refine q2 ?_ | refine q3 ?_ _)); refine q4 (cs := #[.int .i64 0, .int .i64 0, .int .i64 0, .int .i64 0, .int .i64 0]) ?_ 0 _ rfl; (with_reducible repeat (first | refine q1 ?_ _ | refine q2 ?_ | refine q3 ?_ _)); exact BK154.out), Q_X8_⟩
     refine steps_cons ?_ ?_
     · rintro b a w' ⟨gb154, m8_, ha, Q_BK136, Q_BK137, Q_HB, Q_BK154, Q_GW154, Q_GE154, Q_NB136_154, Q_NB154_136, Q_NB137_154, Q_NB154_137, Q_BK154_e9, Q_X8_⟩ hb_ hon hoff
       refine ⟨_, rfl, fun K hK => ?_⟩
       have e16 : a.tmps[16]? = some (.bool t153) := by rw [ha]; exact putSel_on (e := (7, 16, .bool t153)) 7 rfl rfl (hon 7 (by kernel_rfl)) rfl
       replace ha := mk_ ha
       have BK136 := mk_ Q_BK136
       have BK137 := mk_ Q_BK137
       have HB := mk_ Q_HB
       have GW154 := mk_ (Q_GW154 (hon 8 (by kernel_rfl)))
       have GE154 := mk_ (Q_GE154 (hon 8 (by kernel_rfl)))
       have NB136_154 := mk_ (Q_NB136_154 (hon 8 (by kernel_rfl)))
       have NB154_136 := mk_ (Q_NB154_136 (hon 8 (by kernel_rfl)))
       have NB137_154 := mk_ (Q_NB137_154 (hon 8 (by kernel_rfl)))
       have NB154_137 := mk_ (Q_NB154_137 (hon 8 (by kernel_rfl)))
       have BK154 := mk_ (Q_BK154_e9 (hon 9 (by kernel_rfl)))
       refine value_ (w1 := w') (v := .bool t153) (by rfl) rfl ?_ ?_
       · go_simp
         (try simp only [i64_w])
         try rfl
       refine hK.out _ _ ⟨gb154, m8_, (by rw [ha.out]; exact putSel_upk 9 hb_ rfl rfl rfl), Q_BK136, Q_BK137, Q_HB, fun _ h1_ => absurd ((hon 9 (by kernel_rfl)).symm.trans h1_) (by decide), Q_GW154, Q_GE154, Q_NB136_154, Q_NB154_136, Q_NB137_154, Q_NB154_137, Q_BK154_e9, Q_X8_⟩
     exact steps_nil
   rintro b a w88 hall ⟨gb154, m8_, ha, Q_BK136, Q_BK137, Q_HB, Q_BK154, Q_GW154, Q_GE154, Q_NB136_154, Q_NB154_136, Q_NB137_154, Q_NB154_137, Q_BK154_e9, Q_X8_⟩
   clear BK136 BK137 HB
   have hb0_ := hall 0 (by kernel_rfl)
   have hb1_ := hall 1 (by kernel_rfl)
   have hb2_ := hall 2 (by kernel_rfl)
   have hb3_ := hall 3 (by kernel_rfl)
   have hb4_ := hall 4 (by kernel_rfl)
   have hb5_ := hall 5 (by kernel_rfl)
   have hb6_ := hall 6 (by kernel_rfl)
   have hb7_ := hall 7 (by kernel_rfl)
   have hb8_ := hall 8 (by kernel_rfl)
   have hb9_ := hall 9 (by kernel_rfl)
   have hb10_ := hall 10 (by kernel_rfl)
   subst ha
   obtain rfl := Q_X8_ hb8_
   simp only [putSel, hb0_, hb1_, hb2_, hb3_, hb4_, hb5_, hb6_, hb7_, hb8_, hb9_, hb10_, if_true, Act.put, List.setIfInBounds_toArray, List.set_cons_zero, List.set_cons_succ]
   have BK136 := mk_ Q_BK136
   clear Q_BK136
   have BK137 := mk_ Q_BK137
   clear Q_BK137
   have HB := mk_ Q_HB
   clear Q_HB
   clear Q_BK154
   have GW154 := mk_ (Q_GW154 hb8_)
   clear Q_GW154
   have GE154 := mk_ (Q_GE154 hb8_)
   clear Q_GE154
   have NB136_154 := mk_ (Q_NB136_154 hb8_)
   clear Q_NB136_154
   have NB154_136 := mk_ (Q_NB154_136 hb8_)
   clear Q_NB154_136
   have NB137_154 := mk_ (Q_NB137_154 hb8_)
   clear Q_NB137_154
   have NB154_137 := mk_ (Q_NB154_137 hb8_)
   clear Q_NB154_137
   have BK154 := mk_ (Q_BK154_e9 hb9_)
   clear Q_BK154_e9
   clear hall hb0_ hb1_ hb2_ hb3_ hb4_ hb5_ hb6_ hb7_ hb8_ hb9_ hb10_
   try go_wp2
   have n0_ := mk_ (q2 BK136.out)
   have n1_ := mk_ (q2 BK137.out)
   have n2_ := mk_ (q2 BK154.out)
   have n3_ := mk_ (q9 HB.out)
   clear BK136
   clear BK137
   clear BK154
   clear HB
   have BK136 := n0_
   have BK137 := n1_
   have BK154 := n2_
   have HB := n3_
   clear n0_ n1_ n2_ n3_
   refine start_ (n := 11) (S := fun w' => True) (ds := []) #[false, false, false, false, false, false, false, false, false, false, false] (by kernel_rfl) rfl rfl trivial (fun hHeld => ?_); refine with_tabW laws_FnExactCfgMeet.tab2 laws_FnExactCfgMeet.bits2 (fun HT_ HW_ => ?_)
   generalize w88.drew = w89 at BK136 BK137 BK154 HB hHeld ⊢
   refine inv_at [0, 1, 2, 3, 4, 5, 6, 7, 8, 9, 10] (fun a0_ b a w' => ∃ (gb171 : Nat) (m8_ : Value), a = putSel a0_ b [(0, 18, .agg #[.int .i64 a0_0, .int .i64 a0_1, .int .i64 a0_2, .int .i64 a0_3, .int .i64 a0_4]), (1, 19, .agg #[.int .i64 t155, .int .i64 t156, .int .i64 t157, .int .i64 t158, .int .i64 t159]), (2, 20, .agg #[.int .i64 a1_0, .int .i64 a1_1, .int .i64 a1_2, .int .i64 a1_3, .int .i64 a1_4]), (3, 21, .agg #[.int .i64 t160, .int .i64 t161, .int .i64 t162, .int .i64 t163, .int .i64 t164]), (4, 22, .tuple #[.agg #[.int .i64 t165, .int .i64 t166, .int .i64 t167, .int .i64 t168, .int .i64 t169], .bool t170]), (5, 17, .tuple #[.agg #[.int .i64 t165, .int .i64 t166, .int .i64 t167, .int .i64 t168, .int .i64 t169], .bool t170]), (6, 23, .agg #[.int .i64 t165, .int .i64 t166, .int .i64 t167, .int .i64 t168, .int .i64 t169]), (7, 24, .bool t170), (8, 7, m8_), (10, 8, .bool t170)] ∧ (w'.heap[gb136]? = some (.cells #[.int .i64 a0_0, .int .i64 a0_1, .int .i64 a0_2, .int .i64 a0_3, .int .i64 a0_4] 25 (0, 0))) ∧ (w'.heap[gb137]? = some (.cells #[.int .i64 a1_0, .int .i64 a1_1, .int .i64 a1_2, .int .i64 a1_3, .int .i64 a1_4] 25 (0, 0))) ∧ (w'.heap[gb154]? = some (.cells #[.int .i64 t148, .int .i64 t149, .int .i64 t150, .int .i64 t151, .int .i64 t152] 29 (0, 0))) ∧ (Below w.heap.size w w') ∧ (b 8 = true → b 9 = false → w'.heap[gb171]? = some (.cells #[.int .i64 0, .int .i64 0, .int .i64 0, .int .i64 0, .int .i64 0] 29 (0, 0))) ∧ (b 8 = true → w.heap.size ≤ gb171) ∧ (b 8 = true → w.heap.size ≤ gb171) ∧ (b 8 = true → gb136 ≠ gb171) ∧ (b 8 = true → gb171 ≠ gb136) ∧ (b 8 = true → gb137 ≠ gb171) ∧ (b 8 = true → gb171 ≠ gb137) ∧ (b 8 = true → gb154 ≠ gb171) ∧ (b 8 = true → gb171 ≠ gb154) ∧ (b 9 = true → w'.heap[gb171]? = some (.cells #[.int .i64 t165, .int .i64 t166, .int .i64 t167, .int .i64 t168, .int .i64 t169] 29 (0, 0))) ∧ (b 8 = true → (m8_ : Value) = .pointer (some ⟨gb171, 0, none⟩))) HT_.out HW_.out (by kernel_rfl) (by kernel_rfl) ?_ ?_ ?_
   · exact ⟨0, .bool false, by simp only [putSel, Bool.false_eq_true, if_false], BK136.out, BK137.out, BK154.out, HB.out, fun h_ => absurd h_ (by decide), fun h_ => absurd h_ (by decide), fun h_ => absurd h_ (by decide), fun h_ => absurd h_ (by decide), fun h_ => absurd h_ (by decide), fun h_ => absurd h_ (by decide), fun h_ => absurd h_ (by decide), fun h_ => absurd h_ (by decide), fun h_ => absurd h_ (by decide), fun h_ => absurd h_ (by decide), fun h_ => absurd h_ (by decide)⟩
   · skip
     clear BK136 BK137 BK154 HB
     refine steps_cons ?_ ?_
     · rintro b a w' ⟨gb171, m8_, ha, Q_BK136, Q_BK137, Q_BK154, Q_HB, Q_BK171, Q_GW171, Q_GE171, Q_NB136_171, Q_NB171_136, Q_NB137_171, Q_NB171_137, Q_NB154_171, Q_NB171_154, Q_BK171_e9, Q_X8_⟩ hb_ hon hoff
       refine ⟨_, rfl, fun K hK => ?_⟩
       have e2 : a.tmps[2]? = some (.pointer (some ⟨gb136, 0, none⟩)) := by rw [ha]; exact (putSel_off rfl).trans rfl
       replace ha := mk_ ha
       have BK136 := mk_ Q_BK136
       have BK137 := mk_ Q_BK137
       have BK154 := mk_ Q_BK154
       have HB := mk_ Q_HB
       have hc0_ : w'.cell? ⟨gb136, 0, none⟩ = some (.int .i64 a0_0) := (r4 BK136.out 0).trans rfl
       have hc1_ : w'.cell? ⟨gb136, 1, none⟩ = some (.int .i64 a0_1) := (r4 BK136.out 1).trans rfl
       have hc2_ : w'.cell? ⟨gb136, 2, none⟩ = some (.int .i64 a0_2) := (r4 BK136.out 2).trans rfl
       have hc3_ : w'.cell? ⟨gb136, 3, none⟩ = some (.int .i64 a0_3) := (r4 BK136.out 3).trans rfl
       have hc4_ : w'.cell? ⟨gb136, 4, none⟩ = some (.int .i64 a0_4) := (r4 BK136.out 4).trans rfl
       refine value_ (w1 := w') (v := .agg #[.int .i64 a0_0, .int .i64 a0_1, .int .i64 a0_2, .int .i64 a0_3, .int .i64 a0_4]) (by rfl) rfl ?_ ?_
       · go_simp
         (try simp only [i64_w])
         try rfl
       refine hK.out _ _ ⟨gb171, m8_, (by rw [ha.out]; exact putSel_upk 0 hb_ rfl rfl rfl), Q_BK136, Q_BK137, Q_BK154, Q_HB, Q_BK171, Q_GW171, Q_GE171, Q_NB136_171, Q_NB171_136, Q_NB137_171, Q_NB171_137, Q_NB154_171, Q_NB171_154, fun h0_ => absurd ((hoff 9 (by kernel_rfl)).symm.trans h0_) (by decide), Q_X8_⟩
     refine steps_cons ?_ ?_
     · rintro b a w' ⟨gb171, m8_, ha, Q_BK136, Q_BK137, Q_BK154, Q_HB, Q_BK171, Q_GW171, Q_GE171, Q_NB136_171, Q_NB171_136, Q_NB137_171, Q_NB171_137, Q_NB154_171, Q_NB171_154, Q_BK171_e9, Q_X8_⟩ hb_ hon hoff
       refine ⟨_, rfl, fun K hK => ?_⟩
       have e18 : a.tmps[18]? = some (.agg #[.int .i64 a0_0, .int .i64 a0_1, .int .i64 a0_2, .int .i64 a0_3, .int .i64 a0_4]) := by rw [ha]; exact putSel_on (e := (0, 18, .agg #[.int .i64 a0_0, .int .i64 a0_1, .int .i64 a0_2, .int .i64 a0_3, .int .i64 a0_4])) 0 rfl rfl (hon 0 (by kernel_rfl)) rfl
       replace ha := mk_ ha
       have BK136 := mk_ Q_BK136
       have BK137 := mk_ Q_BK137
       have BK154 := mk_ Q_BK154
       have HB := mk_ Q_HB
       refine goes_ Try.func25 (by kernel_rfl) rfl #[.agg #[.int .i64 a0_0, .int .i64 a0_1, .int .i64 a0_2, .int .i64 a0_3, .int .i64 a0_4]] (by rfl) rfl rfl (by first | (simp only [List.map_toArray, List.map_cons, List.map_nil, Act.eval, Array.getD_eq_getD_getElem?, Option.getD_some, e18]; done) | (simp only [List.map_toArray, List.map_cons, List.map_nil, Act.eval, Array.getD_eq_getD_getElem?, Option.getD_some, e18]; rfl)) ?_
       with_reducible refine (laws_toCfgOpts.calls a0_0 a0_1 a0_2 a0_3 a0_4 t155 t156 t157 t158 t159 _ A6.out).mono ?_
       rintro e w90 ⟨rfl, hb⟩
       refine ⟨_, rfl, ?_⟩
       have n0_ := mk_ (q6 (g := gb136) (o := .cells #[.int .i64 a0_0, .int .i64 a0_1, .int .i64 a0_2, .int .i64 a0_3, .int .i64 a0_4] 25 (0, 0)) (by (with_reducible repeat (first | refine q1 ?_ _ | refine q2 ?_ | refine q3 ?_ _)); exact BK136.out) hb)
       have n1_ := mk_ (q6 (g := gb137) (o := .cells #[.int .i64 a1_0, .int .i64 a1_1, .int .i64 a1_2, .int .i64 a1_3, .int .i64 a1_4] 25 (0, 0)) (by (with_reducible repeat (first | refine q1 ?_ _ | refine q2 ?_ | refine q3 ?_ _)); exact BK137.out) hb)
       have n2_ := mk_ (q6 (g := gb154) (o := .cells #[.int .i64 t148, .int .i64 t149, .int .i64 t150, .int .i64 t151, .int .i64 t152] 29 (0, 0)) (by (with_reducible repeat (first | refine q1 ?_ _ | refine q2 ?_ | refine q3 ?_ _)); exact BK154.out) hb)
       have n3_ := mk_ (r3 (by repeat (first | (with_reducible first | exact HB.out | apply q7 | apply q8 | apply q9 | refine r1 ?_ GE136.out | refine r1 ?_ GE137.out | refine r1 ?_ GE154.out) | exact HB.out)) hb)
       have z_BK171 := fun (h0_ : b 8 = true) (h1_ : b 9 = false) => (show w90.heap[gb171]? = some (.cells #[.int .i64 0, .int .i64 0, .int .i64 0, .int .i64 0, .int .i64 0] 29 (0, 0)) from by first | exact (q6 (g := gb171) (o := .cells #[.int .i64 0, .int .i64 0, .int .i64 0, .int .i64 0, .int .i64 0] 29 (0, 0)) (by (with_reducible repeat (first | refine q1 ?_ _ | refine q2 ?_ | refine q3 ?_ _)); exact (Q_BK171 h0_ h1_)) hb))
       clear BK136
       clear BK137
       clear BK154
       clear HB
       have BK136 := n0_
       have BK137 := n1_
       have BK154 := n2_
       have HB := n3_
       clear n0_ n1_ n2_ n3_
       (try clear hb)
       (try clear hb2)
       (try clear hk)
       (try clear hi)
       refine hK.out _ _ ⟨gb171, m8_, (by rw [ha.out]; exact putSel_upk 1 hb_ rfl rfl rfl), (by (with_reducible repeat (first | refine q1 ?_ _ | refine q2 ?_ | refine q3 ?_ _)); exact BK136.out), (by (with_reducible repeat (first | refine q1 ?_ _ | refine q2 ?_ | refine q3 ?_ _)); exact BK137.out), (by (with_reducible repeat (first | refine q1 ?_ _ | refine q2 ?_ | refine q3 ?_ _)); exact BK154.out), (by repeat (first | (with_reducible first | exact HB.out | apply q7 | apply q8 | apply q9 | refine r1 ?_ GE136.out | refine r1 ?_ GE137.out | refine r1 ?_ GE154.out) | exact HB.out)), z_BK171, Q_GW171, Q_GE171, Q_NB136_171, Q_NB171_136, Q_NB137_171, Q_NB171_137, Q_NB154_171, Q_NB171_154, fun h0_ => absurd ((hoff 9 (by kernel_rfl)).symm.trans h0_) (by decide), Q_X8_⟩
     refine steps_cons ?_ ?_
     · rintro b a w' ⟨gb171, m8_, ha, Q_BK136, Q_BK137, Q_BK154, Q_HB, Q_BK171, Q_GW171, Q_GE171, Q_NB136_171, Q_NB171_136, Q_NB137_171, Q_NB171_137, Q_NB154_171, Q_NB171_154, Q_BK171_e9, Q_X8_⟩ hb_ hon hoff
       refine ⟨_, rfl, fun K hK => ?_⟩
       have e3 : a.tmps[3]? = some (.pointer (some ⟨gb137, 0, none⟩)) := by rw [ha]; exact (putSel_off rfl).trans rfl
       replace ha := mk_ ha
       have BK136 := mk_ Q_BK136
       have BK137 := mk_ Q_BK137
       have BK154 := mk_ Q_BK154
       have HB := mk_ Q_HB
       have hc0_ : w'.cell? ⟨gb137, 0, none⟩ = some (.int .i64 a1_0) := (r4 BK137.out 0).trans rfl
       have hc1_ : w'.cell? ⟨gb137, 1, none⟩ = some (.int .i64 a1_1) := (r4 BK137.out 1).trans rfl
       have hc2_ : w'.cell? ⟨gb137, 2, none⟩ = some (.int .i64 a1_2) := (r4 BK137.out 2).trans rfl
       have hc3_ : w'.cell? ⟨gb137, 3, none⟩ = some (.int .i64 a1_3) := (r4 BK137.out 3).trans rfl
       have hc4_ : w'.cell? ⟨gb137, 4, none⟩ = some (.int .i64 a1_4) := (r4 BK137.out 4).trans rfl
       refine value_ (w1 := w') (v := .agg #[.int .i64 a1_0, .int .i64 a1_1, .int .i64 a1_2, .int .i64 a1_3, .int .i64 a1_4]) (by rfl) rfl ?_ ?_
       · go_simp
         (try simp only [i64_w])
         try rfl
       refine hK.out _ _ ⟨gb171, m8_, (by rw [ha.out]; exact putSel_upk 2 hb_ rfl rfl rfl), Q_BK136, Q_BK137, Q_BK154, Q_HB, Q_BK171, Q_GW171, Q_GE171, Q_NB136_171, Q_NB171_136, Q_NB137_171, Q_NB171_137, Q_NB154_171, Q_NB171_154, fun h0_ => absurd ((hoff 9 (by kernel_rfl)).symm.trans h0_) (by decide), Q_X8_⟩
     refine steps_cons ?_ ?_
     · rintro b a w' ⟨gb171, m8_, ha, Q_BK136, Q_BK137, Q_BK154, Q_HB, Q_BK171, Q_GW171, Q_GE171, Q_NB136_171, Q_NB171_136, Q_NB137_171, Q_NB171_137, Q_NB154_171, Q_NB171_154, Q_BK171_e9, Q_X8_⟩ hb_ hon hoff
       refine ⟨_, rfl, fun K hK => ?_⟩
       have e20 : a.tmps[20]? = some (.agg #[.int .i64 a1_0, .int .i64 a1_1, .int .i64 a1_2, .int .i64 a1_3, .int .i64 a1_4]) := by rw [ha]; exact putSel_on (e := (2, 20, .agg #[.int .i64 a1_0, .int .i64 a1_1, .int .i64 a1_2, .int .i64 a1_3, .int .i64 a1_4])) 2 rfl rfl (hon 2 (by kernel_rfl)) rfl
       replace ha := mk_ ha
       have BK136 := mk_ Q_BK136
       have BK137 := mk_ Q_BK137
       have BK154 := mk_ Q_BK154
       have HB := mk_ Q_HB
       refine goes_ Try.func25 (by kernel_rfl) rfl #[.agg #[.int .i64 a1_0, .int .i64 a1_1, .int .i64 a1_2, .int .i64 a1_3, .int .i64 a1_4]] (by rfl) rfl rfl (by first | (simp only [List.map_toArray, List.map_cons, List.map_nil, Act.eval, Array.getD_eq_getD_getElem?, Option.getD_some, e20]; done) | (simp only [List.map_toArray, List.map_cons, List.map_nil, Act.eval, Array.getD_eq_getD_getElem?, Option.getD_some, e20]; rfl)) ?_
       with_reducible refine (laws_toCfgOpts.calls a1_0 a1_1 a1_2 a1_3 a1_4 t160 t161 t162 t163 t164 _ A7.out).mono ?_
       rintro e w92 ⟨rfl, hb⟩
       refine ⟨_, rfl, ?_⟩
       have n0_ := mk_ (q6 (g := gb136) (o := .cells #[.int .i64 a0_0, .int .i64 a0_1, .int .i64 a0_2, .int .i64 a0_3, .int .i64 a0_4] 25 (0, 0)) (by (with_reducible repeat (first | refine q1 ?_ _ | refine q2 ?_ | refine q3 ?_ _)); exact BK136.out) hb)
       have n1_ := mk_ (q6 (g := gb137) (o := .cells #[.int .i64 a1_0, .int .i64 a1_1, .int .i64 a1_2, .int .i64 a1_3, .int .i64 a1_4] 25 (0, 0)) (by (with_reducible repeat (first | refine q1 ?_ _ | refine q2 ?_ | refine q3 ?_ _)); exact BK137.out) hb)
       have n2_ := mk_ (q6 (g := gb154) (o := .cells #[.int .i64 t148, .int .i64 t149, .int .i64 t150, .int .i64 t151, .int .i64 t152] 29 (0, 0)) (by (with_reducible repeat (first | refine q1 ?_ _ | refine q2 ?_ | refine q3 ?_ _)); exact BK154.out) hb)
       have n3_ := mk_ (r3 (by repeat (first | (with_reducible first | exact HB.out | apply q7 | apply q8 | apply q9 | refine r1 ?_ GE136.out | refine r1 ?_ GE137.out | refine r1 ?_ GE154.out) | exact HB.out)) hb)
       have z_BK171 := fun (h0_ : b 8 = true) (h1_ : b 9 = false) => (show w92.heap[gb171]? = some (.cells #[.int .i64 0, .int .i64 0, .int .i64 0, .int .i64 0, .int .i64 0] 29 (0, 0)) from by first | exact (q6 (g := gb171) (o := .cells #[.int .i64 0, .int .i64 0, .int .i64 0, .int .i64 0, .int .i64 0] 29 (0, 0)) (by (with_reducible repeat (first | refine q1 ?_ _ | refine q2 ?_ | refine q3 ?_ _)); exact (Q_BK171 h0_ h1_)) hb))
       clear BK136
       clear BK137
       clear BK154
       clear HB
       have BK136 := n0_
       have BK137 := n1_
       have BK154 := n2_
       have HB := n3_
       clear n0_ n1_ n2_ n3_
       (try clear hb)
       (try clear hb2)
       (try clear hk)
       (try clear hi)
       refine hK.out _ _ ⟨gb171, m8_, (by rw [ha.out]; exact putSel_upk 3 hb_ rfl rfl rfl), (by (with_reducible repeat (first | refine q1 ?_ _ | refine q2 ?_ | refine q3 ?_ _)); exact BK136.out), (by (with_reducible repeat (first | refine q1 ?_ _ | refine q2 ?_ | refine q3 ?_ _)); exact BK137.out), (by (with_reducible repeat (first | refine q1 ?_ _ | refine q2 ?_ | refine q3 ?_ _)); exact BK154.out), (by repeat (first | (with_reducible first | exact HB.out | apply q7 | apply q8 | apply q9 | refine r1 ?_ GE136.out | refine r1 ?_ GE137.out | refine r1 ?_ GE154.out) | exact HB.out)), z_BK171, Q_GW171, Q_GE171, Q_NB136_171, Q_NB171_136, Q_NB137_171, Q_NB171_137, Q_NB154_171, Q_NB171_154, fun h0_ => absurd ((hoff 9 (by kernel_rfl)).symm.trans h0_) (by decide), Q_X8_⟩
     refine steps_cons ?_ ?_
     · rintro b a w' ⟨gb171, m8_, ha, Q_BK136, Q_BK137, Q_BK154, Q_HB, Q_BK171, Q_GW171, Q_GE171, Q_NB136_171, Q_NB171_136, Q_NB137_171, Q_NB171_137, Q_NB154_171, Q_NB171_154, Q_BK171_e9, Q_X8_⟩ hb_ hon hoff
       refine ⟨_, rfl, fun K hK => ?_⟩
       have e19 : a.tmps[19]? = some (.agg #[.int .i64 t155, .int .i64 t156, .int .i64 t157, .int .i64 t158, .int .i64 t159]) := by rw [ha]; exact putSel_on (e := (1, 19, .agg #[.int .i64 t155, .int .i64 t156, .int .i64 t157, .int .i64 t158, .int .i64 t159])) 1 rfl rfl (hon 1 (by kernel_rfl)) rfl
       have e21 : a.tmps[21]? = some (.agg #[.int .i64 t160, .int .i64 t161, .int .i64 t162, .int .i64 t163, .int .i64 t164]) := by rw [ha]; exact putSel_on (e := (3, 21, .agg #[.int .i64 t160, .int .i64 t161, .int .i64 t162, .int .i64 t163, .int .i64 t164])) 3 rfl rfl (hon 3 (by kernel_rfl)) rfl
       replace ha := mk_ ha
       have BK136 := mk_ Q_BK136
       have BK137 := mk_ Q_BK137
       have BK154 := mk_ Q_BK154
       have HB := mk_ Q_HB
       refine goes_ Try.func26 (by kernel_rfl) rfl #[.agg #[.int .i64 t155, .int .i64 t156, .int .i64 t157, .int .i64 t158, .int .i64 t159], .agg #[.int .i64 t160, .int .i64 t161, .int .i64 t162, .int .i64 t163, .int .i64 t164]] (by rfl) rfl rfl (by first | (simp only [List.map_toArray, List.map_cons, List.map_nil, Act.eval, Array.getD_eq_getD_getElem?, Option.getD_some, e19, e21]; done) | (simp only [List.map_toArray, List.map_cons, List.map_nil, Act.eval, Array.getD_eq_getD_getElem?, Option.getD_some, e19, e21]; rfl)) ?_
       with_reducible refine (impl_CfgMeet.calls t155 t156 t157 t158 t159 t160 t161 t162 t163 t164 t165 t166 t167 t168 t169 t170 _ A8.out).mono ?_
       rintro e w93 ⟨rfl, hb⟩
       refine ⟨_, rfl, ?_⟩
       have n0_ := mk_ (q6 (g := gb136) (o := .cells #[.int .i64 a0_0, .int .i64 a0_1, .int .i64 a0_2, .int .i64 a0_3, .int .i64 a0_4] 25 (0, 0)) (by (with_reducible repeat (first | refine q1 ?_ _ | refine q2 ?_ | refine q3 ?_ _)); exact BK136.out) hb)
       have n1_ := mk_ (q6 (g := gb137) (o := .cells #[.int .i64 a1_0, .int .i64 a1_1, .int .i64 a1_2, .int .i64 a1_3, .int .i64 a1_4] 25 (0, 0)) (by (with_reducible repeat (first | refine q1 ?_ _ | refine q2 ?_ | refine q3 ?_ _)); exact BK137.out) hb)
       have n2_ := mk_ (q6 (g := gb154) (o := .cells #[.int .i64 t148, .int .i64 t149, .int .i64 t150, .int .i64 t151, .int .i64 t152] 29 (0, 0)) (by (with_reducible repeat (first | refine q1 ?_ _ | refine q2 ?_ | refine q3 ?_ _)); exact BK154.out) hb)
       have n3_ := mk_ (r3 (by repeat (first | (with_reducible first | exact HB.out | apply q7 | apply q8 | apply q9 | refine r1 ?_ GE136.out | refine r1 ?_ GE137.out | refine r1 ?_ GE154.out) | exact HB.out)) hb)
       have z_BK171 := fun (h0_ : b 8 = true) (h1_ : b 9 = false) => (show w93.heap[gb171]? = some (.cells #[.int .i64 0, .int .i64 0, .int .i64 0, .int .i64 0, .int .i64 0] 29 (0, 0)) from by first | exact (q6 (g := gb171) (o := .cells #[.int .i64 0, .int .i64 0, .int .i64 0, .int .i64 0, .int .i64 0] 29 (0, 0)) (by (with_reducible repeat (first | refine q1 ?_ _ | refine q2 ?_ | refine q3 ?_ _)); exact (Q_BK171 h0_ h1_)) hb))
       clear BK136
       clear BK137
       clear BK154
       clear HB
       have BK136 := n0_
       have BK137 := n1_
       have BK154 := n2_
       have HB := n3_
       clear n0_ n1_ n2_ n3_
       (try clear hb)
       (try clear hb2)
       (try clear hk)
       (try clear hi)
       refine hK.out _ _ ⟨gb171, m8_, (by rw [ha.out]; exact putSel_upk 4 hb_ rfl rfl rfl), (by (with_reducible repeat (first | refine q1 ?_ _ | refine q2 ?_ | refine q3 ?_ _)); exact BK136.out), (by (with_reducible repeat (first | refine q1 ?_ _ | refine q2 ?_ | refine q3 ?_ _)); exact BK137.out), (by (with_reducible repeat (first | refine q1 ?_ _ | refine q2 ?_ | refine q3 ?_ _)); exact BK154.out), (by repeat (first | (with_reducible first | exact HB.out | apply q7 | apply q8 | apply q9 | refine r1 ?_ GE136.out | refine r1 ?_ GE137.out | refine r1 ?_ GE154.out) | exact HB.out)), z_BK171, Q_GW171, Q_GE171, Q_NB136_171, Q_NB171_136, Q_NB137_171, Q_NB171_137, Q_NB154_171, Q_NB171_154, fun h0_ => absurd ((hoff 9 (by kernel_rfl)).symm.trans h0_) (by decide), Q_X8_⟩
     refine steps_cons ?_ ?_
     · rintro b a w' ⟨gb171, m8_, ha, Q_BK136, Q_BK137, Q_BK154, Q_HB, Q_BK171, Q_GW171, Q_GE171, Q_NB136_171, Q_NB171_136, Q_NB137_171, Q_NB171_137, Q_NB154_171, Q_NB171_154, Q_BK171_e9, Q_X8_⟩ hb_ hon hoff
       refine ⟨_, rfl, fun K hK => ?_⟩
       have e22 : a.tmps[22]? = some (.tuple #[.agg #[.int .i64 t165, .int .i64 t166, .int .i64 t167, .int .i64 t168, .int .i64 t169], .bool t170]) := by rw [ha]; exact putSel_on (e := (4, 22, .tuple #[.agg #[.int .i64 t165, .int .i64 t166, .int .i64 t167, .int .i64 t168, .int .i64 t169], .bool t170])) 4 rfl rfl (hon 4 (by kernel_rfl)) rfl
       replace ha := mk_ ha
       have BK136 := mk_ Q_BK136
       have BK137 := mk_ Q_BK137
       have BK154 := mk_ Q_BK154
       have HB := mk_ Q_HB
       refine value_ (w1 := w') (v := .tuple #[.agg #[.int .i64 t165, .int .i64 t166, .int .i64 t167, .int .i64 t168, .int .i64 t169], .bool t170]) (by rfl) rfl ?_ ?_
       · go_simp
         (try simp only [i64_w])
         try rfl
       refine hK.out _ _ ⟨gb171, m8_, (by rw [ha.out]; exact putSel_upk 5 hb_ rfl rfl rfl), Q_BK136, Q_BK137, Q_BK154, Q_HB, Q_BK171, Q_GW171, Q_GE171, Q_NB136_171, Q_NB171_136, Q_NB137_171, Q_NB171_137, Q_NB154_171, Q_NB171_154, fun h0_ => absurd ((hoff 9 (by kernel_rfl)).symm.trans h0_) (by decide), Q_X8_⟩
     refine steps_cons ?_ ?_
     · rintro b a w' ⟨gb171, m8_, ha, Q_BK136, Q_BK137, Q_BK154, Q_HB, Q_BK171, Q_GW171, Q_GE171, Q_NB136_171, Q_NB171_136, Q_NB137_171, Q_NB171_137, Q_NB154_171, Q_NB171_154, Q_BK171_e9, Q_X8_⟩ hb_ hon hoff
       refine ⟨_, rfl, fun K hK => ?_⟩
       have e17 : a.tmps[17]? = some (.tuple #[.agg #[.int .i64 t165, .int .i64 t166, .int .i64 t167, .int .i64 t168, .int .i64 t169], .bool t170]) := by rw [ha]; exact putSel_on (e := (5, 17, .tuple #[.agg #[.int .i64 t165, .int .i64 t166, .int .i64 t167, .int .i64 t168, .int .i64 t169], .bool t170])) 5 rfl rfl (hon 5 (by kernel_rfl)) rfl
       replace ha := mk_ ha
       have BK136 := mk_ Q_BK136
       have BK137 := mk_ Q_BK137
       have BK154 := mk_ Q_BK154
       have HB := mk_ Q_HB
       refine value_ (w1 := w') (v := .agg #[.int .i64 t165, .int .i64 t166, .int .i64 t167, .int .i64 t168, .int .i64 t169]) (by rfl) rfl ?_ ?_
       · go_simp
         (try simp only [i64_w])
         try rfl
       refine hK.out _ _ ⟨gb171, m8_, (by rw [ha.out]; exact putSel_upk 6 hb_ rfl rfl rfl), Q_BK136, Q_BK137, Q_BK154, Q_HB, Q_BK171, Q_GW171, Q_GE171, Q_NB136_171, Q_NB171_136, Q_NB137_171, Q_NB171_137, Q_NB154_171, Q_NB171_154, fun h0_ => absurd ((hoff 9 (by kernel_rfl)).symm.trans h0_) (by decide), Q_X8_⟩
     refine steps_cons ?_ ?_
     · rintro b a w' ⟨gb171, m8_, ha, Q_BK136, Q_BK137, Q_BK154, Q_HB, Q_BK171, Q_GW171, Q_GE171, Q_NB136_171, Q_NB171_136, Q_NB137_171, Q_NB171_137, Q_NB154_171, Q_NB171_154, Q_BK171_e9, Q_X8_⟩ hb_ hon hoff
       refine ⟨_, rfl, fun K hK => ?_⟩
       have e17 : a.tmps[17]? = some (.tuple #[.agg #[.int .i64 t165, .int .i64 t166, .int .i64 t167, .int .i64 t168, .int .i64 t169], .bool t170]) := by rw [ha]; exact putSel_on (e := (5, 17, .tuple #[.agg #[.int .i64 t165, .int .i64 t166, .int .i64 t167, .int .i64 t168, .int .i64 t169], .bool t170])) 5 rfl rfl (hon 5 (by kernel_rfl)) rfl
       replace ha := mk_ ha
       have BK136 := mk_ Q_BK136
       have BK137 := mk_ Q_BK137
       have BK154 := mk_ Q_BK154
       have HB := mk_ Q_HB
       refine value_ (w1 := w') (v := .bool t170) (by rfl) rfl ?_ ?_
       · go_simp
         (try simp only [i64_w])
         try rfl
       refine hK.out _ _ ⟨gb171, m8_, (by rw [ha.out]; exact putSel_upk 7 hb_ rfl rfl rfl), Q_BK136, Q_BK137, Q_BK154, Q_HB, Q_BK171, Q_GW171, Q_GE171, Q_NB136_171, Q_NB171_136, Q_NB137_171, Q_NB171_137, Q_NB154_171, Q_NB171_154, Q_BK171_e9, Q_X8_⟩
     refine steps_cons ?_ ?_
     · rintro b a w' ⟨gb171, m8_, ha, Q_BK136, Q_BK137, Q_BK154, Q_HB, Q_BK171, Q_GW171, Q_GE171, Q_NB136_171, Q_NB171_136, Q_NB137_171, Q_NB171_137, Q_NB154_171, Q_NB171_154, Q_BK171_e9, Q_X8_⟩ hb_ hon hoff
       refine ⟨_, rfl, fun K hK => ?_⟩
       replace ha := mk_ ha
       have BK136 := mk_ Q_BK136
       have BK137 := mk_ Q_BK137
       have BK154 := mk_ Q_BK154
       have HB := mk_ Q_HB
       refine box_step ?hg (N := 7) ?hd (cs := #[.int .i64 0, .int .i64 0, .int .i64 0, .int .i64 0, .int .i64 0]) (t := 29) ?hr ?_; (case hd => rfl); (case hg => rfl); (case hr => first | (go_simp; done) | (go_simp; rfl))
       intro gb171 hg w90 hbox hb
       have n0_ := mk_ (q6 (g := gb136) (o := .cells #[.int .i64 a0_0, .int .i64 a0_1, .int .i64 a0_2, .int .i64 a0_3, .int .i64 a0_4] 25 (0, 0)) (by (with_reducible repeat (first | refine q1 ?_ _ | refine q2 ?_ | refine q3 ?_ _)); exact BK136.out) hb)
       have n1_ := mk_ (q6 (g := gb137) (o := .cells #[.int .i64 a1_0, .int .i64 a1_1, .int .i64 a1_2, .int .i64 a1_3, .int .i64 a1_4] 25 (0, 0)) (by (with_reducible repeat (first | refine q1 ?_ _ | refine q2 ?_ | refine q3 ?_ _)); exact BK137.out) hb)
       have n2_ := mk_ (q6 (g := gb154) (o := .cells #[.int .i64 t148, .int .i64 t149, .int .i64 t150, .int .i64 t151, .int .i64 t152] 29 (0, 0)) (by (with_reducible repeat (first | refine q1 ?_ _ | refine q2 ?_ | refine q3 ?_ _)); exact BK154.out) hb)
       have n3_ := mk_ (r3 (by repeat (first | (with_reducible first | exact HB.out | apply q7 | apply q8 | apply q9 | refine r1 ?_ GE136.out | refine r1 ?_ GE137.out | refine r1 ?_ GE154.out) | exact HB.out)) hb)
       have n4_ := mk_ (hbox)
       have n5_ := mk_ ((by rw [hg]; exact (r2 (by repeat (first | (with_reducible first | exact HB.out | apply q7 | apply q8 | apply q9 | refine r1 ?_ GE136.out | refine r1 ?_ GE137.out | refine r1 ?_ GE154.out) | exact HB.out))) : w.heap.size ≤ gb171))
       have n6_ := mk_ ((by rw [hg]; exact (r2 (by repeat (first | (with_reducible first | exact HB.out | apply q7 | apply q8 | apply q9 | refine r1 ?_ GE136.out | refine r1 ?_ GE137.out | refine r1 ?_ GE154.out) | exact HB.out))) : w.heap.size ≤ gb171))
       have n7_ := mk_ ((by rw [hg]; exact m2 (r6 (g := gb136) (o := .cells #[.int .i64 a0_0, .int .i64 a0_1, .int .i64 a0_2, .int .i64 a0_3, .int .i64 a0_4] 25 (0, 0)) (by (with_reducible repeat (first | refine q1 ?_ _ | refine q2 ?_ | refine q3 ?_ _)); exact BK136.out)) : gb136 ≠ gb171))
       have n8_ := mk_ ((by rw [hg]; exact m3 (r6 (g := gb136) (o := .cells #[.int .i64 a0_0, .int .i64 a0_1, .int .i64 a0_2, .int .i64 a0_3, .int .i64 a0_4] 25 (0, 0)) (by (with_reducible repeat (first | refine q1 ?_ _ | refine q2 ?_ | refine q3 ?_ _)); exact BK136.out)) : gb171 ≠ gb136))
       have n9_ := mk_ ((by rw [hg]; exact m2 (r6 (g := gb137) (o := .cells #[.int .i64 a1_0, .int .i64 a1_1, .int .i64 a1_2, .int .i64 a1_3, .int .i64 a1_4] 25 (0, 0)) (by (with_reducible repeat (first | refine q1 ?_ _ | refine q2 ?_ | refine q3 ?_ _)); exact BK137.out)) : gb137 ≠ gb171))
       have n10_ := mk_ ((by rw [hg]; exact m3 (r6 (g := gb137) (o := .cells #[.int .i64 a1_0, .int .i64 a1_1, .int .i64 a1_2, .int .i64 a1_3, .int .i64 a1_4] 25 (0, 0)) (by (with_reducible repeat (first | refine q1 ?_ _ | refine q2 ?_ | refine q3 ?_ _)); exact BK137.out)) : gb171 ≠ gb137))
       have n11_ := mk_ ((by rw [hg]; exact m2 (r6 (g := gb154) (o := .cells #[.int .i64 t148, .int .i64 t149, .int .i64 t150, .int .i64 t151, .int .i64 t152] 29 (0, 0)) (by (with_reducible repeat (first | refine q1 ?_ _ | refine q2 ?_ | refine q3 ?_ _)); exact BK154.out)) : gb154 ≠ gb171))
       have n12_ := mk_ ((by rw [hg]; exact m3 (r6 (g := gb154) (o := .cells #[.int .i64 t148, .int .i64 t149, .int .i64 t150, .int .i64 t151, .int .i64 t152] 29 (0, 0)) (by (with_reducible repeat (first | refine q1 ?_ _ | refine q2 ?_ | refine q3 ?_ _)); exact BK154.out)) : gb171 ≠ gb154))
       clear BK136
       clear BK137
       clear BK154
       clear HB
       have BK136 := n0_
       have BK137 := n1_
       have BK154 := n2_
       have HB := n3_
       have BK171 := n4_
       have GW171 := n5_
       have GE171 := n6_
       have NB136_171 := n7_
       have NB171_136 := n8_
       have NB137_171 := n9_
       have NB171_137 := n10_
       have NB154_171 := n11_
       have NB171_154 := n12_
       clear n0_ n1_ n2_ n3_ n4_ n5_ n6_ n7_ n8_ n9_ n10_ n11_ n12_
       clear hb hbox hg
       refine hK.out _ _ ⟨gb171, (.pointer (some ⟨gb171, 0, none⟩)), (by rw [ha.out]; exact putSel_upk 8 hb_ rfl rfl rfl), (by (with_reducible repeat (first | refine q1 ?_ _ | refine q2 ?_ | refine q3 ?_ _)); exact BK136.out), (by (with_reducible repeat (first | refine q1 ?_ _ | refine q2 ?_ | refine q3 ?_ _)); exact BK137.out), (by (with_reducible repeat (first | refine q1 ?_ _ | refine q2 ?_ | refine q3 ?_ _)); exact BK154.out), (by repeat (first | (with_reducible first | exact HB.out | apply q7 | apply q8 | apply q9 | refine r1 ?_ GE136.out | refine r1 ?_ GE137.out | refine r1 ?_ GE154.out | refine r1 ?_ GE171.out) | exact HB.out)), fun _ _ => (by (with_reducible repeat (first | refine q1 ?_ _ | refine q2 ?_ | refine q3 ?_ _)); exact BK171.out), fun _ => GW171.out, fun _ => GE171.out, fun _ => NB136_171.out, fun _ => NB171_136.out, fun _ => NB137_171.out, fun _ => NB171_137.out, fun _ => NB154_171.out, fun _ => NB171_154.out, fun h0_ => absurd ((hoff 9 (by kernel_rfl)).symm.trans h0_) (by decide), fun _ => rfl⟩
     refine steps_cons ?_ ?_
     · rintro b a w' ⟨gb171, m8_, ha, Q_BK136, Q_BK137, Q_BK154, Q_HB, Q_BK171, Q_GW171, Q_GE171, Q_NB136_171, Q_NB171_136, Q_NB137_171, Q_NB171_137, Q_NB154_171, Q_NB171_154, Q_BK171_e9, Q_X8_⟩ hb_ hon hoff
       refine ⟨_, rfl, fun K hK => ?_⟩
       have e7 : a.tmps[7]? = some (m8_) := by rw [ha]; exact putSel_on (e := (8, 7, m8_)) 8 rfl rfl (hon 8 (by kernel_rfl)) rfl
       rw [Q_X8_ (hon 8 (by kernel_rfl))] at e7
       have e23 : a.tmps[23]? = some (.agg #[.int .i64 t165, .int .i64 t166, .int .i64 t167, .int .i64 t168, .int .i64 t169]) := by rw [ha]; exact putSel_on (e := (6, 23, .agg #[.int .i64 t165, .int .i64 t166, .int .i64 t167, .int .i64 t168, .int .i64 t169])) 6 rfl rfl (hon 6 (by kernel_rfl)) rfl
       replace ha := mk_ ha
       have BK136 := mk_ Q_BK136
       have BK137 := mk_ Q_BK137
       have BK154 := mk_ Q_BK154
       have HB := mk_ Q_HB
       have BK171 := mk_ (Q_BK171 (hon 8 (by kernel_rfl)) hb_)
       have GW171 := mk_ (Q_GW171 (hon 8 (by kernel_rfl)))
       have GE171 := mk_ (Q_GE171 (hon 8 (by kernel_rfl)))
       have NB136_171 := mk_ (Q_NB136_171 (hon 8 (by kernel_rfl)))
       have NB171_136 := mk_ (Q_NB171_136 (hon 8 (by kernel_rfl)))
       have NB137_171 := mk_ (Q_NB137_171 (hon 8 (by kernel_rfl)))
       have NB171_137 := mk_ (Q_NB171_137 (hon 8 (by kernel_rfl)))
       have NB154_171 := mk_ (Q_NB154_171 (hon 8 (by kernel_rfl)))
       have NB171_154 := mk_ (Q_NB171_154 (hon 8 (by kernel_rfl)))
       have hs95 : w'.cell? ⟨gb171, 0, none⟩ = some (.int .i64 0) := (r4 BK171.out 0).trans rfl
       have hfs95 := r5 BK171.out 0
       have hns95_0 := NB136_171.out
       have hns95_1 := NB137_171.out
       have hns95_2 := NB154_171.out
       have hms95_0 := NB171_136.out
       have hms95_1 := NB171_137.out
       have hms95_2 := NB171_154.out
       have hs96 : w'.cell? ⟨gb171, 1, none⟩ = some (.int .i64 0) := (r4 BK171.out 1).trans rfl
       have hfs96 := r5 BK171.out 1
       have hns96_0 := NB136_171.out
       have hns96_1 := NB137_171.out
       have hns96_2 := NB154_171.out
       have hms96_0 := NB171_136.out
       have hms96_1 := NB171_137.out
       have hms96_2 := NB171_154.out
       have hs97 : w'.cell? ⟨gb171, 2, none⟩ = some (.int .i64 0) := (r4 BK171.out 2).trans rfl
       have hfs97 := r5 BK171.out 2
       have hns97_0 := NB136_171.out
       have hns97_1 := NB137_171.out
       have hns97_2 := NB154_171.out
       have hms97_0 := NB171_136.out
       have hms97_1 := NB171_137.out
       have hms97_2 := NB171_154.out
       have hs98 : w'.cell? ⟨gb171, 3, none⟩ = some (.int .i64 0) := (r4 BK171.out 3).trans rfl
       have hfs98 := r5 BK171.out 3
       have hns98_0 := NB136_171.out
       have hns98_1 := NB137_171.out
       have hns98_2 := NB154_171.out
       have hms98_0 := NB171_136.out
       have hms98_1 := NB171_137.out
       have hms98_2 := NB171_154.out
       have hs99 : w'.cell? ⟨gb171, 4, none⟩ = some (.int .i64 0) := (r4 BK171.out 4).trans rfl
       have hfs99 := r5 BK171.out 4
       have hns99_0 := NB136_171.out
       have hns99_1 := NB137_171.out
       have hns99_2 := NB154_171.out
       have hms99_0 := NB171_136.out
       have hms99_1 := NB171_137.out
       have hms99_2 := NB171_154.out
       refine skip_ (w1 := ?_) (by rfl) rfl ?_ ?_
       rotate_left
       · go_simp
         rfl
       refine hK.out _ _ ⟨gb171, m8_, (by rw [ha.out]; exact putSel_none (v := undef) rfl), (by (with_reducible repeat (first | refine q1 ?_ _ | refine q2 ?_ | refine q3 ?_ _)); refine q5 ?_ NB136_171.out _; (with_reducible repeat (first | refine q1 ?_ _ | refine q2 ?_ | refine q3 ?_ _)); refine q5 ?_ NB136_171.out _; (with_reducible repeat (first | refine q1 ?_ _ | refine q2 ?_ | refine q3 ?_ _)); refine q5 ?_ NB136_171.out _; (with_reducible repeat (first | refine q1 ?_ _ | refine q2 ?_ | refine q3 ?_ _)); refine q5 ?_ NB136_171.out _; (with_reducible repeat (first | refine q1 ?_ _ | refine q2 ?_ | refine q3 ?_ _)); refine q5 ?_ NB136_171.out _; (with_reducible repeat (first | refine q1 ?_ _ | refine q2 ?_ | refine q3 ?_ _)); exact BK136.out), (by (with_reducible repeat (first | refine q1 ?_ _ | refine q2 ?_ | refine q3 ?_ _)); refine q5 ?_ NB137_171.out _; (with_reducible repeat (first | refine q1 ?_ _ | refine q2 ?_ | refine q3 ?_ _)); refine q5 ?_ NB137_171.out _; (with_reducible repeat (first | refine q1 ?_ _ | refine q2 ?_ | refine q3 ?_ _)); refine q5 ?_ NB137_171.out _; (with_reducible repeat (first | refine q1 ?_ _ | refine q2 ?_ | refine q3 ?_ _)); refine q5 ?_ NB137_171.out _; (with_reducible repeat (first | refine q1 ?_ _ | refine q2 ?_ | refine q3 ?_ _)); refine q5 ?_ NB137_171.out _; (with_reducible repeat (first | refine q1 ?_ _ | refine q2 ?_ | refine q3 ?_ _)); exact BK137.out), (by (with_reducible repeat (first | refine q1 ?_ _ | refine q2 ?_ | refine q3 ?_ _)); refine q5 ?_ NB154_171.out _; (with_reducible repeat (first | refine q1 ?_ _ | refine q2 ?_ | refine q3 ?_ _)); refine q5 ?_ NB154_171.out _; (with_reducible repeat (first | refine q1 ?_ _ | refine q2 ?_ | refine q3 ?_ _)); refine q5 ?_ NB154_171.out _; (with_reducible repeat (first | refine q1 ?_ _ | refine q2 ?_ | refine q3 ?_ _)); refine q5 ?_ NB154_171.out _; (with_reducible repeat (first | refine q1 ?_ _ | refine q2 ?_ | refine q3 ?_ _)); refine q5 ?_ NB154_171.out _; (with_reducible repeat (first | refine q1 ?_ _ | refine q2 ?_ | refine q3 ?_ _)); exact BK154.out), (by repeat (first | (with_reducible first | exact HB.out | apply q7 | apply q8 | apply q9 | refine r1 ?_ GE136.out | refine r1 ?_ GE137.out | refine r1 ?_ GE154.out | refine r1 ?_ GE171.out) | exact HB.out)), fun _ h1_ => absurd ((up_self b 9).symm.trans h1_) (by decide), fun _ => GW171.out, fun _ => GE171.out, fun _ => NB136_171.out, fun _ => NB171_136.out, fun _ => NB137_171.out, fun _ => NB171_137.out, fun _ => NB154_171.out, fun _ => NB171_154.out, fun _ => (by (with_reducible repeat (first | refine q1 ?_ _ | refine q2 ?_ | refine q3 ?_ _)); refine q4 (cs := #[.int .i64 t165, .int .i64 t166, .int .i64 t167, .int .i64 t168, .int .i64 0]) ?_ 4 _ rfl; (with_reducible repeat (first | refine q1 ?_ _ | refine q2 ?_ | refine q3 ?_ _)); refine q4 (cs := #[.int .i64 t165, .int .i64 t166, .int .i64 t167, .int .i64 0, .int .i64 0]) ?_ 3 _ rfl; (with_reducible repeat (first | refine q1 ?_ _ | refine q2 ?_ | refine q3 ?_ _)); refine q4 (cs := #[.int .i64 t165, .int .i64 t166, .int .i64 0, .int .i64 0, .int .i64 0]) ?_ 2 _ rfl; (with_reducible repeat (first | refine q1 ?_ _ | refine q2 ?_ | refine q3 ?_ _)); refine q4 (cs := #[.int .i64 t165, .int .i64 0, .int .i64 0, .int .i64 0, .int .i64 0]) ?_ 1 _ rfl; (with_reducible repeat (first | refine q1 ?_ _ | refine q2 ?_ | refine q3 ?_ _)); refine q4 (cs := #[.int .i64 0, .int .i64 0, .int .i64 0, .int .i64 0, .int .i64 0]) ?_ 0 _ rfl; (with_reducible repeat (first | refine q1 ?_ _ | refine q2 ?_ | refine q3 ?_ _)); exact BK171.out), Q_X8_⟩
     refine steps_cons ?_ ?_
     · rintro b a w' ⟨gb171, m8_, ha, Q_BK136, Q_BK137, Q_BK154, Q_HB, Q_BK171, Q_GW171, Q_GE171, Q_NB136_171, Q_NB171_136, Q_NB137_171, Q_NB171_137, Q_NB154_171, Q_NB171_154, Q_BK171_e9, Q_X8_⟩ hb_ hon hoff
       refine ⟨_, rfl, fun K hK => ?_⟩
       have e24 : a.tmps[24]? = some (.bool t170) := by rw [ha]; exact putSel_on (e := (7, 24, .bool t170)) 7 rfl rfl (hon 7 (by kernel_rfl)) rfl
       replace ha := mk_ ha
       have BK136 := mk_ Q_BK136
       have BK137 := mk_ Q_BK137
       have BK154 := mk_ Q_BK154
       have HB := mk_ Q_HB
       have GW171 := mk_ (Q_GW171 (hon 8 (by kernel_rfl)))
       have GE171 := mk_ (Q_GE171 (hon 8 (by kernel_rfl)))
       have NB136_171 := mk_ (Q_NB136_171 (hon 8 (by kernel_rfl)))
       have NB171_136 := mk_ (Q_NB171_136 (hon 8 (by kernel_rfl)))
       have NB137_171 := mk_ (Q_NB137_171 (hon 8 (by kernel_rfl)))
       have NB171_137 := mk_ (Q_NB171_137 (hon 8 (by kernel_rfl)))
       have NB154_171 := mk_ (Q_NB154_171 (hon 8 (by kernel_rfl)))
       have NB171_154 := mk_ (Q_NB171_154 (hon 8 (by kernel_rfl)))
       have BK171 := mk_ (Q_BK171_e9 (hon 9 (by kernel_rfl)))
       refine value_ (w1 := w') (v := .bool t170) (by rfl) rfl ?_ ?_
       · go_simp
         (try simp only [i64_w])
         try rfl
       refine hK.out _ _ ⟨gb171, m8_, (by rw [ha.out]; exact putSel_upk 9 hb_ rfl rfl rfl), Q_BK136, Q_BK137, Q_BK154, Q_HB, fun _ h1_ => absurd ((hon 9 (by kernel_rfl)).symm.trans h1_) (by decide), Q_GW171, Q_GE171, Q_NB136_171, Q_NB171_136, Q_NB137_171, Q_NB171_137, Q_NB154_171, Q_NB171_154, Q_BK171_e9, Q_X8_⟩
     exact steps_nil
   rintro b a w99 hall ⟨gb171, m8_, ha, Q_BK136, Q_BK137, Q_BK154, Q_HB, Q_BK171, Q_GW171, Q_GE171, Q_NB136_171, Q_NB171_136, Q_NB137_171, Q_NB171_137, Q_NB154_171, Q_NB171_154, Q_BK171_e9, Q_X8_⟩
   clear BK136 BK137 BK154 HB
   have hb0_ := hall 0 (by kernel_rfl)
   have hb1_ := hall 1 (by kernel_rfl)
   have hb2_ := hall 2 (by kernel_rfl)
   have hb3_ := hall 3 (by kernel_rfl)
   have hb4_ := hall 4 (by kernel_rfl)
   have hb5_ := hall 5 (by kernel_rfl)
   have hb6_ := hall 6 (by kernel_rfl)
   have hb7_ := hall 7 (by kernel_rfl)
   have hb8_ := hall 8 (by kernel_rfl)
   have hb9_ := hall 9 (by kernel_rfl)
   have hb10_ := hall 10 (by kernel_rfl)
   subst ha
   obtain rfl := Q_X8_ hb8_
   simp only [putSel, hb0_, hb1_, hb2_, hb3_, hb4_, hb5_, hb6_, hb7_, hb8_, hb9_, hb10_, if_true, Act.put, List.setIfInBounds_toArray, List.set_cons_zero, List.set_cons_succ]
   have BK136 := mk_ Q_BK136
   clear Q_BK136
   have BK137 := mk_ Q_BK137
   clear Q_BK137
   have BK154 := mk_ Q_BK154
   clear Q_BK154
   have HB := mk_ Q_HB
   clear Q_HB
   clear Q_BK171
   have GW171 := mk_ (Q_GW171 hb8_)
   clear Q_GW171
   have GE171 := mk_ (Q_GE171 hb8_)
   clear Q_GE171
   have NB136_171 := mk_ (Q_NB136_171 hb8_)
   clear Q_NB136_171
   have NB171_136 := mk_ (Q_NB171_136 hb8_)
   clear Q_NB171_136
   have NB137_171 := mk_ (Q_NB137_171 hb8_)
   clear Q_NB137_171
   have NB171_137 := mk_ (Q_NB171_137 hb8_)
   clear Q_NB171_137
   have NB154_171 := mk_ (Q_NB154_171 hb8_)
   clear Q_NB154_171
   have NB171_154 := mk_ (Q_NB171_154 hb8_)
   clear Q_NB171_154
   have BK171 := mk_ (Q_BK171_e9 hb9_)
   clear Q_BK171_e9
   clear hall hb0_ hb1_ hb2_ hb3_ hb4_ hb5_ hb6_ hb7_ hb8_ hb9_ hb10_
   have hnb100 := NB171_136.out
   have hnc100 := NB136_171.out
   have hnb101 := NB171_137.out
   have hnc101 := NB137_171.out
   have hnb102 := NB171_154.out
   have hnc102 := NB154_171.out
   have hcz103_0 : w99.cell? ⟨gb171, 0, none⟩ = some (.int .i64 t165) := (r4 BK171.out 0).trans rfl
   have hcz103_1 : w99.cell? ⟨gb171, 1, none⟩ = some (.int .i64 t166) := (r4 BK171.out 1).trans rfl
   have hcz103_2 : w99.cell? ⟨gb171, 2, none⟩ = some (.int .i64 t167) := (r4 BK171.out 2).trans rfl
   have hcz103_3 : w99.cell? ⟨gb171, 3, none⟩ = some (.int .i64 t168) := (r4 BK171.out 3).trans rfl
   have hcz103_4 : w99.cell? ⟨gb171, 4, none⟩ = some (.int .i64 t169) := (r4 BK171.out 4).trans rfl
   have hfz103_0 := r5 BK171.out 0
   have hfz103_1 := r5 BK171.out 1
   have hfz103_2 := r5 BK171.out 2
   have hfz103_3 := r5 BK171.out 3
   have hfz103_4 := r5 BK171.out 4
   have hnb104 := NB154_136.out
   have hnc104 := NB136_154.out
   have hnb105 := NB154_137.out
   have hnc105 := NB137_154.out
   have hcz106_0 : w99.cell? ⟨gb154, 0, none⟩ = some (.int .i64 t148) := (r4 BK154.out 0).trans rfl
   have hcz106_1 : w99.cell? ⟨gb154, 1, none⟩ = some (.int .i64 t149) := (r4 BK154.out 1).trans rfl
   have hcz106_2 : w99.cell? ⟨gb154, 2, none⟩ = some (.int .i64 t150) := (r4 BK154.out 2).trans rfl
   have hcz106_3 : w99.cell? ⟨gb154, 3, none⟩ = some (.int .i64 t151) := (r4 BK154.out 3).trans rfl
   have hcz106_4 : w99.cell? ⟨gb154, 4, none⟩ = some (.int .i64 t152) := (r4 BK154.out 4).trans rfl
   have hfz106_0 := r5 BK154.out 0
   have hfz106_1 := r5 BK154.out 1
   have hfz106_2 := r5 BK154.out 2
   have hfz106_3 := r5 BK154.out 3
   have hfz106_4 := r5 BK154.out 4
   try go_wp2_with (first | ((with_reducible refine gate_callee (f := 27) rfl ?_); refine goesL_ (some 27) rfl rfl Try.func27 (by kernel_rfl) rfl #[.agg #[.int .i64 t165, .int .i64 t166, .int .i64 t167, .int .i64 t168, .int .i64 t169], .agg #[.int .i64 t148, .int .i64 t149, .int .i64 t150, .int .i64 t151, .int .i64 t152]] rfl (by (try simp only [List.map_toArray, List.map_cons, List.map_nil]); first | done | rfl | (simp only [List.length_drop, List.length_take]; rfl)) ?_; (with_reducible refine (laws_eqCfgOpts.calls t165 t166 t167 t168 t169 t148 t149 t150 t151 t152 false _ A9.out).mono ?_); rintro e w107 ⟨rfl, hb⟩; refine ⟨_, rfl, ?_⟩; have n0_ := mk_ (q6 (g := gb136) (o := .cells #[.int .i64 a0_0, .int .i64 a0_1, .int .i64 a0_2, .int .i64 a0_3, .int .i64 a0_4] 25 (0, 0)) (by (with_reducible repeat (first | refine q1 ?_ _ | refine q2 ?_ | refine q3 ?_ _)); exact BK136.out) hb); have n1_ := mk_ (q6 (g := gb137) (o := .cells #[.int .i64 a1_0, .int .i64 a1_1, .int .i64 a1_2, .int .i64 a1_3, .int .i64 a1_4] 25 (0, 0)) (by (with_reducible repeat (first | refine q1 ?_ _ | refine q2 ?_ | refine q3 ?_ _)); exact BK137.out) hb); have n2_ := mk_ (q6 (g := gb154) (o := .cells #[.int .i64 t148, .int .i64 t149, .int .i64 t150, .int .i64 t151, .int .i64 t152] 29 (0, 0)) (by (with_reducible repeat (first | refine q1 ?_ _ | refine q2 ?_ | refine q3 ?_ _)); exact BK154.out) hb); have n3_ := mk_ (q6 (g := gb171) (o := .cells #[.int .i64 t165, .int .i64 t166, .int .i64 t167, .int .i64 t168, .int .i64 t169] 29 (0, 0)) (by (with_reducible repeat (first | refine q1 ?_ _ | refine q2 ?_ | refine q3 ?_ _)); exact BK171.out) hb); have n4_ := mk_ (r3 (by repeat (first | (with_reducible first | exact HB.out | apply q7 | apply q8 | apply q9 | refine r1 ?_ GE136.out | refine r1 ?_ GE137.out | refine r1 ?_ GE154.out | refine r1 ?_ GE171.out) | exact HB.out)) hb); clear BK136; clear BK137; clear BK154; clear BK171; clear HB; have BK136 := n0_; have BK137 := n1_; have BK154 := n2_; have BK171 := n3_; have HB := n4_; clear n0_ n1_ n2_ n3_ n4_; (try clear hb); (try clear hb2); (try clear hk); (try clear hi)))
   go_ret
   exact ⟨by first | rfl | (simp [errW_none, errW_some] <;> rfl) | (simp [*, errW_none, errW_some] <;> rfl), by repeat (first | (with_reducible first | exact HB.out | apply q7 | apply q8 | apply q9 | refine r1 ?_ GE136.out | refine r1 ?_ GE137.out | refine r1 ?_ GE154.out | refine r1 ?_ GE171.out) | exact HB.out)⟩
 subst c10
 have H1 : (if (t170 != t153) = true then (some false) else (some true)) = some r := by rw [if_pos rfl] at H; exact H
 clear H
 have H := H1
 clear H1
 by_cases c11 : (t170 != t153) = true
 rotate_left
 · rw [if_neg c11] at H
   have c11b0 : (t170 != t153) = false := by simpa using c11
   (try (have c11b1 : decide (t170 = t153) = true := by simpa using c11))
   (try (have c11b2 : (t170 == t153) = true := by simpa using c11))
   clear c11
   obtain rfl := Option.some.inj H
   go_enter Try.func8, Try.ntmps8
   try go_wp2_with (first | ((with_reducible refine gate_dst (N := 2) rfl ?_); refine box_event ?hg (N := 2) ?hd (cs := #[.int .i64 a0_0, .int .i64 a0_1, .int .i64 a0_2, .int .i64 a0_3, .int .i64 a0_4]) (t := 25) ?hr ?_; (case hd => rfl); (case hg => rfl); (case hr => first | (go_simp; done) | (go_simp; rfl)); intro gb136 hg w44 hbox hb; have n0_ := mk_ (r3 (by repeat (first | (with_reducible first | exact HB.out | apply q7 | apply q8 | apply q9) | exact HB.out)) hb); have n1_ := mk_ (hbox); have n2_ := mk_ ((by rw [hg]; exact (r2 (by repeat (first | (with_reducible first | exact HB.out | apply q7 | apply q8 | apply q9) | exact HB.out))) : w.heap.size ≤ gb136)); have n3_ := mk_ ((by rw [hg]; exact (r2 (by repeat (first | (with_reducible first | exact HB.out | apply q7 | apply q8 | apply q9) | exact HB.out))) : w.heap.size ≤ gb136)); clear HB; have HB := n0_; have BK136 := n1_; have GW136 := n2_; have GE136 := n3_; clear n0_ n1_ n2_ n3_; clear hb hbox hg) | ((with_reducible refine gate_dst (N := 3) rfl ?_); refine box_event ?hg (N := 3) ?hd (cs := #[.int .i64 a1_0, .int .i64 a1_1, .int .i64 a1_2, .int .i64 a1_3, .int .i64 a1_4]) (t := 25) ?hr ?_; (case hd => rfl); (case hg => rfl); (case hr => first | (go_simp; done) | (go_simp; rfl)); intro gb137 hg w45 hbox hb; have n0_ := mk_ (q6 (g := gb136) (o := .cells #[.int .i64 a0_0, .int .i64 a0_1, .int .i64 a0_2, .int .i64 a0_3, .int .i64 a0_4] 25 (0, 0)) (by (with_reducible repeat (first | refine q1 ?_ _ | refine q2 ?_ | refine q3 ?_ _)); exact BK136.out) hb); have n1_ := mk_ (r3 (by repeat (first | (with_reducible first | exact HB.out | apply q7 | apply q8 | apply q9 | refine r1 ?_ GE136.out) | exact HB.out)) hb); have n2_ := mk_ (hbox); have n3_ := mk_ ((by rw [hg]; exact (r2 (by repeat (first | (with_reducible first | exact HB.out | apply q7 | apply q8 | apply q9 | refine r1 ?_ GE136.out) | exact HB.out))) : w.heap.size ≤ gb137)); have n4_ := mk_ ((by rw [hg]; exact (r2 (by repeat (first | (with_reducible first | exact HB.out | apply q7 | apply q8 | apply q9 | refine r1 ?_ GE136.out) | exact HB.out))) : w.heap.size ≤ gb137)); have n5_ := mk_ ((by rw [hg]; exact m2 (r6 (g := gb136) (o := .cells #[.int .i64 a0_0, .int .i64 a0_1, .int .i64 a0_2, .int .i64 a0_3, .int .i64 a0_4] 25 (0, 0)) (by (with_reducible repeat (first | refine q1 ?_ _ | refine q2 ?_ | refine q3 ?_ _)); exact BK136.out)) : gb136 ≠ gb137)); have n6_ := mk_ ((by rw [hg]; exact m3 (r6 (g := gb136) (o := .cells #[.int .i64 a0_0, .int .i64 a0_1, .int .i64 a0_2, .int .i64 a0_3, .int .i64 a0_4] 25 (0, 0)) (by (with_reducible repeat (first | refine q1 ?_ _ | refine q2 ?_ | refine q3 ?_ _)); exact BK136.out)) : gb137 ≠ gb136)); clear BK136; clear HB; have BK136 := n0_; have HB := n1_; have BK137 := n2_; have GW137 := n3_; have GE137 := n4_; have NB136_137 := n5_; have NB137_136 := n6_; clear n0_ n1_ n2_ n3_ n4_ n5_ n6_; clear hb hbox hg))
   have n0_ := mk_ (q2 BK136.out)
   have n1_ := mk_ (q2 BK137.out)
   have n2_ := mk_ (q9 HB.out)
   clear BK136
   clear BK137
   clear HB
   have BK136 := n0_
   have BK137 := n1_
   have HB := n2_
   clear n0_ n1_ n2_
   refine start_ (n := 11) (S := fun w' => True) (ds := []) #[false, false, false, false, false, false, false, false, false, false, false] (by kernel_rfl) rfl rfl trivial (fun hHeld => ?_); refine with_tabW laws_FnExactCfgMeet.tab1 laws_FnExactCfgMeet.bits1 (fun HT_ HW_ => ?_)
   generalize w45.drew = w46 at BK136 BK137 HB hHeld ⊢
   refine inv_at [0, 1, 2, 3, 4, 5, 6, 7, 8, 9, 10] (fun a0_ b a w' => ∃ (gb154 : Nat) (m8_ : Value), a = putSel a0_ b [(0, 10, .agg #[.int .i64 a0_0, .int .i64 a0_1, .int .i64 a0_2, .int .i64 a0_3, .int .i64 a0_4]), (1, 11, .agg #[.int .i64 t138, .int .i64 t139, .int .i64 t140, .int .i64 t141, .int .i64 t142]), (2, 12, .agg #[.int .i64 a1_0, .int .i64 a1_1, .int .i64 a1_2, .int .i64 a1_3, .int .i64 a1_4]), (3, 13, .agg #[.int .i64 t143, .int .i64 t144, .int .i64 t145, .int .i64 t146, .int .i64 t147]), (4, 14, .tuple #[.agg #[.int .i64 t148, .int .i64 t149, .int .i64 t150, .int .i64 t151, .int .i64 t152], .bool t153]), (5, 9, .tuple #[.agg #[.int .i64 t148, .int .i64 t149, .int .i64 t150, .int .i64 t151, .int .i64 t152], .bool t153]), (6, 15, .agg #[.int .i64 t148, .int .i64 t149, .int .i64 t150, .int .i64 t151, .int .i64 t152]), (7, 16, .bool t153), (8, 5, m8_), (10, 6, .bool t153)] ∧ (w'.heap[gb136]? = some (.cells #[.int .i64 a0_0, .int .i64 a0_1, .int .i64 a0_2, .int .i64 a0_3, .int .i64 a0_4] 25 (0, 0))) ∧ (w'.heap[gb137]? = some (.cells #[.int .i64 a1_0, .int .i64 a1_1, .int .i64 a1_2, .int .i64 a1_3, .int .i64 a1_4] 25 (0, 0))) ∧ (Below w.heap.size w w') ∧ (b 8 = true → b 9 = false → w'.heap[gb154]? = some (.cells #[.int .i64 0, .int .i64 0, .int .i64 0, .int .i64 0, .int .i64 0] 29 (0, 0))) ∧ (b 8 = true → w.heap.size ≤ gb154) ∧ (b 8 = true → w.heap.size ≤ gb154) ∧ (b 8 = true → gb136 ≠ gb154) ∧ (b 8 = true → gb154 ≠ gb136) ∧ (b 8 = true → gb137 ≠ gb154) ∧ (b 8 = true → gb154 ≠ gb137) ∧ (b 9 = true → w'.heap[gb154]? = some (.cells #[.int .i64 t148, .int .i64 t149, .int .i64 t150, .int .i64 t151, .int .i64 t152] 29 (0, 0))) ∧ (b 8 = true → (m8_ : Value) = .pointer (some ⟨gb154, 0, none⟩))) HT_.out HW_.out (by kernel_rfl) (by kernel_rfl) ?_ ?_ ?_
   · exact ⟨0, .bool false, by simp only [putSel, Bool.false_eq_true, if_false], BK136.out, BK137.out, HB.out, fun h_ => absurd h_ (by decide), fun h_ => absurd h_ (by decide), fun h_ => absurd h_ (by decide), fun h_ => absurd h_ (by decide), fun h_ => absurd h_ (by decide), fun h_ => absurd h_ (by decide), fun h_ => absurd h_ (by decide), fun h_ => absurd h_ (by decide), fun h_ => absurd h_ (by decide)⟩
   · skip
     clear BK136 BK137 HB
     refine steps_cons ?_ ?_
     · rintro b a w' ⟨gb154, m8_, ha, Q_BK136, Q_BK137, Q_HB, Q_BK154, Q_GW154, Q_GE154, Q_NB136_154, Q_NB154_136, Q_NB137_154, Q_NB154_137, Q_BK154_e9, Q_X8_⟩ hb_ hon hoff
       refine ⟨_, rfl, fun K hK => ?_⟩
       have e2 : a.tmps[2]? = some (.pointer (some ⟨gb136, 0, none⟩)) := by rw [ha]; exact (putSel_off rfl).trans rfl
       replace ha := mk_ ha
       have BK136 := mk_ Q_BK136
       have BK137 := mk_ Q_BK137
       have HB := mk_ Q_HB
       have hc0_ : w'.cell? ⟨gb136, 0, none⟩ = some (.int .i64 a0_0) := (r4 BK136.out 0).trans rfl
       have hc1_ : w'.cell? ⟨gb136, 1, none⟩ = some (.int .i64 a0_1) := (r4 BK136.out 1).trans rfl
       have hc2_ : w'.cell? ⟨gb136, 2, none⟩ = some (.int .i64 a0_2) := (r4 BK136.out 2).trans rfl
       have hc3_ : w'.cell? ⟨gb136, 3, none⟩ = some (.int .i64 a0_3) := (r4 BK136.out 3).trans rfl
       have hc4_ : w'.cell? ⟨gb136, 4, none⟩ = some (.int .i64 a0_4) := (r4 BK136.out 4).trans rfl
       refine value_ (w1 := w') (v := .agg #[.int .i64 a0_0, .int .i64 a0_1, .int .i64 a0_2, .int .i64 a0_3, .int .i64 a0_4]) (by rfl) rfl ?_ ?_
       · go_simp
         (try simp only [i64_w])
         try rfl
       refine hK.out _ _ ⟨gb154, m8_, (by rw [ha.out]; exact putSel_upk 0 hb_ rfl rfl rfl), Q_BK136, Q_BK137, Q_HB, Q_BK154, Q_GW154, Q_GE154, Q_NB136_154, Q_NB154_136, Q_NB137_154, Q_NB154_137, fun h0_ => absurd ((hoff 9 (by kernel_rfl)).symm.trans h0_) (by decide), Q_X8_⟩
     refine steps_cons ?_ ?_
     · rintro b a w' ⟨gb154, m8_, ha, Q_BK136, Q_BK137, Q_HB, Q_BK154, Q_GW154, Q_GE154, Q_NB136_154, Q_NB154_136, Q_NB137_154, Q_NB154_137, Q_BK154_e9, Q_X8_⟩ hb_ hon hoff
       refine ⟨_, rfl, fun K hK => ?_⟩
       have e10 : a.tmps[10]? = some (.agg #[.int .i64 a0_0, .int .i64 a0_1, .int .i64 a0_2, .int .i64 a0_3, .int .i64 a0_4]) := by rw [ha]; exact putSel_on (e := (0, 10, .agg #[.int .i64 a0_0, .int .i64 a0_1, .int .i64 a0_2, .int .i64 a0_3, .int .i64 a0_4])) 0 rfl rfl (hon 0 (by kernel_rfl)) rfl
       replace ha := mk_ ha
       have BK136 := mk_ Q_BK136
       have BK137 := mk_ Q_BK137
       have HB := mk_ Q_HB
       refine goes_ Try.func25 (by kernel_rfl) rfl #[.agg #[.int .i64 a0_0, .int .i64 a0_1, .int .i64 a0_2, .int .i64 a0_3, .int .i64 a0_4]] (by rfl) rfl rfl (by first | (simp only [List.map_toArray, List.map_cons, List.map_nil, Act.eval, Array.getD_eq_getD_getElem?, Option.getD_some, e10]; done) | (simp only [List.map_toArray, List.map_cons, List.map_nil, Act.eval, Array.getD_eq_getD_getElem?, Option.getD_some, e10]; rfl)) ?_
       with_reducible refine (laws_toCfgOpts.calls a0_0 a0_1 a0_2 a0_3 a0_4 t138 t139 t140 t141 t142 _ A3.out).mono ?_
       rintro e w47 ⟨rfl, hb⟩
       refine ⟨_, rfl, ?_⟩
       have n0_ := mk_ (q6 (g := gb136) (o := .cells #[.int .i64 a0_0, .int .i64 a0_1, .int .i64 a0_2, .int .i64 a0_3, .int .i64 a0_4] 25 (0, 0)) (by (with_reducible repeat (first | refine q1 ?_ _ | refine q2 ?_ | refine q3 ?_ _)); exact BK136.out) hb)
       have n1_ := mk_ (q6 (g := gb137) (o := .cells #[.int .i64 a1_0, .int .i64 a1_1, .int .i64 a1_2, .int .i64 a1_3, .int .i64 a1_4] 25 (0, 0)) (by (with_reducible repeat (first | refine q1 ?_ _ | refine q2 ?_ | refine q3 ?_ _)); exact BK137.out) hb)
       have n2_ := mk_ (r3 (by repeat (first | (with_reducible first | exact HB.out | apply q7 | apply q8 | apply q9 | refine r1 ?_ GE136.out | refine r1 ?_ GE137.out) | exact HB.out)) hb)
       have z_BK154 := fun (h0_ : b 8 = true) (h1_ : b 9 = false) => (show w47.heap[gb154]? = some (.cells #[.int .i64 0, .int .i64 0, .int .i64 0, .int .i64 0, .int .i64 0] 29 (0, 0)) from by first | exact (q6 (g := gb154) (o := .cells #[.int .i64 0, .int .i64 0, .int .i64 0, .int .i64 0, .int .i64 0] 29 (0, 0)) (by (with_reducible repeat (first | refine q1 ?_ _ | refine q2 ?_ | refine q3 ?_ _)); exact (Q_BK154 h0_ h1_)) hb))
       clear BK136
       clear BK137
       clear HB
       have BK136 := n0_
       have BK137 := n1_
       have HB := n2_
       clear n0_ n1_ n2_
       (try clear hb)
       (try clear hb2)
       (try clear hk)
       (try clear hi)
       refine hK.out _ _ ⟨gb154, m8_, (by rw [ha.out]; exact putSel_upk 1 hb_ rfl rfl rfl), (by (with_reducible repeat (first | refine q1 ?_ _ | refine q2 ?_ | refine q3 ?_ _)); exact BK136.out), (by (with_reducible repeat (first | refine q1 ?_ _ | refine q2 ?_ | refine q3 ?_ _)); exact BK137.out), (by repeat (first | (with_reducible first | exact HB.out | apply q7 | apply q8 | apply q9 | refine r1 ?_ GE136.out | refine r1 ?_ GE137.out) | exact HB.out)), z_BK154, Q_GW154, Q_GE154, Q_NB136_154, Q_NB154_136, Q_NB137_154, Q_NB154_137, fun h0_ => absurd ((hoff 9 (by kernel_rfl)).symm.trans h0_) (by decide), Q_X8_⟩
     refine steps_cons ?_ ?_
     · rintro b a w' ⟨gb154, m8_, ha, Q_BK136, Q_BK137, Q_HB, Q_BK154, Q_GW154, Q_GE154, Q_NB136_154, Q_NB154_136, Q_NB137_154, Q_NB154_137, Q_BK154_e9, Q_X8_⟩ hb_ hon hoff
       refine ⟨_, rfl, fun K hK => ?_⟩
       have e3 : a.tmps[3]? = some (.pointer (some ⟨gb137, 0, none⟩)) := by rw [ha]; exact (putSel_off rfl).trans rfl
       replace ha := mk_ ha
       have BK136 := mk_ Q_BK136
       have BK137 := mk_ Q_BK137
       have HB := mk_ Q_HB
       have hc0_ : w'.cell? ⟨gb137, 0, none⟩ = some (.int .i64 a1_0) := (r4 BK137.out 0).trans rfl
       have hc1_ : w'.cell? ⟨gb137, 1, none⟩ = some (.int .i64 a1_1) := (r4 BK137.out 1).trans rfl
       have hc2_ : w'.cell? ⟨gb137, 2, none⟩ = some (.int .i64 a1_2) := (r4 BK137.out 2).trans rfl
       have hc3_ : w'.cell? ⟨gb137, 3, none⟩ = some (.int .i64 a1_3) := (r4 BK137.out 3).trans rfl
       have hc4_ : w'.cell? ⟨gb137, 4, none⟩ = some (.int .i64 a1_4) := (r4 BK137.out 4).trans rfl
       refine value_ (w1 := w') (v := .agg #[.int .i64 a1_0, .int .i64 a1_1, .int .i64 a1_2, .int .i64 a1_3, .int .i64 a1_4]) (by rfl) rfl ?_ ?_
       · go_simp
         (try simp only [i64_w])
         try rfl
       refine hK.out _ _ ⟨gb154, m8_, (by rw [ha.out]; exact putSel_upk 2 hb_ rfl rfl rfl), Q_BK136, Q_BK137, Q_HB, Q_BK154, Q_GW154, Q_GE154, Q_NB136_154, Q_NB154_136, Q_NB137_154, Q_NB154_137, fun h0_ => absurd ((hoff 9 (by kernel_rfl)).symm.trans h0_) (by decide), Q_X8_⟩
     refine steps_cons ?_ ?_
     · rintro b a w' ⟨gb154, m8_, ha, Q_BK136, Q_BK137, Q_HB, Q_BK154, Q_GW154, Q_GE154, Q_NB136_154, Q_NB154_136, Q_NB137_154, Q_NB154_137, Q_BK154_e9, Q_X8_⟩ hb_ hon hoff
       refine ⟨_, rfl, fun K hK => ?_⟩
       have e12 : a.tmps[12]? = some (.agg #[.int .i64 a1_0, .int .i64 a1_1, .int .i64 a1_2, .int .i64 a1_3, .int .i64 a1_4]) := by rw [ha]; exact putSel_on (e := (2, 12, .agg #[.int .i64 a1_0, .int .i64 a1_1, .int .i64 a1_2, .int .i64 a1_3, .int .i64 a1_4])) 2 rfl rfl (hon 2 (by kernel_rfl)) rfl
       replace ha := mk_ ha
       have BK136 := mk_ Q_BK136
       have BK137 := mk_ Q_BK137
       have HB := mk_ Q_HB
       refine goes_ Try.func25 (by kernel_rfl) rfl #[.agg #[.int .i64 a1_0, .int .i64 a1_1, .int .i64 a1_2, .int .i64 a1_3, .int .i64 a1_4]] (by rfl) rfl rfl (by first | (simp only [List.map_toArray, List.map_cons, List.map_nil, Act.eval, Array.getD_eq_getD_getElem?, Option.getD_some, e12]; done) | (simp only [List.map_toArray, List.map_cons, List.map_nil, Act.eval, Array.getD_eq_getD_getElem?, Option.getD_some, e12]; rfl)) ?_
       with_reducible refine (laws_toCfgOpts.calls a1_0 a1_1 a1_2 a1_3 a1_4 t143 t144 t145 t146 t147 _ A4.out).mono ?_
       rintro e w49 ⟨rfl, hb⟩
       refine ⟨_, rfl, ?_⟩
       have n0_ := mk_ (q6 (g := gb136) (o := .cells #[.int .i64 a0_0, .int .i64 a0_1, .int .i64 a0_2, .int .i64 a0_3, .int .i64 a0_4] 25 (0, 0)) (by (with_reducible repeat (first | refine q1 ?_ _ | refine q2 ?_ | refine q3 ?_ _)); exact BK136.out) hb)
       have n1_ := mk_ (q6 (g := gb137) (o := .cells #[.int .i64 a1_0, .int .i64 a1_1, .int .i64 a1_2, .int .i64 a1_3, .int .i64 a1_4] 25 (0, 0)) (by (with_reducible repeat (first | refine q1 ?_ _ | refine q2 ?_ | refine q3 ?_ _)); exact BK137.out) hb)
       have n2_ := mk_ (r3 (by repeat (first | (with_reducible first | exact HB.out | apply q7 | apply q8 | apply q9 | refine r1 ?_ GE136.out | refine r1 ?_ GE137.out) | exact HB.out)) hb)
       have z_BK154 := fun (h0_ : b 8 = true) (h1_ : b 9 = false) => (show w49.heap[gb154]? = some (.cells #[.int .i64 0, .int .i64 0, .int .i64 0, .int .i64 0, .int .i64 0] 29 (0, 0)) from by first | exact (q6 (g := gb154) (o := .cells #[.int .i64 0, .int .i64 0, .int .i64 0, .int .i64 0, .int .i64 0] 29 (0, 0)) (by (with_reducible repeat (first | refine q1 ?_ _ | refine q2 ?_ | refine q3 ?_ _)); exact (Q_BK154 h0_ h1_)) hb))
       clear BK136
       clear BK137
       clear HB
       have BK136 := n0_
       have BK137 := n1_
       have HB := n2_
       clear n0_ n1_ n2_
       (try clear hb)
       (try clear hb2)
       (try clear hk)
       (try clear hi)
       refine hK.out _ _ ⟨gb154, m8_, (by rw [ha.out]; exact putSel_upk 3 hb_ rfl rfl rfl), (by (with_reducible repeat (first | refine q1 ?_ _ | refine q2 ?_ | refine q3 ?_ _)); exact BK136.out), (by (with_reducible repeat (first | refine q1 ?_ _ | refine q2 ?_ | refine q3 ?_ _)); exact BK137.out), (by repeat (first | (with_reducible first | exact HB.out | apply q7 | apply q8 | apply q9 | refine r1 ?_ GE136.out | refine r1 ?_ GE137.out) | exact HB.out)), z_BK154, Q_GW154, Q_GE154, Q_NB136_154, Q_NB154_136, Q_NB137_154, Q_NB154_137, fun h0_ => absurd ((hoff 9 (by kernel_rfl)).symm.trans h0_) (by decide), Q_X8_⟩
     refine steps_cons ?_ ?_
     · rintro b a w' ⟨gb154, m8_, ha, Q_BK136, Q_BK137, Q_HB, Q_BK154, Q_GW154, Q_GE154, Q_NB136_154, Q_NB154_136, Q_NB137_154, Q_NB154_137, Q_BK154_e9, Q_X8_⟩ hb_ hon hoff
       refine ⟨_, rfl, fun K hK => ?_⟩
       have e11 : a.tmps[11]? = some (.agg #[.int .i64 t138, .int .i64 t139, .int .i64 t140, .int .i64 t141, .int .i64 t142]) := by rw [ha]; exact putSel_on (e := (1, 11, .agg #[.int .i64 t138, .int .i64 t139, .int .i64 t140, .int .i64 t141, .int .i64 t142])) 1 rfl rfl (hon 1 (by kernel_rfl)) rfl
       have e13 : a.tmps[13]? = some (.agg #[.int .i64 t143, .int .i64 t144, .int .i64 t145, .int .i64 t146, .int .i64 t147]) := by rw [ha]; exact putSel_on (e := (3, 13, .agg #[.int .i64 t143, .int .i64 t144, .int .i64 t145, .int .i64 t146, .int .i64 t147])) 3 rfl rfl (hon 3 (by kernel_rfl)) rfl
       replace ha := mk_ ha
       have BK136 := mk_ Q_BK136
       have BK137 := mk_ Q_BK137
       have HB := mk_ Q_HB
       refine goes_ Try.func24 (by kernel_rfl) rfl #[.agg #[.int .i64 t138, .int .i64 t139, .int .i64 t140, .int .i64 t141, .int .i64 t142], .agg #[.int .i64 t143, .int .i64 t144, .int .i64 t145, .int .i64 t146, .int .i64 t147]] (by rfl) rfl rfl (by first | (simp only [List.map_toArray, List.map_cons, List.map_nil, Act.eval, Array.getD_eq_getD_getElem?, Option.getD_some, e11, e13]; done) | (simp only [List.map_toArray, List.map_cons, List.map_nil, Act.eval, Array.getD_eq_getD_getElem?, Option.getD_some, e11, e13]; rfl)) ?_
       with_reducible refine (spec_CfgMeet.calls t138 t139 t140 t141 t142 t143 t144 t145 t146 t147 t148 t149 t150 t151 t152 t153 _ A5.out).mono ?_
       rintro e w50 ⟨rfl, hb⟩
       refine ⟨_, rfl, ?_⟩
       have n0_ := mk_ (q6 (g := gb136) (o := .cells #[.int .i64 a0_0, .int .i64 a0_1, .int .i64 a0_2, .int .i64 a0_3, .int .i64 a0_4] 25 (0, 0)) (by (with_reducible repeat (first | refine q1 ?_ _ | refine q2 ?_ | refine q3 ?_ _)); exact BK136.out) hb)
       have n1_ := mk_ (q6 (g := gb137) (o := .cells #[.int .i64 a1_0, .int .i64 a1_1, .int .i64 a1_2, .int .i64 a1_3, .int .i64 a1_4] 25 (0, 0)) (by (with_reducible repeat (first | refine q1 ?_ _ | refine q2 ?_ | refine q3 ?_ _)); exact BK137.out) hb)
       have n2_ := mk_ (r3 (by repeat (first | (with_reducible first | exact HB.out | apply q7 | apply q8 | apply q9 | refine r1 ?_ GE136.out | refine r1 ?_ GE137.out) | exact HB.out)) hb)
       have z_BK154 := fun (h0_ : b 8 = true) (h1_ : b 9 = false) => (show w50.heap[gb154]? = some (.cells #[.int .i64 0, .int .i64 0, .int .i64 0, .int .i64 0, .int .i64 0] 29 (0, 0)) from by first | exact (q6 (g := gb154) (o := .cells #[.int .i64 0, .int .i64 0, .int .i64 0, .int .i64 0, .int .i64 0] 29 (0, 0)) (by (with_reducible repeat (first | refine q1 ?_ _ | refine q2 ?_ | refine q3 ?_ _)); exact (Q_BK154 h0_ h1_)) hb))
       clear BK136
       clear BK137
       clear HB
       have BK136 := n0_
       have BK137 := n1_
       have HB := n2_
       clear n0_ n1_ n2_
       (try clear hb)
       (try clear hb2)
       (try clear hk)
       (try clear hi)
       refine hK.out _ _ ⟨gb154, m8_, (by rw [ha.out]; exact putSel_upk 4 hb_ rfl rfl rfl), (by (with_reducible repeat (first | refine q1 ?_ _ | refine q2 ?_ | refine q3 ?_ _)); exact BK136.out), (by (with_reducible repeat (first | refine q1 ?_ _ | refine q2 ?_ | refine q3 ?_ _)); exact BK137.out), (by repeat (first | (with_reducible first | exact HB.out | apply q7 | apply q8 | apply q9 | refine r1 ?_ GE136.out | refine r1 ?_ GE137.out) | exact HB.out)), z_BK154, Q_GW154, Q_GE154, Q_NB136_154, Q_NB154_136, Q_NB137_154, Q_NB154_137, fun h0_ => absurd ((hoff 9 (by kernel_rfl)).symm.trans h0_) (by decide), Q_X8_⟩
     refine steps_cons ?_ ?_
     · rintro b a w' ⟨gb154, m8_, ha, Q_BK136, Q_BK137, Q_HB, Q_BK154, Q_GW154, Q_GE154, Q_NB136_154, Q_NB154_136, Q_NB137_154, Q_NB154_137, Q_BK154_e9, Q_X8_⟩ hb_ hon hoff
       refine ⟨_, rfl, fun K hK => ?_⟩
       have e14 : a.tmps[14]? = some (.tuple #[.agg #[.int .i64 t148, .int .i64 t149, .int .i64 t150, .int .i64 t151, .int .i64 t152], .bool t153]) := by rw [ha]; exact putSel_on (e := (4, 14, .tuple #[.agg #[.int .i64 t148, .int .i64 t149, .int .i64 t150, .int .i64 t151, .int .i64 t152], .bool t153])) 4 rfl rfl (hon 4 (by kernel_rfl)) rfl
       replace ha := mk_ ha
       have BK136 := mk_ Q_BK136
       have BK137 := mk_ Q_BK137
       have HB := mk_ Q_HB
       refine value_ (w1 := w') (v := .tuple #[.agg #[.int .i64 t148, .int .i64 t149, .int .i64 t150, .int .i64 t151, .int .i64 t152], .bool t153]) (by rfl) rfl ?_ ?_
       · go_simp
         (try simp only [i64_w])
         try rfl
       refine hK.out _ _ ⟨gb154, m8_, (by rw [ha.out]; exact putSel_upk 5 hb_ rfl rfl rfl), Q_BK136, Q_BK137, Q_HB, Q_BK154, Q_GW154, Q_GE154, Q_NB136_154, Q_NB154_136, Q_NB137_154, Q_NB154_137, fun h0_ => absurd ((hoff 9 (by kernel_rfl)).symm.trans h0_) (by decide), Q_X8_⟩
     refine steps_cons ?_ ?_
     · rintro b a w' ⟨gb154, m8_, ha, Q_BK136, Q_BK137, Q_HB, Q_BK154, Q_GW154, Q_GE154, Q_NB136_154, Q_NB154_136, Q_NB137_154, Q_NB154_137, Q_BK154_e9, Q_X8_⟩ hb_ hon hoff
       refine ⟨_, rfl, fun K hK => ?_⟩
       have e9 : a.tmps[9]? = some (.tuple #[.agg #[.int .i64 t148, .int .i64 t149, .int .i64 t150, .int .i64 t151, .int .i64 t152], .bool t153]) := by rw [ha]; exact putSel_on (e := (5, 9, .tuple #[.agg #[.int .i64 t148, .int .i64 t149, .int .i64 t150, .int .i64 t151, .int .i64 t152], .bool t153])) 5 rfl rfl (hon 5 (by kernel_rfl)) rfl
       replace ha := mk_ ha
       have BK136 := mk_ Q_BK136
       have BK137 := mk_ Q_BK137
       have HB := mk_ Q_HB
       refine value_ (w1 := w') (v := .agg #[.int .i64 t148, .int .i64 t149, .int .i64 t150, .int .i64 t151, .int .i64 t152]) (by rfl) rfl ?_ ?_
       · go_simp
         (try simp only [i64_w])
         try rfl
       refine hK.out _ _ ⟨gb154, m8_, (by rw [ha.out]; exact putSel_upk 6 hb_ rfl rfl rfl), Q_BK136, Q_BK137, Q_HB, Q_BK154, Q_GW154, Q_GE154, Q_NB136_154, Q_NB154_136, Q_NB137_154, Q_NB154_137, fun h0_ => absurd ((hoff 9 (by kernel_rfl)).symm.trans h0_) (by decide), Q_X8_⟩
     refine steps_cons ?_ ?_
     · rintro b a w' ⟨gb154, m8_, ha, Q_BK136, Q_BK137, Q_HB, Q_BK154, Q_GW154, Q_GE154, Q_NB136_154, Q_NB154_136, Q_NB137_154, Q_NB154_137, Q_BK154_e9, Q_X8_⟩ hb_ hon hoff
       refine ⟨_, rfl, fun K hK => ?_⟩
       have e9 : a.tmps[9]? = some (.tuple #[.agg #[.int .i64 t148, .int .i64 t149, .int .i64 t150, .int .i64 t151, .int .i64 t152], .bool t153]) := by rw [ha]; exact putSel_on (e := (5, 9, .tuple #[.agg #[.int .i64 t148, .int .i64 t149, .int .i64 t150, .int .i64 t151, .int .i64 t152], .bool t153])) 5 rfl rfl (hon 5 (by kernel_rfl)) rfl
       replace ha := mk_ ha
       have BK136 := mk_ Q_BK136
       have BK137 := mk_ Q_BK137
       have HB := mk_ Q_HB
       refine value_ (w1 := w') (v := .bool t153) (by rfl) rfl ?_ ?_
       · go_simp
         (try simp only [i64_w])
         try rfl
       refine hK.out _ _ ⟨gb154, m8_, (by rw [ha.out]; exact putSel_upk 7 hb_ rfl rfl rfl), Q_BK136, Q_BK137, Q_HB, Q_BK154, Q_GW154, Q_GE154, Q_NB136_154, Q_NB154_136, Q_NB137_154, Q_NB154_137, Q_BK154_e9, Q_X8_⟩
     refine steps_cons ?_ ?_
     · rintro b a w' ⟨gb154, m8_, ha, Q_BK136, Q_BK137, Q_HB, Q_BK154, Q_GW154, Q_GE154, Q_NB136_154, Q_NB154_136, Q_NB137_154, Q_NB154_137, Q_BK154_e9, Q_X8_⟩ hb_ hon hoff
       refine ⟨_, rfl, fun K hK => ?_⟩
       replace ha := mk_ ha
       have BK136 := mk_ Q_BK136
       have BK137 := mk_ Q_BK137
       have HB := mk_ Q_HB
       refine box_step ?hg (N := 5) ?hd (cs := #[.int .i64 0, .int .i64 0, .int .i64 0, .int .i64 0, .int .i64 0]) (t := 29) ?hr ?_; (case hd => rfl); (case hg => rfl); (case hr => first | (go_simp; done) | (go_simp; rfl))
       intro gb154 hg w47 hbox hb
       have n0_ := mk_ (q6 (g := gb136) (o := .cells #[.int .i64 a0_0, .int .i64 a0_1, .int .i64 a0_2, .int .i64 a0_3, .int .i64 a0_4] 25 (0, 0)) (by (with_reducible repeat (first | refine q1 ?_ _ | refine q2 ?_ | refine q3 ?_ _)); exact BK136.out) hb)
       have n1_ := mk_ (q6 (g := gb137) (o := .cells #[.int .i64 a1_0, .int .i64 a1_1, .int .i64 a1_2, .int .i64 a1_3, .int .i64 a1_4] 25 (0, 0)) (by (with_reducible repeat (first | refine q1 ?_ _ | refine q2 ?_ | refine q3 ?_ _)); exact BK137.out) hb)
       have n2_ := mk_ (r3 (by repeat (first | (with_reducible first | exact HB.out | apply q7 | apply q8 | apply q9 | refine r1 ?_ GE136.out | refine r1 ?_ GE137.out) | exact HB.out)) hb)
       have n3_ := mk_ (hbox)
       have n4_ := mk_ ((by rw [hg]; exact (r2 (by repeat (first | (with_reducible first | exact HB.out | apply q7 | apply q8 | apply q9 | refine r1 ?_ GE136.out | refine r1 ?_ GE137.out) | exact HB.out))) : w.heap.size ≤ gb154))
       have n5_ := mk_ ((by rw [hg]; exact (r2 (by repeat (first | (with_reducible first | exact HB.out | apply q7 | apply q8 | apply q9 | refine r1 ?_ GE136.out | refine r1 ?_ GE137.out) | exact HB.out))) : w.heap.size ≤ gb154))
       have n6_ := mk_ ((by rw [hg]; exact m2 (r6 (g := gb136) (o := .cells #[.int .i64 a0_0, .int .i64 a0_1, .int .i64 a0_2, .int .i64 a0_3, .int .i64 a0_4] 25 (0, 0)) (by (with_reducible repeat (first | refine q1 ?_ _ | refine q2 ?_ | refine q3 ?_ _)); exact BK136.out)) : gb136 ≠ gb154))
       have n7_ := mk_ ((by rw [hg]; exact m3 (r6 (g := gb136) (o := .cells #[.int .i64 a0_0, .int .i64 a0_1, .int .i64 a0_2, .int .i64 a0_3, .int .i64 a0_4] 25 (0, 0)) (by (with_reducible repeat (first | refine q1 ?_ _ | refine q2 ?_ | refine q3 ?_ _)); exact BK136.out)) : gb154 ≠ gb136))
       have n8_ := mk_ ((by rw [hg]; exact m2 (r6 (g := gb137) (o := .cells #[.int .i64 a1_0, .int .i64 a1_1, .int .i64 a1_2, .int .i64 a1_3, .int .i64 a1_4] 25 (0, 0)) (by (with_reducible repeat (first | refine q1 ?_ _ | refine q2 ?_ | refine q3 ?_ _)); exact BK137.out)) : gb137 ≠ gb154))
       have n9_ := mk_ ((by rw [hg]; exact m3 (r6 (g := gb137) (o := .cells #[.int .i64 a1_0, .int .i64 a1_1, .int .i64 a1_2, .int .i64 a1_3, .int .i64 a1_4] 25 (0, 0)) (by (with_reducible repeat (first | refine q1 ?_ _ | refine q2 ?_ | refine q3 ?_ _)); exact BK137.out)) : gb154 ≠ gb137))
       clear BK136
       clear BK137
       clear HB
       have BK136 := n0_
       have BK137 := n1_
       have HB := n2_
       have BK154 := n3_
       have GW154 := n4_
       have GE154 := n5_
       have NB136_154 := n6_
       have NB154_136 := n7_
       have NB137_154 := n8_
       have NB154_137 := n9_
       clear n0_ n1_ n2_ n3_ n4_ n5_ n6_ n7_ n8_ n9_
       clear hb hbox hg
       refine hK.out _ _ ⟨gb154, (.pointer (some ⟨gb154, 0, none⟩)), (by rw [ha.out]; exact putSel_upk 8 hb_ rfl rfl rfl), (by (with_reducible repeat (first | refine q1 ?_ _ | refine q2 ?_ | refine q3 ?_ _)); exact BK136.out), (by (with_reducible repeat (first | refine q1 ?_ _ | refine q2 ?_ | refine q3 ?_ _)); exact BK137.out), (by repeat (first | (with_reducible first | exact HB.out | apply q7 | apply q8 | apply q9 | refine r1 ?_ GE136.out | refine r1 ?_ GE137.out | refine r1 ?_ GE154.out) | exact HB.out)), fun _ _ => (by (with_reducible repeat (first | refine q1 ?_ _ | refine q2 ?_ | refine q3 ?_ _)); exact BK154.out), fun _ => GW154.out, fun _ => GE154.out, fun _ => NB136_154.out, fun _ => NB154_136.out, fun _ => NB137_154.out, fun _ => NB154_137.out, fun h0_ => absurd ((hoff 9 (by kernel_rfl)).symm.trans h0_) (by decide), fun _ => rfl⟩
     refine steps_cons ?_ ?_
     · rintro b a w' ⟨gb154, m8_, ha, Q_BK136, Q_BK137, Q_HB, Q_BK154, Q_GW154, Q_GE154, Q_NB136_154, Q_NB154_136, Q_NB137_154, Q_NB154_137, Q_BK154_e9, Q_X8_⟩ hb_ hon hoff
       refine ⟨_, rfl, fun K hK => ?_⟩
       have e5 : a.tmps[5]? = some (m8_) := by rw [ha]; exact putSel_on (e := (8, 5, m8_)) 8 rfl rfl (hon 8 (by kernel_rfl)) rfl
       rw [Q_X8_ (hon 8 (by kernel_rfl))] at e5
       have e15 : a.tmps[15]? = some (.agg #[.int .i64 t148, .int .i64 t149, .int .i64 t150, .int .i64 t151, .int .i64 t152]) := by rw [ha]; exact putSel_on (e := (6, 15, .agg #[.int .i64 t148, .int .i64 t149, .int .i64 t150, .int .i64 t151, .int .i64 t152])) 6 rfl rfl (hon 6 (by kernel_rfl)) rfl
       replace ha := mk_ ha
       have BK136 := mk_ Q_BK136
       have BK137 := mk_ Q_BK137
       have HB := mk_ Q_HB
       have BK154 := mk_ (Q_BK154 (hon 8 (by kernel_rfl)) hb_)
       have GW154 := mk_ (Q_GW154 (hon 8 (by kernel_rfl)))
       have GE154 := mk_ (Q_GE154 (hon 8 (by kernel_rfl)))
       have NB136_154 := mk_ (Q_NB136_154 (hon 8 (by kernel_rfl)))
       have NB154_136 := mk_ (Q_NB154_136 (hon 8 (by kernel_rfl)))
       have NB137_154 := mk_ (Q_NB137_154 (hon 8 (by kernel_rfl)))
       have NB154_137 := mk_ (Q_NB154_137 (hon 8 (by kernel_rfl)))
       have hs52 : w'.cell? ⟨gb154, 0, none⟩ = some (.int .i64 0) := (r4 BK154.out 0).trans rfl
       have hfs52 := r5 BK154.out 0
       have hns52_0 := NB136_154.out
       have hns52_1 := NB137_154.out
       have hms52_0 := NB154_136.out
       have hms52_1 := NB154_137.out
       have hs53 : w'.cell? ⟨gb154, 1, none⟩ = some (.int .i64 0) := (r4 BK154.out 1).trans rfl
       have hfs53 := r5 BK154.out 1
       have hns53_0 := NB136_154.out
       have hns53_1 := NB137_154.out
       have hms53_0 := NB154_136.out
       have hms53_1 := NB154_137.out
       have hs54 : w'.cell? ⟨gb154, 2, none⟩ = some (.int .i64 0) := (r4 BK154.out 2).trans rfl
       have hfs54 := r5 BK154.out 2
       have hns54_0 := NB136_154.out
       have hns54_1 := NB137_154.out
       have hms54_0 := NB154_136.out
       have hms54_1 := NB154_137.out
       have hs55 : w'.cell? ⟨gb154, 3, none⟩ = some (.int .i64 0) := (r4 BK154.out 3).trans rfl
       have hfs55 := r5 BK154.out 3
       have hns55_0 := NB136_154.out
       have hns55_1 := NB137_154.out
       have hms55_0 := NB154_136.out
       have hms55_1 := NB154_137.out
       have hs56 : w'.cell? ⟨gb154, 4, none⟩ = some (.int .i64 0) := (r4 BK154.out 4).trans rfl
       have hfs56 := r5 BK154.out 4
       have hns56_0 := NB136_154.out
       have hns56_1 := NB137_154.out
       have hms56_0 := NB154_136.out
       have hms56_1 := NB154_137.out
       refine skip_ (w1 := ?_) (by rfl) rfl ?_ ?_
       rotate_left
       · go_simp
         rfl
       refine hK.out _ _ ⟨gb154, m8_, (by rw [ha.out]; exact putSel_none (v := undef) rfl), (by (with_reducible repeat (first | refine q1 ?_ _ | refine q2 ?_ | refine q3 ?_ _)); refine q5 ?_ NB136_154.out _; (with_reducible repeat (first | refine q1 ?_ _ | refine q2 ?_ | refine q3 ?_ _)); refine q5 ?_ NB136_154.out _; (with_reducible repeat (first | refine q1 ?_ _ | refine q2 ?_ | refine q3 ?_ _)); refine q5 ?_ NB136_154.out _; (with_reducible repeat (first | refine q1 ?_ _ | refine q2 ?_ | refine q3 ?_ _)); refine q5 ?_ NB136_154.out _; (with_reducible repeat (first | refine q1 ?_ _ | refine q2 ?_ | refine q3 ?_ _)); refine q5 ?_ NB136_154.out _; (with_reducible repeat (first | refine q1 ?_ _ | refine q2 ?_ | refine q3 ?_ _)); exact BK136.out), (by (with_reducible repeat (first | refine q1 ?_ _ | refine q2 ?_ | refine q3 ?_ _)); refine q5 ?_ NB137_154.out _; (with_reducible repeat (first | refine q1 ?_ _ | refine q2 ?_ | refine q3 ?_ _)); refine q5 ?_ NB137_154.out _; (with_reducible repeat (first | refine q1 ?_ _ | refine q2 ?_ | refine q3 ?_ _)); refine q5 ?_ NB137_154.out _; (with_reducible repeat (first | refine q1 ?_ _ | refine q2 ?_ | refine q3 ?_ _)); refine q5 ?_ NB137_154.out _; (with_reducible repeat (first | refine q1 ?_ _ | refine q2 ?_ | refine q3 ?_ _)); refine q5 ?_ NB137_154.out _; (with_reducible repeat (first | refine q1 ?_ _ | refine q2 ?_ | refine q3 ?_ _)); exact BK137.out), (by repeat (first | (with_reducible first | exact HB.out | apply q7 | apply q8 | apply q9 | refine r1 ?_ GE136.out | refine r1 ?_ GE137.out | refine r1 ?_ GE154.out) | exact HB.out)), fun _ h1_ => absurd ((up_self b 9).symm.trans h1_) (by decide), fun _ => GW154.out, fun _ => GE154.out, fun _ => NB136_154.out, fun _ => NB154_136.out, fun _ => NB137_154.out, fun _ => NB154_137.out, fun _ => (by (with_reducible repeat (first | refine q1 ?_ _ | refine q2 ?_ | refine q3 ?_ _)); refine q4 (cs := #[.int .i64 t148, .int .i64 t149, .int .i64 t150, .int .i64 t151, .int .i64 0]) ?_ 4 _ rfl; (with_reducible repeat (first | refine q1 ?_ _ | refine q2 ?_ | refine q3 ?_ _)); refine q4 (cs := #[.int .i64 t148, .int .i64 t149, .int .i64 t150, .int .i64 0, .int .i64 0]) ?_ 3 _ rfl; (with_reducible repeat (first | refine q1 ?_ _ | refine q2 ?_ | refine q3 ?_ _)); refine q4 (cs := #[.int .i64 t148, .int .i64 t149, .int .i64 0, .int .i64 0, .int .i64 0]) ?_ 2 _ rfl; (with_reducible repeat (first | refine q1 ?_ _ | refine q2 ?_ | refine q3 ?_ _)); refine q4 (cs := #[.int .i64 t148, .int .i64 0, .int .i64 0, .int .i64 0, .int .i64 0]) ?_ 1 _ rfl; (with_reducible repeat (first | refine q1 ?_ _ | refine q2 ?_ | refine q3 ?_ _)); refine q4 (cs := #[.int .i64 0, .int .i64 0, .int .i64 0, .int .i64 0, .int .i64 0]) ?_ 0 _ rfl; (with_reducible repeat (first | refine q1 ?_ _ | refine q2 ?_ | refine q3 ?_ _)); exact BK154.out), Q_X8_⟩
     refine steps_cons ?_ ?_
     · rintro b a w' ⟨gb154, m8_, ha, Q_BK136, Q_BK137, Q_HB, Q_BK154, Q_GW154, Q_GE154, Q_NB136_154, Q_NB154_136, Q_NB137_154, Q_NB154_137, Q_BK154_e9, Q_X8_⟩ hb_ hon hoff
       refine ⟨_, rfl, fun K hK => ?_⟩
       have e16 : a.tmps[16]? = some (.bool t153) := by rw [ha]; exact putSel_on (e := (7, 16, .bool t153)) 7 rfl rfl (hon 7 (by kernel_rfl)) rfl
       replace ha := mk_ ha
       have BK136 := mk_ Q_BK136
       have BK137 := mk_ Q_BK137
       have HB := mk_ Q_HB
       have GW154 := mk_ (Q_GW154 (hon 8 (by kernel_rfl)))
       have GE154 := mk_ (Q_GE154 (hon 8 (by kernel_rfl)))
       have NB136_154 := mk_ (Q_NB136_154 (hon 8 (by kernel_rfl)))
       have NB154_136 := mk_ (Q_NB154_136 (hon 8 (by kernel_rfl)))
       have NB137_154 := mk_ (Q_NB137_154 (hon 8 (by kernel_rfl)))
       have NB154_137 := mk_ (Q_NB154_137 (hon 8 (by kernel_rfl)))
       have BK154 := mk_ (Q_BK154_e9 (hon 9 (by kernel_rfl)))
       refine value_ (w1 := w') (v := .bool t153) (by rfl) rfl ?_ ?_
       · go_simp
         (try simp only [i64_w])
         try rfl
       refine hK.out _ _ ⟨gb154, m8_, (by rw [ha.out]; exact putSel_upk 9 hb_ rfl rfl rfl), Q_BK136, Q_BK137, Q_HB, fun _ h1_ => absurd ((hon 9 (by kernel_rfl)).symm.trans h1_) (by decide), Q_GW154, Q_GE154, Q_NB136_154, Q_NB154_136, Q_NB137_154, Q_NB154_137, Q_BK154_e9, Q_X8_⟩
     exact steps_nil
   rintro b a w56 hall ⟨gb154, m8_, ha, Q_BK136, Q_BK137, Q_HB, Q_BK154, Q_GW154, Q_GE154, Q_NB136_154, Q_NB154_136, Q_NB137_154, Q_NB154_137, Q_BK154_e9, Q_X8_⟩
   clear BK136 BK137 HB
   have hb0_ := hall 0 (by kernel_rfl)
   have hb1_ := hall 1 (by kernel_rfl)
   have hb2_ := hall 2 (by kernel_rfl)
   have hb3_ := hall 3 (by kernel_rfl)
   have hb4_ := hall 4 (by kernel_rfl)
   have hb5_ := hall 5 (by kernel_rfl)
   have hb6_ := hall 6 (by kernel_rfl)
   have hb7_ := hall 7 (by kernel_rfl)
   have hb8_ := hall 8 (by kernel_rfl)
   have hb9_ := hall 9 (by kernel_rfl)
   have hb10_ := hall 10 (by kernel_rfl)
   subst ha
   obtain rfl := Q_X8_ hb8_
   simp only [putSel, hb0_, hb1_, hb2_, hb3_, hb4_, hb5_, hb6_, hb7_, hb8_, hb9_, hb10_, if_true, Act.put, List.setIfInBounds_toArray, List.set_cons_zero, List.set_cons_succ]
   have BK136 := mk_ Q_BK136
   clear Q_BK136
   have BK137 := mk_ Q_BK137
   clear Q_BK137
   have HB := mk_ Q_HB
   clear Q_HB
   clear Q_BK154
   have GW154 := mk_ (Q_GW154 hb8_)
   clear Q_GW154
   have GE154 := mk_ (Q_GE154 hb8_)
   clear Q_GE154
   have NB136_154 := mk_ (Q_NB136_154 hb8_)
   clear Q_NB136_154
   have NB154_136 := mk_ (Q_NB154_136 hb8_)
   clear Q_NB154_136
   have NB137_154 := mk_ (Q_NB137_154 hb8_)
   clear Q_NB137_154
   have NB154_137 := mk_ (Q_NB154_137 hb8_)
   clear Q_NB154_137
   have BK154 := mk_ (Q_BK154_e9 hb9_)
   clear Q_BK154_e9
   clear hall hb0_ hb1_ hb2_ hb3_ hb4_ hb5_ hb6_ hb7_ hb8_ hb9_ hb10_
   try go_wp2
   have n0_ := mk_ (q2 BK136.out)
   have n1_ := mk_ (q2 BK137.out)
   have n2_ := mk_ (q2 BK154.out)
   have n3_ := mk_ (q9 HB.out)
   clear BK136
   clear BK137
   clear BK154
   clear HB
   have BK136 := n0_
   have BK137 := n1_
   have BK154 := n2_
   have HB := n3_
   clear n0_ n1_ n2_ n3_
   refine start_ (n := 11) (S := fun w' => True) (ds := []) #[false, false, false, false, false, false, false, false, false, false, false] (by kernel_rfl) rfl rfl trivial (fun hHeld => ?_); refine with_tabW laws_FnExactCfgMeet.tab2 laws_FnExactCfgMeet.bits2 (fun HT_ HW_ => ?_)
   generalize w56.drew = w57 at BK136 BK137 BK154 HB hHeld ⊢
   refine inv_at [0, 1, 2, 3, 4, 5, 6, 7, 8, 9, 10] (fun a0_ b a w' => ∃ (gb171 : Nat) (m8_ : Value), a = putSel a0_ b [(0, 18, .agg #[.int .i64 a0_0, .int .i64 a0_1, .int .i64 a0_2, .int .i64 a0_3, .int .i64 a0_4]), (1, 19, .agg #[.int .i64 t155, .int .i64 t156, .int .i64 t157, .int .i64 t158, .int .i64 t159]), (2, 20, .agg #[.int .i64 a1_0, .int .i64 a1_1, .int .i64 a1_2, .int .i64 a1_3, .int .i64 a1_4]), (3, 21, .agg #[.int .i64 t160, .int .i64 t161, .int .i64 t162, .int .i64 t163, .int .i64 t164]), (4, 22, .tuple #[.agg #[.int .i64 t165, .int .i64 t166, .int .i64 t167, .int .i64 t168, .int .i64 t169], .bool t170]), (5, 17, .tuple #[.agg #[.int .i64 t165, .int .i64 t166, .int .i64 t167, .int .i64 t168, .int .i64 t169], .bool t170]), (6, 23, .agg #[.int .i64 t165, .int .i64 t166, .int .i64 t167, .int .i64 t168, .int .i64 t169]), (7, 24, .bool t170), (8, 7, m8_), (10, 8, .bool t170)] ∧ (w'.heap[gb136]? = some (.cells #[.int .i64 a0_0, .int .i64 a0_1, .int .i64 a0_2, .int .i64 a0_3, .int .i64 a0_4] 25 (0, 0))) ∧ (w'.heap[gb137]? = some (.cells #[.int .i64 a1_0, .int .i64 a1_1, .int .i64 a1_2, .int .i64 a1_3, .int .i64 a1_4] 25 (0, 0))) ∧ (w'.heap[gb154]? = some (.cells #[.int .i64 t148, .int .i64 t149, .int .i64 t150, .int .i64 t151, .int .i64 t152] 29 (0, 0))) ∧ (Below w.heap.size w w') ∧ (b 8 = true → b 9 = false → w'.heap[gb171]? = some (.cells #[.int .i64 0, .int .i64 0, .int .i64 0, .int .i64 0, .int .i64 0] 29 (0, 0))) ∧ (b 8 = true → w.heap.size ≤ gb171) ∧ (b 8 = true → w.heap.size ≤ gb171) ∧ (b 8 = true → gb136 ≠ gb171) ∧ (b 8 = true → gb171 ≠ gb136) ∧ (b 8 = true → gb137 ≠ gb171) ∧ (b 8 = true → gb171 ≠ gb137) ∧ (b 8 = true → gb154 ≠ gb171) ∧ (b 8 = true → gb171 ≠ gb154) ∧ (b 9 = true → w'.heap[gb171]? = some (.cells #[.int .i64 t165, .int .i64 t166, .int .i64 t167, .int .i64 t168, .int .i64 t169] 29 (0, 0))) ∧ (b 8 = true → (m8_ : Value) = .pointer (some ⟨gb171, 0, none⟩))) HT_.out HW_.out (by kernel_rfl) (by kernel_rfl) ?_ ?_ ?_
   · exact ⟨0, .bool false, by simp only [putSel, Bool.false_eq_true, if_false], BK136.out, BK137.out, BK154.out, HB.out, fun h_ => absurd h_ (by decide), fun h_ => absurd h_ (by decide), fun h_ => absurd h_ (by decide), fun h_ => absurd h_ (by decide), fun h_ => absurd h_ (by decide), fun h_ => absurd h_ (by decide), fun h_ => absurd h_ (by decide), fun h_ => absurd h_ (by decide), fun h_ => absurd h_ (by decide), fun h_ => absurd h_ (by decide), fun h_ => absurd h_ (by decide)⟩
   · skip
     clear BK136 BK137 BK154 HB
     refine steps_cons ?_ ?_
     · rintro b a w' ⟨gb171, m8_, ha, Q_BK136, Q_BK137, Q_BK154, Q_HB, Q_BK171, Q_GW171, Q_GE171, Q_NB136_171, Q_NB171_136, Q_NB137_171, Q_NB171_137, Q_NB154_171, Q_NB171_154, Q_BK171_e9, Q_X8_⟩ hb_ hon hoff
       refine ⟨_, rfl, fun K hK => ?_⟩
       have e2 : a.tmps[2]? = some (.pointer (some ⟨gb136, 0, none⟩)) := by rw [ha]; exact (putSel_off rfl).trans rfl
       replace ha := mk_ ha
       have BK136 := mk_ Q_BK136
       have BK137 := mk_ Q_BK137
       have BK154 := mk_ Q_BK154
       have HB := mk_ Q_HB
       have hc0_ : w'.cell? ⟨gb136, 0, none⟩ = some (.int .i64 a0_0) := (r4 BK136.out 0).trans rfl
       have hc1_ : w'.cell? ⟨gb136, 1, none⟩ = some (.int .i64 a0_1) := (r4 BK136.out 1).trans rfl
       have hc2_ : w'.cell? ⟨gb136, 2, none⟩ = some (.int .i64 a0_2) := (r4 BK136.out 2).trans rfl
       have hc3_ : w'.cell? ⟨gb136, 3, none⟩ = some (.int .i64 a0_3) := (r4 BK136.out 3).trans rfl
       have hc4_ : w'.cell? ⟨gb136, 4, none⟩ = some (.int .i64 a0_4) := (r4 BK136.out 4).trans rfl
       refine value_ (w1 := w') (v := .agg #[.int .i64 a0_0, .int .i64 a0_1, .int .i64 a0_2, .int .i64 a0_3, .int .i64 a0_4]) (by rfl) rfl ?_ ?_
       · go_simp
         (try simp only [i64_w])
         try rfl
       refine hK.out _ _ ⟨gb171, m8_, (by rw [ha.out]; exact putSel_upk 0 hb_ rfl rfl rfl), Q_BK136, Q_BK137, Q_BK154, Q_HB, Q_BK171, Q_GW171, Q_GE171, Q_NB136_171, Q_NB171_136, Q_NB137_171, Q_NB171_137, Q_NB154_171, Q_NB171_154, fun h0_ => absurd ((hoff 9 (by kernel_rfl)).symm.trans h0_) (by decide), Q_X8_⟩
     refine steps_cons ?_ ?_
     · rintro b a w' ⟨gb171, m8_, ha, Q_BK136, Q_BK137, Q_BK154, Q_HB, Q_BK171, Q_GW171, Q_GE171, Q_NB136_171, Q_NB171_136, Q_NB137_171, Q_NB171_137, Q_NB154_171, Q_NB171_154, Q_BK171_e9, Q_X8_⟩ hb_ hon hoff
       refine ⟨_, rfl, fun K hK => ?_⟩
       have e18 : a.tmps[18]? = some (.agg #[.int .i64 a0_0, .int .i64 a0_1, .int .i64 a0_2, .int .i64 a0_3, .int .i64 a0_4]) := by rw [ha]; exact putSel_on (e := (0, 18, .agg #[.int .i64 a0_0, .int .i64 a0_1, .int .i64 a0_2, .int .i64 a0_3, .int .i64 a0_4])) 0 rfl rfl (hon 0 (by kernel_rfl)) rfl
       replace ha := mk_ ha
       have BK136 := mk_ Q_BK136
       have BK137 := mk_ Q_BK137
       have BK154 := mk_ Q_BK154
       have HB := mk_ Q_HB
       refine goes_ Try.func25 (by kernel_rfl) rfl #[.agg #[.int .i64 a0_0, .int .i64 a0_1, .int .i64 a0_2, .int .i64 a0_3, .int .i64 a0_4]] (by rfl) rfl rfl (by first | (simp only [List.map_toArray, List.map_cons, List.map_nil, Act.eval, Array.getD_eq_getD_getElem?, Option.getD_some, e18]; done) | (simp only [List.map_toArray, List.map_cons, List.map_nil, Act.eval, Array.getD_eq_getD_getElem?, Option.getD_some, e18]; rfl)) ?_
       with_reducible refine (laws_toCfgOpts.calls a0_0 a0_1 a0_2 a0_3 a0_4 t155 t156 t157 t158 t159 _ A6.out).mono ?_
       rintro e w58 ⟨rfl, hb⟩
       refine ⟨_, rfl, ?_⟩
       have n0_ := mk_ (q6 (g := gb136) (o := .cells #[.int .i64 a0_0, .int .i64 a0_1, .int .i64 a0_2, .int .i64 a0_3, .int .i64 a0_4] 25 (0, 0)) (by (with_reducible repeat (first | refine q1 ?_ _ | refine q2 ?_ | refine q3 ?_ _)); exact BK136.out) hb)
       have n1_ := mk_ (q6 (g := gb137) (o := .cells #[.int .i64 a1_0, .int .i64 a1_1, .int .i64 a1_2, .int .i64 a1_3, .int .i64 a1_4] 25 (0, 0)) (by (with_reducible repeat (first | refine q1 ?_ _ | refine q2 ?_ | refine q3 ?_ _)); exact BK137.out) hb)
       have n2_ := mk_ (q6 (g := gb154) (o := .cells #[.int .i64 t148, .int .i64 t149, .int .i64 t150, .int .i64 t151, .int .i64 t152] 29 (0, 0)) (by (with_reducible repeat (first | refine q1 ?_ _ | refine q2 ?_ | refine q3 ?_ _)); exact BK154.out) hb)
       have n3_ := mk_ (r3 (by repeat (first | (with_reducible first | exact HB.out | apply q7 | apply q8 | apply q9 | refine r1 ?_ GE136.out | refine r1 ?_ GE137.out | refine r1 ?_ GE154.out) | exact HB.out)) hb)
       have z_BK171 := fun (h0_ : b 8 = true) (h1_ : b 9 = false) => (show w58.heap[gb171]? = some (.cells #[.int .i64 0, .int .i64 0, .int .i64 0, .int .i64 0, .int .i64 0] 29 (0, 0)) from by first | exact (q6 (g := gb171) (o := .cells #[.int .i64 0, .int .i64 0, .int .i64 0, .int .i64 0, .int .i64 0] 29 (0, 0)) (by (with_reducible repeat (first | refine q1 ?_ _ | refine q2 ?_ | refine q3 ?_ _)); exact (Q_BK171 h0_ h1_)) hb))
       clear BK136
       clear BK137
       clear BK154
       clear HB
       have BK136 := n0_
       have BK137 := n1_
       have BK154 := n2_
       have HB := n3_
       clear n0_ n1_ n2_ n3_
       (try clear hb)
       (try clear hb2)
       (try clear hk)
       (try clear hi)
       refine hK.out _ _ ⟨gb171, m8_, (by rw [ha.out]; exact putSel_upk 1 hb_ rfl rfl rfl), (by (with_reducible repeat (first | refine q1 ?_ _ | refine q2 ?_ | refine q3 ?_ _)); exact BK136.out), (by (with_reducible repeat (first | refine q1 ?_ _ | refine q2 ?_ | refine q3 ?_ _)); exact BK137.out), (by (with_reducible repeat (first | refine q1 ?_ _ | refine q2 ?_ | refine q3 ?_ _)); exact BK154.out), (by repeat (first | (with_reducible first | exact HB.out | apply q7 | apply q8 | apply q9 | refine r1 ?_ GE136.out | refine r1 ?_ GE137.out | refine r1 ?_ GE154.out) | exact HB.out)), z_BK171, Q_GW171, Q_GE171, Q_NB136_171, Q_NB171_136, Q_NB137_171, Q_NB171_137, Q_NB154_171, Q_NB171_154, fun h0_ => absurd ((hoff 9 (by kernel_rfl)).symm.trans h0_) (by decide), Q_X8_⟩
     refine steps_cons ?_ ?_
     · rintro b a w' ⟨gb171, m8_, ha, Q_BK136, Q_BK137, Q_BK154, Q_HB, Q_BK171, Q_GW171, Q_GE171, Q_NB136_171, Q_NB171_136, Q_NB137_171, Q_NB171_137, Q_NB154_171, Q_NB171_154, Q_BK171_e9, Q_X8_⟩ hb_ hon hoff
       refine ⟨_, rfl, fun K hK => ?_⟩
       have e3 : a.tmps[3]? = some (.pointer (some ⟨gb137, 0, none⟩)) := by rw [ha]; exact (putSel_off rfl).trans rfl
       replace ha := mk_ ha
       have BK136 := mk_ Q_BK136
       have BK137 := mk_ Q_BK137
       have BK154 := mk_ Q_BK154
       have HB := mk_ Q_HB
       have hc0_ : w'.cell? ⟨gb137, 0, none⟩ = some (.int .i64 a1_0) := (r4 BK137.out 0).trans rfl
       have hc1_ : w'.cell? ⟨gb137, 1, none⟩ = some (.int .i64 a1_1) := (r4 BK137.out 1).trans rfl
       have hc2_ : w'.cell? ⟨gb137, 2, none⟩ = some (.int .i64 a1_2) := (r4 BK137.out 2).trans rfl
       have hc3_ : w'.cell? ⟨gb137, 3, none⟩ = some (.int .i64 a1_3) := (r4 BK137.out 3).trans rfl
       have hc4_ : w'.cell? ⟨gb137, 4, none⟩ = some (.int .i64 a1_4) := (r4 BK137.out 4).trans rfl
       refine value_ (w1 := w') (v := .agg #[.int .i64 a1_0, .int .i64 a1_1, .int .i64 a1_2, .int .i64 a1_3, .int .i64 a1_4]) (by rfl) rfl ?_ ?_
       · go_simp
         (try simp only [i64_w])
         try rfl
       refine hK.out _ _ ⟨gb171, m8_, (by rw [ha.out]; exact putSel_upk 2 hb_ rfl rfl rfl), Q_BK136, Q_BK137, Q_BK154, Q_HB, Q_BK171, Q_GW171, Q_GE171, Q_NB136_171, Q_NB171_136, Q_NB137_171, Q_NB171_137, Q_NB154_171, Q_NB171_154, fun h0_ => absurd ((hoff 9 (by kernel_rfl)).symm.trans h0_) (by decide), Q_X8_⟩
     refine steps_cons ?_ ?_
     · rintro b a w' ⟨gb171, m8_, ha, Q_BK136, Q_BK137, Q_BK154, Q_HB, Q_BK171, Q_GW171, Q_GE171, Q_NB136_171, Q_NB171_136, Q_NB137_171, Q_NB171_137, Q_NB154_171, Q_NB171_154, Q_BK171_e9, Q_X8_⟩ hb_ hon hoff
       refine ⟨_, rfl, fun K hK => ?_⟩
       have e20 : a.tmps[20]? = some (.agg #[.int .i64 a1_0, .int .i64 a1_1, .int .i64 a1_2, .int .i64 a1_3, .int .i64 a1_4]) := by rw [ha]; exact putSel_on (e := (2, 20, .agg #[.int .i64 a1_0, .int .i64 a1_1, .int .i64 a1_2, .int .i64 a1_3, .int .i64 a1_4])) 2 rfl rfl (hon 2 (by kernel_rfl)) rfl
       replace ha := mk_ ha
       have BK136 := mk_ Q_BK136
       have BK137 := mk_ Q_BK137
       have BK154 := mk_ Q_BK154
       have HB := mk_ Q_HB
       refine goes_ Try.func25 (by kernel_rfl) rfl #[.agg #[.int .i64 a1_0, .int .i64 a1_1, .int .i64 a1_2, .int .i64 a1_3, .int .i64 a1_4]] (by rfl) rfl rfl (by first | (simp only [List.map_toArray, List.map_cons, List.map_nil, Act.eval, Array.getD_eq_getD_getElem?, Option.getD_some, e20]; done) | (simp only [List.map_toArray, List.map_cons, List.map_nil, Act.eval, Array.getD_eq_getD_getElem?, Option.getD_some, e20]; rfl)) ?_
       with_reducible refine (laws_toCfgOpts.calls a1_0 a1_1 a1_2 a1_3 a1_4 t160 t161 t162 t163 t164 _ A7.out).mono ?_
       rintro e w60 ⟨rfl, hb⟩
       refine ⟨_, rfl, ?_⟩
       have n0_ := mk_ (q6 (g := gb136) (o := .cells #[.int .i64 a0_0, .int .i64 a0_1, .int .i64 a0_2, .int .i64 a0_3, .int .i64 a0_4] 25 (0, 0)) (by (with_reducible repeat (first | refine q1 ?_ _ | refine q2 ?_ | refine q3 ?_ _)); exact BK136.out) hb)
       have n1_ := mk_ (q6 (g := gb137) (o := .cells #[.int .i64 a1_0, .int .i64 a1_1, .int .i64 a1_2, .int .i64 a1_3, .int .i64 a1_4] 25 (0, 0)) (by (with_reducible repeat (first | refine q1 ?_ _ | refine q2 ?_ | refine q3 ?_ _)); exact BK137.out) hb)
       have n2_ := mk_ (q6 (g := gb154) (o := .cells #[.int .i64 t148, .int .i64 t149, .int .i64 t150, .int .i64 t151, .int .i64 t152] 29 (0, 0)) (by (with_reducible repeat (first | refine q1 ?_ _ | refine q2 ?_ | refine q3 ?_ _)); exact BK154.out) hb)
       have n3_ := mk_ (r3 (by repeat (first | (with_reducible first | exact HB.out | apply q7 | apply q8 | apply q9 | refine r1 ?_ GE136.out | refine r1 ?_ GE137.out | refine r1 ?_ GE154.out) | exact HB.out)) hb)
       have z_BK171 := fun (h0_ : b 8 = true) (h1_ : b 9 = false) => (show w60.heap[gb171]? = some (.cells #[.int .i64 0, .int .i64 0, .int .i64 0, .int .i64 0, .int .i64 0] 29 (0, 0)) from by first | exact (q6 (g := gb171) (o := .cells #[.int .i64 0, .int .i64 0, .int .i64 0, .int .i64 0, .int .i64 0] 29 (0, 0)) (by (with_reducible repeat (first | refine q1 ?_ _ | refine q2 ?_ | refine q3 ?_ _)); exact (Q_BK171 h0_ h1_)) hb))
       clear BK136
       clear BK137
       clear BK154
       clear HB
       have BK136 := n0_
       have BK137 := n1_
       have BK154 := n2_
       have HB := n3_
       clear n0_ n1_ n2_ n3_
       (try clear hb)
       (try clear hb2)
       (try clear hk)
       (try clear hi)
       refine hK.out _ _ ⟨gb171, m8_, (by rw [ha.out]; exact putSel_upk 3 hb_ rfl rfl rfl), (by (with_reducible repeat (first | refine q1 ?_ _ | refine q2 ?_ | refine q3 ?_ _)); exact BK136.out), (by (with_reducible repeat (first | refine q1 ?_ _ | refine q2 ?_ | refine q3 ?_ _)); exact BK137.out), (by (with_reducible repeat (first | refine q1 ?_ _ | refine q2 ?_ | refine q3 ?_ _)); exact BK154.out), (by repeat (first | (with_reducible first | exact HB.out | apply q7 | apply q8 | apply q9 | refine r1 ?_ GE136.out | refine r1 ?_ GE137.out | refine r1 ?_ GE154.out) | exact HB.out)), z_BK171, Q_GW171, Q_GE171, Q_NB136_171, Q_NB171_136, Q_NB137_171, Q_NB171_137, Q_NB154_171, Q_NB171_154, fun h0_ => absurd ((hoff 9 (by kernel_rfl)).symm.trans h0_) (by decide), Q_X8_⟩
     refine steps_cons ?_ ?_
     · rintro b a w' ⟨gb171, m8_, ha, Q_BK136, Q_BK137, Q_BK154, Q_HB, Q_BK171, Q_GW171, Q_GE171, Q_NB136_171, Q_NB171_136, Q_NB137_171, Q_NB171_137, Q_NB154_171, Q_NB171_154, Q_BK171_e9, Q_X8_⟩ hb_ hon hoff
       refine ⟨_, rfl, fun K hK => ?_⟩
       have e19 : a.tmps[19]? = some (.agg #[.int .i64 t155, .int .i64 t156, .int .i64 t157, .int .i64 t158, .int .i64 t159]) := by rw [ha]; exact putSel_on (e := (1, 19, .agg #[.int .i64 t155, .int .i64 t156, .int .i64 t157, .int .i64 t158, .int .i64 t159])) 1 rfl rfl (hon 1 (by kernel_rfl)) rfl
       have e21 : a.tmps[21]? = some (.agg #[.int .i64 t160, .int .i64 t161, .int .i64 t162, .int .i64 t163, .int .i64 t164]) := by rw [ha]; exact putSel_on (e := (3, 21, .agg #[.int .i64 t160, .int .i64 t161, .int .i64 t162, .int .i64 t163, .int .i64 t164])) 3 rfl rfl (hon 3 (by kernel_rfl)) rfl
       replace ha := mk_ ha
       have BK136 := mk_ Q_BK136
       have BK137 := mk_ Q_BK137
       have BK154 := mk_ Q_BK154
       have HB := mk_ Q_HB
       refine goes_ Try.func26 (by kernel_rfl) rfl #[.agg #[.int .i64 t155, .int .i64 t156, .int .i64 t157, .int .i64 t158, .int .i64 t159], .agg #[.int .i64 t160, .int .i64 t161, .int .i64 t162, .int .i64 t163, .int .i64 t164]] (by rfl) rfl rfl (by first | (simp only [List.map_toArray, List.map_cons, List.map_nil, Act.eval, Array.getD_eq_getD_getElem?, Option.getD_some, e19, e21]; done) | (simp only [List.map_toArray, List.map_cons, List.map_nil, Act.eval, Array.getD_eq_getD_getElem?, Option.getD_some, e19, e21]; rfl)) ?_
       with_reducible refine (impl_CfgMeet.calls t155 t156 t157 t158 t159 t160 t161 t162 t163 t164 t165 t166 t167 t168 t169 t170 _ A8.out).mono ?_
       rintro e w61 ⟨rfl, hb⟩
       refine ⟨_, rfl, ?_⟩
       have n0_ := mk_ (q6 (g := gb136) (o := .cells #[.int .i64 a0_0, .int .i64 a0_1, .int .i64 a0_2, .int .i64 a0_3, .int .i64 a0_4] 25 (0, 0)) (by (with_reducible repeat (first | refine q1 ?_ _ | refine q2 ?_ | refine q3 ?_ _)); exact BK136.out) hb)
       have n1_ := mk_ (q6 (g := gb137) (o := .cells #[.int .i64 a1_0, .int .i64 a1_1, .int .i64 a1_2, .int .i64 a1_3, .int .i64 a1_4] 25 (0, 0)) (by (with_reducible repeat (first | refine q1 ?_ _ | refine q2 ?_ | refine q3 ?_ _)); exact BK137.out) hb)
       have n2_ := mk_ (q6 (g := gb154) (o := .cells #[.int .i64 t148, .int .i64 t149, .int .i64 t150, .int .i64 t151, .int .i64 t152] 29 (0, 0)) (by (with_reducible repeat (first | refine q1 ?_ _ | refine q2 ?_ | refine q3 ?_ _)); exact BK154.out) hb)
       have n3_ := mk_ (r3 (by repeat (first | (with_reducible first | exact HB.out | apply q7 | apply q8 | apply q9 | refine r1 ?_ GE136.out | refine r1 ?_ GE137.out | refine r1 ?_ GE154.out) | exact HB.out)) hb)
       have z_BK171 := fun (h0_ : b 8 = true) (h1_ : b 9 = false) => (show w61.heap[gb171]? = some (.cells #[.int .i64 0, .int .i64 0, .int .i64 0, .int .i64 0, .int .i64 0] 29 (0, 0)) from by first | exact (q6 (g := gb171) (o := .cells #[.int .i64 0, .int .i64 0, .int .i64 0, .int .i64 0, .int .i64 0] 29 (0, 0)) (by (with_reducible repeat (first | refine q1 ?_ _ | refine q2 ?_ | refine q3 ?_ _)); exact (Q_BK171 h0_ h1_)) hb))
       clear BK136
       clear BK137
       clear BK154
       clear HB
       have BK136 := n0_
       have BK137 := n1_
       have BK154 := n2_
       have HB := n3_
       clear n0_ n1_ n2_ n3_
       (try clear hb)
       (try clear hb2)
       (try clear hk)
       (try clear hi)
       refine hK.out _ _ ⟨gb171, m8_, (by rw [ha.out]; exact putSel_upk 4 hb_ rfl rfl rfl), (by (with_reducible repeat (first | refine q1 ?_ _ | refine q2 ?_ | refine q3 ?_ _)); exact BK136.out), (by (with_reducible repeat (first | refine q1 ?_ _ | refine q2 ?_ | refine q3 ?_ _)); exact BK137.out), (by (with_reducible repeat (first | refine q1 ?_ _ | refine q2 ?_ | refine q3 ?_ _)); exact BK154.out), (by repeat (first | (with_reducible first | exact HB.out | apply q7 | apply q8 | apply q9 | refine r1 ?_ GE136.out | refine r1 ?_ GE137.out | refine r1 ?_ GE154.out) | exact HB.out)), z_BK171, Q_GW171, Q_GE171, Q_NB136_171, Q_NB171_136, Q_NB137_171, Q_NB171_137, Q_NB154_171, Q_NB171_154, fun h0_ => absurd ((hoff 9 (by kernel_rfl)).symm.trans h0_) (by decide), Q_X8_⟩
     refine steps_cons ?_ ?_
     · rintro b a w' ⟨gb171, m8_, ha, Q_BK136, Q_BK137, Q_BK154, Q_HB, Q_BK171, Q_GW171, Q_GE171, Q_NB136_171, Q_NB171_136, Q_NB137_171, Q_NB171_137, Q_NB154_171, Q_NB171_154, Q_BK171_e9, Q_X8_⟩ hb_ hon hoff
       refine ⟨_, rfl, fun K hK => ?_⟩
       have e22 : a.tmps[22]? = some (.tuple #[.agg #[.int .i64 t165, .int .i64 t166, .int .i64 t167, .int .i64 t168, .int .i64 t169], .bool t170]) := by rw [ha]; exact putSel_on (e := (4, 22, .tuple #[.agg #[.int .i64 t165, .int .i64 t166, .int .i64 t167, .int .i64 t168, .int .i64 t169], .bool t170])) 4 rfl rfl (hon 4 (by kernel_rfl)) rfl
       replace ha := mk_ ha
       have BK136 := mk_ Q_BK136
       have BK137 := mk_ Q_BK137
       have BK154 := mk_ Q_BK154
       have HB := mk_ Q_HB
       refine value_ (w1 := w') (v := .tuple #[.agg #[.int .i64 t165, .int .i64 t166, .int .i64 t167, .int .i64 t168, .int .i64 t169], .bool t170]) (by rfl) rfl ?_ ?_
       · go_simp
         (try simp only [i64_w])
         try rfl
       refine hK.out _ _ ⟨gb171, m8_, (by rw [ha.out]; exact putSel_upk 5 hb_ rfl rfl rfl), Q_BK136, Q_BK137, Q_BK154, Q_HB, Q_BK171, Q_GW171, Q_GE171, Q_NB136_171, Q_NB171_136, Q_NB137_171, Q_NB171_137, Q_NB154_171, Q_NB171_154, fun h0_ => absurd ((hoff 9 (by kernel_rfl)).symm.trans h0_) (by decide), Q_X8_⟩
     refine steps_cons ?_ ?_
     · rintro b a w' ⟨gb171, m8_, ha, Q_BK136, Q_BK137, Q_BK154, Q_HB, Q_BK171, Q_GW171, Q_GE171, Q_NB136_171, Q_NB171_136, Q_NB137_171, Q_NB171_137, Q_NB154_171, Q_NB171_154, Q_BK171_e9, Q_X8_⟩ hb_ hon hoff
       refine ⟨_, rfl, fun K hK => ?_⟩
       have e17 : a.tmps[17]? = some (.tuple #[.agg #[.int .i64 t165, .int .i64 t166, .int .i64 t167, .int .i64 t168, .int .i64 t169], .bool t170]) := by rw [ha]; exact putSel_on (e := (5, 17, .tuple #[.agg #[.int .i64 t165, .int .i64 t166, .int .i64 t167, .int .i64 t168, .int .i64 t169], .bool t170])) 5 rfl rfl (hon 5 (by kernel_rfl)) rfl
       replace ha := mk_ ha
       have BK136 := mk_ Q_BK136
       have BK137 := mk_ Q_BK137
       have BK154 := mk_ Q_BK154
       have HB := mk_ Q_HB
       refine value_ (w1 := w') (v := .agg #[.int .i64 t165, .int .i64 t166, .int .i64 t167, .int .i64 t168, .int .i64 t169]) (by rfl) rfl ?_ ?_
       · go_simp
         (try simp only [i64_w])
         try rfl
       refine hK.out _ _ ⟨gb171, m8_, (by rw [ha.out]; exact putSel_upk 6 hb_ rfl rfl rfl), Q_BK136, Q_BK137, Q_BK154, Q_HB, Q_BK171, Q_GW171, Q_GE171, Q_NB136_171, Q_NB171_136, Q_NB137_171, Q_NB171_137, Q_NB154_171, Q_NB171_154, fun h0_ => absurd ((hoff 9 (by kernel_rfl)).symm.trans h0_) (by decide), Q_X8_⟩
     refine steps_cons ?_ ?_
     · rintro b a w' ⟨gb171, m8_, ha, Q_BK136, Q_BK137, Q_BK154, Q_HB, Q_BK171, Q_GW171, Q_GE171, Q_NB136_171, Q_NB171_136, Q_NB137_171, Q_NB171_137, Q_NB154_171, Q_NB171_154, Q_BK171_e9, Q_X8_⟩ hb_ hon hoff
       refine ⟨_, rfl, fun K hK => ?_⟩
       have e17 : a.tmps[17]? = some (.tuple #[.agg #[.int .i64 t165, .int .i64 t166, .int .i64 t167, .int .i64 t168, .int .i64 t169], .bool t170]) := by rw [ha]; exact putSel_on (e := (5, 17, .tuple #[.agg #[.int .i64 t165, .int .i64 t166, .int .i64 t167, .int .i64 t168, .int .i64 t169], .bool t170])) 5 rfl rfl (hon 5 (by kernel_rfl)) rfl
       replace ha := mk_ ha
       have BK136 := mk_ Q_BK136
       have BK137 := mk_ Q_BK137
       have BK154 := mk_ Q_BK154
       have HB := mk_ Q_HB
       refine value_ (w1 := w') (v := .bool t170) (by rfl) rfl ?_ ?_
       · go_simp
         (try simp only [i64_w])
         try rfl
       refine hK.out _ _ ⟨gb171, m8_, (by rw [ha.out]; exact putSel_upk 7 hb_ rfl rfl rfl), Q_BK136, Q_BK137, Q_BK154, Q_HB, Q_BK171, Q_GW171, Q_GE171, Q_NB136_171, Q_NB171_136, Q_NB137_171, Q_NB171_137, Q_NB154_171, Q_NB171_154, Q_BK171_e9, Q_X8_⟩
     refine steps_cons ?_ ?_
     · rintro b a w' ⟨gb171, m8_, ha, Q_BK136, Q_BK137, Q_BK154, Q_HB, Q_BK171, Q_GW171, Q_GE171, Q_NB136_171, Q_NB171_136, Q_NB137_171, Q_NB171_137, Q_NB154_171, Q_NB171_154, Q_BK171_e9, Q_X8_⟩ hb_ hon hoff
       refine ⟨_, rfl, fun K hK => ?_⟩
       replace ha := mk_ ha
       have BK136 := mk_ Q_BK136
       have BK137 := mk_ Q_BK137
       have BK154 := mk_ Q_BK154
       have HB := mk_ Q_HB
       refine box_step ?hg (N := 7) ?hd (cs := #[.int .i64 0, .int .i64 0, .int .i64 0, .int .i64 0, .int .i64 0]) (t := 29) ?hr ?_; (case hd => rfl); (case hg => rfl); (case hr => first | (go_simp; done) | (go_simp; rfl))
       intro gb171 hg w58 hbox hb
       have n0_ := mk_ (q6 (g := gb136) (o := .cells #[.int .i64 a0_0, .int .i64 a0_1, .int .i64 a0_2, .int .i64 a0_3, .int .i64 a0_4] 25 (0, 0)) (by (with_reducible repeat (first | refine q1 ?_ _ | refine q2 ?_ | refine q3 ?_ _)); exact BK136.out) hb)
       have n1_ := mk_ (q6 (g := gb137) (o := .cells #[.int .i64 a1_0, .int .i64 a1_1, .int .i64 a1_2, .int .i64 a1_3, .int .i64 a1_4] 25 (0, 0)) (by (with_reducible repeat (first | refine q1 ?_ _ | refine q2 ?_ | refine q3 ?_ _)); exact BK137.out) hb)
       have n2_ := mk_ (q6 (g := gb154) (o := .cells #[.int .i64 t148, .int .i64 t149, .int .i64 t150, .int .i64 t151, .int .i64 t152] 29 (0, 0)) (by (with_reducible repeat (first | refine q1 ?_ _ | refine q2 ?_ | refine q3 ?_ _)); exact BK154.out) hb)
       have n3_ := mk_ (r3 (by repeat (first | (with_reducible first | exact HB.out | apply q7 | apply q8 | apply q9 | refine r1 ?_ GE136.out | refine r1 ?_ GE137.out | refine r1 ?_ GE154.out) | exact HB.out)) hb)
       have n4_ := mk_ (hbox)
       have n5_ := mk_ ((by rw [hg]; exact (r2 (by repeat (first | (with_reducible first | exact HB.out | apply q7 | apply q8 | apply q9 | refine r1 ?_ GE136.out | refine r1 ?_ GE137.out | refine r1 ?_ GE154.out) | exact HB.out))) : w.heap.size ≤ gb171))
       have n6_ := mk_ ((by rw [hg]; exact (r2 (by repeat (first | (with_reducible first | exact HB.out | apply q7 | apply q8 | apply q9 | refine r1 ?_ GE136.out | refine r1 ?_ GE137.out | refine r1 ?_ GE154.out) | exact HB.out))) : w.heap.size ≤ gb171))
       have n7_ := mk_ ((by rw [hg]; exact m2 (r6 (g := gb136) (o := .cells #[.int .i64 a0_0, .int .i64 a0_1, .int .i64 a0_2, .int .i64 a0_3, .int .i64 a0_4] 25 (0, 0)) (by (with_reducible repeat (first | refine q1 ?_ _ | refine q2 ?_ | refine q3 ?_ _)); exact BK136.out)) : gb136 ≠ gb171))
       have n8_ := mk_ ((by rw [hg]; exact m3 (r6 (g := gb136) (o := .cells #[.int .i64 a0_0, .int .i64 a0_1, .int .i64 a0_2, .int .i64 a0_3, .int .i64 a0_4] 25 (0, 0)) (by (with_reducible repeat (first | refine q1 ?_ _ | refine q2 ?_ | refine q3 ?_ _)); exact BK136.out)) : gb171 ≠ gb136))
       have n9_ := mk_ ((by rw [hg]; exact m2 (r6 (g := gb137) (o := .cells #[.int .i64 a1_0, .int .i64 a1_1, .int .i64 a1_2, .int .i64 a1_3, .int .i64 a1_4] 25 (0, 0)) (by (with_reducible repeat (first | refine q1 ?_ _ | refine q2 ?_ | refine q3 ?_ _)); exact BK137.out)) : gb137 ≠ gb171))
       have n10_ := mk_ ((by rw [hg]; exact m3 (r6 (g := gb137) (o := .cells #[.int .i64 a1_0, .int .i64 a1_1, .int .i64 a1_2, .int .i64 a1_3, .int .i64 a1_4] 25 (0, 0)) (by (with_reducible repeat (first | refine q1 ?_ _ | refine q2 ?_ | refine q3 ?_ _)); exact BK137.out)) : gb171 ≠ gb137))
       have n11_ := mk_ ((by rw [hg]; exact m2 (r6 (g := gb154) (o := .cells #[.int .i64 t148, .int .i64 t149, .int .i64 t150, .int .i64 t151, .int .i64 t152] 29 (0, 0)) (by (with_reducible repeat (first | refine q1 ?_ _ | refine q2 ?_ | refine q3 ?_ _)); exact BK154.out)) : gb154 ≠ gb171))
       have n12_ := mk_ ((by rw [hg]; exact m3 (r6 (g := gb154) (o := .cells #[.int .i64 t148, .int .i64 t149, .int .i64 t150, .int .i64 t151, .int .i64 t152] 29 (0, 0)) (by (with_reducible repeat (first | refine q1 ?_ _ | refine q2 ?_ | refine q3 ?_ _)); exact BK154.out)) : gb171 ≠ gb154))
       clear BK136
       clear BK137
       clear BK154
       clear HB
       have BK136 := n0_
       have BK137 := n1_
       have BK154 := n2_
       have HB := n3_
       have BK171 := n4_
       have GW171 := n5_
       have GE171 := n6_
       have NB136_171 := n7_
       have NB171_136 := n8_
       have NB137_171 := n9_
       have NB171_137 := n10_
       have NB154_171 := n11_
       have NB171_154 := n12_
       clear n0_ n1_ n2_ n3_ n4_ n5_ n6_ n7_ n8_ n9_ n10_ n11_ n12_
       clear hb hbox hg
       refine hK.out _ _ ⟨gb171, (.pointer (some ⟨gb171, 0, none⟩)), (by rw [ha.out]; exact putSel_upk 8 hb_ rfl rfl rfl), (by (with_reducible repeat (first | refine q1 ?_ _ | refine q2 ?_ | refine q3 ?_ _)); exact BK136.out), (by (with_reducible repeat (first | refine q1 ?_ _ | refine q2 ?_ | refine q3 ?_ _)); exact BK137.out), (by (with_reducible repeat (first | refine q1 ?_ _ | refine q2 ?_ | refine q3 ?_ _)); exact BK154.out), (by repeat (first | (with_reducible first | exact HB.out | apply q7 | apply q8 | apply q9 | refine r1 ?_ GE136.out | refine r1 ?_ GE137.out | refine r1 ?_ GE154.out | refine r1 ?_ GE171.out) | exact HB.out)), fun _ _ => (by (with_reducible repeat (first | refine q1 ?_ _ | refine q2 ?_ | refine q3 ?_ _)); exact BK171.out), fun _ => GW171.out, fun _ => GE171.out, fun _ => NB136_171.out, fun _ => NB171_136.out, fun _ => NB137_171.out, fun _ => NB171_137.out, fun _ => NB154_171.out, fun _ => NB171_154.out, fun h0_ => absurd ((hoff 9 (by kernel_rfl)).symm.trans h0_) (by decide), fun _ => rfl⟩
     refine steps_cons ?_ ?_
     · rintro b a w' ⟨gb171, m8_, ha, Q_BK136, Q_BK137, Q_BK154, Q_HB, Q_BK171, Q_GW171, Q_GE171, Q_NB136_171, Q_NB171_136, Q_NB137_171, Q_NB171_137, Q_NB154_171, Q_NB171_154, Q_BK171_e9, Q_X8_⟩ hb_ hon hoff
       refine ⟨_, rfl, fun K hK => ?_⟩
       have e7 : a.tmps[7]? = some (m8_) := by rw [ha]; exact putSel_on (e := (8, 7, m8_)) 8 rfl rfl (hon 8 (by kernel_rfl)) rfl
       rw [Q_X8_ (hon 8 (by kernel_rfl))] at e7
       have e23 : a.tmps[23]? = some (.agg #[.int .i64 t165, .int .i64 t166, .int .i64 t167, .int .i64 t168, .int .i64 t169]) := by rw [ha]; exact putSel_on (e := (6, 23, .agg #[.int .i64 t165, .int .i64 t166, .int .i64 t167, .int .i64 t168, .int .i64 t169])) 6 rfl rfl (hon 6 (by kernel_rfl)) rfl
       replace ha := mk_ ha
       have BK136 := mk_ Q_BK136
       have BK137 := mk_ Q_BK137
       have BK154 := mk_ Q_BK154
       have HB := mk_ Q_HB
       have BK171 := mk_ (Q_BK171 (hon 8 (by kernel_rfl)) hb_)
       have GW171 := mk_ (Q_GW171 (hon 8 (by kernel_rfl)))
       have GE171 := mk_ (Q_GE171 (hon 8 (by kernel_rfl)))
       have NB136_171 := mk_ (Q_NB136_171 (hon 8 (by kernel_rfl)))
       have NB171_136 := mk_ (Q_NB171_136 (hon 8 (by kernel_rfl)))
       have NB137_171 := mk_ (Q_NB137_171 (hon 8 (by kernel_rfl)))
       have NB171_137 := mk_ (Q_NB171_137 (hon 8 (by kernel_rfl)))
       have NB154_171 := mk_ (Q_NB154_171 (hon 8 (by kernel_rfl)))
       have NB171_154 := mk_ (Q_NB171_154 (hon 8 (by kernel_rfl)))
       have hs63 : w'.cell? ⟨gb171, 0, none⟩ = some (.int .i64 0) := (r4 BK171.out 0).trans rfl
       have hfs63 := r5 BK171.out 0
       have hns63_0 := NB136_171.out
       have hns63_1 := NB137_171.out
       have hns63_2 := NB154_171.out
       have hms63_0 := NB171_136.out
       have hms63_1 := NB171_137.out
       have hms63_2 := NB171_154.out
       have hs64 : w'.cell? ⟨gb171, 1, none⟩ = some (.int .i64 0) := (r4 BK171.out 1).trans rfl
       have hfs64 := r5 BK171.out 1
       have hns64_0 := NB136_171.out
       have hns64_1 := NB137_171.out
       have hns64_2 := NB154_171.out
       have hms64_0 := NB171_136.out
       have hms64_1 := NB171_137.out
       have hms64_2 := NB171_154.out
       have hs65 : w'.cell? ⟨gb171, 2, none⟩ = some (.int .i64 0) := (r4 BK171.out 2).trans rfl
       have hfs65 := r5 BK171.out 2
       have hns65_0 := NB136_171.out
       have hns65_1 := NB137_171.out
       have hns65_2 := NB154_171.out
       have hms65_0 := NB171_136.out
       have hms65_1 := NB171_137.out
       have hms65_2 := NB171_154.out
       have hs66 : w'.cell? ⟨gb171, 3, none⟩ = some (.int .i64 0) := (r4 BK171.out 3).trans rfl
       have hfs66 := r5 BK171.out 3
       have hns66_0 := NB136_171.out
       have hns66_1 := NB137_171.out
       have hns66_2 := NB154_171.out
       have hms66_0 := NB171_136.out
       have hms66_1 := NB171_137.out
       have hms66_2 := NB171_154.out
       have hs67 : w'.cell? ⟨gb171, 4, none⟩ = some (.int .i64 0) := (r4 BK171.out 4).trans rfl
       have hfs67 := r5 BK171.out 4
       have hns67_0 := NB136_171.out
       have hns67_1 := NB137_171.out
       have hns67_2 := NB154_171.out
       have hms67_0 := NB171_136.out
       have hms67_1 := NB171_137.out
       have hms67_2 := NB171_154.out
       refine skip_ (w1 := ?_) (by rfl) rfl ?_ ?_
       rotate_left
       · go_simp
         rfl
       refine hK.out _ _ ⟨gb171, m8_, (by rw [ha.out]; exact putSel_none (v := undef) rfl), (by (with_reducible repeat (first | refine q1 ?_ _ | refine q2 ?_ | refine q3 ?_ _)); refine q5 ?_ NB136_171.out _; (with_reducible repeat (first | refine q1 ?_ _ | refine q2 ?_ | refine q3 ?_ _)); refine q5 ?_ NB136_171.out _; (with_reducible repeat (first | refine q1 ?_ _ | refine q2 ?_ | refine q3 ?_ _)); refine q5 ?_ NB136_171.out _; (with_reducible repeat (first | refine q1 ?_ _ | refine q2 ?_ | refine q3 ?_ _)); refine q5 ?_ NB136_171.out _; (with_reducible repeat (first | refine q1 ?_ _ | refine q2 ?_ | refine q3 ?_ _)); refine q5 ?_ NB136_171.out _; (with_reducible repeat (first | refine q1 ?_ _ | refine q2 ?_ | refine q3 ?_ _)); exact BK136.out), (by (with_reducible repeat (first | refine q1 ?_ _ | refine q2 ?_ | refine q3 ?_ _)); refine q5 ?_ NB137_171.out _; (with_reducible repeat (first | refine q1 ?_ _ | refine q2 ?_ | refine q3 ?_ _)); refine q5 ?_ NB137_171.out _; (with_reducible repeat (first | refine q1 ?_ _ | refine q2 ?_ | refine q3 ?_ _)); refine q5 ?_ NB137_171.out _; (with_reducible repeat (first | refine q1 ?_ _ | refine q2 ?_ | refine q3 ?_ _)); refine q5 ?_ NB137_171.out _; (with_reducible repeat (first | refine q1 ?_ _ | refine q2 ?_ | refine q3 ?_ _)); refine q5 ?_ NB137_171.out _; (with_reducible repeat (first | refine q1 ?_ _ | refine q2 ?_ | refine q3 ?_ _)); exact BK137.out), (by (with_reducible repeat (first | refine q1 ?_ _ | refine q2 ?_ | refine q3 ?_ _)); refine q5 ?_ NB154_171.out _; (with_reducible repeat (first | refine q1 ?_ _ | refine q2 ?_ | refine q3 ?_ _)); refine q5 ?_ NB154_171.out _; (with_reducible repeat (first | refine q1 ?_ _ | refine q2 ?_ | refine q3 ?_ _)); refine q5 ?_ NB154_171.out _; (with_reducible repeat (first | refine q1 ?_ _ | refine q2 ?_ | refine q3 ?_ _)); refine q5 ?_ NB154_171.out _; (with_reducible repeat (first | refine q1 ?_ _ | refine q2 ?_ | refine q3 ?_ _)); refine q5 ?_ NB154_171.out _; (with_reducible repeat (first | refine q1 ?_ _ | refine q2 ?_ | refine q3 ?_ _)); exact BK154.out), (by repeat (first | (with_reducible first | exact HB.out | apply q7 | apply q8 | apply q9 | refine r1 ?_ GE136.out | refine r1 ?_ GE137.out | refine r1 ?_ GE154.out | refine r1 ?_ GE171.out) | exact HB.out)), fun _ h1_ => absurd ((up_self b 9).symm.trans h1_) (by decide), fun _ => GW171.out, fun _ => GE171.out, fun _ => NB136_171.out, fun _ => NB171_136.out, fun _ => NB137_171.out, fun _ => NB171_137.out, fun _ => NB154_171.out, fun _ => NB171_154.out, fun _ => (by (with_reducible repeat (first | refine q1 ?_ _ | refine q2 ?_ | refine q3 ?_ _)); refine q4 (cs := #[.int .i64 t165, .int .i64 t166, .int .i64 t167, .int .i64 t168, .int .i64 0]) ?_ 4 _ rfl; (with_reducible repeat (first | refine q1 ?_ _ | refine q2 ?_ | refine q3 ?_ _)); refine q4 (cs := #[.int .i64 t165, .int .i64 t166, .int .i64 t167, .int .i64 0, .int .i64 0]) ?_ 3 _ rfl; (with_reducible repeat (first | refine q1 ?_ _ | refine q2 ?_ | refine q3 ?_ _)); refine q4 (cs := #[.int .i64 t165, .int .i64 t166, .int .i64 0, .int .i64 0, .int .i64 0]) ?_ 2 _ rfl; (with_reducible repeat (first | refine q1 ?_ _ | refine q2 ?_ | refine q3 ?_ _)); refine q4 (cs := #[.int .i64 t165, .int .i64 0, .int .i64 0, .int .i64 0, .int .i64 0]) ?_ 1 _ rfl; (with_reducible repeat (first | refine q1 ?_ _ | refine q2 ?_ | refine q3 ?_ _)); refine q4 (cs := #[.int .i64 0, .int .i64 0, .int .i64 0, .int .i64 0, .int .i64 0]) ?_ 0 _ rfl; (with_reducible repeat (first | refine q1 ?_ _ | refine q2 ?_ | refine q3 ?_ _)); exact BK171.out), Q_X8_⟩
     refine steps_cons ?_ ?_
     · rintro b a w' ⟨gb171, m8_, ha, Q_BK136, Q_BK137, Q_BK154, Q_HB, Q_BK171, Q_GW171, Q_GE171, Q_NB136_171, Q_NB171_136, Q_NB137_171, Q_NB171_137, Q_NB154_171, Q_NB171_154, Q_BK171_e9, Q_X8_⟩ hb_ hon hoff
       refine ⟨_, rfl, fun K hK => ?_⟩
       have e24 : a.tmps[24]? = some (.bool t170) := by rw [ha]; exact putSel_on (e := (7, 24, .bool t170)) 7 rfl rfl (hon 7 (by kernel_rfl)) rfl
       replace ha := mk_ ha
       have BK136 := mk_ Q_BK136
       have BK137 := mk_ Q_BK137
       have BK154 := mk_ Q_BK154
       have HB := mk_ Q_HB
       have GW171 := mk_ (Q_GW171 (hon 8 (by kernel_rfl)))
       have GE171 := mk_ (Q_GE171 (hon 8 (by kernel_rfl)))
       have NB136_171 := mk_ (Q_NB136_171 (hon 8 (by kernel_rfl)))
       have NB171_136 := mk_ (Q_NB171_136 (hon 8 (by kernel_rfl)))
       have NB137_171 := mk_ (Q_NB137_171 (hon 8 (by kernel_rfl)))
       have NB171_137 := mk_ (Q_NB171_137 (hon 8 (by kernel_rfl)))
       have NB154_171 := mk_ (Q_NB154_171 (hon 8 (by kernel_rfl)))
       have NB171_154 := mk_ (Q_NB171_154 (hon 8 (by kernel_rfl)))
       have BK171 := mk_ (Q_BK171_e9 (hon 9 (by kernel_rfl)))
       refine value_ (w1 := w') (v := .bool t170) (by rfl) rfl ?_ ?_
       · go_simp
         (try simp only [i64_w])
         try rfl
       refine hK.out _ _ ⟨gb171, m8_, (by rw [ha.out]; exact putSel_upk 9 hb_ rfl rfl rfl), Q_BK136, Q_BK137, Q_BK154, Q_HB, fun _ h1_ => absurd ((hon 9 (by kernel_rfl)).symm.trans h1_) (by decide), Q_GW171, Q_GE171, Q_NB136_171, Q_NB171_136, Q_NB137_171, Q_NB171_137, Q_NB154_171, Q_NB171_154, Q_BK171_e9, Q_X8_⟩
     exact steps_nil
   rintro b a w67 hall ⟨gb171, m8_, ha, Q_BK136, Q_BK137, Q_BK154, Q_HB, Q_BK171, Q_GW171, Q_GE171, Q_NB136_171, Q_NB171_136, Q_NB137_171, Q_NB171_137, Q_NB154_171, Q_NB171_154, Q_BK171_e9, Q_X8_⟩
   clear BK136 BK137 BK154 HB
   have hb0_ := hall 0 (by kernel_rfl)
   have hb1_ := hall 1 (by kernel_rfl)
   have hb2_ := hall 2 (by kernel_rfl)
   have hb3_ := hall 3 (by kernel_rfl)
   have hb4_ := hall 4 (by kernel_rfl)
   have hb5_ := hall 5 (by kernel_rfl)
   have hb6_ := hall 6 (by kernel_rfl)
   have hb7_ := hall 7 (by kernel_rfl)
   have hb8_ := hall 8 (by kernel_rfl)
   have hb9_ := hall 9 (by kernel_rfl)
   have hb10_ := hall 10 (by kernel_rfl)
   subst ha
   obtain rfl := Q_X8_ hb8_
   simp only [putSel, hb0_, hb1_, hb2_, hb3_, hb4_, hb5_, hb6_, hb7_, hb8_, hb9_, hb10_, if_true, Act.put, List.setIfInBounds_toArray, List.set_cons_zero, List.set_cons_succ]
   have BK136 := mk_ Q_BK136
   clear Q_BK136
   have BK137 := mk_ Q_BK137
   clear Q_BK137
   have BK154 := mk_ Q_BK154
   clear Q_BK154
   have HB := mk_ Q_HB
   clear Q_HB
   clear Q_BK171
   have GW171 := mk_ (Q_GW171 hb8_)
   clear Q_GW171
   have GE171 := mk_ (Q_GE171 hb8_)
   clear Q_GE171
   have NB136_171 := mk_ (Q_NB136_171 hb8_)
   clear Q_NB136_171
   have NB171_136 := mk_ (Q_NB171_136 hb8_)
   clear Q_NB171_136
   have NB137_171 := mk_ (Q_NB137_171 hb8_)
   clear Q_NB137_171
   have NB171_137 := mk_ (Q_NB171_137 hb8_)
   clear Q_NB171_137
   have NB154_171 := mk_ (Q_NB154_171 hb8_)
   clear Q_NB154_171
   have NB171_154 := mk_ (Q_NB171_154 hb8_)
   clear Q_NB171_154
   have BK171 := mk_ (Q_BK171_e9 hb9_)
   clear Q_BK171_e9
   clear hall hb0_ hb1_ hb2_ hb3_ hb4_ hb5_ hb6_ hb7_ hb8_ hb9_ hb10_
   have hnb68 := NB171_136.out
   have hnc68 := NB136_171.out
   have hnb69 := NB171_137.out
   have hnc69 := NB137_171.out
   have hnb70 := NB171_154.out
   have hnc70 := NB154_171.out
   have hcz71_0 : w67.cell? ⟨gb171, 0, none⟩ = some (.int .i64 t165) := (r4 BK171.out 0).trans rfl
   have hcz71_1 : w67.cell? ⟨gb171, 1, none⟩ = some (.int .i64 t166) := (r4 BK171.out 1).trans rfl
   have hcz71_2 : w67.cell? ⟨gb171, 2, none⟩ = some (.int .i64 t167) := (r4 BK171.out 2).trans rfl
   have hcz71_3 : w67.cell? ⟨gb171, 3, none⟩ = some (.int .i64 t168) := (r4 BK171.out 3).trans rfl
   have hcz71_4 : w67.cell? ⟨gb171, 4, none⟩ = some (.int .i64 t169) := (r4 BK171.out 4).trans rfl
   have hfz71_0 := r5 BK171.out 0
   have hfz71_1 := r5 BK171.out 1
   have hfz71_2 := r5 BK171.out 2
   have hfz71_3 := r5 BK171.out 3
   have hfz71_4 := r5 BK171.out 4
   have hnb72 := NB154_136.out
   have hnc72 := NB136_154.out
   have hnb73 := NB154_137.out
   have hnc73 := NB137_154.out
   have hcz74_0 : w67.cell? ⟨gb154, 0, none⟩ = some (.int .i64 t148) := (r4 BK154.out 0).trans rfl
   have hcz74_1 : w67.cell? ⟨gb154, 1, none⟩ = some (.int .i64 t149) := (r4 BK154.out 1).trans rfl
   have hcz74_2 : w67.cell? ⟨gb154, 2, none⟩ = some (.int .i64 t150) := (r4 BK154.out 2).trans rfl
   have hcz74_3 : w67.cell? ⟨gb154, 3, none⟩ = some (.int .i64 t151) := (r4 BK154.out 3).trans rfl
   have hcz74_4 : w67.cell? ⟨gb154, 4, none⟩ = some (.int .i64 t152) := (r4 BK154.out 4).trans rfl
   have hfz74_0 := r5 BK154.out 0
   have hfz74_1 := r5 BK154.out 1
   have hfz74_2 := r5 BK154.out 2
   have hfz74_3 := r5 BK154.out 3
   have hfz74_4 := r5 BK154.out 4
   try go_wp2_with (first | ((with_reducible refine gate_callee (f := 27) rfl ?_); refine goesL_ (some 27) rfl rfl Try.func27 (by kernel_rfl) rfl #[.agg #[.int .i64 t165, .int .i64 t166, .int .i64 t167, .int .i64 t168, .int .i64 t169], .agg #[.int .i64 t148, .int .i64 t149, .int .i64 t150, .int .i64 t151, .int .i64 t152]] rfl (by (try simp only [List.map_toArray, List.map_cons, List.map_nil]); first | done | rfl | (simp only [List.length_drop, List.length_take]; rfl)) ?_; (with_reducible refine (laws_eqCfgOpts.calls t165 t166 t167 t168 t169 t148 t149 t150 t151 t152 true _ A9.out).mono ?_); rintro e w75 ⟨rfl, hb⟩; refine ⟨_, rfl, ?_⟩; have n0_ := mk_ (q6 (g := gb136) (o := .cells #[.int .i64 a0_0, .int .i64 a0_1, .int .i64 a0_2, .int .i64 a0_3, .int .i64 a0_4] 25 (0, 0)) (by (with_reducible repeat (first | refine q1 ?_ _ | refine q2 ?_ | refine q3 ?_ _)); exact BK136.out) hb); have n1_ := mk_ (q6 (g := gb137) (o := .cells #[.int .i64 a1_0, .int .i64 a1_1, .int .i64 a1_2, .int .i64 a1_3, .int .i64 a1_4] 25 (0, 0)) (by (with_reducible repeat (first | refine q1 ?_ _ | refine q2 ?_ | refine q3 ?_ _)); exact BK137.out) hb); have n2_ := mk_ (q6 (g := gb154) (o := .cells #[.int .i64 t148, .int .i64 t149, .int .i64 t150, .int .i64 t151, .int .i64 t152] 29 (0, 0)) (by (with_reducible repeat (first | refine q1 ?_ _ | refine q2 ?_ | refine q3 ?_ _)); exact BK154.out) hb); have n3_ := mk_ (q6 (g := gb171) (o := .cells #[.int .i64 t165, .int .i64 t166, .int .i64 t167, .int .i64 t168, .int .i64 t169] 29 (0, 0)) (by (with_reducible repeat (first | refine q1 ?_ _ | refine q2 ?_ | refine q3 ?_ _)); exact BK171.out) hb); have n4_ := mk_ (r3 (by repeat (first | (with_reducible first | exact HB.out | apply q7 | apply q8 | apply q9 | refine r1 ?_ GE136.out | refine r1 ?_ GE137.out | refine r1 ?_ GE154.out | refine r1 ?_ GE171.out) | exact HB.out)) hb); clear BK136; clear BK137; clear BK154; clear BK171; clear HB; have BK136 := n0_; have BK137 := n1_; have BK154 := n2_; have BK171 := n3_; have HB := n4_; clear n0_ n1_ n2_ n3_ n4_; (try clear hb); (try clear hb2); (try clear hk); (try clear hi)))
   go_ret
   exact ⟨by first | rfl | (simp [errW_none, errW_some] <;> rfl) | (simp [*, errW_none, errW_some] <;> rfl), by repeat (first | (with_reducible first | exact HB.out | apply q7 | apply q8 | apply q9 | refine r1 ?_ GE136.out | refine r1 ?_ GE137.out | refine r1 ?_ GE154.out | refine r1 ?_ GE171.out) | exact HB.out)⟩
 rw [if_pos c11] at H
 have c11b0 : (t170 != t153) = true := c11
 (try (have c11b1 : decide (t170 = t153) = false := by simpa using c11))
 (try (have c11b2 : (t170 == t153) = false := by simpa using c11))
 (try (have c11b3 : ¬ (t170 = t153) := by simpa using c11))
 clear c11
 obtain rfl := Option.some.inj H
 go_enter Try.func8, Try.ntmps8
 try go_wp2_with (first | ((with_reducible refine gate_dst (N := 2) rfl ?_); refine box_event ?hg (N := 2) ?hd (cs := #[.int .i64 a0_0, .int .i64 a0_1, .int .i64 a0_2, .int .i64 a0_3, .int .i64 a0_4]) (t := 25) ?hr ?_; (case hd => rfl); (case hg => rfl); (case hr => first | (go_simp; done) | (go_simp; rfl)); intro gb136 hg w12 hbox hb; have n0_ := mk_ (r3 (by repeat (first | (with_reducible first | exact HB.out | apply q7 | apply q8 | apply q9) | exact HB.out)) hb); have n1_ := mk_ (hbox); have n2_ := mk_ ((by rw [hg]; exact (r2 (by repeat (first | (with_reducible first | exact HB.out | apply q7 | apply q8 | apply q9) | exact HB.out))) : w.heap.size ≤ gb136)); have n3_ := mk_ ((by rw [hg]; exact (r2 (by repeat (first | (with_reducible first | exact HB.out | apply q7 | apply q8 | apply q9) | exact HB.out))) : w.heap.size ≤ gb136)); clear HB; have HB := n0_; have BK136 := n1_; have GW136 := n2_; have GE136 := n3_; clear n0_ n1_ n2_ n3_; clear hb hbox hg) | ((with_reducible refine gate_dst (N := 3) rfl ?_); refine box_event ?hg (N := 3) ?hd (cs := #[.int .i64 a1_0, .int .i64 a1_1, .int .i64 a1_2, .int .i64 a1_3, .int .i64 a1_4]) (t := 25) ?hr ?_; (case hd => rfl); (case hg => rfl); (case hr => first | (go_simp; done) | (go_simp; rfl)); intro gb137 hg w13 hbox hb; have n0_ := mk_ (q6 (g := gb136) (o := .cells #[.int .i64 a0_0, .int .i64 a0_1, .int .i64 a0_2, .int .i64 a0_3, .int .i64 a0_4] 25 (0, 0)) (by (with_reducible repeat (first | refine q1 ?_ _ | refine q2 ?_ | refine q3 ?_ _)); exact BK136.out) hb); have n1_ := mk_ (r3 (by repeat (first | (with_reducible first | exact HB.out | apply q7 | apply q8 | apply q9 | refine r1 ?_ GE136.out) | exact HB.out)) hb); have n2_ := mk_ (hbox); have n3_ := mk_ ((by rw [hg]; exact (r2 (by repeat (first | (with_reducible first | exact HB.out | apply q7 | apply q8 | apply q9 | refine r1 ?_ GE136.out) | exact HB.out))) : w.heap.size ≤ gb137)); have n4_ := mk_ ((by rw [hg]; exact (r2 (by repeat (first | (with_reducible first | exact HB.out | apply q7 | apply q8 | apply q9 | refine r1 ?_ GE136.out) | exact HB.out))) : w.heap.size ≤ gb137)); have n5_ := mk_ ((by rw [hg]; exact m2 (r6 (g := gb136) (o := .cells #[.int .i64 a0_0, .int .i64 a0_1, .int .i64 a0_2, .int .i64 a0_3, .int .i64 a0_4] 25 (0, 0)) (by (with_reducible repeat (first | refine q1 ?_ _ | refine q2 ?_ | refine q3 ?_ _)); exact BK136.out)) : gb136 ≠ gb137)); have n6_ := mk_ ((by rw [hg]; exact m3 (r6 (g := gb136) (o := .cells #[.int .i64 a0_0, .int .i64 a0_1, .int .i64 a0_2, .int .i64 a0_3, .int .i64 a0_4] 25 (0, 0)) (by (with_reducible repeat (first | refine q1 ?_ _ | refine q2 ?_ | refine q3 ?_ _)); exact BK136.out)) : gb137 ≠ gb136)); clear BK136; clear HB; have BK136 := n0_; have HB := n1_; have BK137 := n2_; have GW137 := n3_; have GE137 := n4_; have NB136_137 := n5_; have NB137_136 := n6_; clear n0_ n1_ n2_ n3_ n4_ n5_ n6_; clear hb hbox hg))
 have n0_ := mk_ (q2 BK136.out)
 have n1_ := mk_ (q2 BK137.out)
 have n2_ := mk_ (q9 HB.out)
 clear BK136
 clear BK137
 clear HB
 have BK136 := n0_
 have BK137 := n1_
 have HB := n2_
 clear n0_ n1_ n2_
 refine start_ (n := 11) (S := fun w' => True) (ds := []) #[false, false, false, false, false, false, false, false, false, false, false] (by kernel_rfl) rfl rfl trivial (fun hHeld => ?_); refine with_tabW laws_FnExactCfgMeet.tab1 laws_FnExactCfgMeet.bits1 (fun HT_ HW_ => ?_)
 generalize w13.drew = w14 at BK136 BK137 HB hHeld ⊢
 refine inv_at [0, 1, 2, 3, 4, 5, 6, 7, 8, 9, 10] (fun a0_ b a w' => ∃ (gb154 : Nat) (m8_ : Value), a = putSel a0_ b [(0, 10, .agg #[.int .i64 a0_0, .int .i64 a0_1, .int .i64 a0_2, .int .i64 a0_3, .int .i64 a0_4]), (1, 11, .agg #[.int .i64 t138, .int .i64 t139, .int .i64 t140, .int .i64 t141, .int .i64 t142]), (2, 12, .agg #[.int .i64 a1_0, .int .i64 a1_1, .int .i64 a1_2, .int .i64 a1_3, .int .i64 a1_4]), (3, 13, .agg #[.int .i64 t143, .int .i64 t144, .int .i64 t145, .int .i64 t146, .int .i64 t147]), (4, 14, .tuple #[.agg #[.int .i64 t148, .int .i64 t149, .int .i64 t150, .int .i64 t151, .int .i64 t152], .bool t153]), (5, 9, .tuple #[.agg #[.int .i64 t148, .int .i64 t149, .int .i64 t150, .int .i64 t151, .int .i64 t152], .bool t153]), (6, 15, .agg #[.int .i64 t148, .int .i64 t149, .int .i64 t150, .int .i64 t151, .int .i64 t152]), (7, 16, .bool t153), (8, 5, m8_), (10, 6, .bool t153)] ∧ (w'.heap[gb136]? = some (.cells #[.int .i64 a0_0, .int .i64 a0_1, .int .i64 a0_2, .int .i64 a0_3, .int .i64 a0_4] 25 (0, 0))) ∧ (w'.heap[gb137]? = some (.cells #[.int .i64 a1_0, .int .i64 a1_1, .int .i64 a1_2, .int .i64 a1_3, .int .i64 a1_4] 25 (0, 0))) ∧ (Below w.heap.size w w') ∧ (b 8 = true → b 9 = false → w'.heap[gb154]? = some (.cells #[.int .i64 0, .int .i64 0, .int .i64 0, .int .i64 0, .int .i64 0] 29 (0, 0))) ∧ (b 8 = true → w.heap.size ≤ gb154) ∧ (b 8 = true → w.heap.size ≤ gb154) ∧ (b 8 = true → gb136 ≠ gb154) ∧ (b 8 = true → gb154 ≠ gb136) ∧ (b 8 = true → gb137 ≠ gb154) ∧ (b 8 = true → gb154 ≠ gb137) ∧ (b 9 = true → w'.heap[gb154]? = some (.cells #[.int .i64 t148, .int .i64 t149, .int .i64 t150, .int .i64 t151, .int .i64 t152] 29 (0, 0))) ∧ (b 8 = true → (m8_ : Value) = .pointer (some ⟨gb154, 0, none⟩))) HT_.out HW_.out (by kernel_rfl) (by kernel_rfl) ?_ ?_ ?_
 · exact ⟨0, .bool false, by simp only [putSel, Bool.false_eq_true, if_false], BK136.out, BK137.out, HB.out, fun h_ => absurd h_ (by decide), fun h_ => absurd h_ (by decide), fun h_ => absurd h_ (by decide), fun h_ => absurd h_ (by decide), fun h_ => absurd h_ (by decide), fun h_ => absurd h_ (by decide), fun h_ => absurd h_ (by decide), fun h_ => absurd h_ (by decide), fun h_ => absurd h_ (by decide)⟩
 · skip
   clear BK136 BK137 HB
   refine steps_cons ?_ ?_
   · rintro b a w' ⟨gb154, m8_, ha, Q_BK136, Q_BK137, Q_HB, Q_BK154, Q_GW154, Q_GE154, Q_NB136_154, Q_NB154_136, Q_NB137_154, Q_NB154_137, Q_BK154_e9, Q_X8_⟩ hb_ hon hoff
     refine ⟨_, rfl, fun K hK => ?_⟩
     have e2 : a.tmps[2]? = some (.pointer (some ⟨gb136, 0, none⟩)) := by rw [ha]; exact (putSel_off rfl).trans rfl
     replace ha := mk_ ha
     have BK136 := mk_ Q_BK136
     have BK137 := mk_ Q_BK137
     have HB := mk_ Q_HB
     have hc0_ : w'.cell? ⟨gb136, 0, none⟩ = some (.int .i64 a0_0) := (r4 BK136.out 0).trans rfl
     have hc1_ : w'.cell? ⟨gb136, 1, none⟩ = some (.int .i64 a0_1) := (r4 BK136.out 1).trans rfl
     have hc2_ : w'.cell? ⟨gb136, 2, none⟩ = some (.int .i64 a0_2) := (r4 BK136.out 2).trans rfl
     have hc3_ : w'.cell? ⟨gb136, 3, none⟩ = some (.int .i64 a0_3) := (r4 BK136.out 3).trans rfl
     have hc4_ : w'.cell? ⟨gb136, 4, none⟩ = some (.int .i64 a0_4) := (r4 BK136.out 4).trans rfl
     refine value_ (w1 := w') (v := .agg #[.int .i64 a0_0, .int .i64 a0_1, .int .i64 a0_2, .int .i64 a0_3, .int .i64 a0_4]) (by rfl) rfl ?_ ?_
     · go_simp
       (try simp only [i64_w])
       try rfl
     refine hK.out _ _ ⟨gb154, m8_, (by rw [ha.out]; exact putSel_upk 0 hb_ rfl rfl rfl), Q_BK136, Q_BK137, Q_HB, Q_BK154, Q_GW154, Q_GE154, Q_NB136_154, Q_NB154_136, Q_NB137_154, Q_NB154_137, fun h0_ => absurd ((hoff 9 (by kernel_rfl)).symm.trans h0_) (by decide), Q_X8_⟩
   refine steps_cons ?_ ?_
   · rintro b a w' ⟨gb154, m8_, ha, Q_BK136, Q_BK137, Q_HB, Q_BK154, Q_GW154, Q_GE154, Q_NB136_154, Q_NB154_136, Q_NB137_154, Q_NB154_137, Q_BK154_e9, Q_X8_⟩ hb_ hon hoff
     refine ⟨_, rfl, fun K hK => ?_⟩
     have e10 : a.tmps[10]? = some (.agg #[.int .i64 a0_0, .int .i64 a0_1, .int .i64 a0_2, .int .i64 a0_3, .int .i64 a0_4]) := by rw [ha]; exact putSel_on (e := (0, 10, .agg #[.int .i64 a0_0, .int .i64 a0_1, .int .i64 a0_2, .int .i64 a0_3, .int .i64 a0_4])) 0 rfl rfl (hon 0 (by kernel_rfl)) rfl
     replace ha := mk_ ha
     have BK136 := mk_ Q_BK136
     have BK137 := mk_ Q_BK137
     have HB := mk_ Q_HB
     refine goes_ Try.func25 (by kernel_rfl) rfl #[.agg #[.int .i64 a0_0, .int .i64 a0_1, .int .i64 a0_2, .int .i64 a0_3, .int .i64 a0_4]] (by rfl) rfl rfl (by first | (simp only [List.map_toArray, List.map_cons, List.map_nil, Act.eval, Array.getD_eq_getD_getElem?, Option.getD_some, e10]; done) | (simp only [List.map_toArray, List.map_cons, List.map_nil, Act.eval, Array.getD_eq_getD_getElem?, Option.getD_some, e10]; rfl)) ?_
     with_reducible refine (laws_toCfgOpts.calls a0_0 a0_1 a0_2 a0_3 a0_4 t138 t139 t140 t141 t142 _ A3.out).mono ?_
     rintro e w15 ⟨rfl, hb⟩
     refine ⟨_, rfl, ?_⟩
     have n0_ := mk_ (q6 (g := gb136) (o := .cells #[.int .i64 a0_0, .int .i64 a0_1, .int .i64 a0_2, .int .i64 a0_3, .int .i64 a0_4] 25 (0, 0)) (by (with_reducible repeat (first | refine q1 ?_ _ | refine q2 ?_ | refine q3 ?_ _)); exact BK136.out) hb)
     have n1_ := mk_ (q6 (g := gb137) (o := .cells #[.int .i64 a1_0, .int .i64 a1_1, .int .i64 a1_2, .int .i64 a1_3, .int .i64 a1_4] 25 (0, 0)) (by (with_reducible repeat (first | refine q1 ?_ _ | refine q2 ?_ | refine q3 ?_ _)); exact BK137.out) hb)
     have n2_ := mk_ (r3 (by repeat (first | (with_reducible first | exact HB.out | apply q7 | apply q8 | apply q9 | refine r1 ?_ GE136.out | refine r1 ?_ GE137.out) | exact HB.out)) hb)
     have z_BK154 := fun (h0_ : b 8 = true) (h1_ : b 9 = false) => (show w15.heap[gb154]? = some (.cells #[.int .i64 0, .int .i64 0, .int .i64 0, .int .i64 0, .int .i64 0] 29 (0, 0)) from by first | exact (q6 (g := gb154) (o := .cells #[.int .i64 0, .int .i64 0, .int .i64 0, .int .i64 0, .int .i64 0] 29 (0, 0)) (by (with_reducible repeat (first | refine q1 ?_ _ | refine q2 ?_ | refine q3 ?_ _)); exact (Q_BK154 h0_ h1_)) hb))
     clear BK136
     clear BK137
     clear HB
     have BK136 := n0_
     have BK137 := n1_
     have HB := n2_
     clear n0_ n1_ n2_
     (try clear hb)
     (try clear hb2)
     (try clear hk)
     (try clear hi)
     refine hK.out _ _ ⟨gb154, m8_, (by rw [ha.out]; exact putSel_upk 1 hb_ rfl rfl rfl), (by (with_reducible repeat (first | refine q1 ?_ _ | refine q2 ?_ | refine q3 ?_ _)); exact BK136.out), (by (with_reducible repeat (first | refine q1 ?_ _ | refine q2 ?_ | refine q3 ?_ _)); exact BK137.out), (by repeat (first | (with_reducible first | exact HB.out | apply q7 | apply q8 | apply q9 | refine r1 ?_ GE136.out | refine r1 ?_ GE137.out) | exact HB.out)), z_BK154, Q_GW154, Q_GE154, Q_NB136_154, Q_NB154_136, Q_NB137_154, Q_NB154_137, fun h0_ => absurd ((hoff 9 (by kernel_rfl)).symm.trans h0_) (by decide), Q_X8_⟩
   refine steps_cons ?_ ?_
   · rintro b a w' ⟨gb154, m8_, ha, Q_BK136, Q_BK137, Q_HB, Q_BK154, Q_GW154, Q_GE154, Q_NB136_154, Q_NB154_136, Q_NB137_154, Q_NB154_137, Q_BK154_e9, Q_X8_⟩ hb_ hon hoff
     refine ⟨_, rfl, fun K hK => ?_⟩
     have e3 : a.tmps[3]? = some (.pointer (some ⟨gb137, 0, none⟩)) := by rw [ha]; exact (putSel_off rfl).trans rfl
     replace ha := mk_ ha
     have BK136 := mk_ Q_BK136
     have BK137 := mk_ Q_BK137
     have HB := mk_ Q_HB
     have hc0_ : w'.cell? ⟨gb137, 0, none⟩ = some (.int .i64 a1_0) := (r4 BK137.out 0).trans rfl
     have hc1_ : w'.cell? ⟨gb137, 1, none⟩ = some (.int .i64 a1_1) := (r4 BK137.out 1).trans rfl
     have hc2_ : w'.cell? ⟨gb137, 2, none⟩ = some (.int .i64 a1_2) := (r4 BK137.out 2).trans rfl
     have hc3_ : w'.cell? ⟨gb137, 3, none⟩ = some (.int .i64 a1_3) := (r4 BK137.out 3).trans rfl
     have hc4_ : w'.cell? ⟨gb137, 4, none⟩ = some (.int .i64 a1_4) := (r4 BK137.out 4).trans rfl
     refine value_ (w1 := w') (v := .agg #[.int .i64 a1_0, .int .i64 a1_1, .int .i64 a1_2, .int .i64 a1_3, .int .i64 a1_4]) (by rfl) rfl ?_ ?_
     · go_simp
       (try simp only [i64_w])
       try rfl
     refine hK.out _ _ ⟨gb154, m8_, (by rw [ha.out]; exact putSel_upk 2 hb_ rfl rfl rfl), Q_BK136, Q_BK137, Q_HB, Q_BK154, Q_GW154, Q_GE154, Q_NB136_154, Q_NB154_136, Q_NB137_154, Q_NB154_137, fun h0_ => absurd ((hoff 9 (by kernel_rfl)).symm.trans h0_) (by decide), Q_X8_⟩
   refine steps_cons ?_ ?_
   · rintro b a w' ⟨gb154, m8_, ha, Q_BK136, Q_BK137, Q_HB, Q_BK154, Q_GW154, Q_GE154, Q_NB136_154, Q_NB154_136, Q_NB137_154, Q_NB154_137, Q_BK154_e9, Q_X8_⟩ hb_ hon hoff
     refine ⟨_, rfl, fun K hK => ?_⟩
     have e12 : a.tmps[12]? = some (.agg #[.int .i64 a1_0, .int .i64 a1_1, .int .i64 a1_2, .int .i64 a1_3, .int .i64 a1_4]) := by rw [ha]; exact putSel_on (e := (2, 12, .agg #[.int .i64 a1_0, .int .i64 a1_1, .int .i64 a1_2, .int .i64 a1_3, .int .i64 a1_4])) 2 rfl rfl (hon 2 (by kernel_rfl)) rfl
     replace ha := mk_ ha
     have BK136 := mk_ Q_BK136
     have BK137 := mk_ Q_BK137
     have HB := mk_ Q_HB
     refine goes_ Try.func25 (by kernel_rfl) rfl #[.agg #[.int .i64 a1_0, .int .i64 a1_1, .int .i64 a1_2, .int .i64 a1_3, .int .i64 a1_4]] (by rfl) rfl rfl (by first | (simp only [List.map_toArray, List.map_cons, List.map_nil, Act.eval, Array.getD_eq_getD_getElem?, Option.getD_some, e12]; done) | (simp only [List.map_toArray, List.map_cons, List.map_nil, Act.eval, Array.getD_eq_getD_getElem?, Option.getD_some, e12]; rfl)) ?_
     with_reducible refine (laws_toCfgOpts.calls a1_0 a1_1 a1_2 a1_3 a1_4 t143 t144 t145 t146 t147 _ A4.out).mono ?_
     rintro e w17 ⟨rfl, hb⟩
     refine ⟨_, rfl, ?_⟩
     have n0_ := mk_ (q6 (g := gb136) (o := .cells #[.int .i64 a0_0, .int .i64 a0_1, .int .i64 a0_2, .int .i64 a0_3, .int .i64 a0_4] 25 (0, 0)) (by (with_reducible repeat (first | refine q1 ?_ _ | refine q2 ?_ | refine q3 ?_ _)); exact BK136.out) hb)
     have n1_ := mk_ (q6 (g := gb137) (o := .cells #[.int .i64 a1_0, .int .i64 a1_1, .int .i64 a1_2, .int .i64 a1_3, .int .i64 a1_4] 25 (0, 0)) (by (with_reducible repeat (first | refine q1 ?_ _ | refine q2 ?_ | refine q3 ?_ _)); exact BK137.out) hb)
     have n2_ := mk_ (r3 (by repeat (first | (with_reducible first | exact HB.out | apply q7 | apply q8 | apply q9 | refine r1 ?_ GE136.out | refine r1 ?_ GE137.out) | exact HB.out)) hb)
     have z_BK154 := fun (h0_ : b 8 = true) (h1_ : b 9 = false) => (show w17.heap[gb154]? = some (.cells #[.int .i64 0, .int .i64 0, .int .i64 0, .int .i64 0, .int .i64 0] 29 (0, 0)) from by first | exact (q6 (g := gb154) (o := .cells #[.int .i64 0, .int .i64 0, .int .i64 0, .int .i64 0, .int .i64 0] 29 (0, 0)) (by (with_reducible repeat (first | refine q1 ?_ _ | refine q2 ?_ | refine q3 ?_ _)); exact (Q_BK154 h0_ h1_)) hb))
     clear BK136
     clear BK137
     clear HB
     have BK136 := n0_
     have BK137 := n1_
     have HB := n2_
     clear n0_ n1_ n2_
     (try clear hb)
     (try clear hb2)
     (try clear hk)
     (try clear hi)
     refine hK.out _ _ ⟨gb154, m8_, (by rw [ha.out]; exact putSel_upk 3 hb_ rfl rfl rfl), (by (with_reducible repeat (first | refine q1 ?_ _ | refine q2 ?_ | refine q3 ?_ _)); exact BK136.out), (by (with_reducible repeat (first | refine q1 ?_ _ | refine q2 ?_ | refine q3 ?_ _)); exact BK137.out), (by repeat (first | (with_reducible first | exact HB.out | apply q7 | apply q8 | apply q9 | refine r1 ?_ GE136.out | refine r1 ?_ GE137.out) | exact HB.out)), z_BK154, Q_GW154, Q_GE154, Q_NB136_154, Q_NB154_136, Q_NB137_154, Q_NB154_137, fun h0_ => absurd ((hoff 9 (by kernel_rfl)).symm.trans h0_) (by decide), Q_X8_⟩
   refine steps_cons ?_ ?_
   · rintro b a w' ⟨gb154, m8_, ha, Q_BK136, Q_BK137, Q_HB, Q_BK154, Q_GW154, Q_GE154, Q_NB136_154, Q_NB154_136, Q_NB137_154, Q_NB154_137, Q_BK154_e9, Q_X8_⟩ hb_ hon hoff
     refine ⟨_, rfl, fun K hK => ?_⟩
     have e11 : a.tmps[11]? = some (.agg #[.int .i64 t138, .int .i64 t139, .int .i64 t140, .int .i64 t141, .int .i64 t142]) := by rw [ha]; exact putSel_on (e := (1, 11, .agg #[.int .i64 t138, .int .i64 t139, .int .i64 t140, .int .i64 t141, .int .i64 t142])) 1 rfl rfl (hon 1 (by kernel_rfl)) rfl
     have e13 : a.tmps[13]? = some (.agg #[.int .i64 t143, .int .i64 t144, .int .i64 t145, .int .i64 t146, .int .i64 t147]) := by rw [ha]; exact putSel_on (e := (3, 13, .agg #[.int .i64 t143, .int .i64 t144, .int .i64 t145, .int .i64 t146, .int .i64 t147])) 3 rfl rfl (hon 3 (by kernel_rfl)) rfl
     replace ha := mk_ ha
     have BK136 := mk_ Q_BK136
     have BK137 := mk_ Q_BK137
     have HB := mk_ Q_HB
     refine goes_ Try.func24 (by kernel_rfl) rfl #[.agg #[.int .i64 t138, .int .i64 t139, .int .i64 t140, .int .i64 t141, .int .i64 t142], .agg #[.int .i64 t143, .int .i64 t144, .int .i64 t145, .int .i64 t146, .int .i64 t147]] (by rfl) rfl rfl (by first | (simp only [List.map_toArray, List.map_cons, List.map_nil, Act.eval, Array.getD_eq_getD_getElem?, Option.getD_some, e11, e13]; done) | (simp only [List.map_toArray, List.map_cons, List.map_nil, Act.eval, Array.getD_eq_getD_getElem?, Option.getD_some, e11, e13]; rfl)) ?_
     with_reducible refine (spec_CfgMeet.calls t138 t139 t140 t141 t142 t143 t144 t145 t146 t147 t148 t149 t150 t151 t152 t153 _ A5.out).mono ?_
     rintro e w18 ⟨rfl, hb⟩
     refine ⟨_, rfl, ?_⟩
     have n0_ := mk_ (q6 (g := gb136) (o := .cells #[.int .i64 a0_0, .int .i64 a0_1, .int .i64 a0_2, .int .i64 a0_3, .int .i64 a0_4] 25 (0, 0)) (by (with_reducible repeat (first | refine q1 ?_ _ | refine q2 ?_ | refine q3 ?_ _)); exact BK136.out) hb)
     have n1_ := mk_ (q6 (g := gb137) (o := .cells #[.int .i64 a1_0, .int .i64 a1_1, .int .i64 a1_2, .int .i64 a1_3, .int .i64 a1_4] 25 (0, 0)) (by (with_reducible repeat (first | refine q1 ?_ _ | refine q2 ?_ | refine q3 ?_ _)); exact BK137.out) hb)
     have n2_ := mk_ (r3 (by repeat (first | (with_reducible first | exact HB.out | apply q7 | apply q8 | apply q9 | refine r1 ?_ GE136.out | refine r1 ?_ GE137.out) | exact HB.out)) hb)
     have z_BK154 := fun (h0_ : b 8 = true) (h1_ : b 9 = false) => (show w18.heap[gb154]? = some (.cells #[.int .i64 0, .int .i64 0, .int .i64 0, .int .i64 0, .int .i64 0] 29 (0, 0)) from by first | exact (q6 (g := gb154) (o := .cells #[.int .i64 0, .int .i64 0, .int .i64 0, .int .i64 0, .int .i64 0] 29 (0, 0)) (by (with_reducible repeat (first | refine q1 ?_ _ | refine q2 ?_ | refine q3 ?_ _)); exact (Q_BK154 h0_ h1_)) hb))
     clear BK136
     clear BK137
     clear HB
     have BK136 := n0_
     have BK137 := n1_
     have HB := n2_
     clear n0_ n1_ n2_
     (try clear hb)
     (try clear hb2)
     (try clear hk)
     (try clear hi)
     refine hK.out _ _ ⟨gb154, m8_, (by rw [ha.out]; exact putSel_upk 4 hb_ rfl rfl rfl), (by (with_reducible repeat (first | refine q1 ?_ _ | refine q2 ?_ | refine q3 ?_ _)); exact BK136.out), (by (with_reducible repeat (first | refine q1 ?_ _ | refine q2 ?_ | refine q3 ?_ _)); exact BK137.out), (by repeat (first | (with_reducible first | exact HB.out | apply q7 | apply q8 | apply q9 | refine r1 ?_ GE136.out | refine r1 ?_ GE137.out) | exact HB.out)), z_BK154, Q_GW154, Q_GE154, Q_NB136_154, Q_NB154_136, Q_NB137_154, Q_NB154_137, fun h0_ => absurd ((hoff 9 (by kernel_rfl)).symm.trans h0_) (by decide), Q_X8_⟩
   refine steps_cons ?_ ?_
   · rintro b a w' ⟨gb154, m8_, ha, Q_BK136, Q_BK137, Q_HB, Q_BK154, Q_GW154, Q_GE154, Q_NB136_154, Q_NB154_136, Q_NB137_154, Q_NB154_137, Q_BK154_e9, Q_X8_⟩ hb_ hon hoff
     refine ⟨_, rfl, fun K hK => ?_⟩
     have e14 : a.tmps[14]? = some (.tuple #[.agg #[.int .i64 t148, .int .i64 t149, .int .i64 t150, .int .i64 t151, .int .i64 t152], .bool t153]) := by rw [ha]; exact putSel_on (e := (4, 14, .tuple #[.agg #[.int .i64 t148, .int .i64 t149, .int .i64 t150, .int .i64 t151, .int .i64 t152], .bool t153])) 4 rfl rfl (hon 4 (by kernel_rfl)) rfl
     replace ha := mk_ ha
     have BK136 := mk_ Q_BK136
     have BK137 := mk_ Q_BK137
     have HB := mk_ Q_HB
     refine value_ (w1 := w') (v := .tuple #[.agg #[.int .i64 t148, .int .i64 t149, .int .i64 t150, .int .i64 t151, .int .i64 t152], .bool t153]) (by rfl) rfl ?_ ?_
     · go_simp
       (try simp only [i64_w])
       try rfl
     refine hK.out _ _ ⟨gb154, m8_, (by rw [ha.out]; exact putSel_upk 5 hb_ rfl rfl rfl), Q_BK136, Q_BK137, Q_HB, Q_BK154, Q_GW154, Q_GE154, Q_NB136_154, Q_NB154_136, Q_NB137_154, Q_NB154_137, fun h0_ => absurd ((hoff 9 (by kernel_rfl)).symm.trans h0_) (by decide), Q_X8_⟩
   refine steps_cons ?_ ?_
   · rintro b a w' ⟨gb154, m8_, ha, Q_BK136, Q_BK137, Q_HB, Q_BK154, Q_GW154, Q_GE154, Q_NB136_154, Q_NB154_136, Q_NB137_154, Q_NB154_137, Q_BK154_e9, Q_X8_⟩ hb_ hon hoff
     refine ⟨_, rfl, fun K hK => ?_⟩
     have e9 : a.tmps[9]? = some (.tuple #[.agg #[.int .i64 t148, .int .i64 t149, .int .i64 t150, .int .i64 t151, .int .i64 t152], .bool t153]) := by rw [ha]; exact putSel_on (e := (5, 9, .tuple #[.agg #[.int .i64 t148, .int .i64 t149, .int .i64 t150, .int .i64 t151, .int .i64 t152], .bool t153])) 5 rfl rfl (hon 5 (by kernel_rfl)) rfl
     replace ha := mk_ ha
     have BK136 := mk_ Q_BK136
     have BK137 := mk_ Q_BK137
     have HB := mk_ Q_HB
     refine value_ (w1 := w') (v := .agg #[.int .i64 t148, .int .i64 t149, .int .i64 t150, .int .i64 t151, .int .i64 t152]) (by rfl) rfl ?_ ?_
     · go_simp
       (try simp only [i64_w])
       try rfl
     refine hK.out _ _ ⟨gb154, m8_, (by rw [ha.out]; exact putSel_upk 6 hb_ rfl rfl rfl), Q_BK136, Q_BK137, Q_HB, Q_BK154, Q_GW154, Q_GE154, Q_NB136_154, Q_NB154_136, Q_NB137_154, Q_NB154_137, fun h0_ => absurd ((hoff 9 (by kernel_rfl)).symm.trans h0_) (by decide), Q_X8_⟩
   refine steps_cons ?_ ?_
   · rintro b a w' ⟨gb154, m8_, ha, Q_BK136, Q_BK137, Q_HB, Q_BK154, Q_GW154, Q_GE154, Q_NB136_154, Q_NB154_136, Q_NB137_154, Q_NB154_137, Q_BK154_e9, Q_X8_⟩ hb_ hon hoff
     refine ⟨_, rfl, fun K hK => ?_⟩
     have e9 : a.tmps[9]? = some (.tuple #[.agg #[.int .i64 t148, .int .i64 t149, .int .i64 t150, .int .i64 t151, .int .i64 t152], .bool t153]) := by rw [ha]; exact putSel_on (e := (5, 9, .tuple #[.agg #[.int .i64 t148, .int .i64 t149, .int .i64 t150, .int .i64 t151, .int .i64 t152], .bool t153])) 5 rfl rfl (hon 5 (by kernel_rfl)) rfl
     replace ha := mk_ ha
     have BK136 := mk_ Q_BK136
     have BK137 := mk_ Q_BK137
     have HB := mk_ Q_HB
     refine value_ (w1 := w') (v := .bool t153) (by rfl) rfl ?_ ?_
     · go_simp
       (try simp only [i64_w])
       try rfl
     refine hK.out _ _ ⟨gb154, m8_, (by rw [ha.out]; exact putSel_upk 7 hb_ rfl rfl rfl), Q_BK136, Q_BK137, Q_HB, Q_BK154, Q_GW154, Q_GE154, Q_NB136_154, Q_NB154_136, Q_NB137_154, Q_NB154_137, Q_BK154_e9, Q_X8_⟩
   refine steps_cons ?_ ?_
   · rintro b a w' ⟨gb154, m8_, ha, Q_BK136, Q_BK137, Q_HB, Q_BK154, Q_GW154, Q_GE154, Q_NB136_154, Q_NB154_136, Q_NB137_154, Q_NB154_137, Q_BK154_e9, Q_X8_⟩ hb_ hon hoff
     refine ⟨_, rfl, fun K hK => ?_⟩
     replace ha := mk_ ha
     have BK136 := mk_ Q_BK136
     have BK137 := mk_ Q_BK137
     have HB := mk_ Q_HB
     refine box_step ?hg (N := 5) ?hd (cs := #[.int .i64 0, .int .i64 0, .int .i64 0, .int .i64 0, .int .i64 0]) (t := 29) ?hr ?_; (case hd => rfl); (case hg => rfl); (case hr => first | (go_simp; done) | (go_simp; rfl))
     intro gb154 hg w15 hbox hb
     have n0_ := mk_ (q6 (g := gb136) (o := .cells #[.int .i64 a0_0, .int .i64 a0_1, .int .i64 a0_2, .int .i64 a0_3, .int .i64 a0_4] 25 (0, 0)) (by (with_reducible repeat (first | refine q1 ?_ _ | refine q2 ?_ | refine q3 ?_ _)); exact BK136.out) hb)
     have n1_ := mk_ (q6 (g := gb137) (o := .cells #[.int .i64 a1_0, .int .i64 a1_1, .int .i64 a1_2, .int .i64 a1_3, .int .i64 a1_4] 25 (0, 0)) (by (with_reducible repeat (first | refine q1 ?_ _ | refine q2 ?_ | refine q3 ?_ _)); exact BK137.out) hb)
     have n2_ := mk_ (r3 (by repeat (first | (with_reducible first | exact HB.out | apply q7 | apply q8 | apply q9 | refine r1 ?_ GE136.out | refine r1 ?_ GE137.out) | exact HB.out)) hb)
     have n3_ := mk_ (hbox)
     have n4_ := mk_ ((by rw [hg]; exact (r2 (by repeat (first | (with_reducible first | exact HB.out | apply q7 | apply q8 | apply q9 | refine r1 ?_ GE136.out | refine r1 ?_ GE137.out) | exact HB.out))) : w.heap.size ≤ gb154))
     have n5_ := mk_ ((by rw [hg]; exact (r2 (by repeat (first | (with_reducible first | exact HB.out | apply q7 | apply q8 | apply q9 | refine r1 ?_ GE136.out | refine r1 ?_ GE137.out) | exact HB.out))) : w.heap.size ≤ gb154))
     have n6_ := mk_ ((by rw [hg]; exact m2 (r6 (g := gb136) (o := .cells #[.int .i64 a0_0, .int .i64 a0_1, .int .i64 a0_2, .int .i64 a0_3, .int .i64 a0_4] 25 (0, 0)) (by (with_reducible repeat (first | refine q1 ?_ _ | refine q2 ?_ | refine q3 ?_ _)); exact BK136.out)) : gb136 ≠ gb154))
     have n7_ := mk_ ((by rw [hg]; exact m3 (r6 (g := gb136) (o := .cells #[.int .i64 a0_0, .int .i64 a0_1, .int .i64 a0_2, .int .i64 a0_3, .int .i64 a0_4] 25 (0, 0)) (by (with_reducible repeat (first | refine q1 ?_ _ | refine q2 ?_ | refine q3 ?_ _)); exact BK136.out)) : gb154 ≠ gb136))
     have n8_ := mk_ ((by rw [hg]; exact m2 (r6 (g := gb137) (o := .cells #[.int .i64 a1_0, .int .i64 a1_1, .int .i64 a1_2, .int .i64 a1_3, .int .i64 a1_4] 25 (0, 0)) (by (with_reducible repeat (first | refine q1 ?_ _ | refine q2 ?_ | refine q3 ?_ _)); exact BK137.out)) : gb137 ≠ gb154))
     have n9_ := mk_ ((by rw [hg]; exact m3 (r6 (g := gb137) (o := .cells #[.int .i64 a1_0, .int .i64 a1_1, .int .i64 a1_2, .int .i64 a1_3, .int .i64 a1_4] 25 (0, 0)) (by (with_reducible repeat (first | refine q1 ?_ _ | refine q2 ?_ | refine q3 ?_ _)); exact BK137.out)) : gb154 ≠ gb137))
     clear BK136
     clear BK137
     clear HB
     have BK136 := n0_
     have BK137 := n1_
     have HB := n2_
     have BK154 := n3_
     have GW154 := n4_
     have GE154 := n5_
     have NB136_154 := n6_
     have NB154_136 := n7_
     have NB137_154 := n8_
     have NB154_137 := n9_
     clear n0_ n1_ n2_ n3_ n4_ n5_ n6_ n7_ n8_ n9_
     clear hb hbox hg
     refine hK.out _ _ ⟨gb154, (.pointer (some ⟨gb154, 0, none⟩)), (by rw [ha.out]; exact putSel_upk 8 hb_ rfl rfl rfl), (by (with_reducible repeat (first | refine q1 ?_ _ | refine q2 ?_ | refine q3 ?_ _)); exact BK136.out), (by (with_reducible repeat (first | refine q1 ?_ _ | refine q2 ?_ | refine q3 ?_ _)); exact BK137.out), (by repeat (first | (with_reducible first | exact HB.out | apply q7 | apply q8 | apply q9 | refine r1 ?_ GE136.out | refine r1 ?_ GE137.out | refine r1 ?_ GE154.out) | exact HB.out)), fun _ _ => (by (with_reducible repeat (first | refine q1 ?_ _ | refine q2 ?_ | refine q3 ?_ _)); exact BK154.out), fun _ => GW154.out, fun _ => GE154.out, fun _ => NB136_154.out, fun _ => NB154_136.out, fun _ => NB137_154.out, fun _ => NB154_137.out, fun h0_ => absurd ((hoff 9 (by kernel_rfl)).symm.trans h0_) (by decide), fun _ => rfl⟩
   refine steps_cons ?_ ?_
   · rintro b a w' ⟨gb154, m8_, ha, Q_BK136, Q_BK137, Q_HB, Q_BK154, Q_GW154, Q_GE154, Q_NB136_154, Q_NB154_136, Q_NB137_154, Q_NB154_137, Q_BK154_e9, Q_X8_⟩ hb_ hon hoff
     refine ⟨_, rfl, fun K hK => ?_⟩
     have e5 : a.tmps[5]? = some (m8_) := by rw [ha]; exact putSel_on (e := (8, 5, m8_)) 8 rfl rfl (hon 8 (by kernel_rfl)) rfl
     rw [Q_X8_ (hon 8 (by kernel_rfl))] at e5
     have e15 : a.tmps[15]? = some (.agg #[.int .i64 t148, .int .i64 t149, .int .i64 t150, .int .i64 t151, .int .i64 t152]) := by rw [ha]; exact putSel_on (e := (6, 15, .agg #[.int .i64 t148, .int .i64 t149, .int .i64 t150, .int .i64 t151, .int .i64 t152])) 6 rfl rfl (hon 6 (by kernel_rfl)) rfl
     replace ha := mk_ ha
     have BK136 := mk_ Q_BK136
     have BK137 := mk_ Q_BK137
     have HB := mk_ Q_HB
     have BK154 := mk_ (Q_BK154 (hon 8 (by kernel_rfl)) hb_)
     have GW154 := mk_ (Q_GW154 (hon 8 (by kernel_rfl)))
     have GE154 := mk_ (Q_GE154 (hon 8 (by kernel_rfl)))
     have NB136_154 := mk_ (Q_NB136_154 (hon 8 (by kernel_rfl)))
     have NB154_136 := mk_ (Q_NB154_136 (hon 8 (by kernel_rfl)))
     have NB137_154 := mk_ (Q_NB137_154 (hon 8 (by kernel_rfl)))
     have NB154_137 := mk_ (Q_NB154_137 (hon 8 (by kernel_rfl)))
     have hs20 : w'.cell? ⟨gb154, 0, none⟩ = some (.int .i64 0) := (r4 BK154.out 0).trans rfl
     have hfs20 := r5 BK154.out 0
     have hns20_0 := NB136_154.out
     have hns20_1 := NB137_154.out
     have hms20_0 := NB154_136.out
     have hms20_1 := NB154_137.out
     have hs21 : w'.cell? ⟨gb154, 1, none⟩ = some (.int .i64 0) := (r4 BK154.out 1).trans rfl
     have hfs21 := r5 BK154.out 1
     have hns21_0 := NB136_154.out
     have hns21_1 := NB137_154.out
     have hms21_0 := NB154_136.out
     have hms21_1 := NB154_137.out
     have hs22 : w'.cell? ⟨gb154, 2, none⟩ = some (.int .i64 0) := (r4 BK154.out 2).trans rfl
     have hfs22 := r5 BK154.out 2
     have hns22_0 := NB136_154.out
     have hns22_1 := NB137_154.out
     have hms22_0 := NB154_136.out
     have hms22_1 := NB154_137.out
     have hs23 : w'.cell? ⟨gb154, 3, none⟩ = some (.int .i64 0) := (r4 BK154.out 3).trans rfl
     have hfs23 := r5 BK154.out 3
     have hns23_0 := NB136_154.out
     have hns23_1 := NB137_154.out
     have hms23_0 := NB154_136.out
     have hms23_1 := NB154_137.out
     have hs24 : w'.cell? ⟨gb154, 4, none⟩ = some (.int .i64 0) := (r4 BK154.out 4).trans rfl
     have hfs24 := r5 BK154.out 4
     have hns24_0 := NB136_154.out
     have hns24_1 := NB137_154.out
     have hms24_0 := NB154_136.out
     have hms24_1 := NB154_137.out
     refine skip_ (w1 := ?_) (by rfl) rfl ?_ ?_
     rotate_left
     · go_simp
       rfl
     refine hK.out _ _ ⟨gb154, m8_, (by rw [ha.out]; exact putSel_none (v := undef) rfl), (by (with_reducible repeat (first | refine q1 ?_ _ | refine q2 ?_ | refine q3 ?_ _)); refine q5 ?_ NB136_154.out _; (with_reducible repeat (first | refine q1 ?_ _ | refine q2 ?_ | refine q3 ?_ _)); refine q5 ?_ NB136_154.out _; (with_reducible repeat (first | refine q1 ?_ _ | refine q2 ?_ | refine q3 ?_ _)); refine q5 ?_ NB136_154.out _; (with_reducible repeat (first | refine q1 ?_ _ | refine q2 ?_ | refine q3 ?_ _)); refine q5 ?_ NB136_154.out _; (with_reducible repeat (first | refine q1 ?_ _ | refine q2 ?_ | refine q3 ?_ _)); refine q5 ?_ NB136_154.out _; (with_reducible repeat (first | refine q1 ?_ _ | refine q2 ?_ | refine q3 ?_ _)); exact BK136.out), (by (with_reducible repeat (first | refine q1 ?_ _ | refine q2 ?_ | refine q3 ?_ _)); refine q5 ?_ NB137_154.out _; (with_reducible repeat (first | refine q1 ?_ _ | refine q2 ?_ | refine q3 ?_ _)); refine q5 ?_ NB137_154.out _; (with_reducible repeat (first | refine q1 ?_ _ | refine q2 ?_ | refine q3 ?_ _)); refine q5 ?_ NB137_154.out _; (with_reducible repeat (first | refine q1 ?_ _ | refine q2 ?_ | refine q3 ?_ _)); refine q5 ?_ NB137_154.out _; (with_reducible repeat (first | refine q1 ?_ _ | refine q2 ?_ | refine q3 ?_ _)); refine q5 ?_ NB137_154.out _; (with_reducible repeat (first | refine q1 ?_ _ | refine q2 ?_ | refine q3 ?_ _)); exact BK137.out), (by repeat (first | (with_reducible first | exact HB.out | apply q7 | apply q8 | apply q9 | refine r1 ?_ GE136.out | refine r1 ?_ GE137.out | refine r1 ?_ GE154.out) | exact HB.out)), fun _ h1_ => absurd ((up_self b 9).symm.trans h1_) (by decide), fun _ => GW154.out, fun _ => GE154.out, fun _ => NB136_154.out, fun _ => NB154_136.out, fun _ => NB137_154.out, fun _ => NB154_137.out, fun _ => (by (with_reducible repeat (first | refine q1 ?_ _ | refine q2 ?_ | refine q3 ?_ _)); refine q4 (cs := #[.int .i64 t148, .int .i64 t149, .int .i64 t150, .int .i64 t151, .int .i64 0]) ?_ 4 _ rfl; (with_reducible repeat (first | refine q1 ?_ _ | refine q2 ?_ | refine q3 ?_ _)); refine q4 (cs := #[.int .i64 t148, .int .i64 t149, .int .i64 t150, .int .i64 0, .int .i64 0]) ?_ 3 _ rfl; (with_reducible repeat (first | refine q1 ?_ _ | refine q2 ?_ | refine q3 ?_ _)); refine q4 (cs := #[.int .i64 t148, .int .i64 t149, .int .i64 0, .int .i64 0, .int .i64 0]) ?_ 2 _ rfl; (with_reducible repeat (first | refine q1 ?_ _ | refine q2 ?_ | refine q3 ?_ _)); refine q4 (cs := #[.int .i64 t148, .int .i64 0, .int .i64 0, .int .i64 0, .int .i64 0]) ?_ 1 _ rfl; (with_reducible repeat (first | refine q1 ?_ _ | refine q2 ?_ | refine q3 ?_ _)); refine q4 (cs := #[.int .i64 0, .int .i64 0, .int .i64 0, .int .i64 0, .int .i64 0]) ?_ 0 _ rfl; (with_reducible repeat (first | refine q1 ?_ _ | refine q2 ?_ | refine q3 ?_ _)); exact BK154.out), Q_X8_⟩
   refine steps_cons ?_ ?_
   · rintro b a w' ⟨gb154, m8_, ha, Q_BK136, Q_BK137, Q_HB, Q_BK154, Q_GW154, Q_GE154, Q_NB136_154, Q_NB154_136, Q_NB137_154, Q_NB154_137, Q_BK154_e9, Q_X8_⟩ hb_ hon hoff
     refine ⟨_, rfl, fun K hK => ?_⟩
     have e16 : a.tmps[16]? = some (.bool t153) := by rw [ha]; exact putSel_on (e := (7, 16, .bool t153)) 7 rfl rfl (hon 7 (by kernel_rfl)) rfl
     replace ha := mk_ ha
     have BK136 := mk_ Q_BK136
     have BK137 := mk_ Q_BK137
     have HB := mk_ Q_HB
     have GW154 := mk_ (Q_GW154 (hon 8 (by kernel_rfl)))
     have GE154 := mk_ (Q_GE154 (hon 8 (by kernel_rfl)))
     have NB136_154 := mk_ (Q_NB136_154 (hon 8 (by kernel_rfl)))
     have NB154_136 := mk_ (Q_NB154_136 (hon 8 (by kernel_rfl)))
     have NB137_154 := mk_ (Q_NB137_154 (hon 8 (by kernel_rfl)))
     have NB154_137 := mk_ (Q_NB154_137 (hon 8 (by kernel_rfl)))
     have BK154 := mk_ (Q_BK154_e9 (hon 9 (by kernel_rfl)))
     refine value_ (w1 := w') (v := .bool t153) (by rfl) rfl ?_ ?_
     · go_simp
       (try simp only [i64_w])
       try rfl
     refine hK.out _ _ ⟨gb154, m8_, (by rw [ha.out]; exact putSel_upk 9 hb_ rfl rfl rfl), Q_BK136, Q_BK137, Q_HB, fun _ h1_ => absurd ((hon 9 (by kernel_rfl)).symm.trans h1_) (by decide), Q_GW154, Q_GE154, Q_NB136_154, Q_NB154_136, Q_NB137_154, Q_NB154_137, Q_BK154_e9, Q_X8_⟩
   exact steps_nil
 rintro b a w24 hall ⟨gb154, m8_, ha, Q_BK136, Q_BK137, Q_HB, Q_BK154, Q_GW154, Q_GE154, Q_NB136_154, Q_NB154_136, Q_NB137_154, Q_NB154_137, Q_BK154_e9, Q_X8_⟩
 clear BK136 BK137 HB
 have hb0_ := hall 0 (by kernel_rfl)
 have hb1_ := hall 1 (by kernel_rfl)
 have hb2_ := hall 2 (by kernel_rfl)
 have hb3_ := hall 3 (by kernel_rfl)
 have hb4_ := hall 4 (by kernel_rfl)
 have hb5_ := hall 5 (by kernel_rfl)
 have hb6_ := hall 6 (by kernel_rfl)
 have hb7_ := hall 7 (by kernel_rfl)
 have hb8_ := hall 8 (by kernel_rfl)
 have hb9_ := hall 9 (by kernel_rfl)
 have hb10_ := hall 10 (by kernel_rfl)
 subst ha
 obtain rfl := Q_X8_ hb8_
 simp only [putSel, hb0_, hb1_, hb2_, hb3_, hb4_, hb5_, hb6_, hb7_, hb8_, hb9_, hb10_, if_true, Act.put, List.setIfInBounds_toArray, List.set_cons_zero, List.set_cons_succ]
 have BK136 := mk_ Q_BK136
 clear Q_BK136
 have BK137 := mk_ Q_BK137
 clear Q_BK137
 have HB := mk_ Q_HB
 clear Q_HB
 clear Q_BK154
 have GW154 := mk_ (Q_GW154 hb8_)
 clear Q_GW154
 have GE154 := mk_ (Q_GE154 hb8_)
 clear Q_GE154
 have NB136_154 := mk_ (Q_NB136_154 hb8_)
 clear Q_NB136_154
 have NB154_136 := mk_ (Q_NB154_136 hb8_)
 clear Q_NB154_136
 have NB137_154 := mk_ (Q_NB137_154 hb8_)
 clear Q_NB137_154
 have NB154_137 := mk_ (Q_NB154_137 hb8_)
 clear Q_NB154_137
 have BK154 := mk_ (Q_BK154_e9 hb9_)
 clear Q_BK154_e9
 clear hall hb0_ hb1_ hb2_ hb3_ hb4_ hb5_ hb6_ hb7_ hb8_ hb9_ hb10_
 try go_wp2
 have n0_ := mk_ (q2 BK136.out)
 have n1_ := mk_ (q2 BK137.out)
 have n2_ := mk_ (q2 BK154.out)
 have n3_ := mk_ (q9 HB.out)
 clear BK136
 clear BK137
 clear BK154
 clear HB
 have BK136 := n0_
 have BK137 := n1_
 have BK154 := n2_
 have HB := n3_
 clear n0_ n1_ n2_ n3_
 refine start_ (n := 11) (S := fun w' => True) (ds := []) #[false, false, false, false, false, false, false, false, false, false, false] (by kernel_rfl) rfl rfl trivial (fun hHeld => ?_); refine with_tabW laws_FnExactCfgMeet.tab2 laws_FnExactCfgMeet.bits2 (fun HT_ HW_ => ?_)
 generalize w24.drew = w25 at BK136 BK137 BK154 HB hHeld ⊢
 refine inv_at [0, 1, 2, 3, 4, 5, 6, 7, 8, 9, 10] (fun a0_ b a w' => ∃ (gb171 : Nat) (m8_ : Value), a = putSel a0_ b [(0, 18, .agg #[.int .i64 a0_0, .int .i64 a0_1, .int .i64 a0_2, .int .i64 a0_3, .int .i64 a0_4]), (1, 19, .agg #[.int .i64 t155, .int .i64 t156, .int .i64 t157, .int .i64 t158, .int .i64 t159]), (2, 20, .agg #[.int .i64 a1_0, .int .i64 a1_1, .int .i64 a1_2, .int .i64 a1_3, .int .i64 a1_4]), (3, 21, .agg #[.int .i64 t160, .int .i64 t161, .int .i64 t162, .int .i64 t163, .int .i64 t164]), (4, 22, .tuple #[.agg #[.int .i64 t165, .int .i64 t166, .int .i64 t167, .int .i64 t168, .int .i64 t169], .bool t170]), (5, 17, .tuple #[.agg #[.int .i64 t165, .int .i64 t166, .int .i64 t167, .int .i64 t168, .int .i64 t169], .bool t170]), (6, 23, .agg #[.int .i64 t165, .int .i64 t166, .int .i64 t167, .int .i64 t168, .int .i64 t169]), (7, 24, .bool t170), (8, 7, m8_), (10, 8, .bool t170)] ∧ (w'.heap[gb136]? = some (.cells #[.int .i64 a0_0, .int .i64 a0_1, .int .i64 a0_2, .int .i64 a0_3, .int .i64 a0_4] 25 (0, 0))) ∧ (w'.heap[gb137]? = some (.cells #[.int .i64 a1_0, .int .i64 a1_1, .int .i64 a1_2, .int .i64 a1_3, .int .i64 a1_4] 25 (0, 0))) ∧ (w'.heap[gb154]? = some (.cells #[.int .i64 t148, .int .i64 t149, .int .i64 t150, .int .i64 t151, .int .i64 t152] 29 (0, 0))) ∧ (Below w.heap.size w w') ∧ (b 8 = true → b 9 = false → w'.heap[gb171]? = some (.cells #[.int .i64 0, .int .i64 0, .int .i64 0, .int .i64 0, .int .i64 0] 29 (0, 0))) ∧ (b 8 = true → w.heap.size ≤ gb171) ∧ (b 8 = true → w.heap.size ≤ gb171) ∧ (b 8 = true → gb136 ≠ gb171) ∧ (b 8 = true → gb171 ≠ gb136) ∧ (b 8 = true → gb137 ≠ gb171) ∧ (b 8 = true → gb171 ≠ gb137) ∧ (b 8 = true → gb154 ≠ gb171) ∧ (b 8 = true → gb171 ≠ gb154) ∧ (b 9 = true → w'.heap[gb171]? = some (.cells #[.int .i64 t165, .int .i64 t166, .int .i64 t167, .int .i64 t168, .int .i64 t169] 29 (0, 0))) ∧ (b 8 = true → (m8_ : Value) = .pointer (some ⟨gb171, 0, none⟩))) HT_.out HW_.out (by kernel_rfl) (by kernel_rfl) ?_ ?_ ?_
 · exact ⟨0, .bool false, by simp only [putSel, Bool.false_eq_true, if_false], BK136.out, BK137.out, BK154.out, HB.out, fun h_ => absurd h_ (by decide), fun h_ => absurd h_ (by decide), fun h_ => absurd h_ (by decide), fun h_ => absurd h_ (by decide), fun h_ => absurd h_ (by decide), fun h_ => absurd h_ (by decide), fun h_ => absurd h_ (by decide), fun h_ => absurd h_ (by decide), fun h_ => absurd h_ (by decide), fun h_ => absurd h_ (by decide), fun h_ => absurd h_ (by decide)⟩
 · skip
   clear BK136 BK137 BK154 HB
   refine steps_cons ?_ ?_
   · rintro b a w' ⟨gb171, m8_, ha, Q_BK136, Q_BK137, Q_BK154, Q_HB, Q_BK171, Q_GW171, Q_GE171, Q_NB136_171, Q_NB171_136, Q_NB137_171, Q_NB171_137, Q_NB154_171, Q_NB171_154, Q_BK171_e9, Q_X8_⟩ hb_ hon hoff
     refine ⟨_, rfl, fun K hK => ?_⟩
     have e2 : a.tmps[2]? = some (.pointer (some ⟨gb136, 0, none⟩)) := by rw [ha]; exact (putSel_off rfl).trans rfl
     replace ha := mk_ ha
     have BK136 := mk_ Q_BK136
     have BK137 := mk_ Q_BK137
     have BK154 := mk_ Q_BK154
     have HB := mk_ Q_HB
     have hc0_ : w'.cell? ⟨gb136, 0, none⟩ = some (.int .i64 a0_0) := (r4 BK136.out 0).trans rfl
     have hc1_ : w'.cell? ⟨gb136, 1, none⟩ = some (.int .i64 a0_1) := (r4 BK136.out 1).trans rfl
     have hc2_ : w'.cell? ⟨gb136, 2, none⟩ = some (.int .i64 a0_2) := (r4 BK136.out 2).trans rfl
     have hc3_ : w'.cell? ⟨gb136, 3, none⟩ = some (.int .i64 a0_3) := (r4 BK136.out 3).trans rfl
     have hc4_ : w'.cell? ⟨gb136, 4, none⟩ = some (.int .i64 a0_4) := (r4 BK136.out 4).trans rfl
     refine value_ (w1 := w') (v := .agg #[.int .i64 a0_0, .int .i64 a0_1, .int .i64 a0_2, .int .i64 a0_3, .int .i64 a0_4]) (by rfl) rfl ?_ ?_
     · go_simp
       (try simp only [i64_w])
       try rfl
     refine hK.out _ _ ⟨gb171, m8_, (by rw [ha.out]; exact putSel_upk 0 hb_ rfl rfl rfl), Q_BK136, Q_BK137, Q_BK154, Q_HB, Q_BK171, Q_GW171, Q_GE171, Q_NB136_171, Q_NB171_136, Q_NB137_171, Q_NB171_137, Q_NB154_171, Q_NB171_154, fun h0_ => absurd ((hoff 9 (by kernel_rfl)).symm.trans h0_) (by decide), Q_X8_⟩
   refine steps_cons ?_ ?_
   · rintro b a w' ⟨gb171, m8_, ha, Q_BK136, Q_BK137, Q_BK154, Q_HB, Q_BK171, Q_GW171, Q_GE171, Q_NB136_171, Q_NB171_136, Q_NB137_171, Q_NB171_137, Q_NB154_171, Q_NB171_154, Q_BK171_e9, Q_X8_⟩ hb_ hon hoff
     refine ⟨_, rfl, fun K hK => ?_⟩
     have e18 : a.tmps[18]? = some (.agg #[.int .i64 a0_0, .int .i64 a0_1, .int .i64 a0_2, .int .i64 a0_3, .int .i64 a0_4]) := by rw [ha]; exact putSel_on (e := (0, 18, .agg #[.int .i64 a0_0, .int .i64 a0_1, .int .i64 a0_2, .int .i64 a0_3, .int .i64 a0_4])) 0 rfl rfl (hon 0 (by kernel_rfl)) rfl
     replace ha := mk_ ha
     have BK136 := mk_ Q_BK136
     have BK137 := mk_ Q_BK137
     have BK154 := mk_ Q_BK154
     have HB := mk_ Q_HB
     refine goes_ Try.func25 (by kernel_rfl) rfl #[.agg #[.int .i64 a0_0, .int .i64 a0_1, .int .i64 a0_2, .int .i64 a0_3, .int .i64 a0_4]] (by rfl) rfl rfl (by first | (simp only [List.map_toArray, List.map_cons, List.map_nil, Act.eval, Array.getD_eq_getD_getElem?, Option.getD_some, e18]; done) | (simp only [List.map_toArray, List.map_cons, List.map_nil, Act.eval, Array.getD_eq_getD_getElem?, Option.getD_some, e18]; rfl)) ?_
     with_reducible refine (laws_toCfgOpts.calls a0_0 a0_1 a0_2 a0_3 a0_4 t155 t156 t157 t158 t159 _ A6.out).mono ?_
     rintro e w26 ⟨rfl, hb⟩
     refine ⟨_, rfl, ?_⟩
     have n0_ := mk_ (q6 (g := gb136) (o := .cells #[.int .i64 a0_0, .int .i64 a0_1, .int .i64 a0_2, .int .i64 a0_3, .int .i64 a0_4] 25 (0, 0)) (by (with_reducible repeat (first | refine q1 ?_ _ | refine q2 ?_ | refine q3 ?_ _)); exact BK136.out) hb)
     have n1_ := mk_ (q6 (g := gb137) (o := .cells #[.int .i64 a1_0, .int .i64 a1_1, .int .i64 a1_2, .int .i64 a1_3, .int .i64 a1_4] 25 (0, 0)) (by (with_reducible repeat (first | refine q1 ?_ _ | refine q2 ?_ | refine q3 ?_ _)); exact BK137.out) hb)
     have n2_ := mk_ (q6 (g := gb154) (o := .cells #[.int .i64 t148, .int .i64 t149, .int .i64 t150, .int .i64 t151, .int .i64 t152] 29 (0, 0)) (by (with_reducible repeat (first | refine q1 ?_ _ | refine q2 ?_ | refine q3 ?_ _)); exact BK154.out) hb)
     have n3_ := mk_ (r3 (by repeat (first | (with_reducible first | exact HB.out | apply q7 | apply q8 | apply q9 | refine r1 ?_ GE136.out | refine r1 ?_ GE137.out | refine r1 ?_ GE154.out) | exact HB.out)) hb)
     have z_BK171 := fun (h0_ : b 8 = true) (h1_ : b 9 = false) => (show w26.heap[gb171]? = some (.cells #[.int .i64 0, .int .i64 0, .int .i64 0, .int .i64 0, .int .i64 0] 29 (0, 0)) from by first | exact (q6 (g := gb171) (o := .cells #[.int .i64 0, .int .i64 0, .int .i64 0, .int .i64 0, .int .i64 0] 29 (0, 0)) (by (with_reducible repeat (first | refine q1 ?_ _ | refine q2 ?_ | refine q3 ?_ _)); exact (Q_BK171 h0_ h1_)) hb))
     clear BK136
     clear BK137
     clear BK154
     clear HB
     have BK136 := n0_
     have BK137 := n1_
     have BK154 := n2_
     have HB := n3_
     clear n0_ n1_ n2_ n3_
     (try clear hb)
     (try clear hb2)
     (try clear hk)
     (try clear hi)
     refine hK.out _ _ ⟨gb171, m8_, (by rw [ha.out]; exact putSel_upk 1 hb_ rfl rfl rfl), (by (with_reducible repeat (first | refine q1 ?_ _ | refine q2 ?_ | refine q3 ?_ _)); exact BK136.out), (by (with_reducible repeat (first | refine q1 ?_ _ | refine q2 ?_ | refine q3 ?_ _)); exact BK137.out), (by (with_reducible repeat (first | refine q1 ?_ _ | refine q2 ?_ | refine q3 ?_ _)); exact BK154.out), (by repeat (first | (with_reducible first | exact HB.out | apply q7 | apply q8 | apply q9 | refine r1 ?_ GE136.out | refine r1 ?_ GE137.out | refine r1 ?_ GE154.out) | exact HB.out)), z_BK171, Q_GW171, Q_GE171, Q_NB136_171, Q_NB171_136, Q_NB137_171, Q_NB171_137, Q_NB154_171, Q_NB171_154, fun h0_ => absurd ((hoff 9 (by kernel_rfl)).symm.trans h0_) (by decide), Q_X8_⟩
   refine steps_cons ?_ ?_
   · rintro b a w' ⟨gb171, m8_, ha, Q_BK136, Q_BK137, Q_BK154, Q_HB, Q_BK171, Q_GW171, Q_GE171, Q_NB136_171, Q_NB171_136, Q_NB137_171, Q_NB171_137, Q_NB154_171, Q_NB171_154, Q_BK171_e9, Q_X8_⟩ hb_ hon hoff
     refine ⟨_, rfl, fun K hK => ?_⟩
     have e3 : a.tmps[3]? = some (.pointer (some ⟨gb137, 0, none⟩)) := by rw [ha]; exact (putSel_off rfl).trans rfl
     replace ha := mk_ ha
     have BK136 := mk_ Q_BK136
     have BK137 := mk_ Q_BK137
     have BK154 := mk_ Q_BK154
     have HB := mk_ Q_HB
     have hc0_ : w'.cell? ⟨gb137, 0, none⟩ = some (.int .i64 a1_0) := (r4 BK137.out 0).trans rfl
     have hc1_ : w'.cell? ⟨gb137, 1, none⟩ = some (.int .i64 a1_1) := (r4 BK137.out 1).trans rfl
     have hc2_ : w'.cell? ⟨gb137, 2, none⟩ = some (.int .i64 a1_2) := (r4 BK137.out 2).trans rfl
     have hc3_ : w'.cell? ⟨gb137, 3, none⟩ = some (.int .i64 a1_3) := (r4 BK137.out 3).trans rfl
     have hc4_ : w'.cell? ⟨gb137, 4, none⟩ = some (.int .i64 a1_4) := (r4 BK137.out 4).trans rfl
     refine value_ (w1 := w') (v := .agg #[.int .i64 a1_0, .int .i64 a1_1, .int .i64 a1_2, .int .i64 a1_3, .int .i64 a1_4]) (by rfl) rfl ?_ ?_
     · go_simp
       (try simp only [i64_w])
       try rfl
     refine hK.out _ _ ⟨gb171, m8_, (by rw [ha.out]; exact putSel_upk 2 hb_ rfl rfl rfl), Q_BK136, Q_BK137, Q_BK154, Q_HB, Q_BK171, Q_GW171, Q_GE171, Q_NB136_171, Q_NB171_136, Q_NB137_171, Q_NB171_137, Q_NB154_171, Q_NB171_154, fun h0_ => absurd ((hoff 9 (by kernel_rfl)).symm.trans h0_) (by decide), Q_X8_⟩
   refine steps_cons ?_ ?_
   · rintro b a w' ⟨gb171, m8_, ha, Q_BK136, Q_BK137, Q_BK154, Q_HB, Q_BK171, Q_GW171, Q_GE171, Q_NB136_171, Q_NB171_136, Q_NB137_171, Q_NB171_137, Q_NB154_171, Q_NB171_154, Q_BK171_e9, Q_X8_⟩ hb_ hon hoff
     refine ⟨_, rfl, fun K hK => ?_⟩
     have e20 : a.tmps[20]? = some (.agg #[.int .i64 a1_0, .int .i64 a1_1, .int .i64 a1_2, .int .i64 a1_3, .int .i64 a1_4]) := by rw [ha]; exact putSel_on (e := (2, 20, .agg #[.int .i64 a1_0, .int .i64 a1_1, .int .i64 a1_2, .int .i64 a1_3, .int .i64 a1_4])) 2 rfl rfl (hon 2 (by kernel_rfl)) rfl
     replace ha := mk_ ha
     have BK136 := mk_ Q_BK136
     have BK137 := mk_ Q_BK137
     have BK154 := mk_ Q_BK154
     have HB := mk_ Q_HB
     refine goes_ Try.func25 (by kernel_rfl) rfl #[.agg #[.int .i64 a1_0, .int .i64 a1_1, .int .i64 a1_2, .int .i64 a1_3, .int .i64 a1_4]] (by rfl) rfl rfl (by first | (simp only [List.map_toArray, List.map_cons, List.map_nil, Act.eval, Array.getD_eq_getD_getElem?, Option.getD_some, e20]; done) | (simp only [List.map_toArray, List.map_cons, List.map_nil, Act.eval, Array.getD_eq_getD_getElem?, Option.getD_some, e20]; rfl)) ?_
     with_reducible refine (laws_toCfgOpts.calls a1_0 a1_1 a1_2 a1_3 a1_4 t160 t161 t162 t163 t164 _ A7.out).mono ?_
     rintro e w28 ⟨rfl, hb⟩
     refine ⟨_, rfl, ?_⟩
     have n0_ := mk_ (q6 (g := gb136) (o := .cells #[.int .i64 a0_0, .int .i64 a0_1, .int .i64 a0_2, .int .i64 a0_3, .int .i64 a0_4] 25 (0, 0)) (by (with_reducible repeat (first | refine q1 ?_ _ | refine q2 ?_ | refine q3 ?_ _)); exact BK136.out) hb)
     have n1_ := mk_ (q6 (g := gb137) (o := .cells #[.int .i64 a1_0, .int .i64 a1_1, .int .i64 a1_2, .int .i64 a1_3, .int .i64 a1_4] 25 (0, 0)) (by (with_reducible repeat (first | refine q1 ?_ _ | refine q2 ?_ | refine q3 ?_ _)); exact BK137.out) hb)
     have n2_ := mk_ (q6 (g := gb154) (o := .cells #[.int .i64 t148, .int .i64 t149, .int .i64 t150, .int .i64 t151, .int .i64 t152] 29 (0, 0)) (by (with_reducible repeat (first | refine q1 ?_ _ | refine q2 ?_ | refine q3 ?_ _)); exact BK154.out) hb)
     have n3_ := mk_ (r3 (by repeat (first | (with_reducible first | exact HB.out | apply q7 | apply q8 | apply q9 | refine r1 ?_ GE136.out | refine r1 ?_ GE137.out | refine r1 ?_ GE154.out) | exact HB.out)) hb)
     have z_BK171 := fun (h0_ : b 8 = true) (h1_ : b 9 = false) => (show w28.heap[gb171]? = some (.cells #[.int .i64 0, .int .i64 0, .int .i64 0, .int .i64 0, .int .i64 0] 29 (0, 0)) from by first | exact (q6 (g := gb171) (o := .cells #[.int .i64 0, .int .i64 0, .int .i64 0, .int .i64 0, .int .i64 0] 29 (0, 0)) (by (with_reducible repeat (first | refine q1 ?_ _ | refine q2 ?_ | refine q3 ?_ _)); exact (Q_BK171 h0_ h1_)) hb))
     clear BK136
     clear BK137
     clear BK154
     clear HB
     have BK136 := n0_
     have BK137 := n1_
     have BK154 := n2_
     have HB := n3_
     clear n0_ n1_ n2_ n3_
     (try clear hb)
     (try clear hb2)
     (try clear hk)
     (try clear hi)
     refine hK.out _ _ ⟨gb171, m8_, (by rw [ha.out]; exact putSel_upk 3 hb_ rfl rfl rfl), (by (with_reducible repeat (first | refine q1 ?_ _ | refine q2 ?_ | refine q3 ?_ _)); exact BK136.out), (by (with_reducible repeat (first | refine q1 ?_ _ | refine q2 ?_ | refine q3 ?_ _)); exact BK137.out), (by (with_reducible repeat (first | refine q1 ?_ _ | refine q2 ?_ | refine q3 ?_ _)); exact BK154.out), (by repeat (first | (with_reducible first | exact HB.out | apply q7 | apply q8 | apply q9 | refine r1 ?_ GE136.out | refine r1 ?_ GE137.out | refine r1 ?_ GE154.out) | exact HB.out)), z_BK171, Q_GW171, Q_GE171, Q_NB136_171, Q_NB171_136, Q_NB137_171, Q_NB171_137, Q_NB154_171, Q_NB171_154, fun h0_ => absurd ((hoff 9 (by kernel_rfl)).symm.trans h0_) (by decide), Q_X8_⟩
   refine steps_cons ?_ ?_
   · rintro b a w' ⟨gb171, m8_, ha, Q_BK136, Q_BK137, Q_BK154, Q_HB, Q_BK171, Q_GW171, Q_GE171, Q_NB136_171, Q_NB171_136, Q_NB137_171, Q_NB171_137, Q_NB154_171, Q_NB171_154, Q_BK171_e9, Q_X8_⟩ hb_ hon hoff
     refine ⟨_, rfl, fun K hK => ?_⟩
     have e19 : a.tmps[19]? = some (.agg #[.int .i64 t155, .int .i64 t156, .int .i64 t157, .int .i64 t158, .int .i64 t159]) := by rw [ha]; exact putSel_on (e := (1, 19, .agg #[.int .i64 t155, .int .i64 t156, .int .i64 t157, .int .i64 t158, .int .i64 t159])) 1 rfl rfl (hon 1 (by kernel_rfl)) rfl
     have e21 : a.tmps[21]? = some (.agg #[.int .i64 t160, .int .i64 t161, .int .i64 t162, .int .i64 t163, .int .i64 t164]) := by rw [ha]; exact putSel_on (e := (3, 21, .agg #[.int .i64 t160, .int .i64 t161, .int .i64 t162, .int .i64 t163, .int .i64 t164])) 3 rfl rfl (hon 3 (by kernel_rfl)) rfl
     replace ha := mk_ ha
     have BK136 := mk_ Q_BK136
     have BK137 := mk_ Q_BK137
     have BK154 := mk_ Q_BK154
     have HB := mk_ Q_HB
     refine goes_ Try.func26 (by kernel_rfl) rfl #[.agg #[.int .i64 t155, .int .i64 t156, .int .i64 t157, .int .i64 t158, .int .i64 t159], .agg #[.int .i64 t160, .int .i64 t161, .int .i64 t162, .int .i64 t163, .int .i64 t164]] (by rfl) rfl rfl (by first | (simp only [List.map_toArray, List.map_cons, List.map_nil, Act.eval, Array.getD_eq_getD_getElem?, Option.getD_some, e19, e21]; done) | (simp only [List.map_toArray, List.map_cons, List.map_nil, Act.eval, Array.getD_eq_getD_getElem?, Option.getD_some, e19, e21]; rfl)) ?_
     with_reducible refine (impl_CfgMeet.calls t155 t156 t157 t158 t159 t160 t161 t162 t163 t164 t165 t166 t167 t168 t169 t170 _ A8.out).mono ?_
     rintro e w29 ⟨rfl, hb⟩
     refine ⟨_, rfl, ?_⟩
     have n0_ := mk_ (q6 (g := gb136) (o := .cells #[.int .i64 a0_0, .int .i64 a0_1, .int .i64 a0_2, .int .i64 a0_3, .int .i64 a0_4] 25 (0, 0)) (by (with_reducible repeat (first | refine q1 ?_ _ | refine q2 ?_ | refine q3 ?_ _)); exact BK136.out) hb)
     have n1_ := mk_ (q6 (g := gb137) (o := .cells #[.int .i64 a1_0, .int .i64 a1_1, .int .i64 a1_2, .int .i64 a1_3, .int .i64 a1_4] 25 (0, 0)) (by (with_reducible repeat (first | refine q1 ?_ _ | refine q2 ?_ | refine q3 ?_ _)); exact BK137.out) hb)
     have n2_ := mk_ (q6 (g := gb154) (o := .cells #[.int .i64 t148, .int .i64 t149, .int .i64 t150, .int .i64 t151, .int .i64 t152] 29 (0, 0)) (by (with_reducible repeat (first | refine q1 ?_ _ | refine q2 ?_ | refine q3 ?_ _)); exact BK154.out) hb)
     have n3_ := mk_ (r3 (by repeat (first | (with_reducible first | exact HB.out | apply q7 | apply q8 | apply q9 | refine r1 ?_ GE136.out | refine r1 ?_ GE137.out | refine r1 ?_ GE154.out) | exact HB.out)) hb)
     have z_BK171 := fun (h0_ : b 8 = true) (h1_ : b 9 = false) => (show w29.heap[gb171]? = some (.cells #[.int .i64 0, .int .i64 0, .int .i64 0, .int .i64 0, .int .i64 0] 29 (0, 0)) from by first | exact (q6 (g := gb171) (o := .cells #[.int .i64 0, .int .i64 0, .int .i64 0, .int .i64 0, .int .i64 0] 29 (0, 0)) (by (with_reducible repeat (first | refine q1 ?_ _ | refine q2 ?_ | refine q3 ?_ _)); exact (Q_BK171 h0_ h1_)) hb))
     clear BK136
     clear BK137
     clear BK154
     clear HB
     have BK136 := n0_
     have BK137 := n1_
     have BK154 := n2_
     have HB := n3_
     clear n0_ n1_ n2_ n3_
     (try clear hb)
     (try clear hb2)
     (try clear hk)
     (try clear hi)
     refine hK.out _ _ ⟨gb171, m8_, (by rw [ha.out]; exact putSel_upk 4 hb_ rfl rfl rfl), (by (with_reducible repeat (first | refine q1 ?_ _ | refine q2 ?_ | refine q3 ?_ _)); exact BK136.out), (by (with_reducible repeat (first | refine q1 ?_ _ | refine q2 ?_ | refine q3 ?_ _)); exact BK137.out), (by (with_reducible repeat (first | refine q1 ?_ _ | refine q2 ?_ | refine q3 ?_ _)); exact BK154.out), (by repeat (first | (with_reducible first | exact HB.out | apply q7 | apply q8 | apply q9 | refine r1 ?_ GE136.out | refine r1 ?_ GE137.out | refine r1 ?_ GE154.out) | exact HB.out)), z_BK171, Q_GW171, Q_GE171, Q_NB136_171, Q_NB171_136, Q_NB137_171, Q_NB171_137, Q_NB154_171, Q_NB171_154, fun h0_ => absurd ((hoff 9 (by kernel_rfl)).symm.trans h0_) (by decide), Q_X8_⟩
   refine steps_cons ?_ ?_
   · rintro b a w' ⟨gb171, m8_, ha, Q_BK136, Q_BK137, Q_BK154, Q_HB, Q_BK171, Q_GW171, Q_GE171, Q_NB136_171, Q_NB171_136, Q_NB137_171, Q_NB171_137, Q_NB154_171, Q_NB171_154, Q_BK171_e9, Q_X8_⟩ hb_ hon hoff
     refine ⟨_, rfl, fun K hK => ?_⟩
     have e22 : a.tmps[22]? = some (.tuple #[.agg #[.int .i64 t165, .int .i64 t166, .int .i64 t167, .int .i64 t168, .int .i64 t169], .bool t170]) := by rw [ha]; exact putSel_on (e := (4, 22, .tuple #[.agg #[.int .i64 t165, .int .i64 t166, .int .i64 t167, .int .i64 t168, .int .i64 t169], .bool t170])) 4 rfl rfl (hon 4 (by kernel_rfl)) rfl
     replace ha := mk_ ha
     have BK136 := mk_ Q_BK136
     have BK137 := mk_ Q_BK137
     have BK154 := mk_ Q_BK154
     have HB := mk_ Q_HB
     refine value_ (w1 := w') (v := .tuple #[.agg #[.int .i64 t165, .int .i64 t166, .int .i64 t167, .int .i64 t168, .int .i64 t169], .bool t170]) (by rfl) rfl ?_ ?_
     · go_simp
       (try simp only [i64_w])
       try rfl
     refine hK.out _ _ ⟨gb171, m8_, (by rw [ha.out]; exact putSel_upk 5 hb_ rfl rfl rfl), Q_BK136, Q_BK137, Q_BK154, Q_HB, Q_BK171, Q_GW171, Q_GE171, Q_NB136_171, Q_NB171_136, Q_NB137_171, Q_NB171_137, Q_NB154_171, Q_NB171_154, fun h0_ => absurd ((hoff 9 (by kernel_rfl)).symm.trans h0_) (by decide), Q_X8_⟩
   refine steps_cons ?_ ?_
   · rintro b a w' ⟨gb171, m8_, ha, Q_BK136, Q_BK137, Q_BK154, Q_HB, Q_BK171, Q_GW171, Q_GE171, Q_NB136_171, Q_NB171_136, Q_NB137_171, Q_NB171_137, Q_NB154_171, Q_NB171_154, Q_BK171_e9, Q_X8_⟩ hb_ hon hoff
     refine ⟨_, rfl, fun K hK => ?_⟩
     have e17 : a.tmps[17]? = some (.tuple #[.agg #[.int .i64 t165, .int .i64 t166, .int .i64 t167, .int .i64 t168, .int .i64 t169], .bool t170]) := by rw [ha]; exact putSel_on (e := (5, 17, .tuple #[.agg #[.int .i64 t165, .int .i64 t166, .int .i64 t167, .int .i64 t168, .int .i64 t169], .bool t170])) 5 rfl rfl (hon 5 (by kernel_rfl)) rfl
     replace ha := mk_ ha
     have BK136 := mk_ Q_BK136
     have BK137 := mk_ Q_BK137
     have BK154 := mk_ Q_BK154
     have HB := mk_ Q_HB
     refine value_ (w1 := w') (v := .agg #[.int .i64 t165, .int .i64 t166, .int .i64 t167, .int .i64 t168, .int .i64 t169]) (by rfl) rfl ?_ ?_
     · go_simp
       (try simp only [i64_w])
       try rfl
     refine hK.out _ _ ⟨gb171, m8_, (by rw [ha.out]; exact putSel_upk 6 hb_ rfl rfl rfl), Q_BK136, Q_BK137, Q_BK154, Q_HB, Q_BK171, Q_GW171, Q_GE171, Q_NB136_171, Q_NB171_136, Q_NB137_171, Q_NB171_137, Q_NB154_171, Q_NB171_154, fun h0_ => absurd ((hoff 9 (by kernel_rfl)).symm.trans h0_) (by decide), Q_X8_⟩
   refine steps_cons ?_ ?_
   · rintro b a w' ⟨gb171, m8_, ha, Q_BK136, Q_BK137, Q_BK154, Q_HB, Q_BK171, Q_GW171, Q_GE171, Q_NB136_171, Q_NB171_136, Q_NB137_171, Q_NB171_137, Q_NB154_171, Q_NB171_154, Q_BK171_e9, Q_X8_⟩ hb_ hon hoff
     refine ⟨_, rfl, fun K hK => ?_⟩
     have e17 : a.tmps[17]? = some (.tuple #[.agg #[.int .i64 t165, .int .i64 t166, .int .i64 t167, .int .i64 t168, .int .i64 t169], .bool t170]) := by rw [ha]; exact putSel_on (e := (5, 17, .tuple #[.agg #[.int .i64 t165, .int .i64 t166, .int .i64 t167, .int .i64 t168, .int .i64 t169], .bool t170])) 5 rfl rfl (hon 5 (by kernel_rfl)) rfl
     replace ha := mk_ ha
     have BK136 := mk_ Q_BK136
     have BK137 := mk_ Q_BK137
     have BK154 := mk_ Q_BK154
     have HB := mk_ Q_HB
     refine value_ (w1 := w') (v := .bool t170) (by rfl) rfl ?_ ?_
     · go_simp
       (try simp only [i64_w])
       try rfl
     refine hK.out _ _ ⟨gb171, m8_, (by rw [ha.out]; exact putSel_upk 7 hb_ rfl rfl rfl), Q_BK136, Q_BK137, Q_BK154, Q_HB, Q_BK171, Q_GW171, Q_GE171, Q_NB136_171, Q_NB171_136, Q_NB137_171, Q_NB171_137, Q_NB154_171, Q_NB171_154, Q_BK171_e9, Q_X8_⟩
   refine steps_cons ?_ ?_
   · rintro b a w' ⟨gb171, m8_, ha, Q_BK136, Q_BK137, Q_BK154, Q_HB, Q_BK171, Q_GW171, Q_GE171, Q_NB136_171, Q_NB171_136, Q_NB137_171, Q_NB171_137, Q_NB154_171, Q_NB171_154, Q_BK171_e9, Q_X8_⟩ hb_ hon hoff
     refine ⟨_, rfl, fun K hK => ?_⟩
     replace ha := mk_ ha
     have BK136 := mk_ Q_BK136
     have BK137 := mk_ Q_BK137
     have BK154 := mk_ Q_BK154
     have HB := mk_ Q_HB
     refine box_step ?hg (N := 7) ?hd (cs := #[.int .i64 0, .int .i64 0, .int .i64 0, .int .i64 0, .int .i64 0]) (t := 29) ?hr ?_; (case hd => rfl); (case hg => rfl); (case hr => first | (go_simp; done) | (go_simp; rfl))
     intro gb171 hg w26 hbox hb
     have n0_ := mk_ (q6 (g := gb136) (o := .cells #[.int .i64 a0_0, .int .i64 a0_1, .int .i64 a0_2, .int .i64 a0_3, .int .i64 a0_4] 25 (0, 0)) (by (with_reducible repeat (first | refine q1 ?_ _ | refine q2 ?_ | refine q3 ?_ _)); exact BK136.out) hb)
     have n1_ := mk_ (q6 (g := gb137) (o := .cells #[.int .i64 a1_0, .int .i64 a1_1, .int .i64 a1_2, .int .i64 a1_3, .int .i64 a1_4] 25 (0, 0)) (by (with_reducible repeat (first | refine q1 ?_ _ | refine q2 ?_ | refine q3 ?_ _)); exact BK137.out) hb)
     have n2_ := mk_ (q6 (g := gb154) (o := .cells #[.int .i64 t148, .int .i64 t149, .int .i64 t150, .int .i64 t151, .int .i64 t152] 29 (0, 0)) (by (with_reducible repeat (first | refine q1 ?_ _ | refine q2 ?_ | refine q3 ?_ _)); exact BK154.out) hb)
     have n3_ := mk_ (r3 (by repeat (first | (with_reducible first | exact HB.out | apply q7 | apply q8 | apply q9 | refine r1 ?_ GE136.out | refine r1 ?_ GE137.out | refine r1 ?_ GE154.out) | exact HB.out)) hb)
     have n4_ := mk_ (hbox)
     have n5_ := mk_ ((by rw [hg]; exact (r2 (by repeat (first | (with_reducible first | exact HB.out | apply q7 | apply q8 | apply q9 | refine r1 ?_ GE136.out | refine r1 ?_ GE137.out | refine r1 ?_ GE154.out) | exact HB.out))) : w.heap.size ≤ gb171))
     have n6_ := mk_ ((by rw [hg]; exact (r2 (by repeat (first | (with_reducible first | exact HB.out | apply q7 | apply q8 | apply q9 | refine r1 ?_ GE136.out | refine r1 ?_ GE137.out | refine r1 ?_ GE154.out) | exact HB.out))) : w.heap.size ≤ gb171))
     have n7_ := mk_ ((by rw [hg]; exact m2 (r6 (g := gb136) (o := .cells #[.int .i64 a0_0, .int .i64 a0_1, .int .i64 a0_2, .int .i64 a0_3, .int .i64 a0_4] 25 (0, 0)) (by (with_reducible repeat (first | refine q1 ?_ _ | refine q2 ?_ | refine q3 ?_ _)); exact BK136.out)) : gb136 ≠ gb171))
     have n8_ := mk_ ((by rw [hg]; exact m3 (r6 (g := gb136) (o := .cells #[.int .i64 a0_0, .int .i64 a0_1, .int .i64 a0_2, .int .i64 a0_3, .int .i64 a0_4] 25 (0, 0)) (by (with_reducible repeat (first | refine q1 ?_ _ | refine q2 ?_ | refine q3 ?_ _)); exact BK136.out)) : gb171 ≠ gb136))
     have n9_ := mk_ ((by rw [hg]; exact m2 (r6 (g := gb137) (o := .cells #[.int .i64 a1_0, .int .i64 a1_1, .int .i64 a1_2, .int .i64 a1_3, .int .i64 a1_4] 25 (0, 0)) (by (with_reducible repeat (first | refine q1 ?_ _ | refine q2 ?_ | refine q3 ?_ _)); exact BK137.out)) : gb137 ≠ gb171))
     have n10_ := mk_ ((by rw [hg]; exact m3 (r6 (g := gb137) (o := .cells #[.int .i64 a1_0, .int .i64 a1_1, .int .i64 a1_2, .int .i64 a1_3, .int .i64 a1_4] 25 (0, 0)) (by (with_reducible repeat (first | refine q1 ?_ _ | refine q2 ?_ | refine q3 ?_ _)); exact BK137.out)) : gb171 ≠ gb137))
     have n11_ := mk_ ((by rw [hg]; exact m2 (r6 (g := gb154) (o := .cells #[.int .i64 t148, .int .i64 t149, .int .i64 t150, .int .i64 t151, .int .i64 t152] 29 (0, 0)) (by (with_reducible repeat (first | refine q1 ?_ _ | refine q2 ?_ | refine q3 ?_ _)); exact BK154.out)) : gb154 ≠ gb171))
     have n12_ := mk_ ((by rw [hg]; exact m3 (r6 (g := gb154) (o := .cells #[.int .i64 t148, .int .i64 t149, .int .i64 t150, .int .i64 t151, .int .i64 t152] 29 (0, 0)) (by (with_reducible repeat (first | refine q1 ?_ _ | refine q2 ?_ | refine q3 ?_ _)); exact BK154.out)) : gb171 ≠ gb154))
     clear BK136
     clear BK137
     clear BK154
     clear HB
     have BK136 := n0_
     have BK137 := n1_
     have BK154 := n2_
     have HB := n3_
     have BK171 := n4_
     have GW171 := n5_
     have GE171 := n6_
     have NB136_171 := n7_
     have NB171_136 := n8_
     have NB137_171 := n9_
     have NB171_137 := n10_
     have NB154_171 := n11_
     have NB171_154 := n12_
     clear n0_ n1_ n2_ n3_ n4_ n5_ n6_ n7_ n8_ n9_ n10_ n11_ n12_
     clear hb hbox hg
     refine hK.out _ _ ⟨gb171, (.pointer (some ⟨gb171, 0, none⟩)), (by rw [ha.out]; exact putSel_upk 8 hb_ rfl rfl rfl), (by (with_reducible repeat (first | refine q1 ?_ _ | refine q2 ?_ | refine q3 ?_ _)); exact BK136.out), (by (with_reducible repeat (first | refine q1 ?_ _ | refine q2 ?_ | refine q3 ?_ _)); exact BK137.out), (by (with_reducible repeat (first | refine q1 ?_ _ | refine q2 ?_ | refine q3 ?_ _)); exact BK154.out), (by repeat (first | (with_reducible first | exact HB.out | apply q7 | apply q8 | apply q9 | refine r1 ?_ GE136.out | refine r1 ?_ GE137.out | refine r1 ?_ GE154.out | refine r1 ?_ GE171.out) | exact HB.out)), fun _ _ => (by (with_reducible repeat (first | refine q1 ?_ _ | refine q2 ?_ | refine q3 ?_ _)); exact BK171.out), fun _ => GW171.out, fun _ => GE171.out, fun _ => NB136_171.out, fun _ => NB171_136.out, fun _ => NB137_171.out, fun _ => NB171_137.out, fun _ => NB154_171.out, fun _ => NB171_154.out, fun h0_ => absurd ((hoff 9 (by kernel_rfl)).symm.trans h0_) (by decide), fun _ => rfl⟩
   refine steps_cons ?_ ?_
   · rintro b a w' ⟨gb171, m8_, ha, Q_BK136, Q_BK137, Q_BK154, Q_HB, Q_BK171, Q_GW171, Q_GE171, Q_NB136_171, Q_NB171_136, Q_NB137_171, Q_NB171_137, Q_NB154_171, Q_NB171_154, Q_BK171_e9, Q_X8_⟩ hb_ hon hoff
     refine ⟨_, rfl, fun K hK => ?_⟩
     have e7 : a.tmps[7]? = some (m8_) := by rw [ha]; exact putSel_on (e := (8, 7, m8_)) 8 rfl rfl (hon 8 (by kernel_rfl)) rfl
     rw [Q_X8_ (hon 8 (by kernel_rfl))] at e7
     have e23 : a.tmps[23]? = some (.agg #[.int .i64 t165, .int .i64 t166, .int .i64 t167, .int .i64 t168, .int .i64 t169]) := by rw [ha]; exact putSel_on (e := (6, 23, .agg #[.int .i64 t165, .int .i64 t166, .int .i64 t167, .int .i64 t168, .int .i64 t169])) 6 rfl rfl (hon 6 (by kernel_rfl)) rfl
     replace ha := mk_ ha
     have BK136 := mk_ Q_BK136
     have BK137 := mk_ Q_BK137
     have BK154 := mk_ Q_BK154
     have HB := mk_ Q_HB
     have BK171 := mk_ (Q_BK171 (hon 8 (by kernel_rfl)) hb_)
     have GW171 := mk_ (Q_GW171 (hon 8 (by kernel_rfl)))
     have GE171 := mk_ (Q_GE171 (hon 8 (by kernel_rfl)))
     have NB136_171 := mk_ (Q_NB136_171 (hon 8 (by kernel_rfl)))
     have NB171_136 := mk_ (Q_NB171_136 (hon 8 (by kernel_rfl)))
     have NB137_171 := mk_ (Q_NB137_171 (hon 8 (by kernel_rfl)))
     have NB171_137 := mk_ (Q_NB171_137 (hon 8 (by kernel_rfl)))
     have NB154_171 := mk_ (Q_NB154_171 (hon 8 (by kernel_rfl)))
     have NB171_154 := mk_ (Q_NB171_154 (hon 8 (by kernel_rfl)))
     have hs31 : w'.cell? ⟨gb171, 0, none⟩ = some (.int .i64 0) := (r4 BK171.out 0).trans rfl
     have hfs31 := r5 BK171.out 0
     have hns31_0 := NB136_171.out
     have hns31_1 := NB137_171.out
     have hns31_2 := NB154_171.out
     have hms31_0 := NB171_136.out
     have hms31_1 := NB171_137.out
     have hms31_2 := NB171_154.out
     have hs32 : w'.cell? ⟨gb171, 1, none⟩ = some (.int .i64 0) := (r4 BK171.out 1).trans rfl
     have hfs32 := r5 BK171.out 1
     have hns32_0 := NB136_171.out
     have hns32_1 := NB137_171.out
     have hns32_2 := NB154_171.out
     have hms32_0 := NB171_136.out
     have hms32_1 := NB171_137.out
     have hms32_2 := NB171_154.out
     have hs33 : w'.cell? ⟨gb171, 2, none⟩ = some (.int .i64 0) := (r4 BK171.out 2).trans rfl
     have hfs33 := r5 BK171.out 2
     have hns33_0 := NB136_171.out
     have hns33_1 := NB137_171.out
     have hns33_2 := NB154_171.out
     have hms33_0 := NB171_136.out
     have hms33_1 := NB171_137.out
     have hms33_2 := NB171_154.out
     have hs34 : w'.cell? ⟨gb171, 3, none⟩ = some (.int .i64 0) := (r4 BK171.out 3).trans rfl
     have hfs34 := r5 BK171.out 3
     have hns34_0 := NB136_171.out
     have hns34_1 := NB137_171.out
     have hns34_2 := NB154_171.out
     have hms34_0 := NB171_136.out
     have hms34_1 := NB171_137.out
     have hms34_2 := NB171_154.out
     have hs35 : w'.cell? ⟨gb171, 4, none⟩ = some (.int .i64 0) := (r4 BK171.out 4).trans rfl
     have hfs35 := r5 BK171.out 4
     have hns35_0 := NB136_171.out
     have hns35_1 := NB137_171.out
     have hns35_2 := NB154_171.out
     have hms35_0 := NB171_136.out
     have hms35_1 := NB171_137.out
     have hms35_2 := NB171_154.out
     refine skip_ (w1 := ?_) (by rfl) rfl ?_ ?_
     rotate_left
     · go_simp
       rfl
     refine hK.out _ _ ⟨gb171, m8_, (by rw [ha.out]; exact putSel_none (v := undef) rfl), (by (with_reducible repeat (first | refine q1 ?_ _ | refine q2 ?_ | refine q3 ?_ _)); refine q5 ?_ NB136_171.out _; (with_reducible repeat (first | refine q1 ?_ _ | refine q2 ?_ | refine q3 ?_ _)); refine q5 ?_ NB136_171.out _; (with_reducible repeat (first | refine q1 ?_ _ | refine q2 ?_ | refine q3 ?_ _)); refine q5 ?_ NB136_171.out _; (with_reducible repeat (first | refine q1 ?_ _ | refine q2 ?_ | refine q3 ?_ _)); refine q5 ?_ NB136_171.out _; (with_reducible repeat (first | refine q1 ?_ _ | refine q2 ?_ | refine q3 ?_ _)); refine q5 ?_ NB136_171.out _; (with_reducible repeat (first | refine q1 ?_ _ | refine q2 ?_ | refine q3 ?_ _)); exact BK136.out), (by (with_reducible repeat (first | refine q1 ?_ _ | refine q2 ?_ | refine q3 ?_ _)); refine q5 ?_ NB137_171.out _; (with_reducible repeat (first | refine q1 ?_ _ | refine q2 ?_ | refine q3 ?_ _)); refine q5 ?_ NB137_171.out _; (with_reducible repeat (first | refine q1 ?_ _ | refine q2 ?_ | refine q3 ?_ _)); refine q5 ?_ NB137_171.out _; (with_reducible repeat (first | refine q1 ?_ _ | refine q2 ?_ | refine q3 ?_ _)); refine q5 ?_ NB137_171.out _; (with_reducible repeat (first | refine q1 ?_ _ | refine q2 ?_ | refine q3 ?_ _)); refine q5 ?_ NB137_171.out _; (with_reducible repeat (first | refine q1 ?_ _ | refine q2 ?_ | refine q3 ?_ _)); exact BK137.out), (by (with_reducible repeat (first | refine q1 ?_ _ | refine q2 ?_ | refine q3 ?_ _)); refine q5 ?_ NB154_171.out _; (with_reducible repeat (first | refine q1 ?_ _ | refine q2 ?_ | refine q3 ?_ _)); refine q5 ?_ NB154_171.out _; (with_reducible repeat (first | refine q1 ?_ _ | refine q2 ?_ | refine q3 ?_ _)); refine q5 ?_ NB154_171.out _; (with_reducible repeat (first | refine q1 ?_ _ | refine q2 ?_ | refine q3 ?_ _)); refine q5 ?_ NB154_171.out _; (with_reducible repeat (first | refine q1 ?_ _ | refine q2 ?_ | refine q3 ?_ _)); refine q5 ?_ NB154_171.out _; (with_reducible repeat (first | refine q1 ?_ _ | refine q2 ?_ | refine q3 ?_ _)); exact BK154.out), (by repeat (first | (with_reducible first | exact HB.out | apply q7 | apply q8 | apply q9 | refine r1 ?_ GE136.out | refine r1 ?_ GE137.out | refine r1 ?_ GE154.out | refine r1 ?_ GE171.out) | exact HB.out)), fun _ h1_ => absurd ((up_self b 9).symm.trans h1_) (by decide), fun _ => GW171.out, fun _ => GE171.out, fun _ => NB136_171.out, fun _ => NB171_136.out, fun _ => NB137_171.out, fun _ => NB171_137.out, fun _ => NB154_171.out, fun _ => NB171_154.out, fun _ => (by (with_reducible repeat (first | refine q1 ?_ _ | refine q2 ?_ | refine q3 ?_ _)); refine q4 (cs := #[.int .i64 t165, .int .i64 t166, .int .i64 t167, .int .i64 t168, .int .i64 0]) ?_ 4 _ rfl; (with_reducible repeat (first | refine q1 ?_ _ | refine q2 ?_ | refine q3 ?_ _)); refine q4 (cs := #[.int .i64 t165, .int .i64 t166, .int .i64 t167, .int .i64 0, .int .i64 0]) ?_ 3 _ rfl; (with_reducible repeat (first | refine q1 ?_ _ | refine q2 ?_ | refine q3 ?_ _)); refine q4 (cs := #[.int .i64 t165, .int .i64 t166, .int .i64 0, .int .i64 0, .int .i64 0]) ?_ 2 _ rfl; (with_reducible repeat (first | refine q1 ?_ _ | refine q2 ?_ | refine q3 ?_ _)); refine q4 (cs := #[.int .i64 t165, .int .i64 0, .int .i64 0, .int .i64 0, .int .i64 0]) ?_ 1 _ rfl; (with_reducible repeat (first | refine q1 ?_ _ | refine q2 ?_ | refine q3 ?_ _)); refine q4 (cs := #[.int .i64 0, .int .i64 0, .int .i64 0, .int .i64 0, .int .i64 0]) ?_ 0 _ rfl; (with_reducible repeat (first | refine q1 ?_ _ | refine q2 ?_ | refine q3 ?_ _)); exact BK171.out), Q_X8_⟩
   refine steps_cons ?_ ?_
   · rintro b a w' ⟨gb171, m8_, ha, Q_BK136, Q_BK137, Q_BK154, Q_HB, Q_BK171, Q_GW171, Q_GE171, Q_NB136_171, Q_NB171_136, Q_NB137_171, Q_NB171_137, Q_NB154_171, Q_NB171_154, Q_BK171_e9, Q_X8_⟩ hb_ hon hoff
     refine ⟨_, rfl, fun K hK => ?_⟩
     have e24 : a.tmps[24]? = some (.bool t170) := by rw [ha]; exact putSel_on (e := (7, 24, .bool t170)) 7 rfl rfl (hon 7 (by kernel_rfl)) rfl
     replace ha := mk_ ha
     have BK136 := mk_ Q_BK136
     have BK137 := mk_ Q_BK137
     have BK154 := mk_ Q_BK154
     have HB := mk_ Q_HB
     have GW171 := mk_ (Q_GW171 (hon 8 (by kernel_rfl)))
     have GE171 := mk_ (Q_GE171 (hon 8 (by kernel_rfl)))
     have NB136_171 := mk_ (Q_NB136_171 (hon 8 (by kernel_rfl)))
     have NB171_136 := mk_ (Q_NB171_136 (hon 8 (by kernel_rfl)))
     have NB137_171 := mk_ (Q_NB137_171 (hon 8 (by kernel_rfl)))
     have NB171_137 := mk_ (Q_NB171_137 (hon 8 (by kernel_rfl)))
     have NB154_171 := mk_ (Q_NB154_171 (hon 8 (by kernel_rfl)))
     have NB171_154 := mk_ (Q_NB171_154 (hon 8 (by kernel_rfl)))
     have BK171 := mk_ (Q_BK171_e9 (hon 9 (by kernel_rfl)))
     refine value_ (w1 := w') (v := .bool t170) (by rfl) rfl ?_ ?_
     · go_simp
       (try simp only [i64_w])
       try rfl
     refine hK.out _ _ ⟨gb171, m8_, (by rw [ha.out]; exact putSel_upk 9 hb_ rfl rfl rfl), Q_BK136, Q_BK137, Q_BK154, Q_HB, fun _ h1_ => absurd ((hon 9 (by kernel_rfl)).symm.trans h1_) (by decide), Q_GW171, Q_GE171, Q_NB136_171, Q_NB171_136, Q_NB137_171, Q_NB171_137, Q_NB154_171, Q_NB171_154, Q_BK171_e9, Q_X8_⟩
   exact steps_nil
 rintro b a w35 hall ⟨gb171, m8_, ha, Q_BK136, Q_BK137, Q_BK154, Q_HB, Q_BK171, Q_GW171, Q_GE171, Q_NB136_171, Q_NB171_136, Q_NB137_171, Q_NB171_137, Q_NB154_171, Q_NB171_154, Q_BK171_e9, Q_X8_⟩
 clear BK136 BK137 BK154 HB
 have hb0_ := hall 0 (by kernel_rfl)
 have hb1_ := hall 1 (by kernel_rfl)
 have hb2_ := hall 2 (by kernel_rfl)
 have hb3_ := hall 3 (by kernel_rfl)
 have hb4_ := hall 4 (by kernel_rfl)
 have hb5_ := hall 5 (by kernel_rfl)
 have hb6_ := hall 6 (by kernel_rfl)
 have hb7_ := hall 7 (by kernel_rfl)
 have hb8_ := hall 8 (by kernel_rfl)
 have hb9_ := hall 9 (by kernel_rfl)
 have hb10_ := hall 10 (by kernel_rfl)
 subst ha
 obtain rfl := Q_X8_ hb8_
 simp only [putSel, hb0_, hb1_, hb2_, hb3_, hb4_, hb5_, hb6_, hb7_, hb8_, hb9_, hb10_, if_true, Act.put, List.setIfInBounds_toArray, List.set_cons_zero, List.set_cons_succ]
 have BK136 := mk_ Q_BK136
 clear Q_BK136
 have BK137 := mk_ Q_BK137
 clear Q_BK137
 have BK154 := mk_ Q_BK154
 clear Q_BK154
 have HB := mk_ Q_HB
 clear Q_HB
 clear Q_BK171
 have GW171 := mk_ (Q_GW171 hb8_)
 clear Q_GW171
 have GE171 := mk_ (Q_GE171 hb8_)
 clear Q_GE171
 have NB136_171 := mk_ (Q_NB136_171 hb8_)
 clear Q_NB136_171
 have NB171_136 := mk_ (Q_NB171_136 hb8_)
 clear Q_NB171_136
 have NB137_171 := mk_ (Q_NB137_171 hb8_)
 clear Q_NB137_171
 have NB171_137 := mk_ (Q_NB171_137 hb8_)
 clear Q_NB171_137
 have NB154_171 := mk_ (Q_NB154_171 hb8_)
 clear Q_NB154_171
 have NB171_154 := mk_ (Q_NB171_154 hb8_)
 clear Q_NB171_154
 have BK171 := mk_ (Q_BK171_e9 hb9_)
 clear Q_BK171_e9
 clear hall hb0_ hb1_ hb2_ hb3_ hb4_ hb5_ hb6_ hb7_ hb8_ hb9_ hb10_
 have hnb36 := NB171_136.out
 have hnc36 := NB136_171.out
 have hnb37 := NB171_137.out
 have hnc37 := NB137_171.out
 have hnb38 := NB171_154.out
 have hnc38 := NB154_171.out
 have hcz39_0 : w35.cell? ⟨gb171, 0, none⟩ = some (.int .i64 t165) := (r4 BK171.out 0).trans rfl
 have hcz39_1 : w35.cell? ⟨gb171, 1, none⟩ = some (.int .i64 t166) := (r4 BK171.out 1).trans rfl
 have hcz39_2 : w35.cell? ⟨gb171, 2, none⟩ = some (.int .i64 t167) := (r4 BK171.out 2).trans rfl
 have hcz39_3 : w35.cell? ⟨gb171, 3, none⟩ = some (.int .i64 t168) := (r4 BK171.out 3).trans rfl
 have hcz39_4 : w35.cell? ⟨gb171, 4, none⟩ = some (.int .i64 t169) := (r4 BK171.out 4).trans rfl
 have hfz39_0 := r5 BK171.out 0
 have hfz39_1 := r5 BK171.out 1
 have hfz39_2 := r5 BK171.out 2
 have hfz39_3 := r5 BK171.out 3
 have hfz39_4 := r5 BK171.out 4
 have hnb40 := NB154_136.out
 have hnc40 := NB136_154.out
 have hnb41 := NB154_137.out
 have hnc41 := NB137_154.out
 have hcz42_0 : w35.cell? ⟨gb154, 0, none⟩ = some (.int .i64 t148) := (r4 BK154.out 0).trans rfl
 have hcz42_1 : w35.cell? ⟨gb154, 1, none⟩ = some (.int .i64 t149) := (r4 BK154.out 1).trans rfl
 have hcz42_2 : w35.cell? ⟨gb154, 2, none⟩ = some (.int .i64 t150) := (r4 BK154.out 2).trans rfl
 have hcz42_3 : w35.cell? ⟨gb154, 3, none⟩ = some (.int .i64 t151) := (r4 BK154.out 3).trans rfl
 have hcz42_4 : w35.cell? ⟨gb154, 4, none⟩ = some (.int .i64 t152) := (r4 BK154.out 4).trans rfl
 have hfz42_0 := r5 BK154.out 0
 have hfz42_1 := r5 BK154.out 1
 have hfz42_2 := r5 BK154.out 2
 have hfz42_3 := r5 BK154.out 3
 have hfz42_4 := r5 BK154.out 4
 try go_wp2_with (first | ((with_reducible refine gate_callee (f := 27) rfl ?_); refine goesL_ (some 27) rfl rfl Try.func27 (by kernel_rfl) rfl #[.agg #[.int .i64 t165, .int .i64 t166, .int .i64 t167, .int .i64 t168, .int .i64 t169], .agg #[.int .i64 t148, .int .i64 t149, .int .i64 t150, .int .i64 t151, .int .i64 t152]] rfl (by (try simp only [List.map_toArray, List.map_cons, List.map_nil]); first | done | rfl | (simp only [List.length_drop, List.length_take]; rfl)) ?_; (with_reducible refine (laws_eqCfgOpts.calls t165 t166 t167 t168 t169 t148 t149 t150 t151 t152 true _ A9.out).mono ?_); rintro e w43 ⟨rfl, hb⟩; refine ⟨_, rfl, ?_⟩; have n0_ := mk_ (q6 (g := gb136) (o := .cells #[.int .i64 a0_0, .int .i64 a0_1, .int .i64 a0_2, .int .i64 a0_3, .int .i64 a0_4] 25 (0, 0)) (by (with_reducible repeat (first | refine q1 ?_ _ | refine q2 ?_ | refine q3 ?_ _)); exact BK136.out) hb); have n1_ := mk_ (q6 (g := gb137) (o := .cells #[.int .i64 a1_0, .int .i64 a1_1, .int .i64 a1_2, .int .i64 a1_3, .int .i64 a1_4] 25 (0, 0)) (by (with_reducible repeat (first | refine q1 ?_ _ | refine q2 ?_ | refine q3 ?_ _)); exact BK137.out) hb); have n2_ := mk_ (q6 (g := gb154) (o := .cells #[.int .i64 t148, .int .i64 t149, .int .i64 t150, .int .i64 t151, .int .i64 t152] 29 (0, 0)) (by (with_reducible repeat (first | refine q1 ?_ _ | refine q2 ?_ | refine q3 ?_ _)); exact BK154.out) hb); have n3_ := mk_ (q6 (g := gb171) (o := .cells #[.int .i64 t165, .int .i64 t166, .int .i64 t167, .int .i64 t168, .int .i64 t169] 29 (0, 0)) (by (with_reducible repeat (first | refine q1 ?_ _ | refine q2 ?_ | refine q3 ?_ _)); exact BK171.out) hb); have n4_ := mk_ (r3 (by repeat (first | (with_reducible first | exact HB.out | apply q7 | apply q8 | apply q9 | refine r1 ?_ GE136.out | refine r1 ?_ GE137.out | refine r1 ?_ GE154.out | refine r1 ?_ GE171.out) | exact HB.out)) hb); clear BK136; clear BK137; clear BK154; clear BK171; clear HB; have BK136 := n0_; have BK137 := n1_; have BK154 := n2_; have BK171 := n3_; have HB := n4_; clear n0_ n1_ n2_ n3_ n4_; (try clear hb); (try clear hb2); (try clear hk); (try clear hi)))
 go_ret
 exact ⟨by first | rfl | (simp [errW_none, errW_some] <;> rfl) | (simp [*, errW_none, errW_some] <;> rfl), by repeat (first | (with_reducible first | exact HB.out | apply q7 | apply q8 | apply q9 | refine r1 ?_ GE136.out | refine r1 ?_ GE137.out | refine r1 ?_ GE154.out | refine r1 ?_ GE171.out) | exact HB.out)⟩

end Go.Proofs.Ytfeoeacilclfcaa.QFnExactCfgMeet
