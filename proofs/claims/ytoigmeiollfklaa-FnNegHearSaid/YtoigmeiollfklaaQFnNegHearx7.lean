-- Written by a program of this session, a turned copy of the print (not by print.sh itself). Lean checks it.
import Derived.Test.YtoigmeiollfklaaQFnNegHearx0
import Derived.Test.YtoigmeiollfklaaQFnNegHearx5
import Derived.Test.YtoigmeiollfklaaQFnNegHearx6
namespace Go.Proofs.Ytoigmeiollfklaa.QFnNegHear
open Go.RowKit Go.Proofs.YtoigmeiollfklaaW.PrintWords Go.Proofs.YtoigmeiollfklaaW.PrintLast Go.Proofs.YtoigmeiollfklaaW.PrintMore Go.Proofs.YtoigmeiollfklaaLoc
attribute [local go_sem] max2_int min2_int max_two min_two max_three min_three max_four min_four   -- for this text's walks alone
set_option linter.unusedVariables false
set_option linter.unusedSimpArgs false

/-! ### spec_l20NegMsg: function 56 -/
def spec_l20NegMsg.f (k : Nat) (s0_0 : List Int) (s0_1 : Int) (a1_0 : Int) (a1_1 : Int) (a1_2 : Int) (a1_3 : Int) (a1_4 : Int) (a2 : Int) : Option (Int × Int × Int × Int × Int × Int × Int) := (spec_l20Rd_pick.f k s0_0 s0_1 3).bind fun bt281 => ((spec_l20Rd_pick.f k s0_0 bt281.2 3).bind fun bt284 => (if bt284.1 > 0 then ((spec_l20Cfg.f k s0_0 bt284.2 a2).bind fun bt286 => ((spec_l20Rd_pick.f k s0_0 bt286.2.2.2.2.2 4).bind fun bt292 => (if bt292.1 > 0 then (some (wrap64 (1 + bt281.1), a1_0, bt286.2.1, bt286.2.2.1, bt286.2.2.2.1, bt286.2.2.2.2.1, bt292.2)) else (some (wrap64 (1 + bt281.1), bt286.1, bt286.2.1, bt286.2.2.1, bt286.2.2.2.1, bt286.2.2.2.2.1, bt292.2))))) else (some (wrap64 (1 + bt281.1), a1_0, a1_1, a1_2, a1_3, a1_4, bt284.2))))
theorem spec_l20NegMsg.mono : ∀ a0 a1 a2 a3 a4 a5 a6 a7 k, LeO (spec_l20NegMsg.f k a0 a1 a2 a3 a4 a5 a6 a7) (spec_l20NegMsg.f (k + 1) a0 a1 a2 a3 a4 a5 a6 a7) := by
 intro a0 a1 a2 a3 a4 a5 a6 a7 k
 unfold spec_l20NegMsg.f
 repeat' first
     | (with_reducible exact spec_l20Cfg.mono _ _ _ _)
     | (with_reducible exact spec_l20Rd_pick.mono _ _ _ _)
     | (with_reducible exact LeO.refl _)
     | (with_reducible exact LeO.none _)
     | (with_reducible refine LeO.ite ?_ ?_)
     | (with_reducible refine LeO.bind ?_ (fun _ => ?_))
     | exact spec_l20Cfg.mono _ _ _ _
     | exact spec_l20Rd_pick.mono _ _ _ _
     | exact LeO.none _
     | refine LeO.ite ?_ ?_
     | refine LeO.bind ?_ (fun _ => ?_)
def spec_l20NegMsg.T1 : Bool × List (List Nat × List Nat) := (true, [([], []), ([0], [0]), ([1], [1]), ([], []), ([2, 3], [2, 3]), ([], []), ([5, 4, 1, 0, 1, 2, 3, 4, 5], [4, 5])])
def spec_l20NegMsg.B1 : List Nat := [0, 1, 3, 0, 15, 0, 63]
theorem spec_l20NegMsg.tab1 : rtab .any (opsOf Try.f56 1) = spec_l20NegMsg.T1 := by kernel_rfl
theorem spec_l20NegMsg.bits1 : waitsOk spec_l20NegMsg.T1.2 spec_l20NegMsg.B1 = true := by kernel_rfl
set_option maxHeartbeats 60000000 in
set_option maxRecDepth 100000 in
theorem spec_l20NegMsg.calls (k : Nat) (g : Nat) (s0_0 : List Int) (s0_1 : Int) (a1_0 : Int) (a1_1 : Int) (a1_2 : Int) (a1_3 : Int) (a1_4 : Int) (a2 : Int) (r1 : Int) (r2 : Int) (r3 : Int) (r4 : Int) (r5 : Int) (r6 : Int) (r7 : Int) (w0 w : World) (hI : IsS93 w0 w g s0_0 s0_1) (hB : Below w0.heap.size w0 w) (h : spec_l20NegMsg.f k s0_0 s0_1 a1_0 a1_1 a1_2 a1_3 a1_4 a2 = some (r1, r2, r3, r4, r5, r6, r7)) :
    Calls Try.prog 56 #[.pointer (some ⟨g, 0, none⟩), .agg #[.int .i64 a1_0, .int .i64 a1_1, .int .i64 a1_2, .int .i64 a1_3, .int .i64 a1_4], .int .i64 a2] w fun e w' => e = .returned (.agg #[.int .i64 r1, .int .i64 r2, .int .i64 r3, .int .i64 r4, .int .i64 r5, .int .i64 r6]) ∧ IsS93 w0 w' g s0_0 r7 ∧ Below w0.heap.size w0 w' ∧ KeepBut w w' g none := by
 have hu28 := Try.underlying28
 have hu32 := Try.underlying32
 have HI0 := mk_ hI
 have HGL := mk_ hI.lt
 have HK := mk_ (KeepBut.refl w g none)
 have HL := mk_ hB.size
 clear hI
 have HW0 := mk_ hB.size
 have HB := mk_ hB
 clear hB
 have H : ((spec_l20Rd_pick.f k s0_0 s0_1 3).bind fun bt281 => ((spec_l20Rd_pick.f k s0_0 bt281.2 3).bind fun bt284 => (if bt284.1 > 0 then ((spec_l20Cfg.f k s0_0 bt284.2 a2).bind fun bt286 => ((spec_l20Rd_pick.f k s0_0 bt286.2.2.2.2.2 4).bind fun bt292 => (if bt292.1 > 0 then (some (wrap64 (1 + bt281.1), a1_0, bt286.2.1, bt286.2.2.1, bt286.2.2.2.1, bt286.2.2.2.2.1, bt292.2)) else (some (wrap64 (1 + bt281.1), bt286.1, bt286.2.1, bt286.2.2.1, bt286.2.2.2.1, bt286.2.2.2.2.1, bt292.2))))) else (some (wrap64 (1 + bt281.1), a1_0, a1_1, a1_2, a1_3, a1_4, bt284.2))))) = some (r1, r2, r3, r4, r5, r6, r7) := h
 clear h
 replace H := Option.bind_eq_some_iff.mp H
 obtain ⟨⟨t281, t282⟩, A40, H⟩ := H
 try dsimp only at H
 have A4 := mk_ A40
 clear A40
 replace H := Option.bind_eq_some_iff.mp H
 obtain ⟨⟨t284, t285⟩, A50, H⟩ := H
 try dsimp only at H
 have A5 := mk_ A50
 clear A50
 by_cases c6 : t284 > 0
 rotate_left
 · rw [if_neg c6] at H
   have c6b0 : decide (0 < t284) = false := decide_eq_false c6
   clear c6
   simp only [Option.some.injEq, Prod.mk.injEq] at H
   obtain ⟨rfl, rfl, rfl, rfl, rfl, rfl, rfl⟩ := H
   go_enter Try.func56, Try.ntmps56
   try go_wp2_with (first | ((with_reducible refine gate_dst (N := 4) rfl ?_); refine box_event ?hg (N := 4) ?hd (cs := #[.int .i64 a1_0, .int .i64 a1_1, .int .i64 a1_2, .int .i64 a1_3, .int .i64 a1_4]) (t := 28) ?hr ?_; (case hd => rfl); (case hg => rfl); (case hr => first | (go_simp; done) | (go_simp; rfl)); intro gb279 hg w58 hbox hb; replace HB := mk_ (zr3 (by repeat (first | (with_reducible first | exact HB.out | apply zq7 | apply zq8 | apply zq9 | refine zr1 ?_ (IsS93.ge HI0.out)) | exact HB.out)) hb); have BK279 := mk_ (hbox); have GW279 := mk_ ((by rw [hg]; exact (keep_size (w := w) (g := g) (row := none) (by repeat (first | (with_reducible first | exact HK.out | apply zm1 | apply zr7 | apply zr8 | apply zr9) | exact HK.out))) : w.heap.size ≤ gb279)); have GE279 := mk_ ((Nat.le_trans HW0.out (by rw [hg]; exact (keep_size (w := w) (g := g) (row := none) (by repeat (first | (with_reducible first | exact HK.out | apply zm1 | apply zr7 | apply zr8 | apply zr9) | exact HK.out))) : w.heap.size ≤ gb279) : w0.heap.size ≤ gb279)); replace HK := mk_ (KeepBut.trans (by repeat (first | (with_reducible first | exact HK.out | apply zm1 | apply zr7 | apply zr8 | apply zr9) | exact HK.out)) (KeepBut.of_below hb g none) (.inl rfl)); have NB0_279 := mk_ ((by rw [hg]; exact zm2 (IsS93.lt (show IsS93 w0 _ g s0_0 s0_1 from by repeat (first | (with_reducible first | exact HI0.out | apply IsS93.alloc | apply IsS93.drewN | apply IsS93.drew | apply IsS93.set_1) | exact HI0.out))) : g ≠ gb279)); replace HI0 := mk_ (IsS93.below (by repeat (first | (with_reducible first | exact HI0.out | apply IsS93.alloc | apply IsS93.drewN | apply IsS93.drew | apply IsS93.set_1) | exact HI0.out)) hb); have NB279_0 := mk_ NB0_279.out.symm; clear hb hbox hg) | ((with_reducible refine gate_dst (N := 6) rfl ?_); refine box_event ?hg (N := 6) ?hd (cs := #[.int .i64 0, .int .i64 0, .int .i64 0, .int .i64 0, .int .i64 0, .int .i64 0]) (t := 32) ?hr ?_; (case hd => rfl); (case hg => rfl); (case hr => first | (go_simp; done) | (go_simp; rfl)); intro gb280 hg w59 hbox hb; replace HB := mk_ (zr3 (by repeat (first | (with_reducible first | exact HB.out | apply zq7 | apply zq8 | apply zq9 | refine zr1 ?_ (IsS93.ge HI0.out) | refine zr1 ?_ GE279.out) | exact HB.out)) hb); have BK280 := mk_ (hbox); have GW280 := mk_ ((by rw [hg]; exact (keep_size (w := w) (g := g) (row := none) (by repeat (first | (with_reducible first | exact HK.out | apply zm1 | apply zr7 | apply zr8 | apply zr9 | refine keep_far ?_ GW279.out _) | exact HK.out))) : w.heap.size ≤ gb280)); have GE280 := mk_ ((Nat.le_trans HW0.out (by rw [hg]; exact (keep_size (w := w) (g := g) (row := none) (by repeat (first | (with_reducible first | exact HK.out | apply zm1 | apply zr7 | apply zr8 | apply zr9 | refine keep_far ?_ GW279.out _) | exact HK.out))) : w.heap.size ≤ gb280) : w0.heap.size ≤ gb280)); replace HK := mk_ (KeepBut.trans (by repeat (first | (with_reducible first | exact HK.out | apply zm1 | apply zr7 | apply zr8 | apply zr9 | refine keep_far ?_ GW279.out _) | exact HK.out)) (KeepBut.of_below hb g none) (.inl rfl)); have NB279_280 := mk_ ((by rw [hg]; exact zm2 (zr6 (by exact BK279.out)) : gb279 ≠ gb280)); replace BK279 := mk_ (zq6 (by exact BK279.out) hb); have NB280_279 := mk_ NB279_280.out.symm; have NB0_280 := mk_ ((by rw [hg]; exact zm2 (IsS93.lt (show IsS93 w0 _ g s0_0 s0_1 from by repeat (first | (with_reducible first | exact HI0.out | apply IsS93.alloc | apply IsS93.drewN | apply IsS93.drew | apply IsS93.set_1 | refine IsS93.far ?_ NB0_279.out _) | exact HI0.out))) : g ≠ gb280)); replace HI0 := mk_ (IsS93.below (by repeat (first | (with_reducible first | exact HI0.out | apply IsS93.alloc | apply IsS93.drewN | apply IsS93.drew | apply IsS93.set_1 | refine IsS93.far ?_ NB0_279.out _) | exact HI0.out)) hb); have NB280_0 := mk_ NB0_280.out.symm; clear hb hbox hg))
   replace BK279 := mk_ (zq2 BK279.out)
   replace BK280 := mk_ (zq2 BK280.out)
   replace HI0 := mk_ (IsS93.drew HI0.out)
   replace HK := mk_ (zr8 HK.out)
   replace HB := mk_ (zq9 HB.out)
   refine start_ (n := 7) (S := fun w' => True) (ds := []) (bm 7 0) (by kernel_rfl) rfl rfl trivial (fun hHeld => ?_); refine with_tabW spec_l20NegMsg.tab1 spec_l20NegMsg.bits1 (fun HT_ HW_ => ?_)
   generalize w59.drew = w60 at BK279 BK280 HI0 HK HB hHeld ⊢
   refine pA 0 (some 8) (bm 7 1) rfl rfl HT_.out (by kernel_rfl) (fun _ _ _ h => h) (by rfl) (by intro w'; go_simp; with_reducible rfl) (by simp only [Act.put, zs1, zs2, zs3, i64_w, i32_w]; rfl) ?_
   refine inv_at [1, 2, 3, 4, 5, 6] (fun a0_ b a w' => ∃ (gb283 : Nat) (m5_ : Value), a = putSel a0_ b [(1, 9, .int .i64 t281), (2, 10, .int .i64 (wrap64 (1 + t281))), (3, 11, .agg #[.int .i64 a1_0, .int .i64 a1_1, .int .i64 a1_2, .int .i64 a1_3, .int .i64 a1_4]), (4, 12, .agg #[.int .i64 (wrap64 (1 + t281)), .int .i64 a1_0, .int .i64 a1_1, .int .i64 a1_2, .int .i64 a1_3, .int .i64 a1_4]), (5, 7, m5_)] ∧ (w'.heap[gb279]? = some (.cells #[.int .i64 a1_0, .int .i64 a1_1, .int .i64 a1_2, .int .i64 a1_3, .int .i64 a1_4] 28 (0, 0))) ∧ (w'.heap[gb280]? = some (.cells #[.int .i64 0, .int .i64 0, .int .i64 0, .int .i64 0, .int .i64 0, .int .i64 0] 32 (0, 0))) ∧ (b 1 = false → IsS93 w0 w' g s0_0 s0_1) ∧ (KeepBut w w' g none) ∧ (Below w0.heap.size w0 w') ∧ (b 1 = true → IsS93 w0 w' g s0_0 t282) ∧ (b 5 = true → b 6 = false → w'.heap[gb283]? = some (.cells #[.int .i64 0, .int .i64 0, .int .i64 0, .int .i64 0, .int .i64 0, .int .i64 0] 32 (0, 0))) ∧ (b 5 = true → w.heap.size ≤ gb283) ∧ (b 5 = true → w0.heap.size ≤ gb283) ∧ (b 5 = true → g ≠ gb283) ∧ (b 5 = true → gb283 ≠ g) ∧ (b 5 = true → gb279 ≠ gb283) ∧ (b 5 = true → gb283 ≠ gb279) ∧ (b 5 = true → gb280 ≠ gb283) ∧ (b 5 = true → gb283 ≠ gb280) ∧ (b 6 = true → w'.heap[gb283]? = some (.cells #[.int .i64 (wrap64 (1 + t281)), .int .i64 a1_0, .int .i64 a1_1, .int .i64 a1_2, .int .i64 a1_3, .int .i64 a1_4] 32 (0, 0))) ∧ (b 5 = true → (m5_ : Value) = .pointer (some ⟨gb283, 0, none⟩))) HT_.out HW_.out (by kernel_rfl) (by kernel_rfl) ?_ ?_ ?_
   · exact ⟨0, .bool false, by simp only [putSel, Bool.false_eq_true, if_false], BK279.out, BK280.out, fun _ => HI0.out, HK.out, HB.out, fun h_ => absurd h_ (by decide), fun h_ => absurd h_ (by decide), fun h_ => absurd h_ (by decide), fun h_ => absurd h_ (by decide), fun h_ => absurd h_ (by decide), fun h_ => absurd h_ (by decide), fun h_ => absurd h_ (by decide), fun h_ => absurd h_ (by decide), fun h_ => absurd h_ (by decide), fun h_ => absurd h_ (by decide), fun h_ => absurd h_ (by decide), fun h_ => absurd h_ (by decide)⟩
   · skip
     clear BK279 BK280 HB HI0 HK
     refine steps_cons ?_ ?_
     · rintro b a w' ⟨gb283, m5_, ha, Q_BK279, Q_BK280, Q_HI0, Q_HK, Q_HB, Q_HI0_e1, Q_BK283, Q_GW283, Q_GE283, Q_NB0_283, Q_NB283_0, Q_NB279_283, Q_NB283_279, Q_NB280_283, Q_NB283_280, Q_BK283_e6, Q_X5_⟩ hb_ hon hoff
       refine ⟨_, rfl, fun K hK => ?_⟩
       have e8 : a.tmps[8]? = some (.pointer (some ⟨g, 0, none⟩)) := by rw [ha]; exact (putSel_off rfl).trans rfl
       replace ha := mk_ ha
       have BK279 := mk_ Q_BK279
       have BK280 := mk_ Q_BK280
       have HI0 := mk_ (Q_HI0 hb_)
       have HK := mk_ Q_HK
       have HB := mk_ Q_HB
       refine goes_ Try.func58 (by kernel_rfl) rfl #[.pointer (some ⟨g, 0, none⟩), .int .i64 3] (by rfl) rfl rfl (by first | (simp only [List.map_toArray, List.map_cons, List.map_nil, Act.eval, Array.getD_eq_getD_getElem?, Option.getD_some, e8]; done) | (simp only [List.map_toArray, List.map_cons, List.map_nil, Act.eval, Array.getD_eq_getD_getElem?, Option.getD_some, e8]; rfl)) ?_
       with_reducible refine (spec_l20Rd_pick.calls k g s0_0 s0_1 3 t281 t282 w0 _ ?side1 ?side2 A4.out).mono ?_
       (case side1 => repeat (first | (with_reducible first | exact HI0.out | apply IsS93.alloc | apply IsS93.drewN | apply IsS93.drew | apply IsS93.set_1 | refine IsS93.far ?_ NB0_279.out _ | refine IsS93.far ?_ NB0_280.out _) | exact HI0.out))
       (case side2 => repeat (first | (with_reducible first | exact HB.out | apply zq7 | apply zq8 | apply zq9 | refine zr1 ?_ (IsS93.ge HI0.out) | refine zr1 ?_ GE279.out | refine zr1 ?_ GE280.out) | exact HB.out))
       rintro e w61 ⟨rfl, hi, hb, hk⟩
       refine ⟨_, rfl, ?_⟩
       have n0_ := mk_ (KeepBut.blk hk (g' := gb279) (o := .cells #[.int .i64 a1_0, .int .i64 a1_1, .int .i64 a1_2, .int .i64 a1_3, .int .i64 a1_4] 28 (0, 0)) (by exact BK279.out) NB279_0.out (by simp))
       have n1_ := mk_ (KeepBut.blk hk (g' := gb280) (o := .cells #[.int .i64 0, .int .i64 0, .int .i64 0, .int .i64 0, .int .i64 0, .int .i64 0] 32 (0, 0)) (by exact BK280.out) NB280_0.out (by simp))
       have n2_ := mk_ (KeepBut.trans (by repeat (first | (with_reducible first | exact HK.out | apply zm1 | apply zr7 | apply zr8 | apply zr9 | refine keep_far ?_ GW279.out _ | refine keep_far ?_ GW280.out _) | exact HK.out)) hk (.inl rfl))
       have n3_ := mk_ (hb)
       have n4_ := mk_ (hi)
       have z_BK283 := fun (h0_ : b 5 = true) (h1_ : b 6 = false) => (show w61.heap[gb283]? = some (.cells #[.int .i64 0, .int .i64 0, .int .i64 0, .int .i64 0, .int .i64 0, .int .i64 0] 32 (0, 0)) from by first | exact (KeepBut.blk hk (g' := gb283) (o := .cells #[.int .i64 0, .int .i64 0, .int .i64 0, .int .i64 0, .int .i64 0, .int .i64 0] 32 (0, 0)) (by (with_reducible repeat (first | refine zq1 ?_ _ | refine zq2 ?_ | refine zq3 ?_ _)); exact (Q_BK283 h0_ h1_)) (Q_NB283_0 h0_) (by simp)))
       clear BK279
       clear BK280
       clear HK
       clear HB
       clear HI0
       have BK279 := n0_
       have BK280 := n1_
       have HK := n2_
       have HB := n3_
       have HI0 := n4_
       clear n0_ n1_ n2_ n3_ n4_
       (try clear hb)
       (try clear hb2)
       (try clear hk)
       (try clear hi)
       refine hK.out _ _ ⟨gb283, m5_, (by rw [ha.out]; exact putSel_upk 0 hb_ rfl rfl rfl), (by exact BK279.out), (by exact BK280.out), fun h0_ => absurd ((up_self b 1).symm.trans h0_) (by decide), (by repeat (first | (with_reducible first | exact HK.out | apply zm1 | apply zr7 | apply zr8 | apply zr9 | refine keep_far ?_ GW279.out _ | refine keep_far ?_ GW280.out _) | exact HK.out)), (by repeat (first | (with_reducible first | exact HB.out | apply zq7 | apply zq8 | apply zq9 | refine zr1 ?_ (IsS93.ge HI0.out) | refine zr1 ?_ GE279.out | refine zr1 ?_ GE280.out) | exact HB.out)), fun _ => (by repeat (first | (with_reducible first | exact HI0.out | apply IsS93.alloc | apply IsS93.drewN | apply IsS93.drew | apply IsS93.set_1 | refine IsS93.far ?_ NB0_279.out _ | refine IsS93.far ?_ NB0_280.out _) | exact HI0.out)), z_BK283, Q_GW283, Q_GE283, Q_NB0_283, Q_NB283_0, Q_NB279_283, Q_NB283_279, Q_NB280_283, Q_NB283_280, fun h0_ => absurd ((hoff 6 (by kernel_rfl)).symm.trans h0_) (by decide), Q_X5_⟩
     refine steps_cons ?_ ?_
     · rintro b a w' ⟨gb283, m5_, ha, Q_BK279, Q_BK280, Q_HI0, Q_HK, Q_HB, Q_HI0_e1, Q_BK283, Q_GW283, Q_GE283, Q_NB0_283, Q_NB283_0, Q_NB279_283, Q_NB283_279, Q_NB280_283, Q_NB283_280, Q_BK283_e6, Q_X5_⟩ hb_ hon hoff
       refine ⟨_, rfl, fun K hK => ?_⟩
       have e9 : a.tmps[9]? = some (.int .i64 t281) := by rw [ha]; exact putSel_on (e := (1, 9, .int .i64 t281)) 0 rfl rfl (hon 1 (by kernel_rfl)) rfl
       replace ha := mk_ ha
       have BK279 := mk_ Q_BK279
       have BK280 := mk_ Q_BK280
       have HK := mk_ Q_HK
       have HB := mk_ Q_HB
       have HI0 := mk_ (Q_HI0_e1 (hon 1 (by kernel_rfl)))
       refine value_ (w1 := w') (v := .int .i64 (wrap64 (1 + t281))) (by rfl) rfl ?_ ?_
       · go_simp
         (try simp only [i64_w])
         try rfl
       refine hK.out _ _ ⟨gb283, m5_, (by rw [ha.out]; exact putSel_upk 1 hb_ rfl rfl rfl), Q_BK279, Q_BK280, fun h0_ => absurd ((hon 1 (by kernel_rfl)).symm.trans h0_) (by decide), Q_HK, Q_HB, Q_HI0_e1, Q_BK283, Q_GW283, Q_GE283, Q_NB0_283, Q_NB283_0, Q_NB279_283, Q_NB283_279, Q_NB280_283, Q_NB283_280, fun h0_ => absurd ((hoff 6 (by kernel_rfl)).symm.trans h0_) (by decide), Q_X5_⟩
     refine steps_cons ?_ ?_
     · rintro b a w' ⟨gb283, m5_, ha, Q_BK279, Q_BK280, Q_HI0, Q_HK, Q_HB, Q_HI0_e1, Q_BK283, Q_GW283, Q_GE283, Q_NB0_283, Q_NB283_0, Q_NB279_283, Q_NB283_279, Q_NB280_283, Q_NB283_280, Q_BK283_e6, Q_X5_⟩ hb_ hon hoff
       refine ⟨_, rfl, fun K hK => ?_⟩
       have e4 : a.tmps[4]? = some (.pointer (some ⟨gb279, 0, none⟩)) := by rw [ha]; exact (putSel_off rfl).trans rfl
       replace ha := mk_ ha
       have BK279 := mk_ Q_BK279
       have BK280 := mk_ Q_BK280
       have HK := mk_ Q_HK
       have HB := mk_ Q_HB
       have hc0_ : w'.cell? ⟨gb279, 0, none⟩ = some (.int .i64 a1_0) := (zr4 BK279.out 0).trans rfl
       have hc1_ : w'.cell? ⟨gb279, 1, none⟩ = some (.int .i64 a1_1) := (zr4 BK279.out 1).trans rfl
       have hc2_ : w'.cell? ⟨gb279, 2, none⟩ = some (.int .i64 a1_2) := (zr4 BK279.out 2).trans rfl
       have hc3_ : w'.cell? ⟨gb279, 3, none⟩ = some (.int .i64 a1_3) := (zr4 BK279.out 3).trans rfl
       have hc4_ : w'.cell? ⟨gb279, 4, none⟩ = some (.int .i64 a1_4) := (zr4 BK279.out 4).trans rfl
       refine value_ (w1 := w') (v := .agg #[.int .i64 a1_0, .int .i64 a1_1, .int .i64 a1_2, .int .i64 a1_3, .int .i64 a1_4]) (by rfl) rfl ?_ ?_
       · go_simp
         (try simp only [i64_w])
         try rfl
       refine hK.out _ _ ⟨gb283, m5_, (by rw [ha.out]; exact putSel_upk 2 hb_ rfl rfl rfl), Q_BK279, Q_BK280, Q_HI0, Q_HK, Q_HB, Q_HI0_e1, Q_BK283, Q_GW283, Q_GE283, Q_NB0_283, Q_NB283_0, Q_NB279_283, Q_NB283_279, Q_NB280_283, Q_NB283_280, fun h0_ => absurd ((hoff 6 (by kernel_rfl)).symm.trans h0_) (by decide), Q_X5_⟩
     refine steps_cons ?_ ?_
     · rintro b a w' ⟨gb283, m5_, ha, Q_BK279, Q_BK280, Q_HI0, Q_HK, Q_HB, Q_HI0_e1, Q_BK283, Q_GW283, Q_GE283, Q_NB0_283, Q_NB283_0, Q_NB279_283, Q_NB283_279, Q_NB280_283, Q_NB283_280, Q_BK283_e6, Q_X5_⟩ hb_ hon hoff
       refine ⟨_, rfl, fun K hK => ?_⟩
       have e10 : a.tmps[10]? = some (.int .i64 (wrap64 (1 + t281))) := by rw [ha]; exact putSel_on (e := (2, 10, .int .i64 (wrap64 (1 + t281)))) 1 rfl rfl (hon 2 (by kernel_rfl)) rfl
       have e11 : a.tmps[11]? = some (.agg #[.int .i64 a1_0, .int .i64 a1_1, .int .i64 a1_2, .int .i64 a1_3, .int .i64 a1_4]) := by rw [ha]; exact putSel_on (e := (3, 11, .agg #[.int .i64 a1_0, .int .i64 a1_1, .int .i64 a1_2, .int .i64 a1_3, .int .i64 a1_4])) 2 rfl rfl (hon 3 (by kernel_rfl)) rfl
       replace ha := mk_ ha
       have BK279 := mk_ Q_BK279
       have BK280 := mk_ Q_BK280
       have HK := mk_ Q_HK
       have HB := mk_ Q_HB
       have HI0 := mk_ (Q_HI0_e1 (hon 1 (by kernel_rfl)))
       refine value_ (w1 := w') (v := .agg #[.int .i64 (wrap64 (1 + t281)), .int .i64 a1_0, .int .i64 a1_1, .int .i64 a1_2, .int .i64 a1_3, .int .i64 a1_4]) (by rfl) rfl ?_ ?_
       · go_simp
         (try simp only [i64_w])
         try rfl
       refine hK.out _ _ ⟨gb283, m5_, (by rw [ha.out]; exact putSel_upk 3 hb_ rfl rfl rfl), Q_BK279, Q_BK280, fun h0_ => absurd ((hon 1 (by kernel_rfl)).symm.trans h0_) (by decide), Q_HK, Q_HB, Q_HI0_e1, Q_BK283, Q_GW283, Q_GE283, Q_NB0_283, Q_NB283_0, Q_NB279_283, Q_NB283_279, Q_NB280_283, Q_NB283_280, fun h0_ => absurd ((hoff 6 (by kernel_rfl)).symm.trans h0_) (by decide), Q_X5_⟩
     refine steps_cons ?_ ?_
     · rintro b a w' ⟨gb283, m5_, ha, Q_BK279, Q_BK280, Q_HI0, Q_HK, Q_HB, Q_HI0_e1, Q_BK283, Q_GW283, Q_GE283, Q_NB0_283, Q_NB283_0, Q_NB279_283, Q_NB283_279, Q_NB280_283, Q_NB283_280, Q_BK283_e6, Q_X5_⟩ hb_ hon hoff
       refine ⟨_, rfl, fun K hK => ?_⟩
       replace ha := mk_ ha
       have BK279 := mk_ Q_BK279
       have BK280 := mk_ Q_BK280
       have HK := mk_ Q_HK
       have HB := mk_ Q_HB
       refine box_step ?hg (N := 7) ?hd (cs := #[.int .i64 0, .int .i64 0, .int .i64 0, .int .i64 0, .int .i64 0, .int .i64 0]) (t := 32) ?hr ?_; (case hd => rfl); (case hg => rfl); (case hr => first | (go_simp; done) | (go_simp; rfl))
       intro gb283 hg w61 hbox hb
       have n1_ := mk_ (zq6 (by exact BK279.out) hb)
       have n2_ := mk_ (zq6 (by exact BK280.out) hb)
       have n3_ := mk_ (KeepBut.trans (by repeat (first | (with_reducible first | exact HK.out | apply zm1 | apply zr7 | apply zr8 | apply zr9 | refine keep_far ?_ GW279.out _ | refine keep_far ?_ GW280.out _) | exact HK.out)) (KeepBut.of_below hb g none) (.inl rfl))
       have n4_ := mk_ (zr3 (by repeat (first | (with_reducible first | exact HB.out | apply zq7 | apply zq8 | apply zq9 | refine zr1 ?_ GE279.out | refine zr1 ?_ GE280.out) | exact HB.out)) hb)
       have n5_ := mk_ (hbox)
       have n6_ := mk_ ((by rw [hg]; exact (keep_size (w := w) (g := g) (row := none) (by repeat (first | (with_reducible first | exact HK.out | apply zm1 | apply zr7 | apply zr8 | apply zr9 | refine keep_far ?_ GW279.out _ | refine keep_far ?_ GW280.out _) | exact HK.out))) : w.heap.size ≤ gb283))
       have n7_ := mk_ ((Nat.le_trans HW0.out (by rw [hg]; exact (keep_size (w := w) (g := g) (row := none) (by repeat (first | (with_reducible first | exact HK.out | apply zm1 | apply zr7 | apply zr8 | apply zr9 | refine keep_far ?_ GW279.out _ | refine keep_far ?_ GW280.out _) | exact HK.out))) : w.heap.size ≤ gb283) : w0.heap.size ≤ gb283))
       have n8_ := mk_ ((by rw [hg]; exact zm2 (zr6 (by exact BK279.out)) : gb279 ≠ gb283))
       have n9_ := mk_ ((by rw [hg]; exact zm3 (zr6 (by exact BK279.out)) : gb283 ≠ gb279))
       have n10_ := mk_ ((by rw [hg]; exact zm2 (zr6 (by exact BK280.out)) : gb280 ≠ gb283))
       have n11_ := mk_ ((by rw [hg]; exact zm3 (zr6 (by exact BK280.out)) : gb283 ≠ gb280))
       have n12_ := mk_ ((by rw [hg]; exact zm2 (Nat.lt_of_lt_of_le HGL.out (keep_size (w := w) (g := g) (row := none) (by repeat (first | (with_reducible first | exact HK.out | apply zm1 | apply zr7 | apply zr8 | apply zr9) | exact HK.out)))) : g ≠ gb283))
       have n13_ := mk_ ((by rw [hg]; exact zm3 (Nat.lt_of_lt_of_le HGL.out (keep_size (w := w) (g := g) (row := none) (by repeat (first | (with_reducible first | exact HK.out | apply zm1 | apply zr7 | apply zr8 | apply zr9) | exact HK.out)))) : gb283 ≠ g))
       have z_HI0 := fun (h0_ : b 1 = false) => (show IsS93 w0 w61 g s0_0 s0_1 from by first | exact (IsS93.below (by repeat (first | (with_reducible first | exact (Q_HI0 h0_) | apply IsS93.alloc | apply IsS93.drewN | apply IsS93.drew | apply IsS93.set_1 | refine IsS93.far ?_ NB0_279.out _ | refine IsS93.far ?_ NB0_280.out _) | exact (Q_HI0 h0_))) hb))
       have z_HI0_e1 := fun (h0_ : b 1 = true) => (show IsS93 w0 w61 g s0_0 t282 from by first | exact (IsS93.below (by repeat (first | (with_reducible first | exact (Q_HI0_e1 h0_) | apply IsS93.alloc | apply IsS93.drewN | apply IsS93.drew | apply IsS93.set_1 | refine IsS93.far ?_ NB0_279.out _ | refine IsS93.far ?_ NB0_280.out _) | exact (Q_HI0_e1 h0_))) hb))
       clear BK279
       clear BK280
       clear HK
       clear HB
       have BK279 := n1_
       have BK280 := n2_
       have HK := n3_
       have HB := n4_
       have BK283 := n5_
       have GW283 := n6_
       have GE283 := n7_
       have NB279_283 := n8_
       have NB283_279 := n9_
       have NB280_283 := n10_
       have NB283_280 := n11_
       have NB0_283 := n12_
       have NB283_0 := n13_
       clear n1_ n2_ n3_ n4_ n5_ n6_ n7_ n8_ n9_ n10_ n11_ n12_ n13_
       clear hb hbox hg
       refine hK.out _ _ ⟨gb283, (.pointer (some ⟨gb283, 0, none⟩)), (by rw [ha.out]; exact putSel_upk 4 hb_ rfl rfl rfl), (by exact BK279.out), (by exact BK280.out), z_HI0, (by repeat (first | (with_reducible first | exact HK.out | apply zm1 | apply zr7 | apply zr8 | apply zr9 | refine keep_far ?_ GW279.out _ | refine keep_far ?_ GW280.out _ | refine keep_far ?_ GW283.out _) | exact HK.out)), (by repeat (first | (with_reducible first | exact HB.out | apply zq7 | apply zq8 | apply zq9 | refine zr1 ?_ GE279.out | refine zr1 ?_ GE280.out | refine zr1 ?_ GE283.out) | exact HB.out)), z_HI0_e1, fun _ _ => (by exact BK283.out), fun _ => GW283.out, fun _ => GE283.out, fun _ => NB0_283.out, fun _ => NB283_0.out, fun _ => NB279_283.out, fun _ => NB283_279.out, fun _ => NB280_283.out, fun _ => NB283_280.out, fun h0_ => absurd ((hoff 6 (by kernel_rfl)).symm.trans h0_) (by decide), fun _ => rfl⟩
     refine steps_cons ?_ ?_
     · rintro b a w' ⟨gb283, m5_, ha, Q_BK279, Q_BK280, Q_HI0, Q_HK, Q_HB, Q_HI0_e1, Q_BK283, Q_GW283, Q_GE283, Q_NB0_283, Q_NB283_0, Q_NB279_283, Q_NB283_279, Q_NB280_283, Q_NB283_280, Q_BK283_e6, Q_X5_⟩ hb_ hon hoff
       refine ⟨_, rfl, fun K hK => ?_⟩
       have e7 : a.tmps[7]? = some (m5_) := by rw [ha]; exact putSel_on (e := (5, 7, m5_)) 4 rfl rfl (hon 5 (by kernel_rfl)) rfl
       rw [Q_X5_ (hon 5 (by kernel_rfl))] at e7
       have e12 : a.tmps[12]? = some (.agg #[.int .i64 (wrap64 (1 + t281)), .int .i64 a1_0, .int .i64 a1_1, .int .i64 a1_2, .int .i64 a1_3, .int .i64 a1_4]) := by rw [ha]; exact putSel_on (e := (4, 12, .agg #[.int .i64 (wrap64 (1 + t281)), .int .i64 a1_0, .int .i64 a1_1, .int .i64 a1_2, .int .i64 a1_3, .int .i64 a1_4])) 3 rfl rfl (hon 4 (by kernel_rfl)) rfl
       replace ha := mk_ ha
       have BK279 := mk_ Q_BK279
       have BK280 := mk_ Q_BK280
       have HK := mk_ Q_HK
       have HB := mk_ Q_HB
       have HI0 := mk_ (Q_HI0_e1 (hon 1 (by kernel_rfl)))
       have BK283 := mk_ (Q_BK283 (hon 5 (by kernel_rfl)) hb_)
       have GW283 := mk_ (Q_GW283 (hon 5 (by kernel_rfl)))
       have GE283 := mk_ (Q_GE283 (hon 5 (by kernel_rfl)))
       have NB0_283 := mk_ (Q_NB0_283 (hon 5 (by kernel_rfl)))
       have NB283_0 := mk_ (Q_NB283_0 (hon 5 (by kernel_rfl)))
       have NB279_283 := mk_ (Q_NB279_283 (hon 5 (by kernel_rfl)))
       have NB283_279 := mk_ (Q_NB283_279 (hon 5 (by kernel_rfl)))
       have NB280_283 := mk_ (Q_NB280_283 (hon 5 (by kernel_rfl)))
       have NB283_280 := mk_ (Q_NB283_280 (hon 5 (by kernel_rfl)))
       have hs64 : w'.cell? ⟨gb283, 0, none⟩ = some (.int .i64 0) := (zr4 BK283.out 0).trans rfl
       have hfs64 := zr5 BK283.out 0
       have hns64_0 := NB279_283.out
       have hns64_1 := NB280_283.out
       have hms64_0 := NB283_279.out
       have hms64_1 := NB283_280.out
       have hs65 : w'.cell? ⟨gb283, 1, none⟩ = some (.int .i64 0) := (zr4 BK283.out 1).trans rfl
       have hfs65 := zr5 BK283.out 1
       have hns65_0 := NB279_283.out
       have hns65_1 := NB280_283.out
       have hms65_0 := NB283_279.out
       have hms65_1 := NB283_280.out
       have hs66 : w'.cell? ⟨gb283, 2, none⟩ = some (.int .i64 0) := (zr4 BK283.out 2).trans rfl
       have hfs66 := zr5 BK283.out 2
       have hns66_0 := NB279_283.out
       have hns66_1 := NB280_283.out
       have hms66_0 := NB283_279.out
       have hms66_1 := NB283_280.out
       have hs67 : w'.cell? ⟨gb283, 3, none⟩ = some (.int .i64 0) := (zr4 BK283.out 3).trans rfl
       have hfs67 := zr5 BK283.out 3
       have hns67_0 := NB279_283.out
       have hns67_1 := NB280_283.out
       have hms67_0 := NB283_279.out
       have hms67_1 := NB283_280.out
       have hs68 : w'.cell? ⟨gb283, 4, none⟩ = some (.int .i64 0) := (zr4 BK283.out 4).trans rfl
       have hfs68 := zr5 BK283.out 4
       have hns68_0 := NB279_283.out
       have hns68_1 := NB280_283.out
       have hms68_0 := NB283_279.out
       have hms68_1 := NB283_280.out
       have hs69 : w'.cell? ⟨gb283, 5, none⟩ = some (.int .i64 0) := (zr4 BK283.out 5).trans rfl
       have hfs69 := zr5 BK283.out 5
       have hns69_0 := NB279_283.out
       have hns69_1 := NB280_283.out
       have hms69_0 := NB283_279.out
       have hms69_1 := NB283_280.out
       refine skip_ (w1 := ?_) (by rfl) rfl ?_ ?_
       rotate_left
       · go_simp
         rfl
       refine hK.out _ _ ⟨gb283, m5_, (by rw [ha.out]; exact putSel_none (v := undef) rfl), (by (with_reducible repeat (first | refine zq1 ?_ _ | refine zq2 ?_ | refine zq3 ?_ _)); refine fa6 ?_ NB279_283.out; (with_reducible repeat (first | refine zq1 ?_ _ | refine zq2 ?_ | refine zq3 ?_ _)); exact BK279.out), (by (with_reducible repeat (first | refine zq1 ?_ _ | refine zq2 ?_ | refine zq3 ?_ _)); refine fa6 ?_ NB280_283.out; (with_reducible repeat (first | refine zq1 ?_ _ | refine zq2 ?_ | refine zq3 ?_ _)); exact BK280.out), fun h0_ => absurd ((hon 1 (by kernel_rfl)).symm.trans h0_) (by decide), (by repeat (first | (with_reducible first | exact HK.out | apply zm1 | apply zr7 | apply zr8 | apply zr9 | refine keep_far ?_ GW279.out _ | refine keep_far ?_ GW280.out _ | refine keep_far ?_ GW283.out _) | exact HK.out)), (by repeat (first | (with_reducible first | exact HB.out | apply zq7 | apply zq8 | apply zq9 | refine zr1 ?_ (IsS93.ge HI0.out) | refine zr1 ?_ GE279.out | refine zr1 ?_ GE280.out | refine zr1 ?_ GE283.out) | exact HB.out)), fun _ => (by repeat (first | (with_reducible first | exact HI0.out | apply IsS93.alloc | apply IsS93.drewN | apply IsS93.drew | apply IsS93.set_1 | refine IsS93.far ?_ NB0_279.out _ | refine IsS93.far ?_ NB0_280.out _ | refine IsS93.far ?_ NB0_283.out _) | exact HI0.out)), fun _ h1_ => absurd ((up_self b 6).symm.trans h1_) (by decide), fun _ => GW283.out, fun _ => GE283.out, fun _ => NB0_283.out, fun _ => NB283_0.out, fun _ => NB279_283.out, fun _ => NB283_279.out, fun _ => NB280_283.out, fun _ => NB283_280.out, fun _ => (by (with_reducible repeat (first | refine zq1 ?_ _ | refine zq2 ?_ | refine zq3 ?_ _)); apply pu6; (with_reducible repeat (first | refine zq1 ?_ _ | refine zq2 ?_ | refine zq3 ?_ _)); exact BK283.out), Q_X5_⟩
     exact steps_nil
   rintro b a w69 hall ⟨gb283, m5_, ha, Q_BK279, Q_BK280, Q_HI0, Q_HK, Q_HB, Q_HI0_e1, Q_BK283, Q_GW283, Q_GE283, Q_NB0_283, Q_NB283_0, Q_NB279_283, Q_NB283_279, Q_NB280_283, Q_NB283_280, Q_BK283_e6, Q_X5_⟩
   clear BK279 BK280 HB HI0 HK
   have hb1_ := hall 1 (by kernel_rfl)
   have hb2_ := hall 2 (by kernel_rfl)
   have hb3_ := hall 3 (by kernel_rfl)
   have hb4_ := hall 4 (by kernel_rfl)
   have hb5_ := hall 5 (by kernel_rfl)
   have hb6_ := hall 6 (by kernel_rfl)
   subst ha
   obtain rfl := Q_X5_ hb5_
   simp only [putSel, hb1_, hb2_, hb3_, hb4_, hb5_, hb6_, if_true, Act.put, List.setIfInBounds_toArray, List.set_cons_zero, List.set_cons_succ]
   have BK279 := mk_ Q_BK279
   clear Q_BK279
   have BK280 := mk_ Q_BK280
   clear Q_BK280
   clear Q_HI0
   have HK := mk_ Q_HK
   clear Q_HK
   have HB := mk_ Q_HB
   clear Q_HB
   have HI0 := mk_ (Q_HI0_e1 hb1_)
   clear Q_HI0_e1
   clear Q_BK283
   have GW283 := mk_ (Q_GW283 hb5_)
   clear Q_GW283
   have GE283 := mk_ (Q_GE283 hb5_)
   clear Q_GE283
   have NB0_283 := mk_ (Q_NB0_283 hb5_)
   clear Q_NB0_283
   have NB283_0 := mk_ (Q_NB283_0 hb5_)
   clear Q_NB283_0
   have NB279_283 := mk_ (Q_NB279_283 hb5_)
   clear Q_NB279_283
   have NB283_279 := mk_ (Q_NB283_279 hb5_)
   clear Q_NB283_279
   have NB280_283 := mk_ (Q_NB280_283 hb5_)
   clear Q_NB280_283
   have NB283_280 := mk_ (Q_NB283_280 hb5_)
   clear Q_NB283_280
   have BK283 := mk_ (Q_BK283_e6 hb6_)
   clear Q_BK283_e6
   clear hall hb1_ hb2_ hb3_ hb4_ hb5_ hb6_
   try go_wp2_with (first | ((with_reducible refine gate_callee (f := 58) rfl ?_); refine goesL_ (some 14) rfl rfl Try.func58 (by kernel_rfl) rfl #[.pointer (some ⟨g, 0, none⟩), .int .i64 3] rfl (by (try simp only [List.map_toArray, List.map_cons, List.map_nil]); first | done | rfl | (simp only [List.length_drop, List.length_take]; rfl)) ?_; (with_reducible refine (spec_l20Rd_pick.calls k g s0_0 t282 3 t284 t285 w0 _ ?side1 ?side2 A5.out).mono ?_); (case side1 => repeat (first | (with_reducible first | exact HI0.out | apply IsS93.alloc | apply IsS93.drewN | apply IsS93.drew | apply IsS93.set_1 | refine IsS93.far ?_ NB0_279.out _ | refine IsS93.far ?_ NB0_280.out _ | refine IsS93.far ?_ NB0_283.out _) | exact HI0.out)); (case side2 => repeat (first | (with_reducible first | exact HB.out | apply zq7 | apply zq8 | apply zq9 | refine zr1 ?_ (IsS93.ge HI0.out) | refine zr1 ?_ GE279.out | refine zr1 ?_ GE280.out | refine zr1 ?_ GE283.out) | exact HB.out)); rintro e w70 ⟨rfl, hi, hb, hk⟩; refine ⟨_, rfl, ?_⟩; replace BK279 := mk_ (KeepBut.blk hk (g' := gb279) (o := .cells #[.int .i64 a1_0, .int .i64 a1_1, .int .i64 a1_2, .int .i64 a1_3, .int .i64 a1_4] 28 (0, 0)) (by exact BK279.out) NB279_0.out (by simp)); replace BK280 := mk_ (KeepBut.blk hk (g' := gb280) (o := .cells #[.int .i64 0, .int .i64 0, .int .i64 0, .int .i64 0, .int .i64 0, .int .i64 0] 32 (0, 0)) (by exact BK280.out) NB280_0.out (by simp)); replace BK283 := mk_ (KeepBut.blk hk (g' := gb283) (o := .cells #[.int .i64 (wrap64 (1 + t281)), .int .i64 a1_0, .int .i64 a1_1, .int .i64 a1_2, .int .i64 a1_3, .int .i64 a1_4] 32 (0, 0)) (by exact BK283.out) NB283_0.out (by simp)); replace HK := mk_ (KeepBut.trans (by repeat (first | (with_reducible first | exact HK.out | apply zm1 | apply zr7 | apply zr8 | apply zr9 | refine keep_far ?_ GW279.out _ | refine keep_far ?_ GW280.out _ | refine keep_far ?_ GW283.out _) | exact HK.out)) hk (.inl rfl)); replace HB := mk_ (hb); replace HI0 := mk_ (hi); (try clear hb); (try clear hb2); (try clear hk); (try clear hi); have hnb71 := NB283_279.out; have hnc71 := NB279_283.out; have hnb72 := NB283_280.out; have hnc72 := NB280_283.out; have hnb73 := NB283_0.out; have hnc73 := NB0_283.out; obtain ⟨hcz74_0, hcz74_1, hcz74_2, hcz74_3, hcz74_4, hcz74_5⟩ := cz6 BK283.out; obtain ⟨hfz74_0, hfz74_1, hfz74_2, hfz74_3, hfz74_4, hfz74_5⟩ := fz6 BK283.out; have hnb75 := NB280_279.out; have hnc75 := NB279_280.out; have hnb76 := NB280_0.out; have hnc76 := NB0_280.out; obtain ⟨hcz77_0, hcz77_1, hcz77_2, hcz77_3, hcz77_4, hcz77_5⟩ := cz6 BK280.out; obtain ⟨hfz77_0, hfz77_1, hfz77_2, hfz77_3, hfz77_4, hfz77_5⟩ := fz6 BK280.out))
   refine bodyPost_ret (results_cell_row rfl _ _ gb280 32 #[.int .i64 (wrap64 (1 + t281)), .int .i64 a1_0, .int .i64 a1_1, .int .i64 a1_2, .int .i64 a1_3, .int .i64 a1_4] (0, 0) _ rfl (by (with_reducible repeat (first | refine zq1 ?_ _ | refine zq2 ?_ | refine zq3 ?_ _)); apply pu6; (with_reducible repeat (first | refine zq1 ?_ _ | refine zq2 ?_ | refine zq3 ?_ _)); exact BK280.out) Try.underlying32 rfl (by kernel_rfl)) rfl ?_
   exact ⟨by first | rfl | (simp [errW_none, errW_some] <;> rfl) | (simp [*, errW_none, errW_some] <;> rfl), by repeat (first | (with_reducible first | exact HI0.out | apply IsS93.alloc | apply IsS93.drewN | apply IsS93.drew | apply IsS93.set_1 | refine IsS93.far ?_ NB0_279.out _ | refine IsS93.far ?_ NB0_280.out _ | refine IsS93.far ?_ NB0_283.out _) | exact HI0.out), by repeat (first | (with_reducible first | exact HB.out | apply zq7 | apply zq8 | apply zq9 | refine zr1 ?_ (IsS93.ge HI0.out) | refine zr1 ?_ GE279.out | refine zr1 ?_ GE280.out | refine zr1 ?_ GE283.out) | exact HB.out), by repeat (first | (with_reducible first | exact HK.out | apply zm1 | apply zr7 | apply zr8 | apply zr9 | refine keep_far ?_ GW279.out _ | refine keep_far ?_ GW280.out _ | refine keep_far ?_ GW283.out _) | exact HK.out)⟩
 rw [if_pos c6] at H
 have c6b0 : decide (0 < t284) = true := decide_eq_true c6
 clear c6
 replace H := Option.bind_eq_some_iff.mp H
 obtain ⟨⟨t286, t287, t288, t289, t290, t291⟩, A70, H⟩ := H
 try dsimp only at H
 have A7 := mk_ A70
 clear A70
 replace H := Option.bind_eq_some_iff.mp H
 obtain ⟨⟨t292, t293⟩, A80, H⟩ := H
 try dsimp only at H
 have A8 := mk_ A80
 clear A80
 by_cases c9 : t292 > 0
 rotate_left
 · rw [if_neg c9] at H
   have c9b0 : decide (0 < t292) = false := decide_eq_false c9
   clear c9
   simp only [Option.some.injEq, Prod.mk.injEq] at H
   obtain ⟨rfl, rfl, rfl, rfl, rfl, rfl, rfl⟩ := H
   go_enter Try.func56, Try.ntmps56
   try go_wp2_with (first | ((with_reducible refine gate_dst (N := 4) rfl ?_); refine box_event ?hg (N := 4) ?hd (cs := #[.int .i64 a1_0, .int .i64 a1_1, .int .i64 a1_2, .int .i64 a1_3, .int .i64 a1_4]) (t := 28) ?hr ?_; (case hd => rfl); (case hg => rfl); (case hr => first | (go_simp; done) | (go_simp; rfl)); intro gb279 hg w35 hbox hb; replace HB := mk_ (zr3 (by repeat (first | (with_reducible first | exact HB.out | apply zq7 | apply zq8 | apply zq9 | refine zr1 ?_ (IsS93.ge HI0.out)) | exact HB.out)) hb); have BK279 := mk_ (hbox); have GW279 := mk_ ((by rw [hg]; exact (keep_size (w := w) (g := g) (row := none) (by repeat (first | (with_reducible first | exact HK.out | apply zm1 | apply zr7 | apply zr8 | apply zr9) | exact HK.out))) : w.heap.size ≤ gb279)); have GE279 := mk_ ((Nat.le_trans HW0.out (by rw [hg]; exact (keep_size (w := w) (g := g) (row := none) (by repeat (first | (with_reducible first | exact HK.out | apply zm1 | apply zr7 | apply zr8 | apply zr9) | exact HK.out))) : w.heap.size ≤ gb279) : w0.heap.size ≤ gb279)); replace HK := mk_ (KeepBut.trans (by repeat (first | (with_reducible first | exact HK.out | apply zm1 | apply zr7 | apply zr8 | apply zr9) | exact HK.out)) (KeepBut.of_below hb g none) (.inl rfl)); have NB0_279 := mk_ ((by rw [hg]; exact zm2 (IsS93.lt (show IsS93 w0 _ g s0_0 s0_1 from by repeat (first | (with_reducible first | exact HI0.out | apply IsS93.alloc | apply IsS93.drewN | apply IsS93.drew | apply IsS93.set_1) | exact HI0.out))) : g ≠ gb279)); replace HI0 := mk_ (IsS93.below (by repeat (first | (with_reducible first | exact HI0.out | apply IsS93.alloc | apply IsS93.drewN | apply IsS93.drew | apply IsS93.set_1) | exact HI0.out)) hb); have NB279_0 := mk_ NB0_279.out.symm; clear hb hbox hg) | ((with_reducible refine gate_dst (N := 6) rfl ?_); refine box_event ?hg (N := 6) ?hd (cs := #[.int .i64 0, .int .i64 0, .int .i64 0, .int .i64 0, .int .i64 0, .int .i64 0]) (t := 32) ?hr ?_; (case hd => rfl); (case hg => rfl); (case hr => first | (go_simp; done) | (go_simp; rfl)); intro gb280 hg w36 hbox hb; replace HB := mk_ (zr3 (by repeat (first | (with_reducible first | exact HB.out | apply zq7 | apply zq8 | apply zq9 | refine zr1 ?_ (IsS93.ge HI0.out) | refine zr1 ?_ GE279.out) | exact HB.out)) hb); have BK280 := mk_ (hbox); have GW280 := mk_ ((by rw [hg]; exact (keep_size (w := w) (g := g) (row := none) (by repeat (first | (with_reducible first | exact HK.out | apply zm1 | apply zr7 | apply zr8 | apply zr9 | refine keep_far ?_ GW279.out _) | exact HK.out))) : w.heap.size ≤ gb280)); have GE280 := mk_ ((Nat.le_trans HW0.out (by rw [hg]; exact (keep_size (w := w) (g := g) (row := none) (by repeat (first | (with_reducible first | exact HK.out | apply zm1 | apply zr7 | apply zr8 | apply zr9 | refine keep_far ?_ GW279.out _) | exact HK.out))) : w.heap.size ≤ gb280) : w0.heap.size ≤ gb280)); replace HK := mk_ (KeepBut.trans (by repeat (first | (with_reducible first | exact HK.out | apply zm1 | apply zr7 | apply zr8 | apply zr9 | refine keep_far ?_ GW279.out _) | exact HK.out)) (KeepBut.of_below hb g none) (.inl rfl)); have NB279_280 := mk_ ((by rw [hg]; exact zm2 (zr6 (by exact BK279.out)) : gb279 ≠ gb280)); replace BK279 := mk_ (zq6 (by exact BK279.out) hb); have NB280_279 := mk_ NB279_280.out.symm; have NB0_280 := mk_ ((by rw [hg]; exact zm2 (IsS93.lt (show IsS93 w0 _ g s0_0 s0_1 from by repeat (first | (with_reducible first | exact HI0.out | apply IsS93.alloc | apply IsS93.drewN | apply IsS93.drew | apply IsS93.set_1 | refine IsS93.far ?_ NB0_279.out _) | exact HI0.out))) : g ≠ gb280)); replace HI0 := mk_ (IsS93.below (by repeat (first | (with_reducible first | exact HI0.out | apply IsS93.alloc | apply IsS93.drewN | apply IsS93.drew | apply IsS93.set_1 | refine IsS93.far ?_ NB0_279.out _) | exact HI0.out)) hb); have NB280_0 := mk_ NB0_280.out.symm; clear hb hbox hg))
   replace BK279 := mk_ (zq2 BK279.out)
   replace BK280 := mk_ (zq2 BK280.out)
   replace HI0 := mk_ (IsS93.drew HI0.out)
   replace HK := mk_ (zr8 HK.out)
   replace HB := mk_ (zq9 HB.out)
   refine start_ (n := 7) (S := fun w' => True) (ds := []) (bm 7 0) (by kernel_rfl) rfl rfl trivial (fun hHeld => ?_); refine with_tabW spec_l20NegMsg.tab1 spec_l20NegMsg.bits1 (fun HT_ HW_ => ?_)
   generalize w36.drew = w37 at BK279 BK280 HI0 HK HB hHeld ⊢
   refine pA 0 (some 8) (bm 7 1) rfl rfl HT_.out (by kernel_rfl) (fun _ _ _ h => h) (by rfl) (by intro w'; go_simp; with_reducible rfl) (by simp only [Act.put, zs1, zs2, zs3, i64_w, i32_w]; rfl) ?_
   refine inv_at [1, 2, 3, 4, 5, 6] (fun a0_ b a w' => ∃ (gb283 : Nat) (m5_ : Value), a = putSel a0_ b [(1, 9, .int .i64 t281), (2, 10, .int .i64 (wrap64 (1 + t281))), (3, 11, .agg #[.int .i64 a1_0, .int .i64 a1_1, .int .i64 a1_2, .int .i64 a1_3, .int .i64 a1_4]), (4, 12, .agg #[.int .i64 (wrap64 (1 + t281)), .int .i64 a1_0, .int .i64 a1_1, .int .i64 a1_2, .int .i64 a1_3, .int .i64 a1_4]), (5, 7, m5_)] ∧ (w'.heap[gb279]? = some (.cells #[.int .i64 a1_0, .int .i64 a1_1, .int .i64 a1_2, .int .i64 a1_3, .int .i64 a1_4] 28 (0, 0))) ∧ (w'.heap[gb280]? = some (.cells #[.int .i64 0, .int .i64 0, .int .i64 0, .int .i64 0, .int .i64 0, .int .i64 0] 32 (0, 0))) ∧ (b 1 = false → IsS93 w0 w' g s0_0 s0_1) ∧ (KeepBut w w' g none) ∧ (Below w0.heap.size w0 w') ∧ (b 1 = true → IsS93 w0 w' g s0_0 t282) ∧ (b 5 = true → b 6 = false → w'.heap[gb283]? = some (.cells #[.int .i64 0, .int .i64 0, .int .i64 0, .int .i64 0, .int .i64 0, .int .i64 0] 32 (0, 0))) ∧ (b 5 = true → w.heap.size ≤ gb283) ∧ (b 5 = true → w0.heap.size ≤ gb283) ∧ (b 5 = true → g ≠ gb283) ∧ (b 5 = true → gb283 ≠ g) ∧ (b 5 = true → gb279 ≠ gb283) ∧ (b 5 = true → gb283 ≠ gb279) ∧ (b 5 = true → gb280 ≠ gb283) ∧ (b 5 = true → gb283 ≠ gb280) ∧ (b 6 = true → w'.heap[gb283]? = some (.cells #[.int .i64 (wrap64 (1 + t281)), .int .i64 a1_0, .int .i64 a1_1, .int .i64 a1_2, .int .i64 a1_3, .int .i64 a1_4] 32 (0, 0))) ∧ (b 5 = true → (m5_ : Value) = .pointer (some ⟨gb283, 0, none⟩))) HT_.out HW_.out (by kernel_rfl) (by kernel_rfl) ?_ ?_ ?_
   · exact ⟨0, .bool false, by simp only [putSel, Bool.false_eq_true, if_false], BK279.out, BK280.out, fun _ => HI0.out, HK.out, HB.out, fun h_ => absurd h_ (by decide), fun h_ => absurd h_ (by decide), fun h_ => absurd h_ (by decide), fun h_ => absurd h_ (by decide), fun h_ => absurd h_ (by decide), fun h_ => absurd h_ (by decide), fun h_ => absurd h_ (by decide), fun h_ => absurd h_ (by decide), fun h_ => absurd h_ (by decide), fun h_ => absurd h_ (by decide), fun h_ => absurd h_ (by decide), fun h_ => absurd h_ (by decide)⟩
   · skip
     clear BK279 BK280 HB HI0 HK
     refine steps_cons ?_ ?_
     · rintro b a w' ⟨gb283, m5_, ha, Q_BK279, Q_BK280, Q_HI0, Q_HK, Q_HB, Q_HI0_e1, Q_BK283, Q_GW283, Q_GE283, Q_NB0_283, Q_NB283_0, Q_NB279_283, Q_NB283_279, Q_NB280_283, Q_NB283_280, Q_BK283_e6, Q_X5_⟩ hb_ hon hoff
       refine ⟨_, rfl, fun K hK => ?_⟩
       have e8 : a.tmps[8]? = some (.pointer (some ⟨g, 0, none⟩)) := by rw [ha]; exact (putSel_off rfl).trans rfl
       replace ha := mk_ ha
       have BK279 := mk_ Q_BK279
       have BK280 := mk_ Q_BK280
       have HI0 := mk_ (Q_HI0 hb_)
       have HK := mk_ Q_HK
       have HB := mk_ Q_HB
       refine goes_ Try.func58 (by kernel_rfl) rfl #[.pointer (some ⟨g, 0, none⟩), .int .i64 3] (by rfl) rfl rfl (by first | (simp only [List.map_toArray, List.map_cons, List.map_nil, Act.eval, Array.getD_eq_getD_getElem?, Option.getD_some, e8]; done) | (simp only [List.map_toArray, List.map_cons, List.map_nil, Act.eval, Array.getD_eq_getD_getElem?, Option.getD_some, e8]; rfl)) ?_
       with_reducible refine (spec_l20Rd_pick.calls k g s0_0 s0_1 3 t281 t282 w0 _ ?side1 ?side2 A4.out).mono ?_
       (case side1 => repeat (first | (with_reducible first | exact HI0.out | apply IsS93.alloc | apply IsS93.drewN | apply IsS93.drew | apply IsS93.set_1 | refine IsS93.far ?_ NB0_279.out _ | refine IsS93.far ?_ NB0_280.out _) | exact HI0.out))
       (case side2 => repeat (first | (with_reducible first | exact HB.out | apply zq7 | apply zq8 | apply zq9 | refine zr1 ?_ (IsS93.ge HI0.out) | refine zr1 ?_ GE279.out | refine zr1 ?_ GE280.out) | exact HB.out))
       rintro e w38 ⟨rfl, hi, hb, hk⟩
       refine ⟨_, rfl, ?_⟩
       have n0_ := mk_ (KeepBut.blk hk (g' := gb279) (o := .cells #[.int .i64 a1_0, .int .i64 a1_1, .int .i64 a1_2, .int .i64 a1_3, .int .i64 a1_4] 28 (0, 0)) (by exact BK279.out) NB279_0.out (by simp))
       have n1_ := mk_ (KeepBut.blk hk (g' := gb280) (o := .cells #[.int .i64 0, .int .i64 0, .int .i64 0, .int .i64 0, .int .i64 0, .int .i64 0] 32 (0, 0)) (by exact BK280.out) NB280_0.out (by simp))
       have n2_ := mk_ (KeepBut.trans (by repeat (first | (with_reducible first | exact HK.out | apply zm1 | apply zr7 | apply zr8 | apply zr9 | refine keep_far ?_ GW279.out _ | refine keep_far ?_ GW280.out _) | exact HK.out)) hk (.inl rfl))
       have n3_ := mk_ (hb)
       have n4_ := mk_ (hi)
       have z_BK283 := fun (h0_ : b 5 = true) (h1_ : b 6 = false) => (show w38.heap[gb283]? = some (.cells #[.int .i64 0, .int .i64 0, .int .i64 0, .int .i64 0, .int .i64 0, .int .i64 0] 32 (0, 0)) from by first | exact (KeepBut.blk hk (g' := gb283) (o := .cells #[.int .i64 0, .int .i64 0, .int .i64 0, .int .i64 0, .int .i64 0, .int .i64 0] 32 (0, 0)) (by (with_reducible repeat (first | refine zq1 ?_ _ | refine zq2 ?_ | refine zq3 ?_ _)); exact (Q_BK283 h0_ h1_)) (Q_NB283_0 h0_) (by simp)))
       clear BK279
       clear BK280
       clear HK
       clear HB
       clear HI0
       have BK279 := n0_
       have BK280 := n1_
       have HK := n2_
       have HB := n3_
       have HI0 := n4_
       clear n0_ n1_ n2_ n3_ n4_
       (try clear hb)
       (try clear hb2)
       (try clear hk)
       (try clear hi)
       refine hK.out _ _ ⟨gb283, m5_, (by rw [ha.out]; exact putSel_upk 0 hb_ rfl rfl rfl), (by exact BK279.out), (by exact BK280.out), fun h0_ => absurd ((up_self b 1).symm.trans h0_) (by decide), (by repeat (first | (with_reducible first | exact HK.out | apply zm1 | apply zr7 | apply zr8 | apply zr9 | refine keep_far ?_ GW279.out _ | refine keep_far ?_ GW280.out _) | exact HK.out)), (by repeat (first | (with_reducible first | exact HB.out | apply zq7 | apply zq8 | apply zq9 | refine zr1 ?_ (IsS93.ge HI0.out) | refine zr1 ?_ GE279.out | refine zr1 ?_ GE280.out) | exact HB.out)), fun _ => (by repeat (first | (with_reducible first | exact HI0.out | apply IsS93.alloc | apply IsS93.drewN | apply IsS93.drew | apply IsS93.set_1 | refine IsS93.far ?_ NB0_279.out _ | refine IsS93.far ?_ NB0_280.out _) | exact HI0.out)), z_BK283, Q_GW283, Q_GE283, Q_NB0_283, Q_NB283_0, Q_NB279_283, Q_NB283_279, Q_NB280_283, Q_NB283_280, fun h0_ => absurd ((hoff 6 (by kernel_rfl)).symm.trans h0_) (by decide), Q_X5_⟩
     refine steps_cons ?_ ?_
     · rintro b a w' ⟨gb283, m5_, ha, Q_BK279, Q_BK280, Q_HI0, Q_HK, Q_HB, Q_HI0_e1, Q_BK283, Q_GW283, Q_GE283, Q_NB0_283, Q_NB283_0, Q_NB279_283, Q_NB283_279, Q_NB280_283, Q_NB283_280, Q_BK283_e6, Q_X5_⟩ hb_ hon hoff
       refine ⟨_, rfl, fun K hK => ?_⟩
       have e9 : a.tmps[9]? = some (.int .i64 t281) := by rw [ha]; exact putSel_on (e := (1, 9, .int .i64 t281)) 0 rfl rfl (hon 1 (by kernel_rfl)) rfl
       replace ha := mk_ ha
       have BK279 := mk_ Q_BK279
       have BK280 := mk_ Q_BK280
       have HK := mk_ Q_HK
       have HB := mk_ Q_HB
       have HI0 := mk_ (Q_HI0_e1 (hon 1 (by kernel_rfl)))
       refine value_ (w1 := w') (v := .int .i64 (wrap64 (1 + t281))) (by rfl) rfl ?_ ?_
       · go_simp
         (try simp only [i64_w])
         try rfl
       refine hK.out _ _ ⟨gb283, m5_, (by rw [ha.out]; exact putSel_upk 1 hb_ rfl rfl rfl), Q_BK279, Q_BK280, fun h0_ => absurd ((hon 1 (by kernel_rfl)).symm.trans h0_) (by decide), Q_HK, Q_HB, Q_HI0_e1, Q_BK283, Q_GW283, Q_GE283, Q_NB0_283, Q_NB283_0, Q_NB279_283, Q_NB283_279, Q_NB280_283, Q_NB283_280, fun h0_ => absurd ((hoff 6 (by kernel_rfl)).symm.trans h0_) (by decide), Q_X5_⟩
     refine steps_cons ?_ ?_
     · rintro b a w' ⟨gb283, m5_, ha, Q_BK279, Q_BK280, Q_HI0, Q_HK, Q_HB, Q_HI0_e1, Q_BK283, Q_GW283, Q_GE283, Q_NB0_283, Q_NB283_0, Q_NB279_283, Q_NB283_279, Q_NB280_283, Q_NB283_280, Q_BK283_e6, Q_X5_⟩ hb_ hon hoff
       refine ⟨_, rfl, fun K hK => ?_⟩
       have e4 : a.tmps[4]? = some (.pointer (some ⟨gb279, 0, none⟩)) := by rw [ha]; exact (putSel_off rfl).trans rfl
       replace ha := mk_ ha
       have BK279 := mk_ Q_BK279
       have BK280 := mk_ Q_BK280
       have HK := mk_ Q_HK
       have HB := mk_ Q_HB
       have hc0_ : w'.cell? ⟨gb279, 0, none⟩ = some (.int .i64 a1_0) := (zr4 BK279.out 0).trans rfl
       have hc1_ : w'.cell? ⟨gb279, 1, none⟩ = some (.int .i64 a1_1) := (zr4 BK279.out 1).trans rfl
       have hc2_ : w'.cell? ⟨gb279, 2, none⟩ = some (.int .i64 a1_2) := (zr4 BK279.out 2).trans rfl
       have hc3_ : w'.cell? ⟨gb279, 3, none⟩ = some (.int .i64 a1_3) := (zr4 BK279.out 3).trans rfl
       have hc4_ : w'.cell? ⟨gb279, 4, none⟩ = some (.int .i64 a1_4) := (zr4 BK279.out 4).trans rfl
       refine value_ (w1 := w') (v := .agg #[.int .i64 a1_0, .int .i64 a1_1, .int .i64 a1_2, .int .i64 a1_3, .int .i64 a1_4]) (by rfl) rfl ?_ ?_
       · go_simp
         (try simp only [i64_w])
         try rfl
       refine hK.out _ _ ⟨gb283, m5_, (by rw [ha.out]; exact putSel_upk 2 hb_ rfl rfl rfl), Q_BK279, Q_BK280, Q_HI0, Q_HK, Q_HB, Q_HI0_e1, Q_BK283, Q_GW283, Q_GE283, Q_NB0_283, Q_NB283_0, Q_NB279_283, Q_NB283_279, Q_NB280_283, Q_NB283_280, fun h0_ => absurd ((hoff 6 (by kernel_rfl)).symm.trans h0_) (by decide), Q_X5_⟩
     refine steps_cons ?_ ?_
     · rintro b a w' ⟨gb283, m5_, ha, Q_BK279, Q_BK280, Q_HI0, Q_HK, Q_HB, Q_HI0_e1, Q_BK283, Q_GW283, Q_GE283, Q_NB0_283, Q_NB283_0, Q_NB279_283, Q_NB283_279, Q_NB280_283, Q_NB283_280, Q_BK283_e6, Q_X5_⟩ hb_ hon hoff
       refine ⟨_, rfl, fun K hK => ?_⟩
       have e10 : a.tmps[10]? = some (.int .i64 (wrap64 (1 + t281))) := by rw [ha]; exact putSel_on (e := (2, 10, .int .i64 (wrap64 (1 + t281)))) 1 rfl rfl (hon 2 (by kernel_rfl)) rfl
       have e11 : a.tmps[11]? = some (.agg #[.int .i64 a1_0, .int .i64 a1_1, .int .i64 a1_2, .int .i64 a1_3, .int .i64 a1_4]) := by rw [ha]; exact putSel_on (e := (3, 11, .agg #[.int .i64 a1_0, .int .i64 a1_1, .int .i64 a1_2, .int .i64 a1_3, .int .i64 a1_4])) 2 rfl rfl (hon 3 (by kernel_rfl)) rfl
       replace ha := mk_ ha
       have BK279 := mk_ Q_BK279
       have BK280 := mk_ Q_BK280
       have HK := mk_ Q_HK
       have HB := mk_ Q_HB
       have HI0 := mk_ (Q_HI0_e1 (hon 1 (by kernel_rfl)))
       refine value_ (w1 := w') (v := .agg #[.int .i64 (wrap64 (1 + t281)), .int .i64 a1_0, .int .i64 a1_1, .int .i64 a1_2, .int .i64 a1_3, .int .i64 a1_4]) (by rfl) rfl ?_ ?_
       · go_simp
         (try simp only [i64_w])
         try rfl
       refine hK.out _ _ ⟨gb283, m5_, (by rw [ha.out]; exact putSel_upk 3 hb_ rfl rfl rfl), Q_BK279, Q_BK280, fun h0_ => absurd ((hon 1 (by kernel_rfl)).symm.trans h0_) (by decide), Q_HK, Q_HB, Q_HI0_e1, Q_BK283, Q_GW283, Q_GE283, Q_NB0_283, Q_NB283_0, Q_NB279_283, Q_NB283_279, Q_NB280_283, Q_NB283_280, fun h0_ => absurd ((hoff 6 (by kernel_rfl)).symm.trans h0_) (by decide), Q_X5_⟩
     refine steps_cons ?_ ?_
     · rintro b a w' ⟨gb283, m5_, ha, Q_BK279, Q_BK280, Q_HI0, Q_HK, Q_HB, Q_HI0_e1, Q_BK283, Q_GW283, Q_GE283, Q_NB0_283, Q_NB283_0, Q_NB279_283, Q_NB283_279, Q_NB280_283, Q_NB283_280, Q_BK283_e6, Q_X5_⟩ hb_ hon hoff
       refine ⟨_, rfl, fun K hK => ?_⟩
       replace ha := mk_ ha
       have BK279 := mk_ Q_BK279
       have BK280 := mk_ Q_BK280
       have HK := mk_ Q_HK
       have HB := mk_ Q_HB
       refine box_step ?hg (N := 7) ?hd (cs := #[.int .i64 0, .int .i64 0, .int .i64 0, .int .i64 0, .int .i64 0, .int .i64 0]) (t := 32) ?hr ?_; (case hd => rfl); (case hg => rfl); (case hr => first | (go_simp; done) | (go_simp; rfl))
       intro gb283 hg w38 hbox hb
       have n1_ := mk_ (zq6 (by exact BK279.out) hb)
       have n2_ := mk_ (zq6 (by exact BK280.out) hb)
       have n3_ := mk_ (KeepBut.trans (by repeat (first | (with_reducible first | exact HK.out | apply zm1 | apply zr7 | apply zr8 | apply zr9 | refine keep_far ?_ GW279.out _ | refine keep_far ?_ GW280.out _) | exact HK.out)) (KeepBut.of_below hb g none) (.inl rfl))
       have n4_ := mk_ (zr3 (by repeat (first | (with_reducible first | exact HB.out | apply zq7 | apply zq8 | apply zq9 | refine zr1 ?_ GE279.out | refine zr1 ?_ GE280.out) | exact HB.out)) hb)
       have n5_ := mk_ (hbox)
       have n6_ := mk_ ((by rw [hg]; exact (keep_size (w := w) (g := g) (row := none) (by repeat (first | (with_reducible first | exact HK.out | apply zm1 | apply zr7 | apply zr8 | apply zr9 | refine keep_far ?_ GW279.out _ | refine keep_far ?_ GW280.out _) | exact HK.out))) : w.heap.size ≤ gb283))
       have n7_ := mk_ ((Nat.le_trans HW0.out (by rw [hg]; exact (keep_size (w := w) (g := g) (row := none) (by repeat (first | (with_reducible first | exact HK.out | apply zm1 | apply zr7 | apply zr8 | apply zr9 | refine keep_far ?_ GW279.out _ | refine keep_far ?_ GW280.out _) | exact HK.out))) : w.heap.size ≤ gb283) : w0.heap.size ≤ gb283))
       have n8_ := mk_ ((by rw [hg]; exact zm2 (zr6 (by exact BK279.out)) : gb279 ≠ gb283))
       have n9_ := mk_ ((by rw [hg]; exact zm3 (zr6 (by exact BK279.out)) : gb283 ≠ gb279))
       have n10_ := mk_ ((by rw [hg]; exact zm2 (zr6 (by exact BK280.out)) : gb280 ≠ gb283))
       have n11_ := mk_ ((by rw [hg]; exact zm3 (zr6 (by exact BK280.out)) : gb283 ≠ gb280))
       have n12_ := mk_ ((by rw [hg]; exact zm2 (Nat.lt_of_lt_of_le HGL.out (keep_size (w := w) (g := g) (row := none) (by repeat (first | (with_reducible first | exact HK.out | apply zm1 | apply zr7 | apply zr8 | apply zr9) | exact HK.out)))) : g ≠ gb283))
       have n13_ := mk_ ((by rw [hg]; exact zm3 (Nat.lt_of_lt_of_le HGL.out (keep_size (w := w) (g := g) (row := none) (by repeat (first | (with_reducible first | exact HK.out | apply zm1 | apply zr7 | apply zr8 | apply zr9) | exact HK.out)))) : gb283 ≠ g))
       have z_HI0 := fun (h0_ : b 1 = false) => (show IsS93 w0 w38 g s0_0 s0_1 from by first | exact (IsS93.below (by repeat (first | (with_reducible first | exact (Q_HI0 h0_) | apply IsS93.alloc | apply IsS93.drewN | apply IsS93.drew | apply IsS93.set_1 | refine IsS93.far ?_ NB0_279.out _ | refine IsS93.far ?_ NB0_280.out _) | exact (Q_HI0 h0_))) hb))
       have z_HI0_e1 := fun (h0_ : b 1 = true) => (show IsS93 w0 w38 g s0_0 t282 from by first | exact (IsS93.below (by repeat (first | (with_reducible first | exact (Q_HI0_e1 h0_) | apply IsS93.alloc | apply IsS93.drewN | apply IsS93.drew | apply IsS93.set_1 | refine IsS93.far ?_ NB0_279.out _ | refine IsS93.far ?_ NB0_280.out _) | exact (Q_HI0_e1 h0_))) hb))
       clear BK279
       clear BK280
       clear HK
       clear HB
       have BK279 := n1_
       have BK280 := n2_
       have HK := n3_
       have HB := n4_
       have BK283 := n5_
       have GW283 := n6_
       have GE283 := n7_
       have NB279_283 := n8_
       have NB283_279 := n9_
       have NB280_283 := n10_
       have NB283_280 := n11_
       have NB0_283 := n12_
       have NB283_0 := n13_
       clear n1_ n2_ n3_ n4_ n5_ n6_ n7_ n8_ n9_ n10_ n11_ n12_ n13_
       clear hb hbox hg
       refine hK.out _ _ ⟨gb283, (.pointer (some ⟨gb283, 0, none⟩)), (by rw [ha.out]; exact putSel_upk 4 hb_ rfl rfl rfl), (by exact BK279.out), (by exact BK280.out), z_HI0, (by repeat (first | (with_reducible first | exact HK.out | apply zm1 | apply zr7 | apply zr8 | apply zr9 | refine keep_far ?_ GW279.out _ | refine keep_far ?_ GW280.out _ | refine keep_far ?_ GW283.out _) | exact HK.out)), (by repeat (first | (with_reducible first | exact HB.out | apply zq7 | apply zq8 | apply zq9 | refine zr1 ?_ GE279.out | refine zr1 ?_ GE280.out | refine zr1 ?_ GE283.out) | exact HB.out)), z_HI0_e1, fun _ _ => (by exact BK283.out), fun _ => GW283.out, fun _ => GE283.out, fun _ => NB0_283.out, fun _ => NB283_0.out, fun _ => NB279_283.out, fun _ => NB283_279.out, fun _ => NB280_283.out, fun _ => NB283_280.out, fun h0_ => absurd ((hoff 6 (by kernel_rfl)).symm.trans h0_) (by decide), fun _ => rfl⟩
     refine steps_cons ?_ ?_
     · rintro b a w' ⟨gb283, m5_, ha, Q_BK279, Q_BK280, Q_HI0, Q_HK, Q_HB, Q_HI0_e1, Q_BK283, Q_GW283, Q_GE283, Q_NB0_283, Q_NB283_0, Q_NB279_283, Q_NB283_279, Q_NB280_283, Q_NB283_280, Q_BK283_e6, Q_X5_⟩ hb_ hon hoff
       refine ⟨_, rfl, fun K hK => ?_⟩
       have e7 : a.tmps[7]? = some (m5_) := by rw [ha]; exact putSel_on (e := (5, 7, m5_)) 4 rfl rfl (hon 5 (by kernel_rfl)) rfl
       rw [Q_X5_ (hon 5 (by kernel_rfl))] at e7
       have e12 : a.tmps[12]? = some (.agg #[.int .i64 (wrap64 (1 + t281)), .int .i64 a1_0, .int .i64 a1_1, .int .i64 a1_2, .int .i64 a1_3, .int .i64 a1_4]) := by rw [ha]; exact putSel_on (e := (4, 12, .agg #[.int .i64 (wrap64 (1 + t281)), .int .i64 a1_0, .int .i64 a1_1, .int .i64 a1_2, .int .i64 a1_3, .int .i64 a1_4])) 3 rfl rfl (hon 4 (by kernel_rfl)) rfl
       replace ha := mk_ ha
       have BK279 := mk_ Q_BK279
       have BK280 := mk_ Q_BK280
       have HK := mk_ Q_HK
       have HB := mk_ Q_HB
       have HI0 := mk_ (Q_HI0_e1 (hon 1 (by kernel_rfl)))
       have BK283 := mk_ (Q_BK283 (hon 5 (by kernel_rfl)) hb_)
       have GW283 := mk_ (Q_GW283 (hon 5 (by kernel_rfl)))
       have GE283 := mk_ (Q_GE283 (hon 5 (by kernel_rfl)))
       have NB0_283 := mk_ (Q_NB0_283 (hon 5 (by kernel_rfl)))
       have NB283_0 := mk_ (Q_NB283_0 (hon 5 (by kernel_rfl)))
       have NB279_283 := mk_ (Q_NB279_283 (hon 5 (by kernel_rfl)))
       have NB283_279 := mk_ (Q_NB283_279 (hon 5 (by kernel_rfl)))
       have NB280_283 := mk_ (Q_NB280_283 (hon 5 (by kernel_rfl)))
       have NB283_280 := mk_ (Q_NB283_280 (hon 5 (by kernel_rfl)))
       have hs41 : w'.cell? ⟨gb283, 0, none⟩ = some (.int .i64 0) := (zr4 BK283.out 0).trans rfl
       have hfs41 := zr5 BK283.out 0
       have hns41_0 := NB279_283.out
       have hns41_1 := NB280_283.out
       have hms41_0 := NB283_279.out
       have hms41_1 := NB283_280.out
       have hs42 : w'.cell? ⟨gb283, 1, none⟩ = some (.int .i64 0) := (zr4 BK283.out 1).trans rfl
       have hfs42 := zr5 BK283.out 1
       have hns42_0 := NB279_283.out
       have hns42_1 := NB280_283.out
       have hms42_0 := NB283_279.out
       have hms42_1 := NB283_280.out
       have hs43 : w'.cell? ⟨gb283, 2, none⟩ = some (.int .i64 0) := (zr4 BK283.out 2).trans rfl
       have hfs43 := zr5 BK283.out 2
       have hns43_0 := NB279_283.out
       have hns43_1 := NB280_283.out
       have hms43_0 := NB283_279.out
       have hms43_1 := NB283_280.out
       have hs44 : w'.cell? ⟨gb283, 3, none⟩ = some (.int .i64 0) := (zr4 BK283.out 3).trans rfl
       have hfs44 := zr5 BK283.out 3
       have hns44_0 := NB279_283.out
       have hns44_1 := NB280_283.out
       have hms44_0 := NB283_279.out
       have hms44_1 := NB283_280.out
       have hs45 : w'.cell? ⟨gb283, 4, none⟩ = some (.int .i64 0) := (zr4 BK283.out 4).trans rfl
       have hfs45 := zr5 BK283.out 4
       have hns45_0 := NB279_283.out
       have hns45_1 := NB280_283.out
       have hms45_0 := NB283_279.out
       have hms45_1 := NB283_280.out
       have hs46 : w'.cell? ⟨gb283, 5, none⟩ = some (.int .i64 0) := (zr4 BK283.out 5).trans rfl
       have hfs46 := zr5 BK283.out 5
       have hns46_0 := NB279_283.out
       have hns46_1 := NB280_283.out
       have hms46_0 := NB283_279.out
       have hms46_1 := NB283_280.out
       refine skip_ (w1 := ?_) (by rfl) rfl ?_ ?_
       rotate_left
       · go_simp
         rfl
       refine hK.out _ _ ⟨gb283, m5_, (by rw [ha.out]; exact putSel_none (v := undef) rfl), (by (with_reducible repeat (first | refine zq1 ?_ _ | refine zq2 ?_ | refine zq3 ?_ _)); refine fa6 ?_ NB279_283.out; (with_reducible repeat (first | refine zq1 ?_ _ | refine zq2 ?_ | refine zq3 ?_ _)); exact BK279.out), (by (with_reducible repeat (first | refine zq1 ?_ _ | refine zq2 ?_ | refine zq3 ?_ _)); refine fa6 ?_ NB280_283.out; (with_reducible repeat (first | refine zq1 ?_ _ | refine zq2 ?_ | refine zq3 ?_ _)); exact BK280.out), fun h0_ => absurd ((hon 1 (by kernel_rfl)).symm.trans h0_) (by decide), (by repeat (first | (with_reducible first | exact HK.out | apply zm1 | apply zr7 | apply zr8 | apply zr9 | refine keep_far ?_ GW279.out _ | refine keep_far ?_ GW280.out _ | refine keep_far ?_ GW283.out _) | exact HK.out)), (by repeat (first | (with_reducible first | exact HB.out | apply zq7 | apply zq8 | apply zq9 | refine zr1 ?_ (IsS93.ge HI0.out) | refine zr1 ?_ GE279.out | refine zr1 ?_ GE280.out | refine zr1 ?_ GE283.out) | exact HB.out)), fun _ => (by repeat (first | (with_reducible first | exact HI0.out | apply IsS93.alloc | apply IsS93.drewN | apply IsS93.drew | apply IsS93.set_1 | refine IsS93.far ?_ NB0_279.out _ | refine IsS93.far ?_ NB0_280.out _ | refine IsS93.far ?_ NB0_283.out _) | exact HI0.out)), fun _ h1_ => absurd ((up_self b 6).symm.trans h1_) (by decide), fun _ => GW283.out, fun _ => GE283.out, fun _ => NB0_283.out, fun _ => NB283_0.out, fun _ => NB279_283.out, fun _ => NB283_279.out, fun _ => NB280_283.out, fun _ => NB283_280.out, fun _ => (by (with_reducible repeat (first | refine zq1 ?_ _ | refine zq2 ?_ | refine zq3 ?_ _)); apply pu6; (with_reducible repeat (first | refine zq1 ?_ _ | refine zq2 ?_ | refine zq3 ?_ _)); exact BK283.out), Q_X5_⟩
     exact steps_nil
   rintro b a w46 hall ⟨gb283, m5_, ha, Q_BK279, Q_BK280, Q_HI0, Q_HK, Q_HB, Q_HI0_e1, Q_BK283, Q_GW283, Q_GE283, Q_NB0_283, Q_NB283_0, Q_NB279_283, Q_NB283_279, Q_NB280_283, Q_NB283_280, Q_BK283_e6, Q_X5_⟩
   clear BK279 BK280 HB HI0 HK
   have hb1_ := hall 1 (by kernel_rfl)
   have hb2_ := hall 2 (by kernel_rfl)
   have hb3_ := hall 3 (by kernel_rfl)
   have hb4_ := hall 4 (by kernel_rfl)
   have hb5_ := hall 5 (by kernel_rfl)
   have hb6_ := hall 6 (by kernel_rfl)
   subst ha
   obtain rfl := Q_X5_ hb5_
   simp only [putSel, hb1_, hb2_, hb3_, hb4_, hb5_, hb6_, if_true, Act.put, List.setIfInBounds_toArray, List.set_cons_zero, List.set_cons_succ]
   have BK279 := mk_ Q_BK279
   clear Q_BK279
   have BK280 := mk_ Q_BK280
   clear Q_BK280
   clear Q_HI0
   have HK := mk_ Q_HK
   clear Q_HK
   have HB := mk_ Q_HB
   clear Q_HB
   have HI0 := mk_ (Q_HI0_e1 hb1_)
   clear Q_HI0_e1
   clear Q_BK283
   have GW283 := mk_ (Q_GW283 hb5_)
   clear Q_GW283
   have GE283 := mk_ (Q_GE283 hb5_)
   clear Q_GE283
   have NB0_283 := mk_ (Q_NB0_283 hb5_)
   clear Q_NB0_283
   have NB283_0 := mk_ (Q_NB283_0 hb5_)
   clear Q_NB283_0
   have NB279_283 := mk_ (Q_NB279_283 hb5_)
   clear Q_NB279_283
   have NB283_279 := mk_ (Q_NB283_279 hb5_)
   clear Q_NB283_279
   have NB280_283 := mk_ (Q_NB280_283 hb5_)
   clear Q_NB280_283
   have NB283_280 := mk_ (Q_NB283_280 hb5_)
   clear Q_NB283_280
   have BK283 := mk_ (Q_BK283_e6 hb6_)
   clear Q_BK283_e6
   clear hall hb1_ hb2_ hb3_ hb4_ hb5_ hb6_
   try go_wp2_with (first | ((with_reducible refine gate_callee (f := 58) rfl ?_); refine goesL_ (some 14) rfl rfl Try.func58 (by kernel_rfl) rfl #[.pointer (some ⟨g, 0, none⟩), .int .i64 3] rfl (by (try simp only [List.map_toArray, List.map_cons, List.map_nil]); first | done | rfl | (simp only [List.length_drop, List.length_take]; rfl)) ?_; (with_reducible refine (spec_l20Rd_pick.calls k g s0_0 t282 3 t284 t285 w0 _ ?side1 ?side2 A5.out).mono ?_); (case side1 => repeat (first | (with_reducible first | exact HI0.out | apply IsS93.alloc | apply IsS93.drewN | apply IsS93.drew | apply IsS93.set_1 | refine IsS93.far ?_ NB0_279.out _ | refine IsS93.far ?_ NB0_280.out _ | refine IsS93.far ?_ NB0_283.out _) | exact HI0.out)); (case side2 => repeat (first | (with_reducible first | exact HB.out | apply zq7 | apply zq8 | apply zq9 | refine zr1 ?_ (IsS93.ge HI0.out) | refine zr1 ?_ GE279.out | refine zr1 ?_ GE280.out | refine zr1 ?_ GE283.out) | exact HB.out)); rintro e w47 ⟨rfl, hi, hb, hk⟩; refine ⟨_, rfl, ?_⟩; replace BK279 := mk_ (KeepBut.blk hk (g' := gb279) (o := .cells #[.int .i64 a1_0, .int .i64 a1_1, .int .i64 a1_2, .int .i64 a1_3, .int .i64 a1_4] 28 (0, 0)) (by exact BK279.out) NB279_0.out (by simp)); replace BK280 := mk_ (KeepBut.blk hk (g' := gb280) (o := .cells #[.int .i64 0, .int .i64 0, .int .i64 0, .int .i64 0, .int .i64 0, .int .i64 0] 32 (0, 0)) (by exact BK280.out) NB280_0.out (by simp)); replace BK283 := mk_ (KeepBut.blk hk (g' := gb283) (o := .cells #[.int .i64 (wrap64 (1 + t281)), .int .i64 a1_0, .int .i64 a1_1, .int .i64 a1_2, .int .i64 a1_3, .int .i64 a1_4] 32 (0, 0)) (by exact BK283.out) NB283_0.out (by simp)); replace HK := mk_ (KeepBut.trans (by repeat (first | (with_reducible first | exact HK.out | apply zm1 | apply zr7 | apply zr8 | apply zr9 | refine keep_far ?_ GW279.out _ | refine keep_far ?_ GW280.out _ | refine keep_far ?_ GW283.out _) | exact HK.out)) hk (.inl rfl)); replace HB := mk_ (hb); replace HI0 := mk_ (hi); (try clear hb); (try clear hb2); (try clear hk); (try clear hi)) | ((with_reducible refine gate_callee (f := 55) rfl ?_); refine goesL_ (some 18) rfl rfl Try.func55 (by kernel_rfl) rfl #[.pointer (some ⟨g, 0, none⟩), .int .i64 a2] rfl (by (try simp only [List.map_toArray, List.map_cons, List.map_nil]); first | done | rfl | (simp only [List.length_drop, List.length_take]; rfl)) ?_; (with_reducible refine (spec_l20Cfg.calls k g s0_0 t285 a2 t286 t287 t288 t289 t290 t291 w0 _ ?side1 ?side2 A7.out).mono ?_); (case side1 => repeat (first | (with_reducible first | exact HI0.out | apply IsS93.alloc | apply IsS93.drewN | apply IsS93.drew | apply IsS93.set_1 | refine IsS93.far ?_ NB0_279.out _ | refine IsS93.far ?_ NB0_280.out _ | refine IsS93.far ?_ NB0_283.out _) | exact HI0.out)); (case side2 => repeat (first | (with_reducible first | exact HB.out | apply zq7 | apply zq8 | apply zq9 | refine zr1 ?_ (IsS93.ge HI0.out) | refine zr1 ?_ GE279.out | refine zr1 ?_ GE280.out | refine zr1 ?_ GE283.out) | exact HB.out)); rintro e w48 ⟨rfl, hi, hb, hk⟩; refine ⟨_, rfl, ?_⟩; replace BK279 := mk_ (KeepBut.blk hk (g' := gb279) (o := .cells #[.int .i64 a1_0, .int .i64 a1_1, .int .i64 a1_2, .int .i64 a1_3, .int .i64 a1_4] 28 (0, 0)) (by exact BK279.out) NB279_0.out (by simp)); replace BK280 := mk_ (KeepBut.blk hk (g' := gb280) (o := .cells #[.int .i64 0, .int .i64 0, .int .i64 0, .int .i64 0, .int .i64 0, .int .i64 0] 32 (0, 0)) (by exact BK280.out) NB280_0.out (by simp)); replace BK283 := mk_ (KeepBut.blk hk (g' := gb283) (o := .cells #[.int .i64 (wrap64 (1 + t281)), .int .i64 a1_0, .int .i64 a1_1, .int .i64 a1_2, .int .i64 a1_3, .int .i64 a1_4] 32 (0, 0)) (by exact BK283.out) NB283_0.out (by simp)); replace HK := mk_ (KeepBut.trans (by repeat (first | (with_reducible first | exact HK.out | apply zm1 | apply zr7 | apply zr8 | apply zr9 | refine keep_far ?_ GW279.out _ | refine keep_far ?_ GW280.out _ | refine keep_far ?_ GW283.out _) | exact HK.out)) hk (.inl rfl)); replace HB := mk_ (hb); replace HI0 := mk_ (hi); (try clear hb); (try clear hb2); (try clear hk); (try clear hi); have hnb49 := NB283_279.out; have hnc49 := NB279_283.out; have hnb50 := NB283_280.out; have hnc50 := NB280_283.out; have hnb51 := NB283_0.out; have hnc51 := NB0_283.out; obtain ⟨hcz52_0, hcz52_1, hcz52_2, hcz52_3, hcz52_4, hcz52_5⟩ := cz6 BK283.out; obtain ⟨hfz52_0, hfz52_1, hfz52_2, hfz52_3, hfz52_4, hfz52_5⟩ := fz6 BK283.out) | ((with_reducible refine gate_callee (f := 58) rfl ?_); refine goesL_ (some 21) rfl rfl Try.func58 (by kernel_rfl) rfl #[.pointer (some ⟨g, 0, none⟩), .int .i64 4] rfl (by (try simp only [List.map_toArray, List.map_cons, List.map_nil]); first | done | rfl | (simp only [List.length_drop, List.length_take]; rfl)) ?_; (with_reducible refine (spec_l20Rd_pick.calls k g s0_0 t291 4 t292 t293 w0 _ ?side1 ?side2 A8.out).mono ?_); (case side1 => repeat (first | (with_reducible first | exact HI0.out | apply IsS93.alloc | apply IsS93.drewN | apply IsS93.drew | apply IsS93.set_1 | refine IsS93.far ?_ NB0_279.out _ | refine IsS93.far ?_ NB0_280.out _ | refine IsS93.far ?_ NB0_283.out _) | exact HI0.out)); (case side2 => repeat (first | (with_reducible first | exact HB.out | apply zq7 | apply zq8 | apply zq9 | refine zr1 ?_ (IsS93.ge HI0.out) | refine zr1 ?_ GE279.out | refine zr1 ?_ GE280.out | refine zr1 ?_ GE283.out) | exact HB.out)); rintro e w53 ⟨rfl, hi, hb, hk⟩; refine ⟨_, rfl, ?_⟩; replace BK279 := mk_ (KeepBut.blk hk (g' := gb279) (o := .cells #[.int .i64 a1_0, .int .i64 a1_1, .int .i64 a1_2, .int .i64 a1_3, .int .i64 a1_4] 28 (0, 0)) (by (with_reducible repeat (first | refine zq1 ?_ _ | refine zq2 ?_ | refine zq3 ?_ _)); refine fa5 ?_ NB279_283.out; (with_reducible repeat (first | refine zq1 ?_ _ | refine zq2 ?_ | refine zq3 ?_ _)); exact BK279.out) NB279_0.out (by simp)); replace BK280 := mk_ (KeepBut.blk hk (g' := gb280) (o := .cells #[.int .i64 0, .int .i64 0, .int .i64 0, .int .i64 0, .int .i64 0, .int .i64 0] 32 (0, 0)) (by (with_reducible repeat (first | refine zq1 ?_ _ | refine zq2 ?_ | refine zq3 ?_ _)); refine fa5 ?_ NB280_283.out; (with_reducible repeat (first | refine zq1 ?_ _ | refine zq2 ?_ | refine zq3 ?_ _)); exact BK280.out) NB280_0.out (by simp)); replace BK283 := mk_ (KeepBut.blk hk (g' := gb283) (o := .cells #[.int .i64 (wrap64 (1 + t281)), .int .i64 t286, .int .i64 t287, .int .i64 t288, .int .i64 t289, .int .i64 t290] 32 (0, 0)) (by (with_reducible repeat (first | refine zq1 ?_ _ | refine zq2 ?_ | refine zq3 ?_ _)); refine zq4 (cs := #[.int .i64 (wrap64 (1 + t281)), .int .i64 t286, .int .i64 t287, .int .i64 t288, .int .i64 t289, .int .i64 a1_4]) ?_ 5 _ rfl; (with_reducible repeat (first | refine zq1 ?_ _ | refine zq2 ?_ | refine zq3 ?_ _)); refine zq4 (cs := #[.int .i64 (wrap64 (1 + t281)), .int .i64 t286, .int .i64 t287, .int .i64 t288, .int .i64 a1_3, .int .i64 a1_4]) ?_ 4 _ rfl; (with_reducible repeat (first | refine zq1 ?_ _ | refine zq2 ?_ | refine zq3 ?_ _)); refine zq4 (cs := #[.int .i64 (wrap64 (1 + t281)), .int .i64 t286, .int .i64 t287, .int .i64 a1_2, .int .i64 a1_3, .int .i64 a1_4]) ?_ 3 _ rfl; (with_reducible repeat (first | refine zq1 ?_ _ | refine zq2 ?_ | refine zq3 ?_ _)); refine zq4 (cs := #[.int .i64 (wrap64 (1 + t281)), .int .i64 t286, .int .i64 a1_1, .int .i64 a1_2, .int .i64 a1_3, .int .i64 a1_4]) ?_ 2 _ rfl; (with_reducible repeat (first | refine zq1 ?_ _ | refine zq2 ?_ | refine zq3 ?_ _)); refine zq4 (cs := #[.int .i64 (wrap64 (1 + t281)), .int .i64 a1_0, .int .i64 a1_1, .int .i64 a1_2, .int .i64 a1_3, .int .i64 a1_4]) ?_ 1 _ rfl; (with_reducible repeat (first | refine zq1 ?_ _ | refine zq2 ?_ | refine zq3 ?_ _)); exact BK283.out) NB283_0.out (by simp)); replace HK := mk_ (KeepBut.trans (by repeat (first | (with_reducible first | exact HK.out | apply zm1 | apply zr7 | apply zr8 | apply zr9 | refine keep_far ?_ GW279.out _ | refine keep_far ?_ GW280.out _ | refine keep_far ?_ GW283.out _) | exact HK.out)) hk (.inl rfl)); replace HB := mk_ (hb); replace HI0 := mk_ (hi); (try clear hb); (try clear hb2); (try clear hk); (try clear hi); obtain ⟨hcz54_0, hcz54_1, hcz54_2, hcz54_3, hcz54_4, hcz54_5⟩ := cz6 BK283.out; obtain ⟨hfz54_0, hfz54_1, hfz54_2, hfz54_3, hfz54_4, hfz54_5⟩ := fz6 BK283.out; have hnb55 := NB280_279.out; have hnc55 := NB279_280.out; have hnb56 := NB280_0.out; have hnc56 := NB0_280.out; obtain ⟨hcz57_0, hcz57_1, hcz57_2, hcz57_3, hcz57_4, hcz57_5⟩ := cz6 BK280.out; obtain ⟨hfz57_0, hfz57_1, hfz57_2, hfz57_3, hfz57_4, hfz57_5⟩ := fz6 BK280.out))
   refine bodyPost_ret (results_cell_row rfl _ _ gb280 32 #[.int .i64 (wrap64 (1 + t281)), .int .i64 t286, .int .i64 t287, .int .i64 t288, .int .i64 t289, .int .i64 t290] (0, 0) _ rfl (by (with_reducible repeat (first | refine zq1 ?_ _ | refine zq2 ?_ | refine zq3 ?_ _)); apply pu6; (with_reducible repeat (first | refine zq1 ?_ _ | refine zq2 ?_ | refine zq3 ?_ _)); exact BK280.out) Try.underlying32 rfl (by kernel_rfl)) rfl ?_
   exact ⟨by first | rfl | (simp [errW_none, errW_some] <;> rfl) | (simp [*, errW_none, errW_some] <;> rfl), by repeat (first | (with_reducible first | exact HI0.out | apply IsS93.alloc | apply IsS93.drewN | apply IsS93.drew | apply IsS93.set_1 | refine IsS93.far ?_ NB0_279.out _ | refine IsS93.far ?_ NB0_280.out _ | refine IsS93.far ?_ NB0_283.out _) | exact HI0.out), by repeat (first | (with_reducible first | exact HB.out | apply zq7 | apply zq8 | apply zq9 | refine zr1 ?_ (IsS93.ge HI0.out) | refine zr1 ?_ GE279.out | refine zr1 ?_ GE280.out | refine zr1 ?_ GE283.out) | exact HB.out), by repeat (first | (with_reducible first | exact HK.out | apply zm1 | apply zr7 | apply zr8 | apply zr9 | refine keep_far ?_ GW279.out _ | refine keep_far ?_ GW280.out _ | refine keep_far ?_ GW283.out _) | exact HK.out)⟩
 rw [if_pos c9] at H
 have c9b0 : decide (0 < t292) = true := decide_eq_true c9
 clear c9
 simp only [Option.some.injEq, Prod.mk.injEq] at H
 obtain ⟨rfl, rfl, rfl, rfl, rfl, rfl, rfl⟩ := H
 go_enter Try.func56, Try.ntmps56
 try go_wp2_with (first | ((with_reducible refine gate_dst (N := 4) rfl ?_); refine box_event ?hg (N := 4) ?hd (cs := #[.int .i64 a1_0, .int .i64 a1_1, .int .i64 a1_2, .int .i64 a1_3, .int .i64 a1_4]) (t := 28) ?hr ?_; (case hd => rfl); (case hg => rfl); (case hr => first | (go_simp; done) | (go_simp; rfl)); intro gb279 hg w10 hbox hb; replace HB := mk_ (zr3 (by repeat (first | (with_reducible first | exact HB.out | apply zq7 | apply zq8 | apply zq9 | refine zr1 ?_ (IsS93.ge HI0.out)) | exact HB.out)) hb); have BK279 := mk_ (hbox); have GW279 := mk_ ((by rw [hg]; exact (keep_size (w := w) (g := g) (row := none) (by repeat (first | (with_reducible first | exact HK.out | apply zm1 | apply zr7 | apply zr8 | apply zr9) | exact HK.out))) : w.heap.size ≤ gb279)); have GE279 := mk_ ((Nat.le_trans HW0.out (by rw [hg]; exact (keep_size (w := w) (g := g) (row := none) (by repeat (first | (with_reducible first | exact HK.out | apply zm1 | apply zr7 | apply zr8 | apply zr9) | exact HK.out))) : w.heap.size ≤ gb279) : w0.heap.size ≤ gb279)); replace HK := mk_ (KeepBut.trans (by repeat (first | (with_reducible first | exact HK.out | apply zm1 | apply zr7 | apply zr8 | apply zr9) | exact HK.out)) (KeepBut.of_below hb g none) (.inl rfl)); have NB0_279 := mk_ ((by rw [hg]; exact zm2 (IsS93.lt (show IsS93 w0 _ g s0_0 s0_1 from by repeat (first | (with_reducible first | exact HI0.out | apply IsS93.alloc | apply IsS93.drewN | apply IsS93.drew | apply IsS93.set_1) | exact HI0.out))) : g ≠ gb279)); replace HI0 := mk_ (IsS93.below (by repeat (first | (with_reducible first | exact HI0.out | apply IsS93.alloc | apply IsS93.drewN | apply IsS93.drew | apply IsS93.set_1) | exact HI0.out)) hb); have NB279_0 := mk_ NB0_279.out.symm; clear hb hbox hg) | ((with_reducible refine gate_dst (N := 6) rfl ?_); refine box_event ?hg (N := 6) ?hd (cs := #[.int .i64 0, .int .i64 0, .int .i64 0, .int .i64 0, .int .i64 0, .int .i64 0]) (t := 32) ?hr ?_; (case hd => rfl); (case hg => rfl); (case hr => first | (go_simp; done) | (go_simp; rfl)); intro gb280 hg w11 hbox hb; replace HB := mk_ (zr3 (by repeat (first | (with_reducible first | exact HB.out | apply zq7 | apply zq8 | apply zq9 | refine zr1 ?_ (IsS93.ge HI0.out) | refine zr1 ?_ GE279.out) | exact HB.out)) hb); have BK280 := mk_ (hbox); have GW280 := mk_ ((by rw [hg]; exact (keep_size (w := w) (g := g) (row := none) (by repeat (first | (with_reducible first | exact HK.out | apply zm1 | apply zr7 | apply zr8 | apply zr9 | refine keep_far ?_ GW279.out _) | exact HK.out))) : w.heap.size ≤ gb280)); have GE280 := mk_ ((Nat.le_trans HW0.out (by rw [hg]; exact (keep_size (w := w) (g := g) (row := none) (by repeat (first | (with_reducible first | exact HK.out | apply zm1 | apply zr7 | apply zr8 | apply zr9 | refine keep_far ?_ GW279.out _) | exact HK.out))) : w.heap.size ≤ gb280) : w0.heap.size ≤ gb280)); replace HK := mk_ (KeepBut.trans (by repeat (first | (with_reducible first | exact HK.out | apply zm1 | apply zr7 | apply zr8 | apply zr9 | refine keep_far ?_ GW279.out _) | exact HK.out)) (KeepBut.of_below hb g none) (.inl rfl)); have NB279_280 := mk_ ((by rw [hg]; exact zm2 (zr6 (by exact BK279.out)) : gb279 ≠ gb280)); replace BK279 := mk_ (zq6 (by exact BK279.out) hb); have NB280_279 := mk_ NB279_280.out.symm; have NB0_280 := mk_ ((by rw [hg]; exact zm2 (IsS93.lt (show IsS93 w0 _ g s0_0 s0_1 from by repeat (first | (with_reducible first | exact HI0.out | apply IsS93.alloc | apply IsS93.drewN | apply IsS93.drew | apply IsS93.set_1 | refine IsS93.far ?_ NB0_279.out _) | exact HI0.out))) : g ≠ gb280)); replace HI0 := mk_ (IsS93.below (by repeat (first | (with_reducible first | exact HI0.out | apply IsS93.alloc | apply IsS93.drewN | apply IsS93.drew | apply IsS93.set_1 | refine IsS93.far ?_ NB0_279.out _) | exact HI0.out)) hb); have NB280_0 := mk_ NB0_280.out.symm; clear hb hbox hg))
 replace BK279 := mk_ (zq2 BK279.out)
 replace BK280 := mk_ (zq2 BK280.out)
 replace HI0 := mk_ (IsS93.drew HI0.out)
 replace HK := mk_ (zr8 HK.out)
 replace HB := mk_ (zq9 HB.out)
 refine start_ (n := 7) (S := fun w' => True) (ds := []) (bm 7 0) (by kernel_rfl) rfl rfl trivial (fun hHeld => ?_); refine with_tabW spec_l20NegMsg.tab1 spec_l20NegMsg.bits1 (fun HT_ HW_ => ?_)
 generalize w11.drew = w12 at BK279 BK280 HI0 HK HB hHeld ⊢
 refine pA 0 (some 8) (bm 7 1) rfl rfl HT_.out (by kernel_rfl) (fun _ _ _ h => h) (by rfl) (by intro w'; go_simp; with_reducible rfl) (by simp only [Act.put, zs1, zs2, zs3, i64_w, i32_w]; rfl) ?_
 refine inv_at [1, 2, 3, 4, 5, 6] (fun a0_ b a w' => ∃ (gb283 : Nat) (m5_ : Value), a = putSel a0_ b [(1, 9, .int .i64 t281), (2, 10, .int .i64 (wrap64 (1 + t281))), (3, 11, .agg #[.int .i64 a1_0, .int .i64 a1_1, .int .i64 a1_2, .int .i64 a1_3, .int .i64 a1_4]), (4, 12, .agg #[.int .i64 (wrap64 (1 + t281)), .int .i64 a1_0, .int .i64 a1_1, .int .i64 a1_2, .int .i64 a1_3, .int .i64 a1_4]), (5, 7, m5_)] ∧ (w'.heap[gb279]? = some (.cells #[.int .i64 a1_0, .int .i64 a1_1, .int .i64 a1_2, .int .i64 a1_3, .int .i64 a1_4] 28 (0, 0))) ∧ (w'.heap[gb280]? = some (.cells #[.int .i64 0, .int .i64 0, .int .i64 0, .int .i64 0, .int .i64 0, .int .i64 0] 32 (0, 0))) ∧ (b 1 = false → IsS93 w0 w' g s0_0 s0_1) ∧ (KeepBut w w' g none) ∧ (Below w0.heap.size w0 w') ∧ (b 1 = true → IsS93 w0 w' g s0_0 t282) ∧ (b 5 = true → b 6 = false → w'.heap[gb283]? = some (.cells #[.int .i64 0, .int .i64 0, .int .i64 0, .int .i64 0, .int .i64 0, .int .i64 0] 32 (0, 0))) ∧ (b 5 = true → w.heap.size ≤ gb283) ∧ (b 5 = true → w0.heap.size ≤ gb283) ∧ (b 5 = true → g ≠ gb283) ∧ (b 5 = true → gb283 ≠ g) ∧ (b 5 = true → gb279 ≠ gb283) ∧ (b 5 = true → gb283 ≠ gb279) ∧ (b 5 = true → gb280 ≠ gb283) ∧ (b 5 = true → gb283 ≠ gb280) ∧ (b 6 = true → w'.heap[gb283]? = some (.cells #[.int .i64 (wrap64 (1 + t281)), .int .i64 a1_0, .int .i64 a1_1, .int .i64 a1_2, .int .i64 a1_3, .int .i64 a1_4] 32 (0, 0))) ∧ (b 5 = true → (m5_ : Value) = .pointer (some ⟨gb283, 0, none⟩))) HT_.out HW_.out (by kernel_rfl) (by kernel_rfl) ?_ ?_ ?_
 · exact ⟨0, .bool false, by simp only [putSel, Bool.false_eq_true, if_false], BK279.out, BK280.out, fun _ => HI0.out, HK.out, HB.out, fun h_ => absurd h_ (by decide), fun h_ => absurd h_ (by decide), fun h_ => absurd h_ (by decide), fun h_ => absurd h_ (by decide), fun h_ => absurd h_ (by decide), fun h_ => absurd h_ (by decide), fun h_ => absurd h_ (by decide), fun h_ => absurd h_ (by decide), fun h_ => absurd h_ (by decide), fun h_ => absurd h_ (by decide), fun h_ => absurd h_ (by decide), fun h_ => absurd h_ (by decide)⟩
 · skip
   clear BK279 BK280 HB HI0 HK
   refine steps_cons ?_ ?_
   · rintro b a w' ⟨gb283, m5_, ha, Q_BK279, Q_BK280, Q_HI0, Q_HK, Q_HB, Q_HI0_e1, Q_BK283, Q_GW283, Q_GE283, Q_NB0_283, Q_NB283_0, Q_NB279_283, Q_NB283_279, Q_NB280_283, Q_NB283_280, Q_BK283_e6, Q_X5_⟩ hb_ hon hoff
     refine ⟨_, rfl, fun K hK => ?_⟩
     have e8 : a.tmps[8]? = some (.pointer (some ⟨g, 0, none⟩)) := by rw [ha]; exact (putSel_off rfl).trans rfl
     replace ha := mk_ ha
     have BK279 := mk_ Q_BK279
     have BK280 := mk_ Q_BK280
     have HI0 := mk_ (Q_HI0 hb_)
     have HK := mk_ Q_HK
     have HB := mk_ Q_HB
     refine goes_ Try.func58 (by kernel_rfl) rfl #[.pointer (some ⟨g, 0, none⟩), .int .i64 3] (by rfl) rfl rfl (by first | (simp only [List.map_toArray, List.map_cons, List.map_nil, Act.eval, Array.getD_eq_getD_getElem?, Option.getD_some, e8]; done) | (simp only [List.map_toArray, List.map_cons, List.map_nil, Act.eval, Array.getD_eq_getD_getElem?, Option.getD_some, e8]; rfl)) ?_
     with_reducible refine (spec_l20Rd_pick.calls k g s0_0 s0_1 3 t281 t282 w0 _ ?side1 ?side2 A4.out).mono ?_
     (case side1 => repeat (first | (with_reducible first | exact HI0.out | apply IsS93.alloc | apply IsS93.drewN | apply IsS93.drew | apply IsS93.set_1 | refine IsS93.far ?_ NB0_279.out _ | refine IsS93.far ?_ NB0_280.out _) | exact HI0.out))
     (case side2 => repeat (first | (with_reducible first | exact HB.out | apply zq7 | apply zq8 | apply zq9 | refine zr1 ?_ (IsS93.ge HI0.out) | refine zr1 ?_ GE279.out | refine zr1 ?_ GE280.out) | exact HB.out))
     rintro e w13 ⟨rfl, hi, hb, hk⟩
     refine ⟨_, rfl, ?_⟩
     have n0_ := mk_ (KeepBut.blk hk (g' := gb279) (o := .cells #[.int .i64 a1_0, .int .i64 a1_1, .int .i64 a1_2, .int .i64 a1_3, .int .i64 a1_4] 28 (0, 0)) (by exact BK279.out) NB279_0.out (by simp))
     have n1_ := mk_ (KeepBut.blk hk (g' := gb280) (o := .cells #[.int .i64 0, .int .i64 0, .int .i64 0, .int .i64 0, .int .i64 0, .int .i64 0] 32 (0, 0)) (by exact BK280.out) NB280_0.out (by simp))
     have n2_ := mk_ (KeepBut.trans (by repeat (first | (with_reducible first | exact HK.out | apply zm1 | apply zr7 | apply zr8 | apply zr9 | refine keep_far ?_ GW279.out _ | refine keep_far ?_ GW280.out _) | exact HK.out)) hk (.inl rfl))
     have n3_ := mk_ (hb)
     have n4_ := mk_ (hi)
     have z_BK283 := fun (h0_ : b 5 = true) (h1_ : b 6 = false) => (show w13.heap[gb283]? = some (.cells #[.int .i64 0, .int .i64 0, .int .i64 0, .int .i64 0, .int .i64 0, .int .i64 0] 32 (0, 0)) from by first | exact (KeepBut.blk hk (g' := gb283) (o := .cells #[.int .i64 0, .int .i64 0, .int .i64 0, .int .i64 0, .int .i64 0, .int .i64 0] 32 (0, 0)) (by (with_reducible repeat (first | refine zq1 ?_ _ | refine zq2 ?_ | refine zq3 ?_ _)); exact (Q_BK283 h0_ h1_)) (Q_NB283_0 h0_) (by simp)))
     clear BK279
     clear BK280
     clear HK
     clear HB
     clear HI0
     have BK279 := n0_
     have BK280 := n1_
     have HK := n2_
     have HB := n3_
     have HI0 := n4_
     clear n0_ n1_ n2_ n3_ n4_
     (try clear hb)
     (try clear hb2)
     (try clear hk)
     (try clear hi)
     refine hK.out _ _ ⟨gb283, m5_, (by rw [ha.out]; exact putSel_upk 0 hb_ rfl rfl rfl), (by exact BK279.out), (by exact BK280.out), fun h0_ => absurd ((up_self b 1).symm.trans h0_) (by decide), (by repeat (first | (with_reducible first | exact HK.out | apply zm1 | apply zr7 | apply zr8 | apply zr9 | refine keep_far ?_ GW279.out _ | refine keep_far ?_ GW280.out _) | exact HK.out)), (by repeat (first | (with_reducible first | exact HB.out | apply zq7 | apply zq8 | apply zq9 | refine zr1 ?_ (IsS93.ge HI0.out) | refine zr1 ?_ GE279.out | refine zr1 ?_ GE280.out) | exact HB.out)), fun _ => (by repeat (first | (with_reducible first | exact HI0.out | apply IsS93.alloc | apply IsS93.drewN | apply IsS93.drew | apply IsS93.set_1 | refine IsS93.far ?_ NB0_279.out _ | refine IsS93.far ?_ NB0_280.out _) | exact HI0.out)), z_BK283, Q_GW283, Q_GE283, Q_NB0_283, Q_NB283_0, Q_NB279_283, Q_NB283_279, Q_NB280_283, Q_NB283_280, fun h0_ => absurd ((hoff 6 (by kernel_rfl)).symm.trans h0_) (by decide), Q_X5_⟩
   refine steps_cons ?_ ?_
   · rintro b a w' ⟨gb283, m5_, ha, Q_BK279, Q_BK280, Q_HI0, Q_HK, Q_HB, Q_HI0_e1, Q_BK283, Q_GW283, Q_GE283, Q_NB0_283, Q_NB283_0, Q_NB279_283, Q_NB283_279, Q_NB280_283, Q_NB283_280, Q_BK283_e6, Q_X5_⟩ hb_ hon hoff
     refine ⟨_, rfl, fun K hK => ?_⟩
     have e9 : a.tmps[9]? = some (.int .i64 t281) := by rw [ha]; exact putSel_on (e := (1, 9, .int .i64 t281)) 0 rfl rfl (hon 1 (by kernel_rfl)) rfl
     replace ha := mk_ ha
     have BK279 := mk_ Q_BK279
     have BK280 := mk_ Q_BK280
     have HK := mk_ Q_HK
     have HB := mk_ Q_HB
     have HI0 := mk_ (Q_HI0_e1 (hon 1 (by kernel_rfl)))
     refine value_ (w1 := w') (v := .int .i64 (wrap64 (1 + t281))) (by rfl) rfl ?_ ?_
     · go_simp
       (try simp only [i64_w])
       try rfl
     refine hK.out _ _ ⟨gb283, m5_, (by rw [ha.out]; exact putSel_upk 1 hb_ rfl rfl rfl), Q_BK279, Q_BK280, fun h0_ => absurd ((hon 1 (by kernel_rfl)).symm.trans h0_) (by decide), Q_HK, Q_HB, Q_HI0_e1, Q_BK283, Q_GW283, Q_GE283, Q_NB0_283, Q_NB283_0, Q_NB279_283, Q_NB283_279, Q_NB280_283, Q_NB283_280, fun h0_ => absurd ((hoff 6 (by kernel_rfl)).symm.trans h0_) (by decide), Q_X5_⟩
   refine steps_cons ?_ ?_
   · rintro b a w' ⟨gb283, m5_, ha, Q_BK279, Q_BK280, Q_HI0, Q_HK, Q_HB, Q_HI0_e1, Q_BK283, Q_GW283, Q_GE283, Q_NB0_283, Q_NB283_0, Q_NB279_283, Q_NB283_279, Q_NB280_283, Q_NB283_280, Q_BK283_e6, Q_X5_⟩ hb_ hon hoff
     refine ⟨_, rfl, fun K hK => ?_⟩
     have e4 : a.tmps[4]? = some (.pointer (some ⟨gb279, 0, none⟩)) := by rw [ha]; exact (putSel_off rfl).trans rfl
     replace ha := mk_ ha
     have BK279 := mk_ Q_BK279
     have BK280 := mk_ Q_BK280
     have HK := mk_ Q_HK
     have HB := mk_ Q_HB
     have hc0_ : w'.cell? ⟨gb279, 0, none⟩ = some (.int .i64 a1_0) := (zr4 BK279.out 0).trans rfl
     have hc1_ : w'.cell? ⟨gb279, 1, none⟩ = some (.int .i64 a1_1) := (zr4 BK279.out 1).trans rfl
     have hc2_ : w'.cell? ⟨gb279, 2, none⟩ = some (.int .i64 a1_2) := (zr4 BK279.out 2).trans rfl
     have hc3_ : w'.cell? ⟨gb279, 3, none⟩ = some (.int .i64 a1_3) := (zr4 BK279.out 3).trans rfl
     have hc4_ : w'.cell? ⟨gb279, 4, none⟩ = some (.int .i64 a1_4) := (zr4 BK279.out 4).trans rfl
     refine value_ (w1 := w') (v := .agg #[.int .i64 a1_0, .int .i64 a1_1, .int .i64 a1_2, .int .i64 a1_3, .int .i64 a1_4]) (by rfl) rfl ?_ ?_
     · go_simp
       (try simp only [i64_w])
       try rfl
     refine hK.out _ _ ⟨gb283, m5_, (by rw [ha.out]; exact putSel_upk 2 hb_ rfl rfl rfl), Q_BK279, Q_BK280, Q_HI0, Q_HK, Q_HB, Q_HI0_e1, Q_BK283, Q_GW283, Q_GE283, Q_NB0_283, Q_NB283_0, Q_NB279_283, Q_NB283_279, Q_NB280_283, Q_NB283_280, fun h0_ => absurd ((hoff 6 (by kernel_rfl)).symm.trans h0_) (by decide), Q_X5_⟩
   refine steps_cons ?_ ?_
   · rintro b a w' ⟨gb283, m5_, ha, Q_BK279, Q_BK280, Q_HI0, Q_HK, Q_HB, Q_HI0_e1, Q_BK283, Q_GW283, Q_GE283, Q_NB0_283, Q_NB283_0, Q_NB279_283, Q_NB283_279, Q_NB280_283, Q_NB283_280, Q_BK283_e6, Q_X5_⟩ hb_ hon hoff
     refine ⟨_, rfl, fun K hK => ?_⟩
     have e10 : a.tmps[10]? = some (.int .i64 (wrap64 (1 + t281))) := by rw [ha]; exact putSel_on (e := (2, 10, .int .i64 (wrap64 (1 + t281)))) 1 rfl rfl (hon 2 (by kernel_rfl)) rfl
     have e11 : a.tmps[11]? = some (.agg #[.int .i64 a1_0, .int .i64 a1_1, .int .i64 a1_2, .int .i64 a1_3, .int .i64 a1_4]) := by rw [ha]; exact putSel_on (e := (3, 11, .agg #[.int .i64 a1_0, .int .i64 a1_1, .int .i64 a1_2, .int .i64 a1_3, .int .i64 a1_4])) 2 rfl rfl (hon 3 (by kernel_rfl)) rfl
     replace ha := mk_ ha
     have BK279 := mk_ Q_BK279
     have BK280 := mk_ Q_BK280
     have HK := mk_ Q_HK
     have HB := mk_ Q_HB
     have HI0 := mk_ (Q_HI0_e1 (hon 1 (by kernel_rfl)))
     refine value_ (w1 := w') (v := .agg #[.int .i64 (wrap64 (1 + t281)), .int .i64 a1_0, .int .i64 a1_1, .int .i64 a1_2, .int .i64 a1_3, .int .i64 a1_4]) (by rfl) rfl ?_ ?_
     · go_simp
       (try simp only [i64_w])
       try rfl
     refine hK.out _ _ ⟨gb283, m5_, (by rw [ha.out]; exact putSel_upk 3 hb_ rfl rfl rfl), Q_BK279, Q_BK280, fun h0_ => absurd ((hon 1 (by kernel_rfl)).symm.trans h0_) (by decide), Q_HK, Q_HB, Q_HI0_e1, Q_BK283, Q_GW283, Q_GE283, Q_NB0_283, Q_NB283_0, Q_NB279_283, Q_NB283_279, Q_NB280_283, Q_NB283_280, fun h0_ => absurd ((hoff 6 (by kernel_rfl)).symm.trans h0_) (by decide), Q_X5_⟩
   refine steps_cons ?_ ?_
   · rintro b a w' ⟨gb283, m5_, ha, Q_BK279, Q_BK280, Q_HI0, Q_HK, Q_HB, Q_HI0_e1, Q_BK283, Q_GW283, Q_GE283, Q_NB0_283, Q_NB283_0, Q_NB279_283, Q_NB283_279, Q_NB280_283, Q_NB283_280, Q_BK283_e6, Q_X5_⟩ hb_ hon hoff
     refine ⟨_, rfl, fun K hK => ?_⟩
     replace ha := mk_ ha
     have BK279 := mk_ Q_BK279
     have BK280 := mk_ Q_BK280
     have HK := mk_ Q_HK
     have HB := mk_ Q_HB
     refine box_step ?hg (N := 7) ?hd (cs := #[.int .i64 0, .int .i64 0, .int .i64 0, .int .i64 0, .int .i64 0, .int .i64 0]) (t := 32) ?hr ?_; (case hd => rfl); (case hg => rfl); (case hr => first | (go_simp; done) | (go_simp; rfl))
     intro gb283 hg w13 hbox hb
     have n1_ := mk_ (zq6 (by exact BK279.out) hb)
     have n2_ := mk_ (zq6 (by exact BK280.out) hb)
     have n3_ := mk_ (KeepBut.trans (by repeat (first | (with_reducible first | exact HK.out | apply zm1 | apply zr7 | apply zr8 | apply zr9 | refine keep_far ?_ GW279.out _ | refine keep_far ?_ GW280.out _) | exact HK.out)) (KeepBut.of_below hb g none) (.inl rfl))
     have n4_ := mk_ (zr3 (by repeat (first | (with_reducible first | exact HB.out | apply zq7 | apply zq8 | apply zq9 | refine zr1 ?_ GE279.out | refine zr1 ?_ GE280.out) | exact HB.out)) hb)
     have n5_ := mk_ (hbox)
     have n6_ := mk_ ((by rw [hg]; exact (keep_size (w := w) (g := g) (row := none) (by repeat (first | (with_reducible first | exact HK.out | apply zm1 | apply zr7 | apply zr8 | apply zr9 | refine keep_far ?_ GW279.out _ | refine keep_far ?_ GW280.out _) | exact HK.out))) : w.heap.size ≤ gb283))
     have n7_ := mk_ ((Nat.le_trans HW0.out (by rw [hg]; exact (keep_size (w := w) (g := g) (row := none) (by repeat (first | (with_reducible first | exact HK.out | apply zm1 | apply zr7 | apply zr8 | apply zr9 | refine keep_far ?_ GW279.out _ | refine keep_far ?_ GW280.out _) | exact HK.out))) : w.heap.size ≤ gb283) : w0.heap.size ≤ gb283))
     have n8_ := mk_ ((by rw [hg]; exact zm2 (zr6 (by exact BK279.out)) : gb279 ≠ gb283))
     have n9_ := mk_ ((by rw [hg]; exact zm3 (zr6 (by exact BK279.out)) : gb283 ≠ gb279))
     have n10_ := mk_ ((by rw [hg]; exact zm2 (zr6 (by exact BK280.out)) : gb280 ≠ gb283))
     have n11_ := mk_ ((by rw [hg]; exact zm3 (zr6 (by exact BK280.out)) : gb283 ≠ gb280))
     have n12_ := mk_ ((by rw [hg]; exact zm2 (Nat.lt_of_lt_of_le HGL.out (keep_size (w := w) (g := g) (row := none) (by repeat (first | (with_reducible first | exact HK.out | apply zm1 | apply zr7 | apply zr8 | apply zr9) | exact HK.out)))) : g ≠ gb283))
     have n13_ := mk_ ((by rw [hg]; exact zm3 (Nat.lt_of_lt_of_le HGL.out (keep_size (w := w) (g := g) (row := none) (by repeat (first | (with_reducible first | exact HK.out | apply zm1 | apply zr7 | apply zr8 | apply zr9) | exact HK.out)))) : gb283 ≠ g))
     have z_HI0 := fun (h0_ : b 1 = false) => (show IsS93 w0 w13 g s0_0 s0_1 from by first | exact (IsS93.below (by repeat (first | (with_reducible first | exact (Q_HI0 h0_) | apply IsS93.alloc | apply IsS93.drewN | apply IsS93.drew | apply IsS93.set_1 | refine IsS93.far ?_ NB0_279.out _ | refine IsS93.far ?_ NB0_280.out _) | exact (Q_HI0 h0_))) hb))
     have z_HI0_e1 := fun (h0_ : b 1 = true) => (show IsS93 w0 w13 g s0_0 t282 from by first | exact (IsS93.below (by repeat (first | (with_reducible first | exact (Q_HI0_e1 h0_) | apply IsS93.alloc | apply IsS93.drewN | apply IsS93.drew | apply IsS93.set_1 | refine IsS93.far ?_ NB0_279.out _ | refine IsS93.far ?_ NB0_280.out _) | exact (Q_HI0_e1 h0_))) hb))
     clear BK279
     clear BK280
     clear HK
     clear HB
     have BK279 := n1_
     have BK280 := n2_
     have HK := n3_
     have HB := n4_
     have BK283 := n5_
     have GW283 := n6_
     have GE283 := n7_
     have NB279_283 := n8_
     have NB283_279 := n9_
     have NB280_283 := n10_
     have NB283_280 := n11_
     have NB0_283 := n12_
     have NB283_0 := n13_
     clear n1_ n2_ n3_ n4_ n5_ n6_ n7_ n8_ n9_ n10_ n11_ n12_ n13_
     clear hb hbox hg
     refine hK.out _ _ ⟨gb283, (.pointer (some ⟨gb283, 0, none⟩)), (by rw [ha.out]; exact putSel_upk 4 hb_ rfl rfl rfl), (by exact BK279.out), (by exact BK280.out), z_HI0, (by repeat (first | (with_reducible first | exact HK.out | apply zm1 | apply zr7 | apply zr8 | apply zr9 | refine keep_far ?_ GW279.out _ | refine keep_far ?_ GW280.out _ | refine keep_far ?_ GW283.out _) | exact HK.out)), (by repeat (first | (with_reducible first | exact HB.out | apply zq7 | apply zq8 | apply zq9 | refine zr1 ?_ GE279.out | refine zr1 ?_ GE280.out | refine zr1 ?_ GE283.out) | exact HB.out)), z_HI0_e1, fun _ _ => (by exact BK283.out), fun _ => GW283.out, fun _ => GE283.out, fun _ => NB0_283.out, fun _ => NB283_0.out, fun _ => NB279_283.out, fun _ => NB283_279.out, fun _ => NB280_283.out, fun _ => NB283_280.out, fun h0_ => absurd ((hoff 6 (by kernel_rfl)).symm.trans h0_) (by decide), fun _ => rfl⟩
   refine steps_cons ?_ ?_
   · rintro b a w' ⟨gb283, m5_, ha, Q_BK279, Q_BK280, Q_HI0, Q_HK, Q_HB, Q_HI0_e1, Q_BK283, Q_GW283, Q_GE283, Q_NB0_283, Q_NB283_0, Q_NB279_283, Q_NB283_279, Q_NB280_283, Q_NB283_280, Q_BK283_e6, Q_X5_⟩ hb_ hon hoff
     refine ⟨_, rfl, fun K hK => ?_⟩
     have e7 : a.tmps[7]? = some (m5_) := by rw [ha]; exact putSel_on (e := (5, 7, m5_)) 4 rfl rfl (hon 5 (by kernel_rfl)) rfl
     rw [Q_X5_ (hon 5 (by kernel_rfl))] at e7
     have e12 : a.tmps[12]? = some (.agg #[.int .i64 (wrap64 (1 + t281)), .int .i64 a1_0, .int .i64 a1_1, .int .i64 a1_2, .int .i64 a1_3, .int .i64 a1_4]) := by rw [ha]; exact putSel_on (e := (4, 12, .agg #[.int .i64 (wrap64 (1 + t281)), .int .i64 a1_0, .int .i64 a1_1, .int .i64 a1_2, .int .i64 a1_3, .int .i64 a1_4])) 3 rfl rfl (hon 4 (by kernel_rfl)) rfl
     replace ha := mk_ ha
     have BK279 := mk_ Q_BK279
     have BK280 := mk_ Q_BK280
     have HK := mk_ Q_HK
     have HB := mk_ Q_HB
     have HI0 := mk_ (Q_HI0_e1 (hon 1 (by kernel_rfl)))
     have BK283 := mk_ (Q_BK283 (hon 5 (by kernel_rfl)) hb_)
     have GW283 := mk_ (Q_GW283 (hon 5 (by kernel_rfl)))
     have GE283 := mk_ (Q_GE283 (hon 5 (by kernel_rfl)))
     have NB0_283 := mk_ (Q_NB0_283 (hon 5 (by kernel_rfl)))
     have NB283_0 := mk_ (Q_NB283_0 (hon 5 (by kernel_rfl)))
     have NB279_283 := mk_ (Q_NB279_283 (hon 5 (by kernel_rfl)))
     have NB283_279 := mk_ (Q_NB283_279 (hon 5 (by kernel_rfl)))
     have NB280_283 := mk_ (Q_NB280_283 (hon 5 (by kernel_rfl)))
     have NB283_280 := mk_ (Q_NB283_280 (hon 5 (by kernel_rfl)))
     have hs16 : w'.cell? ⟨gb283, 0, none⟩ = some (.int .i64 0) := (zr4 BK283.out 0).trans rfl
     have hfs16 := zr5 BK283.out 0
     have hns16_0 := NB279_283.out
     have hns16_1 := NB280_283.out
     have hms16_0 := NB283_279.out
     have hms16_1 := NB283_280.out
     have hs17 : w'.cell? ⟨gb283, 1, none⟩ = some (.int .i64 0) := (zr4 BK283.out 1).trans rfl
     have hfs17 := zr5 BK283.out 1
     have hns17_0 := NB279_283.out
     have hns17_1 := NB280_283.out
     have hms17_0 := NB283_279.out
     have hms17_1 := NB283_280.out
     have hs18 : w'.cell? ⟨gb283, 2, none⟩ = some (.int .i64 0) := (zr4 BK283.out 2).trans rfl
     have hfs18 := zr5 BK283.out 2
     have hns18_0 := NB279_283.out
     have hns18_1 := NB280_283.out
     have hms18_0 := NB283_279.out
     have hms18_1 := NB283_280.out
     have hs19 : w'.cell? ⟨gb283, 3, none⟩ = some (.int .i64 0) := (zr4 BK283.out 3).trans rfl
     have hfs19 := zr5 BK283.out 3
     have hns19_0 := NB279_283.out
     have hns19_1 := NB280_283.out
     have hms19_0 := NB283_279.out
     have hms19_1 := NB283_280.out
     have hs20 : w'.cell? ⟨gb283, 4, none⟩ = some (.int .i64 0) := (zr4 BK283.out 4).trans rfl
     have hfs20 := zr5 BK283.out 4
     have hns20_0 := NB279_283.out
     have hns20_1 := NB280_283.out
     have hms20_0 := NB283_279.out
     have hms20_1 := NB283_280.out
     have hs21 : w'.cell? ⟨gb283, 5, none⟩ = some (.int .i64 0) := (zr4 BK283.out 5).trans rfl
     have hfs21 := zr5 BK283.out 5
     have hns21_0 := NB279_283.out
     have hns21_1 := NB280_283.out
     have hms21_0 := NB283_279.out
     have hms21_1 := NB283_280.out
     refine skip_ (w1 := ?_) (by rfl) rfl ?_ ?_
     rotate_left
     · go_simp
       rfl
     refine hK.out _ _ ⟨gb283, m5_, (by rw [ha.out]; exact putSel_none (v := undef) rfl), (by (with_reducible repeat (first | refine zq1 ?_ _ | refine zq2 ?_ | refine zq3 ?_ _)); refine fa6 ?_ NB279_283.out; (with_reducible repeat (first | refine zq1 ?_ _ | refine zq2 ?_ | refine zq3 ?_ _)); exact BK279.out), (by (with_reducible repeat (first | refine zq1 ?_ _ | refine zq2 ?_ | refine zq3 ?_ _)); refine fa6 ?_ NB280_283.out; (with_reducible repeat (first | refine zq1 ?_ _ | refine zq2 ?_ | refine zq3 ?_ _)); exact BK280.out), fun h0_ => absurd ((hon 1 (by kernel_rfl)).symm.trans h0_) (by decide), (by repeat (first | (with_reducible first | exact HK.out | apply zm1 | apply zr7 | apply zr8 | apply zr9 | refine keep_far ?_ GW279.out _ | refine keep_far ?_ GW280.out _ | refine keep_far ?_ GW283.out _) | exact HK.out)), (by repeat (first | (with_reducible first | exact HB.out | apply zq7 | apply zq8 | apply zq9 | refine zr1 ?_ (IsS93.ge HI0.out) | refine zr1 ?_ GE279.out | refine zr1 ?_ GE280.out | refine zr1 ?_ GE283.out) | exact HB.out)), fun _ => (by repeat (first | (with_reducible first | exact HI0.out | apply IsS93.alloc | apply IsS93.drewN | apply IsS93.drew | apply IsS93.set_1 | refine IsS93.far ?_ NB0_279.out _ | refine IsS93.far ?_ NB0_280.out _ | refine IsS93.far ?_ NB0_283.out _) | exact HI0.out)), fun _ h1_ => absurd ((up_self b 6).symm.trans h1_) (by decide), fun _ => GW283.out, fun _ => GE283.out, fun _ => NB0_283.out, fun _ => NB283_0.out, fun _ => NB279_283.out, fun _ => NB283_279.out, fun _ => NB280_283.out, fun _ => NB283_280.out, fun _ => (by (with_reducible repeat (first | refine zq1 ?_ _ | refine zq2 ?_ | refine zq3 ?_ _)); apply pu6; (with_reducible repeat (first | refine zq1 ?_ _ | refine zq2 ?_ | refine zq3 ?_ _)); exact BK283.out), Q_X5_⟩
   exact steps_nil
 rintro b a w21 hall ⟨gb283, m5_, ha, Q_BK279, Q_BK280, Q_HI0, Q_HK, Q_HB, Q_HI0_e1, Q_BK283, Q_GW283, Q_GE283, Q_NB0_283, Q_NB283_0, Q_NB279_283, Q_NB283_279, Q_NB280_283, Q_NB283_280, Q_BK283_e6, Q_X5_⟩
 clear BK279 BK280 HB HI0 HK
 have hb1_ := hall 1 (by kernel_rfl)
 have hb2_ := hall 2 (by kernel_rfl)
 have hb3_ := hall 3 (by kernel_rfl)
 have hb4_ := hall 4 (by kernel_rfl)
 have hb5_ := hall 5 (by kernel_rfl)
 have hb6_ := hall 6 (by kernel_rfl)
 subst ha
 obtain rfl := Q_X5_ hb5_
 simp only [putSel, hb1_, hb2_, hb3_, hb4_, hb5_, hb6_, if_true, Act.put, List.setIfInBounds_toArray, List.set_cons_zero, List.set_cons_succ]
 have BK279 := mk_ Q_BK279
 clear Q_BK279
 have BK280 := mk_ Q_BK280
 clear Q_BK280
 clear Q_HI0
 have HK := mk_ Q_HK
 clear Q_HK
 have HB := mk_ Q_HB
 clear Q_HB
 have HI0 := mk_ (Q_HI0_e1 hb1_)
 clear Q_HI0_e1
 clear Q_BK283
 have GW283 := mk_ (Q_GW283 hb5_)
 clear Q_GW283
 have GE283 := mk_ (Q_GE283 hb5_)
 clear Q_GE283
 have NB0_283 := mk_ (Q_NB0_283 hb5_)
 clear Q_NB0_283
 have NB283_0 := mk_ (Q_NB283_0 hb5_)
 clear Q_NB283_0
 have NB279_283 := mk_ (Q_NB279_283 hb5_)
 clear Q_NB279_283
 have NB283_279 := mk_ (Q_NB283_279 hb5_)
 clear Q_NB283_279
 have NB280_283 := mk_ (Q_NB280_283 hb5_)
 clear Q_NB280_283
 have NB283_280 := mk_ (Q_NB283_280 hb5_)
 clear Q_NB283_280
 have BK283 := mk_ (Q_BK283_e6 hb6_)
 clear Q_BK283_e6
 clear hall hb1_ hb2_ hb3_ hb4_ hb5_ hb6_
 try go_wp2_with (first | ((with_reducible refine gate_callee (f := 58) rfl ?_); refine goesL_ (some 14) rfl rfl Try.func58 (by kernel_rfl) rfl #[.pointer (some ⟨g, 0, none⟩), .int .i64 3] rfl (by (try simp only [List.map_toArray, List.map_cons, List.map_nil]); first | done | rfl | (simp only [List.length_drop, List.length_take]; rfl)) ?_; (with_reducible refine (spec_l20Rd_pick.calls k g s0_0 t282 3 t284 t285 w0 _ ?side1 ?side2 A5.out).mono ?_); (case side1 => repeat (first | (with_reducible first | exact HI0.out | apply IsS93.alloc | apply IsS93.drewN | apply IsS93.drew | apply IsS93.set_1 | refine IsS93.far ?_ NB0_279.out _ | refine IsS93.far ?_ NB0_280.out _ | refine IsS93.far ?_ NB0_283.out _) | exact HI0.out)); (case side2 => repeat (first | (with_reducible first | exact HB.out | apply zq7 | apply zq8 | apply zq9 | refine zr1 ?_ (IsS93.ge HI0.out) | refine zr1 ?_ GE279.out | refine zr1 ?_ GE280.out | refine zr1 ?_ GE283.out) | exact HB.out)); rintro e w22 ⟨rfl, hi, hb, hk⟩; refine ⟨_, rfl, ?_⟩; replace BK279 := mk_ (KeepBut.blk hk (g' := gb279) (o := .cells #[.int .i64 a1_0, .int .i64 a1_1, .int .i64 a1_2, .int .i64 a1_3, .int .i64 a1_4] 28 (0, 0)) (by exact BK279.out) NB279_0.out (by simp)); replace BK280 := mk_ (KeepBut.blk hk (g' := gb280) (o := .cells #[.int .i64 0, .int .i64 0, .int .i64 0, .int .i64 0, .int .i64 0, .int .i64 0] 32 (0, 0)) (by exact BK280.out) NB280_0.out (by simp)); replace BK283 := mk_ (KeepBut.blk hk (g' := gb283) (o := .cells #[.int .i64 (wrap64 (1 + t281)), .int .i64 a1_0, .int .i64 a1_1, .int .i64 a1_2, .int .i64 a1_3, .int .i64 a1_4] 32 (0, 0)) (by exact BK283.out) NB283_0.out (by simp)); replace HK := mk_ (KeepBut.trans (by repeat (first | (with_reducible first | exact HK.out | apply zm1 | apply zr7 | apply zr8 | apply zr9 | refine keep_far ?_ GW279.out _ | refine keep_far ?_ GW280.out _ | refine keep_far ?_ GW283.out _) | exact HK.out)) hk (.inl rfl)); replace HB := mk_ (hb); replace HI0 := mk_ (hi); (try clear hb); (try clear hb2); (try clear hk); (try clear hi)) | ((with_reducible refine gate_callee (f := 55) rfl ?_); refine goesL_ (some 18) rfl rfl Try.func55 (by kernel_rfl) rfl #[.pointer (some ⟨g, 0, none⟩), .int .i64 a2] rfl (by (try simp only [List.map_toArray, List.map_cons, List.map_nil]); first | done | rfl | (simp only [List.length_drop, List.length_take]; rfl)) ?_; (with_reducible refine (spec_l20Cfg.calls k g s0_0 t285 a2 t286 t287 t288 t289 t290 t291 w0 _ ?side1 ?side2 A7.out).mono ?_); (case side1 => repeat (first | (with_reducible first | exact HI0.out | apply IsS93.alloc | apply IsS93.drewN | apply IsS93.drew | apply IsS93.set_1 | refine IsS93.far ?_ NB0_279.out _ | refine IsS93.far ?_ NB0_280.out _ | refine IsS93.far ?_ NB0_283.out _) | exact HI0.out)); (case side2 => repeat (first | (with_reducible first | exact HB.out | apply zq7 | apply zq8 | apply zq9 | refine zr1 ?_ (IsS93.ge HI0.out) | refine zr1 ?_ GE279.out | refine zr1 ?_ GE280.out | refine zr1 ?_ GE283.out) | exact HB.out)); rintro e w23 ⟨rfl, hi, hb, hk⟩; refine ⟨_, rfl, ?_⟩; replace BK279 := mk_ (KeepBut.blk hk (g' := gb279) (o := .cells #[.int .i64 a1_0, .int .i64 a1_1, .int .i64 a1_2, .int .i64 a1_3, .int .i64 a1_4] 28 (0, 0)) (by exact BK279.out) NB279_0.out (by simp)); replace BK280 := mk_ (KeepBut.blk hk (g' := gb280) (o := .cells #[.int .i64 0, .int .i64 0, .int .i64 0, .int .i64 0, .int .i64 0, .int .i64 0] 32 (0, 0)) (by exact BK280.out) NB280_0.out (by simp)); replace BK283 := mk_ (KeepBut.blk hk (g' := gb283) (o := .cells #[.int .i64 (wrap64 (1 + t281)), .int .i64 a1_0, .int .i64 a1_1, .int .i64 a1_2, .int .i64 a1_3, .int .i64 a1_4] 32 (0, 0)) (by exact BK283.out) NB283_0.out (by simp)); replace HK := mk_ (KeepBut.trans (by repeat (first | (with_reducible first | exact HK.out | apply zm1 | apply zr7 | apply zr8 | apply zr9 | refine keep_far ?_ GW279.out _ | refine keep_far ?_ GW280.out _ | refine keep_far ?_ GW283.out _) | exact HK.out)) hk (.inl rfl)); replace HB := mk_ (hb); replace HI0 := mk_ (hi); (try clear hb); (try clear hb2); (try clear hk); (try clear hi); have hnb24 := NB283_279.out; have hnc24 := NB279_283.out; have hnb25 := NB283_280.out; have hnc25 := NB280_283.out; have hnb26 := NB283_0.out; have hnc26 := NB0_283.out; obtain ⟨hcz27_0, hcz27_1, hcz27_2, hcz27_3, hcz27_4, hcz27_5⟩ := cz6 BK283.out; obtain ⟨hfz27_0, hfz27_1, hfz27_2, hfz27_3, hfz27_4, hfz27_5⟩ := fz6 BK283.out) | ((with_reducible refine gate_callee (f := 58) rfl ?_); refine goesL_ (some 21) rfl rfl Try.func58 (by kernel_rfl) rfl #[.pointer (some ⟨g, 0, none⟩), .int .i64 4] rfl (by (try simp only [List.map_toArray, List.map_cons, List.map_nil]); first | done | rfl | (simp only [List.length_drop, List.length_take]; rfl)) ?_; (with_reducible refine (spec_l20Rd_pick.calls k g s0_0 t291 4 t292 t293 w0 _ ?side1 ?side2 A8.out).mono ?_); (case side1 => repeat (first | (with_reducible first | exact HI0.out | apply IsS93.alloc | apply IsS93.drewN | apply IsS93.drew | apply IsS93.set_1 | refine IsS93.far ?_ NB0_279.out _ | refine IsS93.far ?_ NB0_280.out _ | refine IsS93.far ?_ NB0_283.out _) | exact HI0.out)); (case side2 => repeat (first | (with_reducible first | exact HB.out | apply zq7 | apply zq8 | apply zq9 | refine zr1 ?_ (IsS93.ge HI0.out) | refine zr1 ?_ GE279.out | refine zr1 ?_ GE280.out | refine zr1 ?_ GE283.out) | exact HB.out)); rintro e w28 ⟨rfl, hi, hb, hk⟩; refine ⟨_, rfl, ?_⟩; replace BK279 := mk_ (KeepBut.blk hk (g' := gb279) (o := .cells #[.int .i64 a1_0, .int .i64 a1_1, .int .i64 a1_2, .int .i64 a1_3, .int .i64 a1_4] 28 (0, 0)) (by (with_reducible repeat (first | refine zq1 ?_ _ | refine zq2 ?_ | refine zq3 ?_ _)); refine fa5 ?_ NB279_283.out; (with_reducible repeat (first | refine zq1 ?_ _ | refine zq2 ?_ | refine zq3 ?_ _)); exact BK279.out) NB279_0.out (by simp)); replace BK280 := mk_ (KeepBut.blk hk (g' := gb280) (o := .cells #[.int .i64 0, .int .i64 0, .int .i64 0, .int .i64 0, .int .i64 0, .int .i64 0] 32 (0, 0)) (by (with_reducible repeat (first | refine zq1 ?_ _ | refine zq2 ?_ | refine zq3 ?_ _)); refine fa5 ?_ NB280_283.out; (with_reducible repeat (first | refine zq1 ?_ _ | refine zq2 ?_ | refine zq3 ?_ _)); exact BK280.out) NB280_0.out (by simp)); replace BK283 := mk_ (KeepBut.blk hk (g' := gb283) (o := .cells #[.int .i64 (wrap64 (1 + t281)), .int .i64 t286, .int .i64 t287, .int .i64 t288, .int .i64 t289, .int .i64 t290] 32 (0, 0)) (by (with_reducible repeat (first | refine zq1 ?_ _ | refine zq2 ?_ | refine zq3 ?_ _)); refine zq4 (cs := #[.int .i64 (wrap64 (1 + t281)), .int .i64 t286, .int .i64 t287, .int .i64 t288, .int .i64 t289, .int .i64 a1_4]) ?_ 5 _ rfl; (with_reducible repeat (first | refine zq1 ?_ _ | refine zq2 ?_ | refine zq3 ?_ _)); refine zq4 (cs := #[.int .i64 (wrap64 (1 + t281)), .int .i64 t286, .int .i64 t287, .int .i64 t288, .int .i64 a1_3, .int .i64 a1_4]) ?_ 4 _ rfl; (with_reducible repeat (first | refine zq1 ?_ _ | refine zq2 ?_ | refine zq3 ?_ _)); refine zq4 (cs := #[.int .i64 (wrap64 (1 + t281)), .int .i64 t286, .int .i64 t287, .int .i64 a1_2, .int .i64 a1_3, .int .i64 a1_4]) ?_ 3 _ rfl; (with_reducible repeat (first | refine zq1 ?_ _ | refine zq2 ?_ | refine zq3 ?_ _)); refine zq4 (cs := #[.int .i64 (wrap64 (1 + t281)), .int .i64 t286, .int .i64 a1_1, .int .i64 a1_2, .int .i64 a1_3, .int .i64 a1_4]) ?_ 2 _ rfl; (with_reducible repeat (first | refine zq1 ?_ _ | refine zq2 ?_ | refine zq3 ?_ _)); refine zq4 (cs := #[.int .i64 (wrap64 (1 + t281)), .int .i64 a1_0, .int .i64 a1_1, .int .i64 a1_2, .int .i64 a1_3, .int .i64 a1_4]) ?_ 1 _ rfl; (with_reducible repeat (first | refine zq1 ?_ _ | refine zq2 ?_ | refine zq3 ?_ _)); exact BK283.out) NB283_0.out (by simp)); replace HK := mk_ (KeepBut.trans (by repeat (first | (with_reducible first | exact HK.out | apply zm1 | apply zr7 | apply zr8 | apply zr9 | refine keep_far ?_ GW279.out _ | refine keep_far ?_ GW280.out _ | refine keep_far ?_ GW283.out _) | exact HK.out)) hk (.inl rfl)); replace HB := mk_ (hb); replace HI0 := mk_ (hi); (try clear hb); (try clear hb2); (try clear hk); (try clear hi); have hnb29 := NB279_280.out; have hnc29 := NB280_279.out; have hnb30 := NB279_0.out; have hnc30 := NB0_279.out; obtain ⟨hcz31_0, hcz31_1, hcz31_2, hcz31_3, hcz31_4⟩ := cz5 BK279.out; obtain ⟨hfz31_0, hfz31_1, hfz31_2, hfz31_3, hfz31_4⟩ := fz5 BK279.out; obtain ⟨hcz32_0, hcz32_1, hcz32_2, hcz32_3, hcz32_4, hcz32_5⟩ := cz6 BK283.out; obtain ⟨hfz32_0, hfz32_1, hfz32_2, hfz32_3, hfz32_4, hfz32_5⟩ := fz6 BK283.out; have hnb33 := NB280_0.out; have hnc33 := NB0_280.out; obtain ⟨hcz34_0, hcz34_1, hcz34_2, hcz34_3, hcz34_4, hcz34_5⟩ := cz6 BK280.out; obtain ⟨hfz34_0, hfz34_1, hfz34_2, hfz34_3, hfz34_4, hfz34_5⟩ := fz6 BK280.out))
 refine bodyPost_ret (results_cell_row rfl _ _ gb280 32 #[.int .i64 (wrap64 (1 + t281)), .int .i64 a1_0, .int .i64 t287, .int .i64 t288, .int .i64 t289, .int .i64 t290] (0, 0) _ rfl (by (with_reducible repeat (first | refine zq1 ?_ _ | refine zq2 ?_ | refine zq3 ?_ _)); apply pu6; (with_reducible repeat (first | refine zq1 ?_ _ | refine zq2 ?_ | refine zq3 ?_ _)); refine zq5 ?_ NB280_283.out _; (with_reducible repeat (first | refine zq1 ?_ _ | refine zq2 ?_ | refine zq3 ?_ _)); exact BK280.out) Try.underlying32 rfl (by kernel_rfl)) rfl ?_
 exact ⟨by first | rfl | (simp [errW_none, errW_some] <;> rfl) | (simp [*, errW_none, errW_some] <;> rfl), by repeat (first | (with_reducible first | exact HI0.out | apply IsS93.alloc | apply IsS93.drewN | apply IsS93.drew | apply IsS93.set_1 | refine IsS93.far ?_ NB0_279.out _ | refine IsS93.far ?_ NB0_280.out _ | refine IsS93.far ?_ NB0_283.out _) | exact HI0.out), by repeat (first | (with_reducible first | exact HB.out | apply zq7 | apply zq8 | apply zq9 | refine zr1 ?_ (IsS93.ge HI0.out) | refine zr1 ?_ GE279.out | refine zr1 ?_ GE280.out | refine zr1 ?_ GE283.out) | exact HB.out), by repeat (first | (with_reducible first | exact HK.out | apply zm1 | apply zr7 | apply zr8 | apply zr9 | refine keep_far ?_ GW279.out _ | refine keep_far ?_ GW280.out _ | refine keep_far ?_ GW283.out _) | exact HK.out)⟩

end Go.Proofs.Ytoigmeiollfklaa.QFnNegHear
