-- Written by a program of this session, a turned copy of the print (not by print.sh itself). Lean checks it.
import Derived.Test.YteknaofnageihaaQFnSegPutx0
import Derived.Test.YteknaofnageihaaQFnSegPutx3
namespace Go.Proofs.Yteknaofnageihaa.QFnSegPut
open Go.RowKit Go.Proofs.YteknaofnageihaaW.PrintWords Go.Proofs.YteknaofnageihaaW.PrintLast Go.Proofs.YteknaofnageihaaW.PrintMore Go.Proofs.YteknaofnageihaaLoc
attribute [local go_sem] max2_int min2_int max_two min_two max_three min_three max_four min_four   -- for this text's walks alone
set_option linter.unusedVariables false
set_option linter.unusedSimpArgs false

/-! ### spec_l4Put: function 76 -/
def spec_l4Put.j0 : Nat → List Int → Bool → Int → List Int → Option (Int × List Int × List Int × Int)
  | 0, _, _, _, _ => none
  | k + 1, x8, x52, x152000, x152001 => if x52 = true then ((spec_l4Bad.f).bind fun bt182 => (some (bt182.1, bt182.2.1, bt182.2.2.1, bt182.2.2.2))) else (some (x152000, x8, (([] : List Int)), 1))
def spec_l4Put.f (k : Nat) (a0_0 : Int) (l0_1 : List Int) (a1_0 : Int) (a1_1 : Int) (l1_2 : List Int) : Option (Int × List Int × List Int × Int) := (some (([] : List Int) : List Int)).bind fun y154 => (if y154.length + l0_1.length < 140737488355328 then ((some (y154 ++ l0_1 : List Int)).bind fun y157 => (if y157.length + l1_2.length < 140737488355328 then ((some (y157 ++ l1_2 : List Int)).bind fun y160 => (if a1_0 = 0 then (if a0_0 > 0 then ((spec_l4Bad.f).bind fun bt163 => (some (bt163.1, bt163.2.1, bt163.2.2.1, bt163.2.2.2))) else (some (0, ([] : List Int), y160, 2))) else (if a1_0 = 1 then (if a0_0 > 0 then ((spec_l4Bad.f).bind fun bt171 => (some (bt171.1, bt171.2.1, bt171.2.2.1, bt171.2.2.2))) else (some (a1_1, y160, (([] : List Int)), 1))) else (if a1_0 = 2 then (if a0_0 > 0 then (spec_l4Put.j0 k y160 (decide ((y160.length : Int) ≥ a0_0)) a0_0 l0_1) else (spec_l4Put.j0 k y160 true a0_0 l0_1)) else (if a0_0 > 0 then (if (y160.length : Int) = a0_0 then (some (0, ([] : List Int), y160, 2)) else ((spec_l4Bad.f).bind fun bt193 => (some (bt193.1, bt193.2.1, bt193.2.2.1, bt193.2.2.2)))) else ((spec_l4Bad.f).bind fun bt201 => (some (bt201.1, bt201.2.1, bt201.2.2.1, bt201.2.2.2)))))))) else (none))) else (none))
theorem spec_l4Put.mono_l : ∀ k, (∀ y0 y1 y2 y3, LeO (spec_l4Put.j0 k y0 y1 y2 y3) (spec_l4Put.j0 (k + 1) y0 y1 y2 y3))
  | 0 => fun _ _ _ _ r h => by simp [spec_l4Put.j0] at h
  | k + 1 => by
    have ih0 := spec_l4Put.mono_l k
    · intro y0 y1 y2 y3
      unfold spec_l4Put.j0
      repeat' first
      | (with_reducible exact ih0 _ _ _ _)
      | (with_reducible exact LeO.refl _)
      | (with_reducible exact LeO.none _)
      | (with_reducible refine LeO.ite ?_ ?_)
      | (with_reducible refine LeO.bind ?_ (fun _ => ?_))
      | exact ih0 _ _ _ _
      | exact LeO.none _
      | refine LeO.ite ?_ ?_
      | refine LeO.bind ?_ (fun _ => ?_)
theorem spec_l4Put.mono : ∀ a0 a1 a2 a3 a4 k, LeO (spec_l4Put.f k a0 a1 a2 a3 a4) (spec_l4Put.f (k + 1) a0 a1 a2 a3 a4) := by
 intro a0 a1 a2 a3 a4 k
 have ih0 := spec_l4Put.mono_l k
 unfold spec_l4Put.f
 repeat' first
     | (with_reducible exact ih0 _ _ _ _)
     | (with_reducible exact LeO.refl _)
     | (with_reducible exact LeO.none _)
     | (with_reducible refine LeO.ite ?_ ?_)
     | (with_reducible refine LeO.bind ?_ (fun _ => ?_))
     | exact ih0 _ _ _ _
     | exact LeO.none _
     | refine LeO.ite ?_ ?_
     | refine LeO.bind ?_ (fun _ => ?_)
def spec_l4Put.T2 : Bool × List (List Nat × List Nat) := (true, [([], []), ([], []), ([1], [1]), ([0, 2], [0, 2]), ([], []), ([4], [4]), ([3, 5, 3], [3, 5]), ([6, 6, 0, 1, 2, 3, 4, 5, 6], [6])])
def spec_l4Put.B2 : List Nat := [0, 0, 2, 7, 0, 16, 63, 127]
theorem spec_l4Put.tab2 : rtab .any (opsOf Try.f76 2) = spec_l4Put.T2 := by kernel_rfl
theorem spec_l4Put.bits2 : waitsOk spec_l4Put.T2.2 spec_l4Put.B2 = true := by kernel_rfl
set_option maxHeartbeats 60000000 in
set_option maxRecDepth 100000 in
theorem spec_l4Put.calls (k : Nat) (a0_0 : Int) (A0_1 : Option Addr) (c0_1 : Nat) (l0_1 : List Int) (a1_0 : Int) (a1_1 : Int) (A1_2 : Option Addr) (c1_2 : Nat) (l1_2 : List Int) (r1 : Int) (r2 : List Int) (r3 : List Int) (r4 : Int) (w : World) (hr0_1 : Kd.C (Kd.int .u8) w A0_1 l0_1.length l0_1) (hc0_1 : l0_1.length ≤ c0_1) (hr1_2 : Kd.C (Kd.int .u8) w A1_2 l1_2.length l1_2) (hc1_2 : l1_2.length ≤ c1_2) (h : spec_l4Put.f k a0_0 l0_1 a1_0 a1_1 l1_2 = some (r1, r2, r3, r4)) :
    Calls Try.prog 76 #[.agg #[.int .i64 a0_0, .slice A0_1 l0_1.length c0_1], .agg #[.int .i64 a1_0, .int .i64 a1_1, .slice A1_2 l1_2.length c1_2]] w fun e w' => ∃ v1_ v2_ : Value, e = .returned (.tuple #[.agg #[.int .i64 r1, v1_], v2_, .int .i64 r4]) ∧ Kd.R (Kd.int .u8) 5 w' w.heap.size (fun k_ => some k_ ≠ (v2_ : Value).ownBlock) v1_ r2 ∧ Kd.R (Kd.int .u8) 5 w' w.heap.size (fun k_ => some k_ ≠ (v1_ : Value).ownBlock) v2_ r3 ∧ Below w.heap.size w w' := by
  have hu35 := Try.underlying35
  have hu39 := Try.underlying39
  have HR0_1 := mk_ hr0_1
  have HC0_1 := mk_ hc0_1
  clear hr0_1 hc0_1
  have HR1_2 := mk_ hr1_2
  have HC1_2 := mk_ hc1_2
  clear hr1_2 hc1_2
  have HB := mk_ (Below.refl w.heap.size w)
  have H : ((some (([] : List Int) : List Int)).bind fun y154 => (if y154.length + l0_1.length < 140737488355328 then ((some (y154 ++ l0_1 : List Int)).bind fun y157 => (if y157.length + l1_2.length < 140737488355328 then ((some (y157 ++ l1_2 : List Int)).bind fun y160 => (if a1_0 = 0 then (if a0_0 > 0 then ((spec_l4Bad.f).bind fun bt163 => (some (bt163.1, bt163.2.1, bt163.2.2.1, bt163.2.2.2))) else (some (0, ([] : List Int), y160, 2))) else (if a1_0 = 1 then (if a0_0 > 0 then ((spec_l4Bad.f).bind fun bt171 => (some (bt171.1, bt171.2.1, bt171.2.2.1, bt171.2.2.2))) else (some (a1_1, y160, (([] : List Int)), 1))) else (if a1_0 = 2 then (if a0_0 > 0 then (spec_l4Put.j0 k y160 (decide ((y160.length : Int) ≥ a0_0)) a0_0 l0_1) else (spec_l4Put.j0 k y160 true a0_0 l0_1)) else (if a0_0 > 0 then (if (y160.length : Int) = a0_0 then (some (0, ([] : List Int), y160, 2)) else ((spec_l4Bad.f).bind fun bt193 => (some (bt193.1, bt193.2.1, bt193.2.2.1, bt193.2.2.2)))) else ((spec_l4Bad.f).bind fun bt201 => (some (bt201.1, bt201.2.1, bt201.2.2.1, bt201.2.2.2)))))))) else (none))) else (none))) = some (r1, r2, r3, r4) := h
  clear h
  obtain ⟨y154, hy154⟩ : ∃ y_ : List Int, y_ = (([] : List Int)) := ⟨_, rfl⟩
  replace H : (if y154.length + l0_1.length < 140737488355328 then ((some (y154 ++ l0_1 : List Int)).bind fun y157 => (if y157.length + l1_2.length < 140737488355328 then ((some (y157 ++ l1_2 : List Int)).bind fun y160 => (if a1_0 = 0 then (if a0_0 > 0 then ((spec_l4Bad.f).bind fun bt163 => (some (bt163.1, bt163.2.1, bt163.2.2.1, bt163.2.2.2))) else (some (0, ([] : List Int), y160, 2))) else (if a1_0 = 1 then (if a0_0 > 0 then ((spec_l4Bad.f).bind fun bt171 => (some (bt171.1, bt171.2.1, bt171.2.2.1, bt171.2.2.2))) else (some (a1_1, y160, (([] : List Int)), 1))) else (if a1_0 = 2 then (if a0_0 > 0 then (spec_l4Put.j0 k y160 (decide ((y160.length : Int) ≥ a0_0)) a0_0 l0_1) else (spec_l4Put.j0 k y160 true a0_0 l0_1)) else (if a0_0 > 0 then (if (y160.length : Int) = a0_0 then (some (0, ([] : List Int), y160, 2)) else ((spec_l4Bad.f).bind fun bt193 => (some (bt193.1, bt193.2.1, bt193.2.2.1, bt193.2.2.2)))) else ((spec_l4Bad.f).bind fun bt201 => (some (bt201.1, bt201.2.1, bt201.2.2.1, bt201.2.2.2)))))))) else (none))) else (none)) = some (r1, r2, r3, r4) := by first | (rw [hy154]; with_reducible exact H) | (have H2_ := (Option.bind_some _ _).symm.trans H; rw [hy154]; with_reducible exact H2_) | (have H2_ := (Option.bind_some _ _).symm.trans H; with_reducible exact H2_) | with_reducible exact H | (rw [hy154]; exact H) | exact H
  have Ny154 := mk_ hy154
  clear hy154
  by_cases c3 : y154.length + l0_1.length < 140737488355328
  · rw [if_pos c3] at H
    have LMc3 := mk_ c3
    clear c3
    obtain ⟨y157, hy157⟩ : ∃ y_ : List Int, y_ = (y154 ++ l0_1) := ⟨_, rfl⟩
    replace H : (if y157.length + l1_2.length < 140737488355328 then ((some (y157 ++ l1_2 : List Int)).bind fun y160 => (if a1_0 = 0 then (if a0_0 > 0 then ((spec_l4Bad.f).bind fun bt163 => (some (bt163.1, bt163.2.1, bt163.2.2.1, bt163.2.2.2))) else (some (0, ([] : List Int), y160, 2))) else (if a1_0 = 1 then (if a0_0 > 0 then ((spec_l4Bad.f).bind fun bt171 => (some (bt171.1, bt171.2.1, bt171.2.2.1, bt171.2.2.2))) else (some (a1_1, y160, (([] : List Int)), 1))) else (if a1_0 = 2 then (if a0_0 > 0 then (spec_l4Put.j0 k y160 (decide ((y160.length : Int) ≥ a0_0)) a0_0 l0_1) else (spec_l4Put.j0 k y160 true a0_0 l0_1)) else (if a0_0 > 0 then (if (y160.length : Int) = a0_0 then (some (0, ([] : List Int), y160, 2)) else ((spec_l4Bad.f).bind fun bt193 => (some (bt193.1, bt193.2.1, bt193.2.2.1, bt193.2.2.2)))) else ((spec_l4Bad.f).bind fun bt201 => (some (bt201.1, bt201.2.1, bt201.2.2.1, bt201.2.2.2)))))))) else (none)) = some (r1, r2, r3, r4) := by first | (rw [hy157]; with_reducible exact H) | (have H2_ := (Option.bind_some _ _).symm.trans H; rw [hy157]; with_reducible exact H2_) | (have H2_ := (Option.bind_some _ _).symm.trans H; with_reducible exact H2_) | with_reducible exact H | (rw [hy157]; exact H) | exact H
    have Ny157 := mk_ hy157
    clear hy157
    by_cases c4 : y157.length + l1_2.length < 140737488355328
    · rw [if_pos c4] at H
      have LMc4 := mk_ c4
      clear c4
      obtain ⟨y160, hy160⟩ : ∃ y_ : List Int, y_ = (y157 ++ l1_2) := ⟨_, rfl⟩
      replace H : (if a1_0 = 0 then (if a0_0 > 0 then ((spec_l4Bad.f).bind fun bt163 => (some (bt163.1, bt163.2.1, bt163.2.2.1, bt163.2.2.2))) else (some (0, ([] : List Int), y160, 2))) else (if a1_0 = 1 then (if a0_0 > 0 then ((spec_l4Bad.f).bind fun bt171 => (some (bt171.1, bt171.2.1, bt171.2.2.1, bt171.2.2.2))) else (some (a1_1, y160, (([] : List Int)), 1))) else (if a1_0 = 2 then (if a0_0 > 0 then (spec_l4Put.j0 k y160 (decide ((y160.length : Int) ≥ a0_0)) a0_0 l0_1) else (spec_l4Put.j0 k y160 true a0_0 l0_1)) else (if a0_0 > 0 then (if (y160.length : Int) = a0_0 then (some (0, ([] : List Int), y160, 2)) else ((spec_l4Bad.f).bind fun bt193 => (some (bt193.1, bt193.2.1, bt193.2.2.1, bt193.2.2.2)))) else ((spec_l4Bad.f).bind fun bt201 => (some (bt201.1, bt201.2.1, bt201.2.2.1, bt201.2.2.2))))))) = some (r1, r2, r3, r4) := by first | (rw [hy160]; with_reducible exact H) | (have H2_ := (Option.bind_some _ _).symm.trans H; rw [hy160]; with_reducible exact H2_) | (have H2_ := (Option.bind_some _ _).symm.trans H; with_reducible exact H2_) | with_reducible exact H | (rw [hy160]; exact H) | exact H
      have Ny160 := mk_ hy160
      clear hy160
      by_cases c5 : a1_0 = 0
      · rw [if_pos c5] at H
        have c5b0 : (a1_0 == 0) = true := beq_iff_eq.mpr c5
        have c5b1 : (a1_0 != 0) = false := bne_eq_false_iff_eq.mpr c5
        clear c5
        by_cases c6 : a0_0 > 0
        · rw [if_pos c6] at H
          have c6b0 : decide (0 < a0_0) = true := decide_eq_true c6
          clear c6
          replace H := Option.bind_eq_some_iff.mp H
          obtain ⟨⟨t163, t164, t167, t170⟩, A70, H⟩ := H
          try dsimp only at H
          have A7 := mk_ A70
          clear A70
          simp only [Option.some.injEq, Prod.mk.injEq] at H
          obtain ⟨rfl, rfl, rfl, rfl⟩ := H
          go_enter Try.func76, Try.ntmps76
          try go_wp2_with (first | ((with_reducible refine gate_dst (N := 2) rfl ?_); (try (refine gate_guard (by rfl) ?_; dsimp only)); refine box_event ?hg (N := 2) ?hd (cs := #[.int .i64 a0_0, .slice A0_1 l0_1.length c0_1]) (t := 35) ?hr ?_; (case hd => rfl); (case hg => rfl); (case hr => first | (go_simp; done) | (go_simp; rfl)); intro gb151 hg w8 hbox hb; have BK151 := mk_ (hbox); have GW151 := mk_ ((by rw [hg]; exact (zr2 (by repeat (first | (with_reducible first | exact HB.out | apply zq7 | apply zq8 | apply zq9) | exact HB.out))) : w.heap.size ≤ gb151)); have GE151 := GW151; replace HB := mk_ (zr3 (by repeat (first | (with_reducible first | exact HB.out | apply zq7 | apply zq8 | apply zq9) | exact HB.out)) hb); clear hb hbox hg) | ((with_reducible refine gate_dst (N := 3) rfl ?_); (try (refine gate_guard (by rfl) ?_; dsimp only)); refine box_event ?hg (N := 3) ?hd (cs := #[.int .i64 a1_0, .int .i64 a1_1, .slice A1_2 l1_2.length c1_2]) (t := 39) ?hr ?_; (case hd => rfl); (case hg => rfl); (case hr => first | (go_simp; done) | (go_simp; rfl)); intro gb152 hg w9 hbox hb; have BK152 := mk_ (hbox); have GW152 := mk_ ((by rw [hg]; exact (zr2 (by repeat (first | (with_reducible first | exact HB.out | apply zq7 | apply zq8 | apply zq9 | refine zr1 ?_ GE151.out) | exact HB.out))) : w.heap.size ≤ gb152)); have GE152 := GW152; replace HB := mk_ (zr3 (by repeat (first | (with_reducible first | exact HB.out | apply zq7 | apply zq8 | apply zq9 | refine zr1 ?_ GE151.out) | exact HB.out)) hb); have NB151_152 := mk_ ((by rw [hg]; exact zm2 (zr6 (by exact BK151.out)) : gb151 ≠ gb152)); replace BK151 := mk_ (zq6 (by exact BK151.out) hb); have NB152_151 := mk_ NB151_152.out.symm; clear hb hbox hg) | ((with_reducible refine gate_dst (N := 4) rfl ?_); (try (refine gate_guard (by rfl) ?_; dsimp only)); refine box_event ?hg (N := 4) ?hd (cs := #[.int .i64 0, .slice none 0 0]) (t := 35) ?hr ?_; (case hd => rfl); (case hg => rfl); (case hr => first | (go_simp; done) | (go_simp; rfl)); intro gb153 hg w10 hbox hb; have BK153 := mk_ (hbox); have GW153 := mk_ ((by rw [hg]; exact (zr2 (by repeat (first | (with_reducible first | exact HB.out | apply zq7 | apply zq8 | apply zq9 | refine zr1 ?_ GE151.out | refine zr1 ?_ GE152.out) | exact HB.out))) : w.heap.size ≤ gb153)); have GE153 := GW153; replace HB := mk_ (zr3 (by repeat (first | (with_reducible first | exact HB.out | apply zq7 | apply zq8 | apply zq9 | refine zr1 ?_ GE151.out | refine zr1 ?_ GE152.out) | exact HB.out)) hb); have NB151_153 := mk_ ((by rw [hg]; exact zm2 (zr6 (by exact BK151.out)) : gb151 ≠ gb153)); replace BK151 := mk_ (zq6 (by exact BK151.out) hb); have NB153_151 := mk_ NB151_153.out.symm; have NB152_153 := mk_ ((by rw [hg]; exact zm2 (zr6 (by exact BK152.out)) : gb152 ≠ gb153)); replace BK152 := mk_ (zq6 (by exact BK152.out) hb); have NB153_152 := mk_ NB152_153.out.symm; clear hb hbox hg; have hnb11 := NB151_152.out; have hnc11 := NB152_151.out; have hnb12 := NB151_153.out; have hnc12 := NB153_151.out; obtain ⟨hcz13_0, hcz13_1⟩ := cz2 BK151.out; obtain ⟨hfz13_0, hfz13_1⟩ := fz2 BK151.out))
          replace BK151 := mk_ (zq2 BK151.out)
          replace BK152 := mk_ (zq2 BK152.out)
          replace BK153 := mk_ (zq2 BK153.out)
          replace HB := mk_ (zq9 HB.out)
          refine start_ (n := 8) (S := fun w' => w'.cell? ⟨gb151, 0, none⟩ = some (.int .i64 a0_0) ∧ w'.cell? ⟨gb151, 1, none⟩ = some (.slice A0_1 l0_1.length c0_1) ∧ w'.cell? ⟨gb152, 0, none⟩ = some (.int .i64 a1_0) ∧ w'.cell? ⟨gb152, 1, none⟩ = some (.int .i64 a1_1) ∧ w'.cell? ⟨gb152, 2, none⟩ = some (.slice A1_2 l1_2.length c1_2)) (ds := []) (bm 8 0) (by kernel_rfl) rfl rfl ⟨(zr4 BK151.out 0).trans rfl, (zr4 BK151.out 1).trans rfl, (zr4 BK152.out 0).trans rfl, (zr4 BK152.out 1).trans rfl, (zr4 BK152.out 2).trans rfl⟩ (fun hHeld => ?_); refine with_tabW spec_l4Put.tab2 spec_l4Put.bits2 (fun HT_ HW_ => ?_)
          generalize w10.drew = w14 at BK151 BK152 BK153 HB hHeld ⊢
          refine pA 1 (some 13) (bm 8 2) rfl rfl HT_.out (by kernel_rfl) (fun _ _ _ h => h) (by rfl) (by intro w'; go_simp; with_reducible rfl) (by simp only [Act.put, zs1, zs2, zs3, i64_w, i32_w]; rfl) ?_
          refine pA 4 (some 16) (bm 8 18) rfl rfl HT_.out (by kernel_rfl) (fun _ _ _ h => h) (by rfl) (by intro w'; go_simp; with_reducible rfl) (by simp only [Act.put, zs1, zs2, zs3, i64_w, i32_w]; rfl) ?_
          refine tA 2 (some 14) (bm 8 22) rfl rfl HT_.out HW_.out (by kernel_rfl) (fun _ _ _ h => h) (by rfl) hHeld (by rintro w' ⟨s0, s1, s2, s3, s4⟩; go_simp; with_reducible rfl) (by simp only [Act.put, zs1, zs2, zs3, i64_w, i32_w]; rfl) ?_
          refine tA 5 (some 17) (bm 8 54) rfl rfl HT_.out HW_.out (by kernel_rfl) (fun _ _ _ h => h) (by rfl) hHeld (by rintro w' ⟨s0, s1, s2, s3, s4⟩; go_simp; with_reducible rfl) (by simp only [Act.put, zs1, zs2, zs3, i64_w, i32_w]; rfl) ?_
          refine one_ (i := 0) (N := some 12) (bm 8 55) rfl rfl (one_of HT_.out (by kernel_rfl)) (by decide) (fun K hK => ?_)
          refine Kd.R_lit_step (Kd.int .u8) _ 5 ?hg (N := 12) ?hd (xs := ([] : List Int)) (inner := []) (ok := fun _ => True) (okp := fun _ => True) ?hr ?hp (fun _ hk => hk) trivial (Below.refl _ _) (Nat.le_refl _) (by simp) ?_; (case hd => rfl); (case hg => rfl); (case hr => first | (go_simp; done) | (go_simp; rfl)); (case hp => exact (Reps.none _ _))
          intro v155 w15 ho16 hb hg_ hnew_
          clear hg_ hnew_
          (first | rw [← Ny154.out] at ho16 | (simp only [Int.reduceToNat] at ho16; rw [← Ny154.out] at ho16))
          have HO156 := mk_ (Kd.R_lower ho16 (zr2 (by repeat (first | (with_reducible first | exact HB.out | apply zq7 | apply zq8 | apply zq9 | refine zr1 ?_ GE151.out | refine zr1 ?_ GE152.out | refine zr1 ?_ GE153.out) | exact HB.out))))
          replace BK151 := mk_ (zq6 (by exact BK151.out) hb)
          replace BK152 := mk_ (zq6 (by exact BK152.out) hb)
          replace BK153 := mk_ (zq6 (by exact BK153.out) hb)
          replace HB := mk_ (zr3 (by repeat (first | (with_reducible first | exact HB.out | apply zq7 | apply zq8 | apply zq9 | refine zr1 ?_ GE151.out | refine zr1 ?_ GE152.out | refine zr1 ?_ GE153.out) | exact HB.out)) hb)
          clear hb ho16
          refine hK.out _ _ ⟨(zr4 BK151.out 0).trans rfl, (zr4 BK151.out 1).trans rfl, (zr4 BK152.out 0).trans rfl, (zr4 BK152.out 1).trans rfl, (zr4 BK152.out 2).trans rfl⟩ (fun hHeld => ?_)
          clear hK K
          refine norm_ (a' := ?_) ?_ ?_
          rotate_left
          · show Act.put _ (some 12) _ = _
            simp only [Act.put, zs1, zs2, zs3, i64_w, i32_w]
            rfl
          refine one_ (i := 3) (N := some 15) (bm 8 63) rfl rfl (one_of HT_.out (by kernel_rfl)) (by decide) (fun K hK => ?_)
          refine Kd.R_append_rows_step (Kd.int .u8) (w0 := w) w.heap.size (by rfl) (.tmp 12) (.tmp 14) 22 5 (.int .u8 0) 1 rfl Try.underlying22 info5 rfl (by decide) (by omega) v155 y154 l0_1 _ _ _ (fun _ => True) (fun _ => False) rfl rfl ?aO ?aR (fun _ _ h => h) (fun _ h => h.elim) ?aF ?aB ?aS ?aL ?_
          (case aR => repeat (first | exact (Kd.C_below HR0_1.out HB.out) | (with_reducible refine Kd.C_alloc ?_ _) | (with_reducible refine Kd.C_drewN ?_ _) | (with_reducible refine Kd.C_drew ?_)))
          (case aB => exact (by repeat (first | (with_reducible first | exact HB.out | apply zq7 | apply zq8 | apply zq9 | refine zr1 ?_ GE151.out | refine zr1 ?_ GE152.out | refine zr1 ?_ GE153.out) | exact HB.out)))
          (case aF => exact (fun _ _ => trivial))
          (case aO => exact (by (with_reducible repeat (first | apply Kd.R_alloc | apply Kd.R_drewN | apply Kd.R_drew)); exact HO156.out))
          (case aS => exact (zr2 (by repeat (first | (with_reducible first | exact HB.out | apply zq7 | apply zq8 | apply zq9 | refine zr1 ?_ GE151.out | refine zr1 ?_ GE152.out | refine zr1 ?_ GE153.out) | exact HB.out))))
          (case aL => have := LMc3.out; omega)
          intro v158 w17 ho hb hg hat
          rw [← Ny157.out] at ho
          have n0_ := mk_ (blk_grown (g := gb151) (o := .cells #[.int .i64 a0_0, .slice A0_1 l0_1.length c0_1] 35 (0, 0)) (by exact BK151.out) hg (Kd.R_ne HO156.out BK151.out (by decide)))
          have n1_ := mk_ (blk_grown (g := gb152) (o := .cells #[.int .i64 a1_0, .int .i64 a1_1, .slice A1_2 l1_2.length c1_2] 39 (0, 0)) (by exact BK152.out) hg (Kd.R_ne HO156.out BK152.out (by decide)))
          have n2_ := mk_ (blk_grown (g := gb153) (o := .cells #[.int .i64 0, .slice none 0 0] 35 (0, 0)) (by exact BK153.out) hg (Kd.R_ne HO156.out BK153.out (by decide)))
          have n3_ := mk_ (hb)
          have n4_ := mk_ (ho)
          clear BK151
          clear BK152
          clear BK153
          clear HB
          clear HO156
          have BK151 := n0_
          have BK152 := n1_
          have BK153 := n2_
          have HB := n3_
          have HO159 := n4_
          clear n0_ n1_ n2_ n3_ n4_
          clear ho hb hg hat
          refine hK.out _ _ ⟨(zr4 BK151.out 0).trans rfl, (zr4 BK151.out 1).trans rfl, (zr4 BK152.out 0).trans rfl, (zr4 BK152.out 1).trans rfl, (zr4 BK152.out 2).trans rfl⟩ (fun hHeld => ?_)
          clear hK K
          refine norm_ (a' := ?_) ?_ ?_
          rotate_left
          · show Act.put _ (some 15) _ = _
            simp only [Act.put, zs1, zs2, zs3, i64_w, i32_w]
            rfl
          refine one_ (i := 6) (N := some 18) (bm 8 127) rfl rfl (one_of HT_.out (by kernel_rfl)) (by decide) (fun K hK => ?_)
          refine Kd.R_append_rows_step (Kd.int .u8) (w0 := w) w.heap.size (by rfl) (.tmp 15) (.tmp 17) 22 5 (.int .u8 0) 1 rfl Try.underlying22 info5 rfl (by decide) (by omega) v158 y157 l1_2 _ _ _ (fun _ => True) (fun _ => False) rfl rfl ?aO ?aR (fun _ _ h => h) (fun _ h => h.elim) ?aF ?aB ?aS ?aL ?_
          (case aR => repeat (first | exact (Kd.C_below HR1_2.out HB.out) | (with_reducible refine Kd.C_alloc ?_ _) | (with_reducible refine Kd.C_drewN ?_ _) | (with_reducible refine Kd.C_drew ?_)))
          (case aB => exact (by repeat (first | (with_reducible first | exact HB.out | apply zq7 | apply zq8 | apply zq9 | refine zr1 ?_ GE151.out | refine zr1 ?_ GE152.out | refine zr1 ?_ GE153.out) | exact HB.out)))
          (case aF => exact (fun _ _ => trivial))
          (case aO => exact (by (with_reducible repeat (first | apply Kd.R_alloc | apply Kd.R_drewN | apply Kd.R_drew)); exact HO159.out))
          (case aS => exact (zr2 (by repeat (first | (with_reducible first | exact HB.out | apply zq7 | apply zq8 | apply zq9 | refine zr1 ?_ GE151.out | refine zr1 ?_ GE152.out | refine zr1 ?_ GE153.out) | exact HB.out))))
          (case aL => have := LMc4.out; omega)
          intro v161 w18 ho hb hg hat
          rw [← Ny160.out] at ho
          have n0_ := mk_ (blk_grown (g := gb151) (o := .cells #[.int .i64 a0_0, .slice A0_1 l0_1.length c0_1] 35 (0, 0)) (by exact BK151.out) hg (Kd.R_ne HO159.out BK151.out (by decide)))
          have n1_ := mk_ (blk_grown (g := gb152) (o := .cells #[.int .i64 a1_0, .int .i64 a1_1, .slice A1_2 l1_2.length c1_2] 39 (0, 0)) (by exact BK152.out) hg (Kd.R_ne HO159.out BK152.out (by decide)))
          have n2_ := mk_ (blk_grown (g := gb153) (o := .cells #[.int .i64 0, .slice none 0 0] 35 (0, 0)) (by exact BK153.out) hg (Kd.R_ne HO159.out BK153.out (by decide)))
          have n3_ := mk_ (hb)
          have n4_ := mk_ (ho)
          clear BK151
          clear BK152
          clear BK153
          clear HB
          clear HO159
          have BK151 := n0_
          have BK152 := n1_
          have BK153 := n2_
          have HB := n3_
          have HO162 := n4_
          clear n0_ n1_ n2_ n3_ n4_
          clear ho hb hg hat
          refine hK.out _ _ ⟨(zr4 BK151.out 0).trans rfl, (zr4 BK151.out 1).trans rfl, (zr4 BK152.out 0).trans rfl, (zr4 BK152.out 1).trans rfl, (zr4 BK152.out 2).trans rfl⟩ (fun hHeld => ?_)
          clear hK K
          refine norm_ (a' := ?_) ?_ ?_
          rotate_left
          · show Act.put _ (some 18) _ = _
            simp only [Act.put, zs1, zs2, zs3, i64_w, i32_w]
            rfl
          refine pA 7 (some 8) (bm 8 255) rfl rfl HT_.out (by kernel_rfl) (fun _ _ _ h => h) (by rfl) (by intro w'; go_simp; with_reducible rfl) (by simp only [Act.put, zs1, zs2, zs3, i64_w, i32_w]; rfl) ?_
          refine done_ (done_of HT_.out (by kernel_rfl)) ?_
          have hnb19 := NB152_153.out
          have hnc19 := NB153_152.out
          obtain ⟨hcz20_0, hcz20_1, hcz20_2⟩ := cz3 BK152.out
          obtain ⟨hfz20_0, hfz20_1, hfz20_2⟩ := fz3 BK152.out
          try go_wp2_with (first | ((with_reducible refine gate_callee (f := 97) rfl ?_); refine goesL_ (some 24) rfl rfl Try.func97 (by kernel_rfl) rfl #[] rfl (by (try simp only [List.map_toArray, List.map_cons, List.map_nil]); first | done | rfl | (simp only [List.length_drop, List.length_take]; rfl)) ?_; (with_reducible refine (spec_l4Bad.calls  t163 t164 t167 t170 _ A7.out).mono ?_); rintro e w21 ⟨v165, v168, rfl, ho0, ho1, hb⟩; refine ⟨_, rfl, ?_⟩; have HO166 := mk_ (Kd.R_lower (Kd.R_new' ho0 (Kd.R_lt (by (with_reducible repeat (first | apply Kd.R_alloc | apply Kd.R_drewN | apply Kd.R_drew)); exact HO162.out))) (zr2 (by repeat (first | (with_reducible first | exact HB.out | apply zq7 | apply zq8 | apply zq9 | refine zr1 ?_ GE151.out | refine zr1 ?_ GE152.out | refine zr1 ?_ GE153.out) | exact HB.out)))); have HO169 := mk_ (Kd.R_lower (Kd.R_new' ho1 (Kd.R_lt (by (with_reducible repeat (first | apply Kd.R_alloc | apply Kd.R_drewN | apply Kd.R_drew)); exact HO162.out))) (zr2 (by repeat (first | (with_reducible first | exact HB.out | apply zq7 | apply zq8 | apply zq9 | refine zr1 ?_ GE151.out | refine zr1 ?_ GE152.out | refine zr1 ?_ GE153.out) | exact HB.out)))); replace HO162 := mk_ (Kd.R_mono (Kd.R_told (Kd.R_told (Kd.R_old (by (with_reducible repeat (first | apply Kd.R_alloc | apply Kd.R_drewN | apply Kd.R_drew)); exact HO162.out) hb) (Kd.R_base ho0)) (Kd.R_base ho1)) (fun _ h_ => h_.1)); replace BK151 := mk_ (zq6 (by exact BK151.out) hb); replace BK152 := mk_ (zq6 (by exact BK152.out) hb); replace BK153 := mk_ (zq6 (by exact BK153.out) hb); replace HB := mk_ (zr3 (by repeat (first | (with_reducible first | exact HB.out | apply zq7 | apply zq8 | apply zq9 | refine zr1 ?_ GE151.out | refine zr1 ?_ GE152.out | refine zr1 ?_ GE153.out) | exact HB.out)) hb); (try clear hb); (try clear hb2); (try clear hk); (try clear hi); (try clear ho0); (try clear ho1); obtain ⟨hcz22_0, hcz22_1⟩ := cz2 BK153.out; obtain ⟨hfz22_0, hfz22_1⟩ := fz2 BK153.out; obtain ⟨Ao23, co23, eo23⟩ := Kd.R_slice HO166.out; subst eo23))
          refine bodyPost_ret (results_ctt rfl _ _ gb153 35 #[.int .i64 t163, .slice Ao23 t164.length co23] (0, 0) _ rfl (by (with_reducible repeat (first | refine zq1 ?_ _ | refine zq2 ?_ | refine zq3 ?_ _)); apply pu2; (with_reducible repeat (first | refine zq1 ?_ _ | refine zq2 ?_ | refine zq3 ?_ _)); exact BK153.out) Try.underlying35 rfl (by kernel_rfl)) rfl ?_
          exact ⟨_, _, by first | rfl | (simp [errW_none, errW_some] <;> rfl) | (simp [*, errW_none, errW_some] <;> rfl), by (with_reducible repeat (first | apply Kd.R_alloc | apply Kd.R_drewN | apply Kd.R_drew)); exact Kd.R_mono (Kd.R_far (p := ⟨gb153, 1, none⟩) (Kd.R_far (p := ⟨gb153, 0, none⟩) (Kd.R_types HO166.out BK153.out (by decide)) (fun _ hk => hk.2) (.int .i64 t163)) (fun _ hk => hk.2) (.slice Ao23 t164.length co23)) (fun _ hk => hk.1.1), by (with_reducible repeat (first | apply Kd.R_alloc | apply Kd.R_drewN | apply Kd.R_drew)); exact Kd.R_mono (Kd.R_far (p := ⟨gb153, 1, none⟩) (Kd.R_far (p := ⟨gb153, 0, none⟩) (Kd.R_types HO169.out BK153.out (by decide)) (fun _ hk => hk.2) (.int .i64 t163)) (fun _ hk => hk.2) (.slice Ao23 t164.length co23)) (fun _ hk => hk.1.1), by repeat (first | (with_reducible first | exact HB.out | apply zq7 | apply zq8 | apply zq9 | refine zr1 ?_ GE151.out | refine zr1 ?_ GE152.out | refine zr1 ?_ GE153.out) | exact HB.out)⟩
        · rw [if_neg c6] at H
          have c6b0 : decide (0 < a0_0) = false := decide_eq_false c6
          clear c6
          simp only [Option.some.injEq, Prod.mk.injEq] at H
          obtain ⟨rfl, rfl, rfl, rfl⟩ := H
          go_enter Try.func76, Try.ntmps76
          try go_wp2_with (first | ((with_reducible refine gate_dst (N := 2) rfl ?_); (try (refine gate_guard (by rfl) ?_; dsimp only)); refine box_event ?hg (N := 2) ?hd (cs := #[.int .i64 a0_0, .slice A0_1 l0_1.length c0_1]) (t := 35) ?hr ?_; (case hd => rfl); (case hg => rfl); (case hr => first | (go_simp; done) | (go_simp; rfl)); intro gb151 hg w24 hbox hb; have BK151 := mk_ (hbox); have GW151 := mk_ ((by rw [hg]; exact (zr2 (by repeat (first | (with_reducible first | exact HB.out | apply zq7 | apply zq8 | apply zq9) | exact HB.out))) : w.heap.size ≤ gb151)); have GE151 := GW151; replace HB := mk_ (zr3 (by repeat (first | (with_reducible first | exact HB.out | apply zq7 | apply zq8 | apply zq9) | exact HB.out)) hb); clear hb hbox hg) | ((with_reducible refine gate_dst (N := 3) rfl ?_); (try (refine gate_guard (by rfl) ?_; dsimp only)); refine box_event ?hg (N := 3) ?hd (cs := #[.int .i64 a1_0, .int .i64 a1_1, .slice A1_2 l1_2.length c1_2]) (t := 39) ?hr ?_; (case hd => rfl); (case hg => rfl); (case hr => first | (go_simp; done) | (go_simp; rfl)); intro gb152 hg w25 hbox hb; have BK152 := mk_ (hbox); have GW152 := mk_ ((by rw [hg]; exact (zr2 (by repeat (first | (with_reducible first | exact HB.out | apply zq7 | apply zq8 | apply zq9 | refine zr1 ?_ GE151.out) | exact HB.out))) : w.heap.size ≤ gb152)); have GE152 := GW152; replace HB := mk_ (zr3 (by repeat (first | (with_reducible first | exact HB.out | apply zq7 | apply zq8 | apply zq9 | refine zr1 ?_ GE151.out) | exact HB.out)) hb); have NB151_152 := mk_ ((by rw [hg]; exact zm2 (zr6 (by exact BK151.out)) : gb151 ≠ gb152)); replace BK151 := mk_ (zq6 (by exact BK151.out) hb); have NB152_151 := mk_ NB151_152.out.symm; clear hb hbox hg) | ((with_reducible refine gate_dst (N := 4) rfl ?_); (try (refine gate_guard (by rfl) ?_; dsimp only)); refine box_event ?hg (N := 4) ?hd (cs := #[.int .i64 0, .slice none 0 0]) (t := 35) ?hr ?_; (case hd => rfl); (case hg => rfl); (case hr => first | (go_simp; done) | (go_simp; rfl)); intro gb153 hg w26 hbox hb; have BK153 := mk_ (hbox); have GW153 := mk_ ((by rw [hg]; exact (zr2 (by repeat (first | (with_reducible first | exact HB.out | apply zq7 | apply zq8 | apply zq9 | refine zr1 ?_ GE151.out | refine zr1 ?_ GE152.out) | exact HB.out))) : w.heap.size ≤ gb153)); have GE153 := GW153; replace HB := mk_ (zr3 (by repeat (first | (with_reducible first | exact HB.out | apply zq7 | apply zq8 | apply zq9 | refine zr1 ?_ GE151.out | refine zr1 ?_ GE152.out) | exact HB.out)) hb); have NB151_153 := mk_ ((by rw [hg]; exact zm2 (zr6 (by exact BK151.out)) : gb151 ≠ gb153)); replace BK151 := mk_ (zq6 (by exact BK151.out) hb); have NB153_151 := mk_ NB151_153.out.symm; have NB152_153 := mk_ ((by rw [hg]; exact zm2 (zr6 (by exact BK152.out)) : gb152 ≠ gb153)); replace BK152 := mk_ (zq6 (by exact BK152.out) hb); have NB153_152 := mk_ NB152_153.out.symm; clear hb hbox hg; have hnb27 := NB151_152.out; have hnc27 := NB152_151.out; have hnb28 := NB151_153.out; have hnc28 := NB153_151.out; obtain ⟨hcz29_0, hcz29_1⟩ := cz2 BK151.out; obtain ⟨hfz29_0, hfz29_1⟩ := fz2 BK151.out))
          replace BK151 := mk_ (zq2 BK151.out)
          replace BK152 := mk_ (zq2 BK152.out)
          replace BK153 := mk_ (zq2 BK153.out)
          replace HB := mk_ (zq9 HB.out)
          refine start_ (n := 8) (S := fun w' => w'.cell? ⟨gb151, 0, none⟩ = some (.int .i64 a0_0) ∧ w'.cell? ⟨gb151, 1, none⟩ = some (.slice A0_1 l0_1.length c0_1) ∧ w'.cell? ⟨gb152, 0, none⟩ = some (.int .i64 a1_0) ∧ w'.cell? ⟨gb152, 1, none⟩ = some (.int .i64 a1_1) ∧ w'.cell? ⟨gb152, 2, none⟩ = some (.slice A1_2 l1_2.length c1_2)) (ds := []) (bm 8 0) (by kernel_rfl) rfl rfl ⟨(zr4 BK151.out 0).trans rfl, (zr4 BK151.out 1).trans rfl, (zr4 BK152.out 0).trans rfl, (zr4 BK152.out 1).trans rfl, (zr4 BK152.out 2).trans rfl⟩ (fun hHeld => ?_); refine with_tabW spec_l4Put.tab2 spec_l4Put.bits2 (fun HT_ HW_ => ?_)
          generalize w26.drew = w30 at BK151 BK152 BK153 HB hHeld ⊢
          refine pA 1 (some 13) (bm 8 2) rfl rfl HT_.out (by kernel_rfl) (fun _ _ _ h => h) (by rfl) (by intro w'; go_simp; with_reducible rfl) (by simp only [Act.put, zs1, zs2, zs3, i64_w, i32_w]; rfl) ?_
          refine pA 4 (some 16) (bm 8 18) rfl rfl HT_.out (by kernel_rfl) (fun _ _ _ h => h) (by rfl) (by intro w'; go_simp; with_reducible rfl) (by simp only [Act.put, zs1, zs2, zs3, i64_w, i32_w]; rfl) ?_
          refine tA 2 (some 14) (bm 8 22) rfl rfl HT_.out HW_.out (by kernel_rfl) (fun _ _ _ h => h) (by rfl) hHeld (by rintro w' ⟨s0, s1, s2, s3, s4⟩; go_simp; with_reducible rfl) (by simp only [Act.put, zs1, zs2, zs3, i64_w, i32_w]; rfl) ?_
          refine tA 5 (some 17) (bm 8 54) rfl rfl HT_.out HW_.out (by kernel_rfl) (fun _ _ _ h => h) (by rfl) hHeld (by rintro w' ⟨s0, s1, s2, s3, s4⟩; go_simp; with_reducible rfl) (by simp only [Act.put, zs1, zs2, zs3, i64_w, i32_w]; rfl) ?_
          refine one_ (i := 0) (N := some 12) (bm 8 55) rfl rfl (one_of HT_.out (by kernel_rfl)) (by decide) (fun K hK => ?_)
          refine Kd.R_lit_step (Kd.int .u8) _ 5 ?hg (N := 12) ?hd (xs := ([] : List Int)) (inner := []) (ok := fun _ => True) (okp := fun _ => True) ?hr ?hp (fun _ hk => hk) trivial (Below.refl _ _) (Nat.le_refl _) (by simp) ?_; (case hd => rfl); (case hg => rfl); (case hr => first | (go_simp; done) | (go_simp; rfl)); (case hp => exact (Reps.none _ _))
          intro v155 w31 ho32 hb hg_ hnew_
          clear hg_ hnew_
          (first | rw [← Ny154.out] at ho32 | (simp only [Int.reduceToNat] at ho32; rw [← Ny154.out] at ho32))
          have HO156 := mk_ (Kd.R_lower ho32 (zr2 (by repeat (first | (with_reducible first | exact HB.out | apply zq7 | apply zq8 | apply zq9 | refine zr1 ?_ GE151.out | refine zr1 ?_ GE152.out | refine zr1 ?_ GE153.out) | exact HB.out))))
          replace BK151 := mk_ (zq6 (by exact BK151.out) hb)
          replace BK152 := mk_ (zq6 (by exact BK152.out) hb)
          replace BK153 := mk_ (zq6 (by exact BK153.out) hb)
          replace HB := mk_ (zr3 (by repeat (first | (with_reducible first | exact HB.out | apply zq7 | apply zq8 | apply zq9 | refine zr1 ?_ GE151.out | refine zr1 ?_ GE152.out | refine zr1 ?_ GE153.out) | exact HB.out)) hb)
          clear hb ho32
          refine hK.out _ _ ⟨(zr4 BK151.out 0).trans rfl, (zr4 BK151.out 1).trans rfl, (zr4 BK152.out 0).trans rfl, (zr4 BK152.out 1).trans rfl, (zr4 BK152.out 2).trans rfl⟩ (fun hHeld => ?_)
          clear hK K
          refine norm_ (a' := ?_) ?_ ?_
          rotate_left
          · show Act.put _ (some 12) _ = _
            simp only [Act.put, zs1, zs2, zs3, i64_w, i32_w]
            rfl
          refine one_ (i := 3) (N := some 15) (bm 8 63) rfl rfl (one_of HT_.out (by kernel_rfl)) (by decide) (fun K hK => ?_)
          refine Kd.R_append_rows_step (Kd.int .u8) (w0 := w) w.heap.size (by rfl) (.tmp 12) (.tmp 14) 22 5 (.int .u8 0) 1 rfl Try.underlying22 info5 rfl (by decide) (by omega) v155 y154 l0_1 _ _ _ (fun _ => True) (fun _ => False) rfl rfl ?aO ?aR (fun _ _ h => h) (fun _ h => h.elim) ?aF ?aB ?aS ?aL ?_
          (case aR => repeat (first | exact (Kd.C_below HR0_1.out HB.out) | (with_reducible refine Kd.C_alloc ?_ _) | (with_reducible refine Kd.C_drewN ?_ _) | (with_reducible refine Kd.C_drew ?_)))
          (case aB => exact (by repeat (first | (with_reducible first | exact HB.out | apply zq7 | apply zq8 | apply zq9 | refine zr1 ?_ GE151.out | refine zr1 ?_ GE152.out | refine zr1 ?_ GE153.out) | exact HB.out)))
          (case aF => exact (fun _ _ => trivial))
          (case aO => exact (by (with_reducible repeat (first | apply Kd.R_alloc | apply Kd.R_drewN | apply Kd.R_drew)); exact HO156.out))
          (case aS => exact (zr2 (by repeat (first | (with_reducible first | exact HB.out | apply zq7 | apply zq8 | apply zq9 | refine zr1 ?_ GE151.out | refine zr1 ?_ GE152.out | refine zr1 ?_ GE153.out) | exact HB.out))))
          (case aL => have := LMc3.out; omega)
          intro v158 w33 ho hb hg hat
          rw [← Ny157.out] at ho
          have n0_ := mk_ (blk_grown (g := gb151) (o := .cells #[.int .i64 a0_0, .slice A0_1 l0_1.length c0_1] 35 (0, 0)) (by exact BK151.out) hg (Kd.R_ne HO156.out BK151.out (by decide)))
          have n1_ := mk_ (blk_grown (g := gb152) (o := .cells #[.int .i64 a1_0, .int .i64 a1_1, .slice A1_2 l1_2.length c1_2] 39 (0, 0)) (by exact BK152.out) hg (Kd.R_ne HO156.out BK152.out (by decide)))
          have n2_ := mk_ (blk_grown (g := gb153) (o := .cells #[.int .i64 0, .slice none 0 0] 35 (0, 0)) (by exact BK153.out) hg (Kd.R_ne HO156.out BK153.out (by decide)))
          have n3_ := mk_ (hb)
          have n4_ := mk_ (ho)
          clear BK151
          clear BK152
          clear BK153
          clear HB
          clear HO156
          have BK151 := n0_
          have BK152 := n1_
          have BK153 := n2_
          have HB := n3_
          have HO159 := n4_
          clear n0_ n1_ n2_ n3_ n4_
          clear ho hb hg hat
          refine hK.out _ _ ⟨(zr4 BK151.out 0).trans rfl, (zr4 BK151.out 1).trans rfl, (zr4 BK152.out 0).trans rfl, (zr4 BK152.out 1).trans rfl, (zr4 BK152.out 2).trans rfl⟩ (fun hHeld => ?_)
          clear hK K
          refine norm_ (a' := ?_) ?_ ?_
          rotate_left
          · show Act.put _ (some 15) _ = _
            simp only [Act.put, zs1, zs2, zs3, i64_w, i32_w]
            rfl
          refine one_ (i := 6) (N := some 18) (bm 8 127) rfl rfl (one_of HT_.out (by kernel_rfl)) (by decide) (fun K hK => ?_)
          refine Kd.R_append_rows_step (Kd.int .u8) (w0 := w) w.heap.size (by rfl) (.tmp 15) (.tmp 17) 22 5 (.int .u8 0) 1 rfl Try.underlying22 info5 rfl (by decide) (by omega) v158 y157 l1_2 _ _ _ (fun _ => True) (fun _ => False) rfl rfl ?aO ?aR (fun _ _ h => h) (fun _ h => h.elim) ?aF ?aB ?aS ?aL ?_
          (case aR => repeat (first | exact (Kd.C_below HR1_2.out HB.out) | (with_reducible refine Kd.C_alloc ?_ _) | (with_reducible refine Kd.C_drewN ?_ _) | (with_reducible refine Kd.C_drew ?_)))
          (case aB => exact (by repeat (first | (with_reducible first | exact HB.out | apply zq7 | apply zq8 | apply zq9 | refine zr1 ?_ GE151.out | refine zr1 ?_ GE152.out | refine zr1 ?_ GE153.out) | exact HB.out)))
          (case aF => exact (fun _ _ => trivial))
          (case aO => exact (by (with_reducible repeat (first | apply Kd.R_alloc | apply Kd.R_drewN | apply Kd.R_drew)); exact HO159.out))
          (case aS => exact (zr2 (by repeat (first | (with_reducible first | exact HB.out | apply zq7 | apply zq8 | apply zq9 | refine zr1 ?_ GE151.out | refine zr1 ?_ GE152.out | refine zr1 ?_ GE153.out) | exact HB.out))))
          (case aL => have := LMc4.out; omega)
          intro v161 w34 ho hb hg hat
          rw [← Ny160.out] at ho
          have n0_ := mk_ (blk_grown (g := gb151) (o := .cells #[.int .i64 a0_0, .slice A0_1 l0_1.length c0_1] 35 (0, 0)) (by exact BK151.out) hg (Kd.R_ne HO159.out BK151.out (by decide)))
          have n1_ := mk_ (blk_grown (g := gb152) (o := .cells #[.int .i64 a1_0, .int .i64 a1_1, .slice A1_2 l1_2.length c1_2] 39 (0, 0)) (by exact BK152.out) hg (Kd.R_ne HO159.out BK152.out (by decide)))
          have n2_ := mk_ (blk_grown (g := gb153) (o := .cells #[.int .i64 0, .slice none 0 0] 35 (0, 0)) (by exact BK153.out) hg (Kd.R_ne HO159.out BK153.out (by decide)))
          have n3_ := mk_ (hb)
          have n4_ := mk_ (ho)
          clear BK151
          clear BK152
          clear BK153
          clear HB
          clear HO159
          have BK151 := n0_
          have BK152 := n1_
          have BK153 := n2_
          have HB := n3_
          have HO162 := n4_
          clear n0_ n1_ n2_ n3_ n4_
          clear ho hb hg hat
          refine hK.out _ _ ⟨(zr4 BK151.out 0).trans rfl, (zr4 BK151.out 1).trans rfl, (zr4 BK152.out 0).trans rfl, (zr4 BK152.out 1).trans rfl, (zr4 BK152.out 2).trans rfl⟩ (fun hHeld => ?_)
          clear hK K
          refine norm_ (a' := ?_) ?_ ?_
          rotate_left
          · show Act.put _ (some 18) _ = _
            simp only [Act.put, zs1, zs2, zs3, i64_w, i32_w]
            rfl
          refine pA 7 (some 8) (bm 8 255) rfl rfl HT_.out (by kernel_rfl) (fun _ _ _ h => h) (by rfl) (by intro w'; go_simp; with_reducible rfl) (by simp only [Act.put, zs1, zs2, zs3, i64_w, i32_w]; rfl) ?_
          refine done_ (done_of HT_.out (by kernel_rfl)) ?_
          have hnb35 := NB152_153.out
          have hnc35 := NB153_152.out
          obtain ⟨hcz36_0, hcz36_1, hcz36_2⟩ := cz3 BK152.out
          obtain ⟨hfz36_0, hfz36_1, hfz36_2⟩ := fz3 BK152.out
          obtain ⟨hcz37_0, hcz37_1⟩ := cz2 BK153.out
          obtain ⟨hfz37_0, hfz37_1⟩ := fz2 BK153.out
          try go_wp2
          refine bodyPost_ret (results_ctt rfl _ _ gb153 35 #[.int .i64 0, .slice none 0 0] (0, 0) _ rfl (by (with_reducible repeat (first | refine zq1 ?_ _ | refine zq2 ?_ | refine zq3 ?_ _)); apply pu2; (with_reducible repeat (first | refine zq1 ?_ _ | refine zq2 ?_ | refine zq3 ?_ _)); exact BK153.out) Try.underlying35 rfl (by kernel_rfl)) rfl ?_
          exact ⟨_, _, by first | rfl | (simp [errW_none, errW_some] <;> rfl) | (simp [*, errW_none, errW_some] <;> rfl), by first | exact Kd.R_nil _ _ _ _ _ | exact Kd.N_nil _ _ _ _ _ | exact Kd.V_nil _ _ _ _ _ | exact Kd.Q_nil _ _ _ _ _ | exact Kd.S_nil _ _ _ _ _, by (with_reducible repeat (first | apply Kd.R_alloc | apply Kd.R_drewN | apply Kd.R_drew)); exact Kd.R_mono (Kd.R_far (p := ⟨gb153, 1, none⟩) (Kd.R_far (p := ⟨gb153, 0, none⟩) (Kd.R_types HO162.out BK153.out (by decide)) (fun _ hk => hk.2) (.int .i64 0)) (fun _ hk => hk.2) (.slice none 0 0)) (fun _ hk => (by simp [Value.ownBlock])), by repeat (first | (with_reducible first | exact HB.out | apply zq7 | apply zq8 | apply zq9 | refine zr1 ?_ GE151.out | refine zr1 ?_ GE152.out | refine zr1 ?_ GE153.out) | exact HB.out)⟩
      · rw [if_neg c5] at H
        have c5b0 : (a1_0 == 0) = false := beq_eq_false_iff_ne.mpr c5
        have c5b1 : (a1_0 != 0) = true := bne_iff_ne.mpr c5
        by_cases c38 : a1_0 = 1
        · rw [if_pos c38] at H
          have c38b0 : (a1_0 == 1) = true := beq_iff_eq.mpr c38
          have c38b1 : (a1_0 != 1) = false := bne_eq_false_iff_eq.mpr c38
          clear c38
          by_cases c39 : a0_0 > 0
          · rw [if_pos c39] at H
            have c39b0 : decide (0 < a0_0) = true := decide_eq_true c39
            clear c39
            replace H := Option.bind_eq_some_iff.mp H
            obtain ⟨⟨t171, t172, t175, t178⟩, A400, H⟩ := H
            try dsimp only at H
            have A40 := mk_ A400
            clear A400
            simp only [Option.some.injEq, Prod.mk.injEq] at H
            obtain ⟨rfl, rfl, rfl, rfl⟩ := H
            go_enter Try.func76, Try.ntmps76
            try go_wp2_with (first | ((with_reducible refine gate_dst (N := 2) rfl ?_); (try (refine gate_guard (by rfl) ?_; dsimp only)); refine box_event ?hg (N := 2) ?hd (cs := #[.int .i64 a0_0, .slice A0_1 l0_1.length c0_1]) (t := 35) ?hr ?_; (case hd => rfl); (case hg => rfl); (case hr => first | (go_simp; done) | (go_simp; rfl)); intro gb151 hg w41 hbox hb; have BK151 := mk_ (hbox); have GW151 := mk_ ((by rw [hg]; exact (zr2 (by repeat (first | (with_reducible first | exact HB.out | apply zq7 | apply zq8 | apply zq9) | exact HB.out))) : w.heap.size ≤ gb151)); have GE151 := GW151; replace HB := mk_ (zr3 (by repeat (first | (with_reducible first | exact HB.out | apply zq7 | apply zq8 | apply zq9) | exact HB.out)) hb); clear hb hbox hg) | ((with_reducible refine gate_dst (N := 3) rfl ?_); (try (refine gate_guard (by rfl) ?_; dsimp only)); refine box_event ?hg (N := 3) ?hd (cs := #[.int .i64 a1_0, .int .i64 a1_1, .slice A1_2 l1_2.length c1_2]) (t := 39) ?hr ?_; (case hd => rfl); (case hg => rfl); (case hr => first | (go_simp; done) | (go_simp; rfl)); intro gb152 hg w42 hbox hb; have BK152 := mk_ (hbox); have GW152 := mk_ ((by rw [hg]; exact (zr2 (by repeat (first | (with_reducible first | exact HB.out | apply zq7 | apply zq8 | apply zq9 | refine zr1 ?_ GE151.out) | exact HB.out))) : w.heap.size ≤ gb152)); have GE152 := GW152; replace HB := mk_ (zr3 (by repeat (first | (with_reducible first | exact HB.out | apply zq7 | apply zq8 | apply zq9 | refine zr1 ?_ GE151.out) | exact HB.out)) hb); have NB151_152 := mk_ ((by rw [hg]; exact zm2 (zr6 (by exact BK151.out)) : gb151 ≠ gb152)); replace BK151 := mk_ (zq6 (by exact BK151.out) hb); have NB152_151 := mk_ NB151_152.out.symm; clear hb hbox hg) | ((with_reducible refine gate_dst (N := 4) rfl ?_); (try (refine gate_guard (by rfl) ?_; dsimp only)); refine box_event ?hg (N := 4) ?hd (cs := #[.int .i64 0, .slice none 0 0]) (t := 35) ?hr ?_; (case hd => rfl); (case hg => rfl); (case hr => first | (go_simp; done) | (go_simp; rfl)); intro gb153 hg w43 hbox hb; have BK153 := mk_ (hbox); have GW153 := mk_ ((by rw [hg]; exact (zr2 (by repeat (first | (with_reducible first | exact HB.out | apply zq7 | apply zq8 | apply zq9 | refine zr1 ?_ GE151.out | refine zr1 ?_ GE152.out) | exact HB.out))) : w.heap.size ≤ gb153)); have GE153 := GW153; replace HB := mk_ (zr3 (by repeat (first | (with_reducible first | exact HB.out | apply zq7 | apply zq8 | apply zq9 | refine zr1 ?_ GE151.out | refine zr1 ?_ GE152.out) | exact HB.out)) hb); have NB151_153 := mk_ ((by rw [hg]; exact zm2 (zr6 (by exact BK151.out)) : gb151 ≠ gb153)); replace BK151 := mk_ (zq6 (by exact BK151.out) hb); have NB153_151 := mk_ NB151_153.out.symm; have NB152_153 := mk_ ((by rw [hg]; exact zm2 (zr6 (by exact BK152.out)) : gb152 ≠ gb153)); replace BK152 := mk_ (zq6 (by exact BK152.out) hb); have NB153_152 := mk_ NB152_153.out.symm; clear hb hbox hg; have hnb44 := NB151_152.out; have hnc44 := NB152_151.out; have hnb45 := NB151_153.out; have hnc45 := NB153_151.out; obtain ⟨hcz46_0, hcz46_1⟩ := cz2 BK151.out; obtain ⟨hfz46_0, hfz46_1⟩ := fz2 BK151.out))
            replace BK151 := mk_ (zq2 BK151.out)
            replace BK152 := mk_ (zq2 BK152.out)
            replace BK153 := mk_ (zq2 BK153.out)
            replace HB := mk_ (zq9 HB.out)
            refine start_ (n := 8) (S := fun w' => w'.cell? ⟨gb151, 0, none⟩ = some (.int .i64 a0_0) ∧ w'.cell? ⟨gb151, 1, none⟩ = some (.slice A0_1 l0_1.length c0_1) ∧ w'.cell? ⟨gb152, 0, none⟩ = some (.int .i64 a1_0) ∧ w'.cell? ⟨gb152, 1, none⟩ = some (.int .i64 a1_1) ∧ w'.cell? ⟨gb152, 2, none⟩ = some (.slice A1_2 l1_2.length c1_2)) (ds := []) (bm 8 0) (by kernel_rfl) rfl rfl ⟨(zr4 BK151.out 0).trans rfl, (zr4 BK151.out 1).trans rfl, (zr4 BK152.out 0).trans rfl, (zr4 BK152.out 1).trans rfl, (zr4 BK152.out 2).trans rfl⟩ (fun hHeld => ?_); refine with_tabW spec_l4Put.tab2 spec_l4Put.bits2 (fun HT_ HW_ => ?_)
            generalize w43.drew = w47 at BK151 BK152 BK153 HB hHeld ⊢
            refine pA 1 (some 13) (bm 8 2) rfl rfl HT_.out (by kernel_rfl) (fun _ _ _ h => h) (by rfl) (by intro w'; go_simp; with_reducible rfl) (by simp only [Act.put, zs1, zs2, zs3, i64_w, i32_w]; rfl) ?_
            refine pA 4 (some 16) (bm 8 18) rfl rfl HT_.out (by kernel_rfl) (fun _ _ _ h => h) (by rfl) (by intro w'; go_simp; with_reducible rfl) (by simp only [Act.put, zs1, zs2, zs3, i64_w, i32_w]; rfl) ?_
            refine tA 2 (some 14) (bm 8 22) rfl rfl HT_.out HW_.out (by kernel_rfl) (fun _ _ _ h => h) (by rfl) hHeld (by rintro w' ⟨s0, s1, s2, s3, s4⟩; go_simp; with_reducible rfl) (by simp only [Act.put, zs1, zs2, zs3, i64_w, i32_w]; rfl) ?_
            refine tA 5 (some 17) (bm 8 54) rfl rfl HT_.out HW_.out (by kernel_rfl) (fun _ _ _ h => h) (by rfl) hHeld (by rintro w' ⟨s0, s1, s2, s3, s4⟩; go_simp; with_reducible rfl) (by simp only [Act.put, zs1, zs2, zs3, i64_w, i32_w]; rfl) ?_
            refine one_ (i := 0) (N := some 12) (bm 8 55) rfl rfl (one_of HT_.out (by kernel_rfl)) (by decide) (fun K hK => ?_)
            refine Kd.R_lit_step (Kd.int .u8) _ 5 ?hg (N := 12) ?hd (xs := ([] : List Int)) (inner := []) (ok := fun _ => True) (okp := fun _ => True) ?hr ?hp (fun _ hk => hk) trivial (Below.refl _ _) (Nat.le_refl _) (by simp) ?_; (case hd => rfl); (case hg => rfl); (case hr => first | (go_simp; done) | (go_simp; rfl)); (case hp => exact (Reps.none _ _))
            intro v155 w48 ho49 hb hg_ hnew_
            clear hg_ hnew_
            (first | rw [← Ny154.out] at ho49 | (simp only [Int.reduceToNat] at ho49; rw [← Ny154.out] at ho49))
            have HO156 := mk_ (Kd.R_lower ho49 (zr2 (by repeat (first | (with_reducible first | exact HB.out | apply zq7 | apply zq8 | apply zq9 | refine zr1 ?_ GE151.out | refine zr1 ?_ GE152.out | refine zr1 ?_ GE153.out) | exact HB.out))))
            replace BK151 := mk_ (zq6 (by exact BK151.out) hb)
            replace BK152 := mk_ (zq6 (by exact BK152.out) hb)
            replace BK153 := mk_ (zq6 (by exact BK153.out) hb)
            replace HB := mk_ (zr3 (by repeat (first | (with_reducible first | exact HB.out | apply zq7 | apply zq8 | apply zq9 | refine zr1 ?_ GE151.out | refine zr1 ?_ GE152.out | refine zr1 ?_ GE153.out) | exact HB.out)) hb)
            clear hb ho49
            refine hK.out _ _ ⟨(zr4 BK151.out 0).trans rfl, (zr4 BK151.out 1).trans rfl, (zr4 BK152.out 0).trans rfl, (zr4 BK152.out 1).trans rfl, (zr4 BK152.out 2).trans rfl⟩ (fun hHeld => ?_)
            clear hK K
            refine norm_ (a' := ?_) ?_ ?_
            rotate_left
            · show Act.put _ (some 12) _ = _
              simp only [Act.put, zs1, zs2, zs3, i64_w, i32_w]
              rfl
            refine one_ (i := 3) (N := some 15) (bm 8 63) rfl rfl (one_of HT_.out (by kernel_rfl)) (by decide) (fun K hK => ?_)
            refine Kd.R_append_rows_step (Kd.int .u8) (w0 := w) w.heap.size (by rfl) (.tmp 12) (.tmp 14) 22 5 (.int .u8 0) 1 rfl Try.underlying22 info5 rfl (by decide) (by omega) v155 y154 l0_1 _ _ _ (fun _ => True) (fun _ => False) rfl rfl ?aO ?aR (fun _ _ h => h) (fun _ h => h.elim) ?aF ?aB ?aS ?aL ?_
            (case aR => repeat (first | exact (Kd.C_below HR0_1.out HB.out) | (with_reducible refine Kd.C_alloc ?_ _) | (with_reducible refine Kd.C_drewN ?_ _) | (with_reducible refine Kd.C_drew ?_)))
            (case aB => exact (by repeat (first | (with_reducible first | exact HB.out | apply zq7 | apply zq8 | apply zq9 | refine zr1 ?_ GE151.out | refine zr1 ?_ GE152.out | refine zr1 ?_ GE153.out) | exact HB.out)))
            (case aF => exact (fun _ _ => trivial))
            (case aO => exact (by (with_reducible repeat (first | apply Kd.R_alloc | apply Kd.R_drewN | apply Kd.R_drew)); exact HO156.out))
            (case aS => exact (zr2 (by repeat (first | (with_reducible first | exact HB.out | apply zq7 | apply zq8 | apply zq9 | refine zr1 ?_ GE151.out | refine zr1 ?_ GE152.out | refine zr1 ?_ GE153.out) | exact HB.out))))
            (case aL => have := LMc3.out; omega)
            intro v158 w50 ho hb hg hat
            rw [← Ny157.out] at ho
            have n0_ := mk_ (blk_grown (g := gb151) (o := .cells #[.int .i64 a0_0, .slice A0_1 l0_1.length c0_1] 35 (0, 0)) (by exact BK151.out) hg (Kd.R_ne HO156.out BK151.out (by decide)))
            have n1_ := mk_ (blk_grown (g := gb152) (o := .cells #[.int .i64 a1_0, .int .i64 a1_1, .slice A1_2 l1_2.length c1_2] 39 (0, 0)) (by exact BK152.out) hg (Kd.R_ne HO156.out BK152.out (by decide)))
            have n2_ := mk_ (blk_grown (g := gb153) (o := .cells #[.int .i64 0, .slice none 0 0] 35 (0, 0)) (by exact BK153.out) hg (Kd.R_ne HO156.out BK153.out (by decide)))
            have n3_ := mk_ (hb)
            have n4_ := mk_ (ho)
            clear BK151
            clear BK152
            clear BK153
            clear HB
            clear HO156
            have BK151 := n0_
            have BK152 := n1_
            have BK153 := n2_
            have HB := n3_
            have HO159 := n4_
            clear n0_ n1_ n2_ n3_ n4_
            clear ho hb hg hat
            refine hK.out _ _ ⟨(zr4 BK151.out 0).trans rfl, (zr4 BK151.out 1).trans rfl, (zr4 BK152.out 0).trans rfl, (zr4 BK152.out 1).trans rfl, (zr4 BK152.out 2).trans rfl⟩ (fun hHeld => ?_)
            clear hK K
            refine norm_ (a' := ?_) ?_ ?_
            rotate_left
            · show Act.put _ (some 15) _ = _
              simp only [Act.put, zs1, zs2, zs3, i64_w, i32_w]
              rfl
            refine one_ (i := 6) (N := some 18) (bm 8 127) rfl rfl (one_of HT_.out (by kernel_rfl)) (by decide) (fun K hK => ?_)
            refine Kd.R_append_rows_step (Kd.int .u8) (w0 := w) w.heap.size (by rfl) (.tmp 15) (.tmp 17) 22 5 (.int .u8 0) 1 rfl Try.underlying22 info5 rfl (by decide) (by omega) v158 y157 l1_2 _ _ _ (fun _ => True) (fun _ => False) rfl rfl ?aO ?aR (fun _ _ h => h) (fun _ h => h.elim) ?aF ?aB ?aS ?aL ?_
            (case aR => repeat (first | exact (Kd.C_below HR1_2.out HB.out) | (with_reducible refine Kd.C_alloc ?_ _) | (with_reducible refine Kd.C_drewN ?_ _) | (with_reducible refine Kd.C_drew ?_)))
            (case aB => exact (by repeat (first | (with_reducible first | exact HB.out | apply zq7 | apply zq8 | apply zq9 | refine zr1 ?_ GE151.out | refine zr1 ?_ GE152.out | refine zr1 ?_ GE153.out) | exact HB.out)))
            (case aF => exact (fun _ _ => trivial))
            (case aO => exact (by (with_reducible repeat (first | apply Kd.R_alloc | apply Kd.R_drewN | apply Kd.R_drew)); exact HO159.out))
            (case aS => exact (zr2 (by repeat (first | (with_reducible first | exact HB.out | apply zq7 | apply zq8 | apply zq9 | refine zr1 ?_ GE151.out | refine zr1 ?_ GE152.out | refine zr1 ?_ GE153.out) | exact HB.out))))
            (case aL => have := LMc4.out; omega)
            intro v161 w51 ho hb hg hat
            rw [← Ny160.out] at ho
            have n0_ := mk_ (blk_grown (g := gb151) (o := .cells #[.int .i64 a0_0, .slice A0_1 l0_1.length c0_1] 35 (0, 0)) (by exact BK151.out) hg (Kd.R_ne HO159.out BK151.out (by decide)))
            have n1_ := mk_ (blk_grown (g := gb152) (o := .cells #[.int .i64 a1_0, .int .i64 a1_1, .slice A1_2 l1_2.length c1_2] 39 (0, 0)) (by exact BK152.out) hg (Kd.R_ne HO159.out BK152.out (by decide)))
            have n2_ := mk_ (blk_grown (g := gb153) (o := .cells #[.int .i64 0, .slice none 0 0] 35 (0, 0)) (by exact BK153.out) hg (Kd.R_ne HO159.out BK153.out (by decide)))
            have n3_ := mk_ (hb)
            have n4_ := mk_ (ho)
            clear BK151
            clear BK152
            clear BK153
            clear HB
            clear HO159
            have BK151 := n0_
            have BK152 := n1_
            have BK153 := n2_
            have HB := n3_
            have HO162 := n4_
            clear n0_ n1_ n2_ n3_ n4_
            clear ho hb hg hat
            refine hK.out _ _ ⟨(zr4 BK151.out 0).trans rfl, (zr4 BK151.out 1).trans rfl, (zr4 BK152.out 0).trans rfl, (zr4 BK152.out 1).trans rfl, (zr4 BK152.out 2).trans rfl⟩ (fun hHeld => ?_)
            clear hK K
            refine norm_ (a' := ?_) ?_ ?_
            rotate_left
            · show Act.put _ (some 18) _ = _
              simp only [Act.put, zs1, zs2, zs3, i64_w, i32_w]
              rfl
            refine pA 7 (some 8) (bm 8 255) rfl rfl HT_.out (by kernel_rfl) (fun _ _ _ h => h) (by rfl) (by intro w'; go_simp; with_reducible rfl) (by simp only [Act.put, zs1, zs2, zs3, i64_w, i32_w]; rfl) ?_
            refine done_ (done_of HT_.out (by kernel_rfl)) ?_
            have hnb52 := NB152_153.out
            have hnc52 := NB153_152.out
            obtain ⟨hcz53_0, hcz53_1, hcz53_2⟩ := cz3 BK152.out
            obtain ⟨hfz53_0, hfz53_1, hfz53_2⟩ := fz3 BK152.out
            try go_wp2_with (first | ((with_reducible refine gate_callee (f := 97) rfl ?_); refine goesL_ (some 33) rfl rfl Try.func97 (by kernel_rfl) rfl #[] rfl (by (try simp only [List.map_toArray, List.map_cons, List.map_nil]); first | done | rfl | (simp only [List.length_drop, List.length_take]; rfl)) ?_; (with_reducible refine (spec_l4Bad.calls  t171 t172 t175 t178 _ A40.out).mono ?_); rintro e w54 ⟨v173, v176, rfl, ho0, ho1, hb⟩; refine ⟨_, rfl, ?_⟩; have HO174 := mk_ (Kd.R_lower (Kd.R_new' ho0 (Kd.R_lt (by (with_reducible repeat (first | apply Kd.R_alloc | apply Kd.R_drewN | apply Kd.R_drew)); exact HO162.out))) (zr2 (by repeat (first | (with_reducible first | exact HB.out | apply zq7 | apply zq8 | apply zq9 | refine zr1 ?_ GE151.out | refine zr1 ?_ GE152.out | refine zr1 ?_ GE153.out) | exact HB.out)))); have HO177 := mk_ (Kd.R_lower (Kd.R_new' ho1 (Kd.R_lt (by (with_reducible repeat (first | apply Kd.R_alloc | apply Kd.R_drewN | apply Kd.R_drew)); exact HO162.out))) (zr2 (by repeat (first | (with_reducible first | exact HB.out | apply zq7 | apply zq8 | apply zq9 | refine zr1 ?_ GE151.out | refine zr1 ?_ GE152.out | refine zr1 ?_ GE153.out) | exact HB.out)))); replace HO162 := mk_ (Kd.R_mono (Kd.R_told (Kd.R_told (Kd.R_old (by (with_reducible repeat (first | apply Kd.R_alloc | apply Kd.R_drewN | apply Kd.R_drew)); exact HO162.out) hb) (Kd.R_base ho0)) (Kd.R_base ho1)) (fun _ h_ => h_.1)); replace BK151 := mk_ (zq6 (by exact BK151.out) hb); replace BK152 := mk_ (zq6 (by exact BK152.out) hb); replace BK153 := mk_ (zq6 (by exact BK153.out) hb); replace HB := mk_ (zr3 (by repeat (first | (with_reducible first | exact HB.out | apply zq7 | apply zq8 | apply zq9 | refine zr1 ?_ GE151.out | refine zr1 ?_ GE152.out | refine zr1 ?_ GE153.out) | exact HB.out)) hb); (try clear hb); (try clear hb2); (try clear hk); (try clear hi); (try clear ho0); (try clear ho1); obtain ⟨hcz55_0, hcz55_1⟩ := cz2 BK153.out; obtain ⟨hfz55_0, hfz55_1⟩ := fz2 BK153.out; obtain ⟨Ao56, co56, eo56⟩ := Kd.R_slice HO174.out; subst eo56))
            refine bodyPost_ret (results_ctt rfl _ _ gb153 35 #[.int .i64 t171, .slice Ao56 t172.length co56] (0, 0) _ rfl (by (with_reducible repeat (first | refine zq1 ?_ _ | refine zq2 ?_ | refine zq3 ?_ _)); apply pu2; (with_reducible repeat (first | refine zq1 ?_ _ | refine zq2 ?_ | refine zq3 ?_ _)); exact BK153.out) Try.underlying35 rfl (by kernel_rfl)) rfl ?_
            exact ⟨_, _, by first | rfl | (simp [errW_none, errW_some] <;> rfl) | (simp [*, errW_none, errW_some] <;> rfl), by (with_reducible repeat (first | apply Kd.R_alloc | apply Kd.R_drewN | apply Kd.R_drew)); exact Kd.R_mono (Kd.R_far (p := ⟨gb153, 1, none⟩) (Kd.R_far (p := ⟨gb153, 0, none⟩) (Kd.R_types HO174.out BK153.out (by decide)) (fun _ hk => hk.2) (.int .i64 t171)) (fun _ hk => hk.2) (.slice Ao56 t172.length co56)) (fun _ hk => hk.1.1), by (with_reducible repeat (first | apply Kd.R_alloc | apply Kd.R_drewN | apply Kd.R_drew)); exact Kd.R_mono (Kd.R_far (p := ⟨gb153, 1, none⟩) (Kd.R_far (p := ⟨gb153, 0, none⟩) (Kd.R_types HO177.out BK153.out (by decide)) (fun _ hk => hk.2) (.int .i64 t171)) (fun _ hk => hk.2) (.slice Ao56 t172.length co56)) (fun _ hk => hk.1.1), by repeat (first | (with_reducible first | exact HB.out | apply zq7 | apply zq8 | apply zq9 | refine zr1 ?_ GE151.out | refine zr1 ?_ GE152.out | refine zr1 ?_ GE153.out) | exact HB.out)⟩
          · rw [if_neg c39] at H
            have c39b0 : decide (0 < a0_0) = false := decide_eq_false c39
            clear c39
            obtain ⟨y179, hy179⟩ : ∃ y_ : List Int, y_ = (([] : List Int)) := ⟨_, rfl⟩
            replace H : (some (a1_1, y160, y179, 1)) = some (r1, r2, r3, r4) := by first | (rw [hy179]; with_reducible exact H) | (have H2_ := (Option.bind_some _ _).symm.trans H; rw [hy179]; with_reducible exact H2_) | (have H2_ := (Option.bind_some _ _).symm.trans H; with_reducible exact H2_) | with_reducible exact H | (rw [hy179]; exact H) | exact H
            have Ny179 := mk_ hy179
            clear hy179
            simp only [Option.some.injEq, Prod.mk.injEq] at H
            obtain ⟨rfl, rfl, rfl, rfl⟩ := H
            go_enter Try.func76, Try.ntmps76
            try go_wp2_with (first | ((with_reducible refine gate_dst (N := 2) rfl ?_); (try (refine gate_guard (by rfl) ?_; dsimp only)); refine box_event ?hg (N := 2) ?hd (cs := #[.int .i64 a0_0, .slice A0_1 l0_1.length c0_1]) (t := 35) ?hr ?_; (case hd => rfl); (case hg => rfl); (case hr => first | (go_simp; done) | (go_simp; rfl)); intro gb151 hg w57 hbox hb; have BK151 := mk_ (hbox); have GW151 := mk_ ((by rw [hg]; exact (zr2 (by repeat (first | (with_reducible first | exact HB.out | apply zq7 | apply zq8 | apply zq9) | exact HB.out))) : w.heap.size ≤ gb151)); have GE151 := GW151; replace HB := mk_ (zr3 (by repeat (first | (with_reducible first | exact HB.out | apply zq7 | apply zq8 | apply zq9) | exact HB.out)) hb); clear hb hbox hg) | ((with_reducible refine gate_dst (N := 3) rfl ?_); (try (refine gate_guard (by rfl) ?_; dsimp only)); refine box_event ?hg (N := 3) ?hd (cs := #[.int .i64 a1_0, .int .i64 a1_1, .slice A1_2 l1_2.length c1_2]) (t := 39) ?hr ?_; (case hd => rfl); (case hg => rfl); (case hr => first | (go_simp; done) | (go_simp; rfl)); intro gb152 hg w58 hbox hb; have BK152 := mk_ (hbox); have GW152 := mk_ ((by rw [hg]; exact (zr2 (by repeat (first | (with_reducible first | exact HB.out | apply zq7 | apply zq8 | apply zq9 | refine zr1 ?_ GE151.out) | exact HB.out))) : w.heap.size ≤ gb152)); have GE152 := GW152; replace HB := mk_ (zr3 (by repeat (first | (with_reducible first | exact HB.out | apply zq7 | apply zq8 | apply zq9 | refine zr1 ?_ GE151.out) | exact HB.out)) hb); have NB151_152 := mk_ ((by rw [hg]; exact zm2 (zr6 (by exact BK151.out)) : gb151 ≠ gb152)); replace BK151 := mk_ (zq6 (by exact BK151.out) hb); have NB152_151 := mk_ NB151_152.out.symm; clear hb hbox hg) | ((with_reducible refine gate_dst (N := 4) rfl ?_); (try (refine gate_guard (by rfl) ?_; dsimp only)); refine box_event ?hg (N := 4) ?hd (cs := #[.int .i64 0, .slice none 0 0]) (t := 35) ?hr ?_; (case hd => rfl); (case hg => rfl); (case hr => first | (go_simp; done) | (go_simp; rfl)); intro gb153 hg w59 hbox hb; have BK153 := mk_ (hbox); have GW153 := mk_ ((by rw [hg]; exact (zr2 (by repeat (first | (with_reducible first | exact HB.out | apply zq7 | apply zq8 | apply zq9 | refine zr1 ?_ GE151.out | refine zr1 ?_ GE152.out) | exact HB.out))) : w.heap.size ≤ gb153)); have GE153 := GW153; replace HB := mk_ (zr3 (by repeat (first | (with_reducible first | exact HB.out | apply zq7 | apply zq8 | apply zq9 | refine zr1 ?_ GE151.out | refine zr1 ?_ GE152.out) | exact HB.out)) hb); have NB151_153 := mk_ ((by rw [hg]; exact zm2 (zr6 (by exact BK151.out)) : gb151 ≠ gb153)); replace BK151 := mk_ (zq6 (by exact BK151.out) hb); have NB153_151 := mk_ NB151_153.out.symm; have NB152_153 := mk_ ((by rw [hg]; exact zm2 (zr6 (by exact BK152.out)) : gb152 ≠ gb153)); replace BK152 := mk_ (zq6 (by exact BK152.out) hb); have NB153_152 := mk_ NB152_153.out.symm; clear hb hbox hg; have hnb60 := NB151_152.out; have hnc60 := NB152_151.out; have hnb61 := NB151_153.out; have hnc61 := NB153_151.out; obtain ⟨hcz62_0, hcz62_1⟩ := cz2 BK151.out; obtain ⟨hfz62_0, hfz62_1⟩ := fz2 BK151.out))
            replace BK151 := mk_ (zq2 BK151.out)
            replace BK152 := mk_ (zq2 BK152.out)
            replace BK153 := mk_ (zq2 BK153.out)
            replace HB := mk_ (zq9 HB.out)
            refine start_ (n := 8) (S := fun w' => w'.cell? ⟨gb151, 0, none⟩ = some (.int .i64 a0_0) ∧ w'.cell? ⟨gb151, 1, none⟩ = some (.slice A0_1 l0_1.length c0_1) ∧ w'.cell? ⟨gb152, 0, none⟩ = some (.int .i64 a1_0) ∧ w'.cell? ⟨gb152, 1, none⟩ = some (.int .i64 a1_1) ∧ w'.cell? ⟨gb152, 2, none⟩ = some (.slice A1_2 l1_2.length c1_2)) (ds := []) (bm 8 0) (by kernel_rfl) rfl rfl ⟨(zr4 BK151.out 0).trans rfl, (zr4 BK151.out 1).trans rfl, (zr4 BK152.out 0).trans rfl, (zr4 BK152.out 1).trans rfl, (zr4 BK152.out 2).trans rfl⟩ (fun hHeld => ?_); refine with_tabW spec_l4Put.tab2 spec_l4Put.bits2 (fun HT_ HW_ => ?_)
            generalize w59.drew = w63 at BK151 BK152 BK153 HB hHeld ⊢
            refine pA 1 (some 13) (bm 8 2) rfl rfl HT_.out (by kernel_rfl) (fun _ _ _ h => h) (by rfl) (by intro w'; go_simp; with_reducible rfl) (by simp only [Act.put, zs1, zs2, zs3, i64_w, i32_w]; rfl) ?_
            refine pA 4 (some 16) (bm 8 18) rfl rfl HT_.out (by kernel_rfl) (fun _ _ _ h => h) (by rfl) (by intro w'; go_simp; with_reducible rfl) (by simp only [Act.put, zs1, zs2, zs3, i64_w, i32_w]; rfl) ?_
            refine tA 2 (some 14) (bm 8 22) rfl rfl HT_.out HW_.out (by kernel_rfl) (fun _ _ _ h => h) (by rfl) hHeld (by rintro w' ⟨s0, s1, s2, s3, s4⟩; go_simp; with_reducible rfl) (by simp only [Act.put, zs1, zs2, zs3, i64_w, i32_w]; rfl) ?_
            refine tA 5 (some 17) (bm 8 54) rfl rfl HT_.out HW_.out (by kernel_rfl) (fun _ _ _ h => h) (by rfl) hHeld (by rintro w' ⟨s0, s1, s2, s3, s4⟩; go_simp; with_reducible rfl) (by simp only [Act.put, zs1, zs2, zs3, i64_w, i32_w]; rfl) ?_
            refine one_ (i := 0) (N := some 12) (bm 8 55) rfl rfl (one_of HT_.out (by kernel_rfl)) (by decide) (fun K hK => ?_)
            refine Kd.R_lit_step (Kd.int .u8) _ 5 ?hg (N := 12) ?hd (xs := ([] : List Int)) (inner := []) (ok := fun _ => True) (okp := fun _ => True) ?hr ?hp (fun _ hk => hk) trivial (Below.refl _ _) (Nat.le_refl _) (by simp) ?_; (case hd => rfl); (case hg => rfl); (case hr => first | (go_simp; done) | (go_simp; rfl)); (case hp => exact (Reps.none _ _))
            intro v155 w64 ho65 hb hg_ hnew_
            clear hg_ hnew_
            (first | rw [← Ny154.out] at ho65 | (simp only [Int.reduceToNat] at ho65; rw [← Ny154.out] at ho65))
            have HO156 := mk_ (Kd.R_lower ho65 (zr2 (by repeat (first | (with_reducible first | exact HB.out | apply zq7 | apply zq8 | apply zq9 | refine zr1 ?_ GE151.out | refine zr1 ?_ GE152.out | refine zr1 ?_ GE153.out) | exact HB.out))))
            replace BK151 := mk_ (zq6 (by exact BK151.out) hb)
            replace BK152 := mk_ (zq6 (by exact BK152.out) hb)
            replace BK153 := mk_ (zq6 (by exact BK153.out) hb)
            replace HB := mk_ (zr3 (by repeat (first | (with_reducible first | exact HB.out | apply zq7 | apply zq8 | apply zq9 | refine zr1 ?_ GE151.out | refine zr1 ?_ GE152.out | refine zr1 ?_ GE153.out) | exact HB.out)) hb)
            clear hb ho65
            refine hK.out _ _ ⟨(zr4 BK151.out 0).trans rfl, (zr4 BK151.out 1).trans rfl, (zr4 BK152.out 0).trans rfl, (zr4 BK152.out 1).trans rfl, (zr4 BK152.out 2).trans rfl⟩ (fun hHeld => ?_)
            clear hK K
            refine norm_ (a' := ?_) ?_ ?_
            rotate_left
            · show Act.put _ (some 12) _ = _
              simp only [Act.put, zs1, zs2, zs3, i64_w, i32_w]
              rfl
            refine one_ (i := 3) (N := some 15) (bm 8 63) rfl rfl (one_of HT_.out (by kernel_rfl)) (by decide) (fun K hK => ?_)
            refine Kd.R_append_rows_step (Kd.int .u8) (w0 := w) w.heap.size (by rfl) (.tmp 12) (.tmp 14) 22 5 (.int .u8 0) 1 rfl Try.underlying22 info5 rfl (by decide) (by omega) v155 y154 l0_1 _ _ _ (fun _ => True) (fun _ => False) rfl rfl ?aO ?aR (fun _ _ h => h) (fun _ h => h.elim) ?aF ?aB ?aS ?aL ?_
            (case aR => repeat (first | exact (Kd.C_below HR0_1.out HB.out) | (with_reducible refine Kd.C_alloc ?_ _) | (with_reducible refine Kd.C_drewN ?_ _) | (with_reducible refine Kd.C_drew ?_)))
            (case aB => exact (by repeat (first | (with_reducible first | exact HB.out | apply zq7 | apply zq8 | apply zq9 | refine zr1 ?_ GE151.out | refine zr1 ?_ GE152.out | refine zr1 ?_ GE153.out) | exact HB.out)))
            (case aF => exact (fun _ _ => trivial))
            (case aO => exact (by (with_reducible repeat (first | apply Kd.R_alloc | apply Kd.R_drewN | apply Kd.R_drew)); exact HO156.out))
            (case aS => exact (zr2 (by repeat (first | (with_reducible first | exact HB.out | apply zq7 | apply zq8 | apply zq9 | refine zr1 ?_ GE151.out | refine zr1 ?_ GE152.out | refine zr1 ?_ GE153.out) | exact HB.out))))
            (case aL => have := LMc3.out; omega)
            intro v158 w66 ho hb hg hat
            rw [← Ny157.out] at ho
            have n0_ := mk_ (blk_grown (g := gb151) (o := .cells #[.int .i64 a0_0, .slice A0_1 l0_1.length c0_1] 35 (0, 0)) (by exact BK151.out) hg (Kd.R_ne HO156.out BK151.out (by decide)))
            have n1_ := mk_ (blk_grown (g := gb152) (o := .cells #[.int .i64 a1_0, .int .i64 a1_1, .slice A1_2 l1_2.length c1_2] 39 (0, 0)) (by exact BK152.out) hg (Kd.R_ne HO156.out BK152.out (by decide)))
            have n2_ := mk_ (blk_grown (g := gb153) (o := .cells #[.int .i64 0, .slice none 0 0] 35 (0, 0)) (by exact BK153.out) hg (Kd.R_ne HO156.out BK153.out (by decide)))
            have n3_ := mk_ (hb)
            have n4_ := mk_ (ho)
            clear BK151
            clear BK152
            clear BK153
            clear HB
            clear HO156
            have BK151 := n0_
            have BK152 := n1_
            have BK153 := n2_
            have HB := n3_
            have HO159 := n4_
            clear n0_ n1_ n2_ n3_ n4_
            clear ho hb hg hat
            refine hK.out _ _ ⟨(zr4 BK151.out 0).trans rfl, (zr4 BK151.out 1).trans rfl, (zr4 BK152.out 0).trans rfl, (zr4 BK152.out 1).trans rfl, (zr4 BK152.out 2).trans rfl⟩ (fun hHeld => ?_)
            clear hK K
            refine norm_ (a' := ?_) ?_ ?_
            rotate_left
            · show Act.put _ (some 15) _ = _
              simp only [Act.put, zs1, zs2, zs3, i64_w, i32_w]
              rfl
            refine one_ (i := 6) (N := some 18) (bm 8 127) rfl rfl (one_of HT_.out (by kernel_rfl)) (by decide) (fun K hK => ?_)
            refine Kd.R_append_rows_step (Kd.int .u8) (w0 := w) w.heap.size (by rfl) (.tmp 15) (.tmp 17) 22 5 (.int .u8 0) 1 rfl Try.underlying22 info5 rfl (by decide) (by omega) v158 y157 l1_2 _ _ _ (fun _ => True) (fun _ => False) rfl rfl ?aO ?aR (fun _ _ h => h) (fun _ h => h.elim) ?aF ?aB ?aS ?aL ?_
            (case aR => repeat (first | exact (Kd.C_below HR1_2.out HB.out) | (with_reducible refine Kd.C_alloc ?_ _) | (with_reducible refine Kd.C_drewN ?_ _) | (with_reducible refine Kd.C_drew ?_)))
            (case aB => exact (by repeat (first | (with_reducible first | exact HB.out | apply zq7 | apply zq8 | apply zq9 | refine zr1 ?_ GE151.out | refine zr1 ?_ GE152.out | refine zr1 ?_ GE153.out) | exact HB.out)))
            (case aF => exact (fun _ _ => trivial))
            (case aO => exact (by (with_reducible repeat (first | apply Kd.R_alloc | apply Kd.R_drewN | apply Kd.R_drew)); exact HO159.out))
            (case aS => exact (zr2 (by repeat (first | (with_reducible first | exact HB.out | apply zq7 | apply zq8 | apply zq9 | refine zr1 ?_ GE151.out | refine zr1 ?_ GE152.out | refine zr1 ?_ GE153.out) | exact HB.out))))
            (case aL => have := LMc4.out; omega)
            intro v161 w67 ho hb hg hat
            rw [← Ny160.out] at ho
            have n0_ := mk_ (blk_grown (g := gb151) (o := .cells #[.int .i64 a0_0, .slice A0_1 l0_1.length c0_1] 35 (0, 0)) (by exact BK151.out) hg (Kd.R_ne HO159.out BK151.out (by decide)))
            have n1_ := mk_ (blk_grown (g := gb152) (o := .cells #[.int .i64 a1_0, .int .i64 a1_1, .slice A1_2 l1_2.length c1_2] 39 (0, 0)) (by exact BK152.out) hg (Kd.R_ne HO159.out BK152.out (by decide)))
            have n2_ := mk_ (blk_grown (g := gb153) (o := .cells #[.int .i64 0, .slice none 0 0] 35 (0, 0)) (by exact BK153.out) hg (Kd.R_ne HO159.out BK153.out (by decide)))
            have n3_ := mk_ (hb)
            have n4_ := mk_ (ho)
            clear BK151
            clear BK152
            clear BK153
            clear HB
            clear HO159
            have BK151 := n0_
            have BK152 := n1_
            have BK153 := n2_
            have HB := n3_
            have HO162 := n4_
            clear n0_ n1_ n2_ n3_ n4_
            clear ho hb hg hat
            refine hK.out _ _ ⟨(zr4 BK151.out 0).trans rfl, (zr4 BK151.out 1).trans rfl, (zr4 BK152.out 0).trans rfl, (zr4 BK152.out 1).trans rfl, (zr4 BK152.out 2).trans rfl⟩ (fun hHeld => ?_)
            clear hK K
            refine norm_ (a' := ?_) ?_ ?_
            rotate_left
            · show Act.put _ (some 18) _ = _
              simp only [Act.put, zs1, zs2, zs3, i64_w, i32_w]
              rfl
            refine pA 7 (some 8) (bm 8 255) rfl rfl HT_.out (by kernel_rfl) (fun _ _ _ h => h) (by rfl) (by intro w'; go_simp; with_reducible rfl) (by simp only [Act.put, zs1, zs2, zs3, i64_w, i32_w]; rfl) ?_
            refine done_ (done_of HT_.out (by kernel_rfl)) ?_
            have hnb68 := NB152_153.out
            have hnc68 := NB153_152.out
            obtain ⟨hcz69_0, hcz69_1, hcz69_2⟩ := cz3 BK152.out
            obtain ⟨hfz69_0, hfz69_1, hfz69_2⟩ := fz3 BK152.out
            obtain ⟨Ao70, co70, eo70⟩ := Kd.R_slice HO162.out
            subst eo70
            try go_wp2_with (first | ((with_reducible refine gate_dst (N := 41) rfl ?_); (try (refine gate_guard (by rfl) ?_; dsimp only)); refine Kd.R_lit (Kd.int .u8) _ 5 ?hg (N := 41) ?hd (xs := ([] : List Int)) (inner := []) (ok := fun _ => True) (okp := fun _ => True) ?hr ?hp (fun _ hk => hk) trivial (Below.refl _ _) (Nat.le_refl _) (by simp) ?_; (case hd => rfl); (case hg => rfl); (case hr => first | (go_simp; done) | (go_simp; rfl)); (case hp => exact (Reps.none _ _)); intro v180 w71 ho72 hb hg_ hnew_; clear hg_ hnew_; (first | rw [← Ny179.out] at ho72 | (simp only [Int.reduceToNat] at ho72; rw [← Ny179.out] at ho72)); have HO181 := mk_ (Kd.R_lower (Kd.R_new' ho72 (Kd.R_lt (by (with_reducible repeat (first | apply Kd.R_alloc | apply Kd.R_drewN | apply Kd.R_drew)); exact HO162.out))) (zr2 (by repeat (first | (with_reducible first | exact HB.out | apply zq7 | apply zq8 | apply zq9 | refine zr1 ?_ GE151.out | refine zr1 ?_ GE152.out | refine zr1 ?_ GE153.out) | exact HB.out)))); replace HO162 := mk_ (Kd.R_elder' (by (with_reducible repeat (first | apply Kd.R_alloc | apply Kd.R_drewN | apply Kd.R_drew)); exact HO162.out) (Kd.R_base ho72) hb); replace BK151 := mk_ (zq6 (by exact BK151.out) hb); replace BK152 := mk_ (zq6 (by exact BK152.out) hb); replace BK153 := mk_ (zq6 (by exact BK153.out) hb); replace HB := mk_ (zr3 (by repeat (first | (with_reducible first | exact HB.out | apply zq7 | apply zq8 | apply zq9 | refine zr1 ?_ GE151.out | refine zr1 ?_ GE152.out | refine zr1 ?_ GE153.out) | exact HB.out)) hb); clear hb ho72; obtain ⟨hcz73_0, hcz73_1⟩ := cz2 BK153.out; obtain ⟨hfz73_0, hfz73_1⟩ := fz2 BK153.out))
            refine bodyPost_ret (results_ctt rfl _ _ gb153 35 #[.int .i64 a1_1, .slice Ao70 y160.length co70] (0, 0) _ rfl (by (with_reducible repeat (first | refine zq1 ?_ _ | refine zq2 ?_ | refine zq3 ?_ _)); apply pu2; (with_reducible repeat (first | refine zq1 ?_ _ | refine zq2 ?_ | refine zq3 ?_ _)); exact BK153.out) Try.underlying35 rfl (by kernel_rfl)) rfl ?_
            exact ⟨_, _, by first | rfl | (simp [errW_none, errW_some] <;> rfl) | (simp [*, errW_none, errW_some] <;> rfl), by (with_reducible repeat (first | apply Kd.R_alloc | apply Kd.R_drewN | apply Kd.R_drew)); exact Kd.R_mono (Kd.R_far (p := ⟨gb153, 1, none⟩) (Kd.R_far (p := ⟨gb153, 0, none⟩) (Kd.R_types HO162.out BK153.out (by decide)) (fun _ hk => hk.2) (.int .i64 a1_1)) (fun _ hk => hk.2) (.slice Ao70 y160.length co70)) (fun _ hk => hk.1.2), by (with_reducible repeat (first | apply Kd.R_alloc | apply Kd.R_drewN | apply Kd.R_drew)); exact Kd.R_mono (Kd.R_far (p := ⟨gb153, 1, none⟩) (Kd.R_far (p := ⟨gb153, 0, none⟩) (Kd.R_types HO181.out BK153.out (by decide)) (fun _ hk => hk.2) (.int .i64 a1_1)) (fun _ hk => hk.2) (.slice Ao70 y160.length co70)) (fun _ hk => hk.1.2), by repeat (first | (with_reducible first | exact HB.out | apply zq7 | apply zq8 | apply zq9 | refine zr1 ?_ GE151.out | refine zr1 ?_ GE152.out | refine zr1 ?_ GE153.out) | exact HB.out)⟩
        · rw [if_neg c38] at H
          have c38b0 : (a1_0 == 1) = false := beq_eq_false_iff_ne.mpr c38
          have c38b1 : (a1_0 != 1) = true := bne_iff_ne.mpr c38
          by_cases c74 : a1_0 = 2
          · rw [if_pos c74] at H
            have c74b0 : (a1_0 == 2) = true := beq_iff_eq.mpr c74
            have c74b1 : (a1_0 != 2) = false := bne_eq_false_iff_eq.mpr c74
            clear c74
            have HC75 := mk_ H
            clear H
            go_enter Try.func76, Try.ntmps76
            try go_wp2_with (first | ((with_reducible refine gate_dst (N := 2) rfl ?_); (try (refine gate_guard (by rfl) ?_; dsimp only)); refine box_event ?hg (N := 2) ?hd (cs := #[.int .i64 a0_0, .slice A0_1 l0_1.length c0_1]) (t := 35) ?hr ?_; (case hd => rfl); (case hg => rfl); (case hr => first | (go_simp; done) | (go_simp; rfl)); intro gb151 hg w76 hbox hb; have BK151 := mk_ (hbox); have GW151 := mk_ ((by rw [hg]; exact (zr2 (by repeat (first | (with_reducible first | exact HB.out | apply zq7 | apply zq8 | apply zq9) | exact HB.out))) : w.heap.size ≤ gb151)); have GE151 := GW151; replace HB := mk_ (zr3 (by repeat (first | (with_reducible first | exact HB.out | apply zq7 | apply zq8 | apply zq9) | exact HB.out)) hb); clear hb hbox hg) | ((with_reducible refine gate_dst (N := 3) rfl ?_); (try (refine gate_guard (by rfl) ?_; dsimp only)); refine box_event ?hg (N := 3) ?hd (cs := #[.int .i64 a1_0, .int .i64 a1_1, .slice A1_2 l1_2.length c1_2]) (t := 39) ?hr ?_; (case hd => rfl); (case hg => rfl); (case hr => first | (go_simp; done) | (go_simp; rfl)); intro gb152 hg w77 hbox hb; have BK152 := mk_ (hbox); have GW152 := mk_ ((by rw [hg]; exact (zr2 (by repeat (first | (with_reducible first | exact HB.out | apply zq7 | apply zq8 | apply zq9 | refine zr1 ?_ GE151.out) | exact HB.out))) : w.heap.size ≤ gb152)); have GE152 := GW152; replace HB := mk_ (zr3 (by repeat (first | (with_reducible first | exact HB.out | apply zq7 | apply zq8 | apply zq9 | refine zr1 ?_ GE151.out) | exact HB.out)) hb); have NB151_152 := mk_ ((by rw [hg]; exact zm2 (zr6 (by exact BK151.out)) : gb151 ≠ gb152)); replace BK151 := mk_ (zq6 (by exact BK151.out) hb); have NB152_151 := mk_ NB151_152.out.symm; clear hb hbox hg) | ((with_reducible refine gate_dst (N := 4) rfl ?_); (try (refine gate_guard (by rfl) ?_; dsimp only)); refine box_event ?hg (N := 4) ?hd (cs := #[.int .i64 0, .slice none 0 0]) (t := 35) ?hr ?_; (case hd => rfl); (case hg => rfl); (case hr => first | (go_simp; done) | (go_simp; rfl)); intro gb153 hg w78 hbox hb; have BK153 := mk_ (hbox); have GW153 := mk_ ((by rw [hg]; exact (zr2 (by repeat (first | (with_reducible first | exact HB.out | apply zq7 | apply zq8 | apply zq9 | refine zr1 ?_ GE151.out | refine zr1 ?_ GE152.out) | exact HB.out))) : w.heap.size ≤ gb153)); have GE153 := GW153; replace HB := mk_ (zr3 (by repeat (first | (with_reducible first | exact HB.out | apply zq7 | apply zq8 | apply zq9 | refine zr1 ?_ GE151.out | refine zr1 ?_ GE152.out) | exact HB.out)) hb); have NB151_153 := mk_ ((by rw [hg]; exact zm2 (zr6 (by exact BK151.out)) : gb151 ≠ gb153)); replace BK151 := mk_ (zq6 (by exact BK151.out) hb); have NB153_151 := mk_ NB151_153.out.symm; have NB152_153 := mk_ ((by rw [hg]; exact zm2 (zr6 (by exact BK152.out)) : gb152 ≠ gb153)); replace BK152 := mk_ (zq6 (by exact BK152.out) hb); have NB153_152 := mk_ NB152_153.out.symm; clear hb hbox hg; have hnb79 := NB151_152.out; have hnc79 := NB152_151.out; have hnb80 := NB151_153.out; have hnc80 := NB153_151.out; obtain ⟨hcz81_0, hcz81_1⟩ := cz2 BK151.out; obtain ⟨hfz81_0, hfz81_1⟩ := fz2 BK151.out))
            replace BK151 := mk_ (zq2 BK151.out)
            replace BK152 := mk_ (zq2 BK152.out)
            replace BK153 := mk_ (zq2 BK153.out)
            replace HB := mk_ (zq9 HB.out)
            refine start_ (n := 8) (S := fun w' => w'.cell? ⟨gb151, 0, none⟩ = some (.int .i64 a0_0) ∧ w'.cell? ⟨gb151, 1, none⟩ = some (.slice A0_1 l0_1.length c0_1) ∧ w'.cell? ⟨gb152, 0, none⟩ = some (.int .i64 a1_0) ∧ w'.cell? ⟨gb152, 1, none⟩ = some (.int .i64 a1_1) ∧ w'.cell? ⟨gb152, 2, none⟩ = some (.slice A1_2 l1_2.length c1_2)) (ds := []) (bm 8 0) (by kernel_rfl) rfl rfl ⟨(zr4 BK151.out 0).trans rfl, (zr4 BK151.out 1).trans rfl, (zr4 BK152.out 0).trans rfl, (zr4 BK152.out 1).trans rfl, (zr4 BK152.out 2).trans rfl⟩ (fun hHeld => ?_); refine with_tabW spec_l4Put.tab2 spec_l4Put.bits2 (fun HT_ HW_ => ?_)
            generalize w78.drew = w82 at BK151 BK152 BK153 HB hHeld ⊢
            refine pA 1 (some 13) (bm 8 2) rfl rfl HT_.out (by kernel_rfl) (fun _ _ _ h => h) (by rfl) (by intro w'; go_simp; with_reducible rfl) (by simp only [Act.put, zs1, zs2, zs3, i64_w, i32_w]; rfl) ?_
            refine pA 4 (some 16) (bm 8 18) rfl rfl HT_.out (by kernel_rfl) (fun _ _ _ h => h) (by rfl) (by intro w'; go_simp; with_reducible rfl) (by simp only [Act.put, zs1, zs2, zs3, i64_w, i32_w]; rfl) ?_
            refine tA 2 (some 14) (bm 8 22) rfl rfl HT_.out HW_.out (by kernel_rfl) (fun _ _ _ h => h) (by rfl) hHeld (by rintro w' ⟨s0, s1, s2, s3, s4⟩; go_simp; with_reducible rfl) (by simp only [Act.put, zs1, zs2, zs3, i64_w, i32_w]; rfl) ?_
            refine tA 5 (some 17) (bm 8 54) rfl rfl HT_.out HW_.out (by kernel_rfl) (fun _ _ _ h => h) (by rfl) hHeld (by rintro w' ⟨s0, s1, s2, s3, s4⟩; go_simp; with_reducible rfl) (by simp only [Act.put, zs1, zs2, zs3, i64_w, i32_w]; rfl) ?_
            refine one_ (i := 0) (N := some 12) (bm 8 55) rfl rfl (one_of HT_.out (by kernel_rfl)) (by decide) (fun K hK => ?_)
            refine Kd.R_lit_step (Kd.int .u8) _ 5 ?hg (N := 12) ?hd (xs := ([] : List Int)) (inner := []) (ok := fun _ => True) (okp := fun _ => True) ?hr ?hp (fun _ hk => hk) trivial (Below.refl _ _) (Nat.le_refl _) (by simp) ?_; (case hd => rfl); (case hg => rfl); (case hr => first | (go_simp; done) | (go_simp; rfl)); (case hp => exact (Reps.none _ _))
            intro v155 w83 ho84 hb hg_ hnew_
            clear hg_ hnew_
            (first | rw [← Ny154.out] at ho84 | (simp only [Int.reduceToNat] at ho84; rw [← Ny154.out] at ho84))
            have HO156 := mk_ (Kd.R_lower ho84 (zr2 (by repeat (first | (with_reducible first | exact HB.out | apply zq7 | apply zq8 | apply zq9 | refine zr1 ?_ GE151.out | refine zr1 ?_ GE152.out | refine zr1 ?_ GE153.out) | exact HB.out))))
            replace BK151 := mk_ (zq6 (by exact BK151.out) hb)
            replace BK152 := mk_ (zq6 (by exact BK152.out) hb)
            replace BK153 := mk_ (zq6 (by exact BK153.out) hb)
            replace HB := mk_ (zr3 (by repeat (first | (with_reducible first | exact HB.out | apply zq7 | apply zq8 | apply zq9 | refine zr1 ?_ GE151.out | refine zr1 ?_ GE152.out | refine zr1 ?_ GE153.out) | exact HB.out)) hb)
            clear hb ho84
            refine hK.out _ _ ⟨(zr4 BK151.out 0).trans rfl, (zr4 BK151.out 1).trans rfl, (zr4 BK152.out 0).trans rfl, (zr4 BK152.out 1).trans rfl, (zr4 BK152.out 2).trans rfl⟩ (fun hHeld => ?_)
            clear hK K
            refine norm_ (a' := ?_) ?_ ?_
            rotate_left
            · show Act.put _ (some 12) _ = _
              simp only [Act.put, zs1, zs2, zs3, i64_w, i32_w]
              rfl
            refine one_ (i := 3) (N := some 15) (bm 8 63) rfl rfl (one_of HT_.out (by kernel_rfl)) (by decide) (fun K hK => ?_)
            refine Kd.R_append_rows_step (Kd.int .u8) (w0 := w) w.heap.size (by rfl) (.tmp 12) (.tmp 14) 22 5 (.int .u8 0) 1 rfl Try.underlying22 info5 rfl (by decide) (by omega) v155 y154 l0_1 _ _ _ (fun _ => True) (fun _ => False) rfl rfl ?aO ?aR (fun _ _ h => h) (fun _ h => h.elim) ?aF ?aB ?aS ?aL ?_
            (case aR => repeat (first | exact (Kd.C_below HR0_1.out HB.out) | (with_reducible refine Kd.C_alloc ?_ _) | (with_reducible refine Kd.C_drewN ?_ _) | (with_reducible refine Kd.C_drew ?_)))
            (case aB => exact (by repeat (first | (with_reducible first | exact HB.out | apply zq7 | apply zq8 | apply zq9 | refine zr1 ?_ GE151.out | refine zr1 ?_ GE152.out | refine zr1 ?_ GE153.out) | exact HB.out)))
            (case aF => exact (fun _ _ => trivial))
            (case aO => exact (by (with_reducible repeat (first | apply Kd.R_alloc | apply Kd.R_drewN | apply Kd.R_drew)); exact HO156.out))
            (case aS => exact (zr2 (by repeat (first | (with_reducible first | exact HB.out | apply zq7 | apply zq8 | apply zq9 | refine zr1 ?_ GE151.out | refine zr1 ?_ GE152.out | refine zr1 ?_ GE153.out) | exact HB.out))))
            (case aL => have := LMc3.out; omega)
            intro v158 w85 ho hb hg hat
            rw [← Ny157.out] at ho
            have n0_ := mk_ (blk_grown (g := gb151) (o := .cells #[.int .i64 a0_0, .slice A0_1 l0_1.length c0_1] 35 (0, 0)) (by exact BK151.out) hg (Kd.R_ne HO156.out BK151.out (by decide)))
            have n1_ := mk_ (blk_grown (g := gb152) (o := .cells #[.int .i64 a1_0, .int .i64 a1_1, .slice A1_2 l1_2.length c1_2] 39 (0, 0)) (by exact BK152.out) hg (Kd.R_ne HO156.out BK152.out (by decide)))
            have n2_ := mk_ (blk_grown (g := gb153) (o := .cells #[.int .i64 0, .slice none 0 0] 35 (0, 0)) (by exact BK153.out) hg (Kd.R_ne HO156.out BK153.out (by decide)))
            have n3_ := mk_ (hb)
            have n4_ := mk_ (ho)
            clear BK151
            clear BK152
            clear BK153
            clear HB
            clear HO156
            have BK151 := n0_
            have BK152 := n1_
            have BK153 := n2_
            have HB := n3_
            have HO159 := n4_
            clear n0_ n1_ n2_ n3_ n4_
            clear ho hb hg hat
            refine hK.out _ _ ⟨(zr4 BK151.out 0).trans rfl, (zr4 BK151.out 1).trans rfl, (zr4 BK152.out 0).trans rfl, (zr4 BK152.out 1).trans rfl, (zr4 BK152.out 2).trans rfl⟩ (fun hHeld => ?_)
            clear hK K
            refine norm_ (a' := ?_) ?_ ?_
            rotate_left
            · show Act.put _ (some 15) _ = _
              simp only [Act.put, zs1, zs2, zs3, i64_w, i32_w]
              rfl
            refine one_ (i := 6) (N := some 18) (bm 8 127) rfl rfl (one_of HT_.out (by kernel_rfl)) (by decide) (fun K hK => ?_)
            refine Kd.R_append_rows_step (Kd.int .u8) (w0 := w) w.heap.size (by rfl) (.tmp 15) (.tmp 17) 22 5 (.int .u8 0) 1 rfl Try.underlying22 info5 rfl (by decide) (by omega) v158 y157 l1_2 _ _ _ (fun _ => True) (fun _ => False) rfl rfl ?aO ?aR (fun _ _ h => h) (fun _ h => h.elim) ?aF ?aB ?aS ?aL ?_
            (case aR => repeat (first | exact (Kd.C_below HR1_2.out HB.out) | (with_reducible refine Kd.C_alloc ?_ _) | (with_reducible refine Kd.C_drewN ?_ _) | (with_reducible refine Kd.C_drew ?_)))
            (case aB => exact (by repeat (first | (with_reducible first | exact HB.out | apply zq7 | apply zq8 | apply zq9 | refine zr1 ?_ GE151.out | refine zr1 ?_ GE152.out | refine zr1 ?_ GE153.out) | exact HB.out)))
            (case aF => exact (fun _ _ => trivial))
            (case aO => exact (by (with_reducible repeat (first | apply Kd.R_alloc | apply Kd.R_drewN | apply Kd.R_drew)); exact HO159.out))
            (case aS => exact (zr2 (by repeat (first | (with_reducible first | exact HB.out | apply zq7 | apply zq8 | apply zq9 | refine zr1 ?_ GE151.out | refine zr1 ?_ GE152.out | refine zr1 ?_ GE153.out) | exact HB.out))))
            (case aL => have := LMc4.out; omega)
            intro v161 w86 ho hb hg hat
            rw [← Ny160.out] at ho
            have n0_ := mk_ (blk_grown (g := gb151) (o := .cells #[.int .i64 a0_0, .slice A0_1 l0_1.length c0_1] 35 (0, 0)) (by exact BK151.out) hg (Kd.R_ne HO159.out BK151.out (by decide)))
            have n1_ := mk_ (blk_grown (g := gb152) (o := .cells #[.int .i64 a1_0, .int .i64 a1_1, .slice A1_2 l1_2.length c1_2] 39 (0, 0)) (by exact BK152.out) hg (Kd.R_ne HO159.out BK152.out (by decide)))
            have n2_ := mk_ (blk_grown (g := gb153) (o := .cells #[.int .i64 0, .slice none 0 0] 35 (0, 0)) (by exact BK153.out) hg (Kd.R_ne HO159.out BK153.out (by decide)))
            have n3_ := mk_ (hb)
            have n4_ := mk_ (ho)
            clear BK151
            clear BK152
            clear BK153
            clear HB
            clear HO159
            have BK151 := n0_
            have BK152 := n1_
            have BK153 := n2_
            have HB := n3_
            have HO162 := n4_
            clear n0_ n1_ n2_ n3_ n4_
            clear ho hb hg hat
            refine hK.out _ _ ⟨(zr4 BK151.out 0).trans rfl, (zr4 BK151.out 1).trans rfl, (zr4 BK152.out 0).trans rfl, (zr4 BK152.out 1).trans rfl, (zr4 BK152.out 2).trans rfl⟩ (fun hHeld => ?_)
            clear hK K
            refine norm_ (a' := ?_) ?_ ?_
            rotate_left
            · show Act.put _ (some 18) _ = _
              simp only [Act.put, zs1, zs2, zs3, i64_w, i32_w]
              rfl
            refine pA 7 (some 8) (bm 8 255) rfl rfl HT_.out (by kernel_rfl) (fun _ _ _ h => h) (by rfl) (by intro w'; go_simp; with_reducible rfl) (by simp only [Act.put, zs1, zs2, zs3, i64_w, i32_w]; rfl) ?_
            refine done_ (done_of HT_.out (by kernel_rfl)) ?_
            have hnb87 := NB152_153.out
            have hnc87 := NB153_152.out
            obtain ⟨hcz88_0, hcz88_1, hcz88_2⟩ := cz3 BK152.out
            obtain ⟨hfz88_0, hfz88_1, hfz88_2⟩ := fz3 BK152.out
            go_upto_region 13 with (fail)
            go_cut [7, 52] (fun v7 v52 wc => v7 = .bool (decide (0 < a0_0)) ∧ ∃ (kq : Nat) (x52_74 : Bool), v52 = .bool x52_74 ∧ Aside0 (spec_l4Put.j0 kq y160 x52_74 a0_0 l0_1 = some (r1, r2, r3, r4)) ∧ Aside0 (kq ≤ k) ∧ Aside0 (Kd.R (Kd.int .u8) 5 wc w.heap.size (fun _ => True) v161 y160) ∧ Aside0 (wc.heap[gb151]? = some (.cells #[.int .i64 a0_0, (.slice A0_1 l0_1.length c0_1)] 35 (0, 0))) ∧ Aside0 (wc.heap[gb152]? = some (.cells #[.int .i64 a1_0, .int .i64 a1_1, (.slice A1_2 l1_2.length c1_2)] 39 (0, 0))) ∧ Aside0 (wc.heap[gb153]? = some (.cells #[.int .i64 0, (.slice none 0 0)] 35 (0, 0))) ∧ Aside0 (Below w.heap.size w wc))
            case first =>
              have H := HC75.out
              clear HC75
              by_cases c89 : a0_0 > 0
              · rw [if_pos c89] at H
                have c89b0 : decide (0 < a0_0) = true := decide_eq_true c89
                clear c89
                (first | rw [c89b0] | (simp only [i64_w, i32_w]; rw [c89b0]) | skip)
                have H' := mk_ H
                clear H
                obtain ⟨Ao90, co90, eo90⟩ := Kd.R_slice HO162.out
                subst eo90
                have hnb91 := NB151_152.out
                have hnc91 := NB152_151.out
                have hnb92 := NB151_153.out
                have hnc92 := NB153_151.out
                obtain ⟨hcz93_0, hcz93_1⟩ := cz2 BK151.out
                obtain ⟨hfz93_0, hfz93_1⟩ := fz2 BK151.out
                go_wp2
                go_meet
                case rel => exact ⟨(by first | rfl | (simp; done) | (simp [*]; done)), _, (decide ((y160.length : Int) ≥ a0_0)), (by first | rfl | (simp; done) | (simp [*]; done)), H', ⟨by first | omega | exact Nat.le_refl _⟩, ⟨by (with_reducible repeat (first | apply Kd.R_alloc | apply Kd.R_drewN | apply Kd.R_drew)); exact HO162.out⟩, ⟨by (with_reducible repeat (first | refine zq1 ?_ _ | refine zq2 ?_ | refine zq3 ?_ _)); exact BK151.out⟩, ⟨by (with_reducible repeat (first | refine zq1 ?_ _ | refine zq2 ?_ | refine zq3 ?_ _)); exact BK152.out⟩, ⟨by (with_reducible repeat (first | refine zq1 ?_ _ | refine zq2 ?_ | refine zq3 ?_ _)); exact BK153.out⟩, ⟨by repeat (first | (with_reducible first | exact HB.out | apply zq7 | apply zq8 | apply zq9 | refine zr1 ?_ GE151.out | refine zr1 ?_ GE152.out | refine zr1 ?_ GE153.out) | exact HB.out)⟩⟩
              · rw [if_neg c89] at H
                have c89b0 : decide (0 < a0_0) = false := decide_eq_false c89
                clear c89
                (first | rw [c89b0] | (simp only [i64_w, i32_w]; rw [c89b0]) | skip)
                have H' := mk_ H
                clear H
                go_wp2
                go_meet
                case rel => exact ⟨(by first | rfl | (simp; done) | (simp [*]; done)), _, (true), (by first | rfl | (simp; done) | (simp [*]; done)), H', ⟨by first | omega | exact Nat.le_refl _⟩, ⟨by (with_reducible repeat (first | apply Kd.R_alloc | apply Kd.R_drewN | apply Kd.R_drew)); exact HO162.out⟩, ⟨by (with_reducible repeat (first | refine zq1 ?_ _ | refine zq2 ?_ | refine zq3 ?_ _)); exact BK151.out⟩, ⟨by (with_reducible repeat (first | refine zq1 ?_ _ | refine zq2 ?_ | refine zq3 ?_ _)); exact BK152.out⟩, ⟨by (with_reducible repeat (first | refine zq1 ?_ _ | refine zq2 ?_ | refine zq3 ?_ _)); exact BK153.out⟩, ⟨by repeat (first | (with_reducible first | exact HB.out | apply zq7 | apply zq8 | apply zq9 | refine zr1 ?_ GE151.out | refine zr1 ?_ GE152.out | refine zr1 ?_ GE153.out) | exact HB.out)⟩⟩
            case rest =>
              clear HC75
              try clear c1
              try clear p2
              try clear c3
              try clear c4
              try clear c5
              try clear c5b0
              try clear c5b1
              try clear c6
              try clear c7
              try clear c8
              try clear c9
              try clear c35
              try clear c38
              try clear c38b0
              try clear c38b1
              try clear c39
              try clear c39b0
              try clear c44
              try clear c45
              try clear c52
              try clear c60
              try clear c61
              try clear c68
              try clear c74
              try clear c74b0
              try clear c74b1
              try clear c76
              try clear c79
              try clear c80
              try clear c87
              try clear c89
              try clear c89b0
              try clear c91
              try clear c92
              try clear hcz36_0 hcz36_1 hcz36_2
              try clear hcz37_0 hcz37_1
              try clear hcz46_0 hcz46_1
              try clear hcz53_0 hcz53_1 hcz53_2
              try clear hcz55_0 hcz55_1
              try clear hcz62_0 hcz62_1
              try clear hcz69_0 hcz69_1 hcz69_2
              try clear hcz73_0 hcz73_1
              try clear hcz81_0 hcz81_1
              try clear hcz88_0 hcz88_1 hcz88_2
              try clear hcz93_0 hcz93_1
              try clear hfz36_0 hfz36_1 hfz36_2
              try clear hfz37_0 hfz37_1
              try clear hfz46_0 hfz46_1
              try clear hfz53_0 hfz53_1 hfz53_2
              try clear hfz55_0 hfz55_1
              try clear hfz62_0 hfz62_1
              try clear hfz69_0 hfz69_1 hfz69_2
              try clear hfz73_0 hfz73_1
              try clear hfz81_0 hfz81_1
              try clear hfz88_0 hfz88_1 hfz88_2
              try clear hfz93_0 hfz93_1
              obtain ⟨rfl, kq, x52_74, rfl, HA, HJ74, HO_8, BK151, BK152, BK153, HB⟩ := hcut
              cases kq with
              | zero => exact absurd HA.out (by simp [spec_l4Put.j0])
              | succ kj74 =>
                have H := HA.out
                clear HA
                simp only [spec_l4Put.j0] at H
                by_cases c94 : x52_74 = true
                · subst c94
                  have H1 : ((spec_l4Bad.f).bind fun bt182 => (some (bt182.1, bt182.2.1, bt182.2.2.1, bt182.2.2.2))) = some (r1, r2, r3, r4) := by rw [if_pos rfl] at H; exact H
                  clear H
                  have H := H1
                  clear H1
                  replace H := Option.bind_eq_some_iff.mp H
                  obtain ⟨⟨t182, t183, t186, t189⟩, A950, H⟩ := H
                  try dsimp only at H
                  have A95 := mk_ A950
                  clear A950
                  simp only [Option.some.injEq, Prod.mk.injEq] at H
                  obtain ⟨rfl, rfl, rfl, rfl⟩ := H
                  go_wp2_with (first | ((with_reducible refine gate_callee (f := 97) rfl ?_); refine goesL_ (some 53) rfl rfl Try.func97 (by kernel_rfl) rfl #[] rfl (by (try simp only [List.map_toArray, List.map_cons, List.map_nil]); first | done | rfl | (simp only [List.length_drop, List.length_take]; rfl)) ?_; (with_reducible refine (spec_l4Bad.calls  t182 t183 t186 t189 _ A95.out).mono ?_); rintro e w96 ⟨v184, v187, rfl, ho0, ho1, hb⟩; refine ⟨_, rfl, ?_⟩; have HO185 := mk_ (Kd.R_lower (Kd.R_new' ho0 (Kd.R_lt (by (with_reducible repeat (first | apply Kd.R_alloc | apply Kd.R_drewN | apply Kd.R_drew)); exact HO_8.out))) (zr2 (by repeat (first | (with_reducible first | exact HB.out | apply zq7 | apply zq8 | apply zq9 | refine zr1 ?_ GE151.out | refine zr1 ?_ GE152.out | refine zr1 ?_ GE153.out) | exact HB.out)))); have HO188 := mk_ (Kd.R_lower (Kd.R_new' ho1 (Kd.R_lt (by (with_reducible repeat (first | apply Kd.R_alloc | apply Kd.R_drewN | apply Kd.R_drew)); exact HO_8.out))) (zr2 (by repeat (first | (with_reducible first | exact HB.out | apply zq7 | apply zq8 | apply zq9 | refine zr1 ?_ GE151.out | refine zr1 ?_ GE152.out | refine zr1 ?_ GE153.out) | exact HB.out)))); replace HO_8 := mk_ (Kd.R_mono (Kd.R_told (Kd.R_told (Kd.R_old (by (with_reducible repeat (first | apply Kd.R_alloc | apply Kd.R_drewN | apply Kd.R_drew)); exact HO_8.out) hb) (Kd.R_base ho0)) (Kd.R_base ho1)) (fun _ h_ => h_.1)); replace BK151 := mk_ (zq6 (by exact BK151.out) hb); replace BK152 := mk_ (zq6 (by exact BK152.out) hb); replace BK153 := mk_ (zq6 (by exact BK153.out) hb); replace HB := mk_ (zr3 (by repeat (first | (with_reducible first | exact HB.out | apply zq7 | apply zq8 | apply zq9 | refine zr1 ?_ GE151.out | refine zr1 ?_ GE152.out | refine zr1 ?_ GE153.out) | exact HB.out)) hb); (try clear hb); (try clear hb2); (try clear hk); (try clear hi); (try clear ho0); (try clear ho1); have hnb97 := NB153_151.out; have hnc97 := NB151_153.out; have hnb98 := NB153_152.out; have hnc98 := NB152_153.out; obtain ⟨hcz99_0, hcz99_1⟩ := cz2 BK153.out; obtain ⟨hfz99_0, hfz99_1⟩ := fz2 BK153.out; obtain ⟨Ao100, co100, eo100⟩ := Kd.R_slice HO185.out; subst eo100))
                  refine bodyPost_ret (results_ctt rfl _ _ gb153 35 #[.int .i64 t182, .slice Ao100 t183.length co100] (0, 0) _ rfl (by (with_reducible repeat (first | refine zq1 ?_ _ | refine zq2 ?_ | refine zq3 ?_ _)); apply pu2; (with_reducible repeat (first | refine zq1 ?_ _ | refine zq2 ?_ | refine zq3 ?_ _)); exact BK153.out) Try.underlying35 rfl (by kernel_rfl)) rfl ?_
                  exact ⟨_, _, by first | rfl | (simp [errW_none, errW_some] <;> rfl) | (simp [*, errW_none, errW_some] <;> rfl), by (with_reducible repeat (first | apply Kd.R_alloc | apply Kd.R_drewN | apply Kd.R_drew)); exact Kd.R_mono (Kd.R_far (p := ⟨gb153, 1, none⟩) (Kd.R_far (p := ⟨gb153, 0, none⟩) (Kd.R_types HO185.out BK153.out (by decide)) (fun _ hk => hk.2) (.int .i64 t182)) (fun _ hk => hk.2) (.slice Ao100 t183.length co100)) (fun _ hk => hk.1.1), by (with_reducible repeat (first | apply Kd.R_alloc | apply Kd.R_drewN | apply Kd.R_drew)); exact Kd.R_mono (Kd.R_far (p := ⟨gb153, 1, none⟩) (Kd.R_far (p := ⟨gb153, 0, none⟩) (Kd.R_types HO188.out BK153.out (by decide)) (fun _ hk => hk.2) (.int .i64 t182)) (fun _ hk => hk.2) (.slice Ao100 t183.length co100)) (fun _ hk => hk.1.1), by repeat (first | (with_reducible first | exact HB.out | apply zq7 | apply zq8 | apply zq9 | refine zr1 ?_ GE151.out | refine zr1 ?_ GE152.out | refine zr1 ?_ GE153.out) | exact HB.out)⟩
                · replace c94 := Bool.eq_false_iff.mpr c94
                  subst c94
                  have H1 : (some (a0_0, y160, (([] : List Int)), 1)) = some (r1, r2, r3, r4) := by rw [if_neg (show ¬ (false = true) by decide)] at H; exact H
                  clear H
                  have H := H1
                  clear H1
                  obtain ⟨y190, hy190⟩ : ∃ y_ : List Int, y_ = (([] : List Int)) := ⟨_, rfl⟩
                  replace H : (some (a0_0, y160, y190, 1)) = some (r1, r2, r3, r4) := by first | (rw [hy190]; with_reducible exact H) | (have H2_ := (Option.bind_some _ _).symm.trans H; rw [hy190]; with_reducible exact H2_) | (have H2_ := (Option.bind_some _ _).symm.trans H; with_reducible exact H2_) | with_reducible exact H | (rw [hy190]; exact H) | exact H
                  have Ny190 := mk_ hy190
                  clear hy190
                  simp only [Option.some.injEq, Prod.mk.injEq] at H
                  obtain ⟨rfl, rfl, rfl, rfl⟩ := H
                  have hnb101 := NB151_152.out
                  have hnc101 := NB152_151.out
                  have hnb102 := NB151_153.out
                  have hnc102 := NB153_151.out
                  obtain ⟨hcz103_0, hcz103_1⟩ := cz2 BK151.out
                  obtain ⟨hfz103_0, hfz103_1⟩ := fz2 BK151.out
                  obtain ⟨Ao104, co104, eo104⟩ := Kd.R_slice HO_8.out
                  subst eo104
                  go_wp2_with (first | ((with_reducible refine gate_dst (N := 61) rfl ?_); (try (refine gate_guard (by rfl) ?_; dsimp only)); refine Kd.R_lit (Kd.int .u8) _ 5 ?hg (N := 61) ?hd (xs := ([] : List Int)) (inner := []) (ok := fun _ => True) (okp := fun _ => True) ?hr ?hp (fun _ hk => hk) trivial (Below.refl _ _) (Nat.le_refl _) (by simp) ?_; (case hd => rfl); (case hg => rfl); (case hr => first | (go_simp; done) | (go_simp; rfl)); (case hp => exact (Reps.none _ _)); intro v191 w105 ho106 hb hg_ hnew_; clear hg_ hnew_; (first | rw [← Ny190.out] at ho106 | (simp only [Int.reduceToNat] at ho106; rw [← Ny190.out] at ho106)); have HO192 := mk_ (Kd.R_lower (Kd.R_new' ho106 (Kd.R_lt (by (with_reducible repeat (first | apply Kd.R_alloc | apply Kd.R_drewN | apply Kd.R_drew)); exact HO_8.out))) (zr2 (by repeat (first | (with_reducible first | exact HB.out | apply zq7 | apply zq8 | apply zq9 | refine zr1 ?_ GE151.out | refine zr1 ?_ GE152.out | refine zr1 ?_ GE153.out) | exact HB.out)))); replace HO_8 := mk_ (Kd.R_elder' (by (with_reducible repeat (first | apply Kd.R_alloc | apply Kd.R_drewN | apply Kd.R_drew)); exact HO_8.out) (Kd.R_base ho106) hb); replace BK151 := mk_ (zq6 (by exact BK151.out) hb); replace BK152 := mk_ (zq6 (by exact BK152.out) hb); replace BK153 := mk_ (zq6 (by exact BK153.out) hb); replace HB := mk_ (zr3 (by repeat (first | (with_reducible first | exact HB.out | apply zq7 | apply zq8 | apply zq9 | refine zr1 ?_ GE151.out | refine zr1 ?_ GE152.out | refine zr1 ?_ GE153.out) | exact HB.out)) hb); clear hb ho106; have hnb107 := NB153_152.out; have hnc107 := NB152_153.out; obtain ⟨hcz108_0, hcz108_1⟩ := cz2 BK153.out; obtain ⟨hfz108_0, hfz108_1⟩ := fz2 BK153.out))
                  refine bodyPost_ret (results_ctt rfl _ _ gb153 35 #[.int .i64 a0_0, .slice Ao104 y160.length co104] (0, 0) _ rfl (by (with_reducible repeat (first | refine zq1 ?_ _ | refine zq2 ?_ | refine zq3 ?_ _)); apply pu2; (with_reducible repeat (first | refine zq1 ?_ _ | refine zq2 ?_ | refine zq3 ?_ _)); exact BK153.out) Try.underlying35 rfl (by kernel_rfl)) rfl ?_
                  exact ⟨_, _, by first | rfl | (simp [errW_none, errW_some] <;> rfl) | (simp [*, errW_none, errW_some] <;> rfl), by (with_reducible repeat (first | apply Kd.R_alloc | apply Kd.R_drewN | apply Kd.R_drew)); exact Kd.R_mono (Kd.R_far (p := ⟨gb153, 1, none⟩) (Kd.R_far (p := ⟨gb153, 0, none⟩) (Kd.R_types HO_8.out BK153.out (by decide)) (fun _ hk => hk.2) (.int .i64 a0_0)) (fun _ hk => hk.2) (.slice Ao104 y160.length co104)) (fun _ hk => hk.1.2), by (with_reducible repeat (first | apply Kd.R_alloc | apply Kd.R_drewN | apply Kd.R_drew)); exact Kd.R_mono (Kd.R_far (p := ⟨gb153, 1, none⟩) (Kd.R_far (p := ⟨gb153, 0, none⟩) (Kd.R_types HO192.out BK153.out (by decide)) (fun _ hk => hk.2) (.int .i64 a0_0)) (fun _ hk => hk.2) (.slice Ao104 y160.length co104)) (fun _ hk => hk.1.2), by repeat (first | (with_reducible first | exact HB.out | apply zq7 | apply zq8 | apply zq9 | refine zr1 ?_ GE151.out | refine zr1 ?_ GE152.out | refine zr1 ?_ GE153.out) | exact HB.out)⟩
          · rw [if_neg c74] at H
            have c74b0 : (a1_0 == 2) = false := beq_eq_false_iff_ne.mpr c74
            have c74b1 : (a1_0 != 2) = true := bne_iff_ne.mpr c74
            by_cases c109 : a0_0 > 0
            · rw [if_pos c109] at H
              have c109b0 : decide (0 < a0_0) = true := decide_eq_true c109
              clear c109
              by_cases c110 : (y160.length : Int) = a0_0
              · rw [if_pos c110] at H
                have c110b0 : ((y160.length : Int) == a0_0) = true := beq_iff_eq.mpr c110
                have c110b1 : ((y160.length : Int) != a0_0) = false := bne_eq_false_iff_eq.mpr c110
                clear c110
                simp only [Option.some.injEq, Prod.mk.injEq] at H
                obtain ⟨rfl, rfl, rfl, rfl⟩ := H
                go_enter Try.func76, Try.ntmps76
                try go_wp2_with (first | ((with_reducible refine gate_dst (N := 2) rfl ?_); (try (refine gate_guard (by rfl) ?_; dsimp only)); refine box_event ?hg (N := 2) ?hd (cs := #[.int .i64 a0_0, .slice A0_1 l0_1.length c0_1]) (t := 35) ?hr ?_; (case hd => rfl); (case hg => rfl); (case hr => first | (go_simp; done) | (go_simp; rfl)); intro gb151 hg w111 hbox hb; have BK151 := mk_ (hbox); have GW151 := mk_ ((by rw [hg]; exact (zr2 (by repeat (first | (with_reducible first | exact HB.out | apply zq7 | apply zq8 | apply zq9) | exact HB.out))) : w.heap.size ≤ gb151)); have GE151 := GW151; replace HB := mk_ (zr3 (by repeat (first | (with_reducible first | exact HB.out | apply zq7 | apply zq8 | apply zq9) | exact HB.out)) hb); clear hb hbox hg) | ((with_reducible refine gate_dst (N := 3) rfl ?_); (try (refine gate_guard (by rfl) ?_; dsimp only)); refine box_event ?hg (N := 3) ?hd (cs := #[.int .i64 a1_0, .int .i64 a1_1, .slice A1_2 l1_2.length c1_2]) (t := 39) ?hr ?_; (case hd => rfl); (case hg => rfl); (case hr => first | (go_simp; done) | (go_simp; rfl)); intro gb152 hg w112 hbox hb; have BK152 := mk_ (hbox); have GW152 := mk_ ((by rw [hg]; exact (zr2 (by repeat (first | (with_reducible first | exact HB.out | apply zq7 | apply zq8 | apply zq9 | refine zr1 ?_ GE151.out) | exact HB.out))) : w.heap.size ≤ gb152)); have GE152 := GW152; replace HB := mk_ (zr3 (by repeat (first | (with_reducible first | exact HB.out | apply zq7 | apply zq8 | apply zq9 | refine zr1 ?_ GE151.out) | exact HB.out)) hb); have NB151_152 := mk_ ((by rw [hg]; exact zm2 (zr6 (by exact BK151.out)) : gb151 ≠ gb152)); replace BK151 := mk_ (zq6 (by exact BK151.out) hb); have NB152_151 := mk_ NB151_152.out.symm; clear hb hbox hg) | ((with_reducible refine gate_dst (N := 4) rfl ?_); (try (refine gate_guard (by rfl) ?_; dsimp only)); refine box_event ?hg (N := 4) ?hd (cs := #[.int .i64 0, .slice none 0 0]) (t := 35) ?hr ?_; (case hd => rfl); (case hg => rfl); (case hr => first | (go_simp; done) | (go_simp; rfl)); intro gb153 hg w113 hbox hb; have BK153 := mk_ (hbox); have GW153 := mk_ ((by rw [hg]; exact (zr2 (by repeat (first | (with_reducible first | exact HB.out | apply zq7 | apply zq8 | apply zq9 | refine zr1 ?_ GE151.out | refine zr1 ?_ GE152.out) | exact HB.out))) : w.heap.size ≤ gb153)); have GE153 := GW153; replace HB := mk_ (zr3 (by repeat (first | (with_reducible first | exact HB.out | apply zq7 | apply zq8 | apply zq9 | refine zr1 ?_ GE151.out | refine zr1 ?_ GE152.out) | exact HB.out)) hb); have NB151_153 := mk_ ((by rw [hg]; exact zm2 (zr6 (by exact BK151.out)) : gb151 ≠ gb153)); replace BK151 := mk_ (zq6 (by exact BK151.out) hb); have NB153_151 := mk_ NB151_153.out.symm; have NB152_153 := mk_ ((by rw [hg]; exact zm2 (zr6 (by exact BK152.out)) : gb152 ≠ gb153)); replace BK152 := mk_ (zq6 (by exact BK152.out) hb); have NB153_152 := mk_ NB152_153.out.symm; clear hb hbox hg; have hnb114 := NB151_152.out; have hnc114 := NB152_151.out; have hnb115 := NB151_153.out; have hnc115 := NB153_151.out; obtain ⟨hcz116_0, hcz116_1⟩ := cz2 BK151.out; obtain ⟨hfz116_0, hfz116_1⟩ := fz2 BK151.out))
                replace BK151 := mk_ (zq2 BK151.out)
                replace BK152 := mk_ (zq2 BK152.out)
                replace BK153 := mk_ (zq2 BK153.out)
                replace HB := mk_ (zq9 HB.out)
                refine start_ (n := 8) (S := fun w' => w'.cell? ⟨gb151, 0, none⟩ = some (.int .i64 a0_0) ∧ w'.cell? ⟨gb151, 1, none⟩ = some (.slice A0_1 l0_1.length c0_1) ∧ w'.cell? ⟨gb152, 0, none⟩ = some (.int .i64 a1_0) ∧ w'.cell? ⟨gb152, 1, none⟩ = some (.int .i64 a1_1) ∧ w'.cell? ⟨gb152, 2, none⟩ = some (.slice A1_2 l1_2.length c1_2)) (ds := []) (bm 8 0) (by kernel_rfl) rfl rfl ⟨(zr4 BK151.out 0).trans rfl, (zr4 BK151.out 1).trans rfl, (zr4 BK152.out 0).trans rfl, (zr4 BK152.out 1).trans rfl, (zr4 BK152.out 2).trans rfl⟩ (fun hHeld => ?_); refine with_tabW spec_l4Put.tab2 spec_l4Put.bits2 (fun HT_ HW_ => ?_)
                generalize w113.drew = w117 at BK151 BK152 BK153 HB hHeld ⊢
                refine pA 1 (some 13) (bm 8 2) rfl rfl HT_.out (by kernel_rfl) (fun _ _ _ h => h) (by rfl) (by intro w'; go_simp; with_reducible rfl) (by simp only [Act.put, zs1, zs2, zs3, i64_w, i32_w]; rfl) ?_
                refine pA 4 (some 16) (bm 8 18) rfl rfl HT_.out (by kernel_rfl) (fun _ _ _ h => h) (by rfl) (by intro w'; go_simp; with_reducible rfl) (by simp only [Act.put, zs1, zs2, zs3, i64_w, i32_w]; rfl) ?_
                refine tA 2 (some 14) (bm 8 22) rfl rfl HT_.out HW_.out (by kernel_rfl) (fun _ _ _ h => h) (by rfl) hHeld (by rintro w' ⟨s0, s1, s2, s3, s4⟩; go_simp; with_reducible rfl) (by simp only [Act.put, zs1, zs2, zs3, i64_w, i32_w]; rfl) ?_
                refine tA 5 (some 17) (bm 8 54) rfl rfl HT_.out HW_.out (by kernel_rfl) (fun _ _ _ h => h) (by rfl) hHeld (by rintro w' ⟨s0, s1, s2, s3, s4⟩; go_simp; with_reducible rfl) (by simp only [Act.put, zs1, zs2, zs3, i64_w, i32_w]; rfl) ?_
                refine one_ (i := 0) (N := some 12) (bm 8 55) rfl rfl (one_of HT_.out (by kernel_rfl)) (by decide) (fun K hK => ?_)
                refine Kd.R_lit_step (Kd.int .u8) _ 5 ?hg (N := 12) ?hd (xs := ([] : List Int)) (inner := []) (ok := fun _ => True) (okp := fun _ => True) ?hr ?hp (fun _ hk => hk) trivial (Below.refl _ _) (Nat.le_refl _) (by simp) ?_; (case hd => rfl); (case hg => rfl); (case hr => first | (go_simp; done) | (go_simp; rfl)); (case hp => exact (Reps.none _ _))
                intro v155 w118 ho119 hb hg_ hnew_
                clear hg_ hnew_
                (first | rw [← Ny154.out] at ho119 | (simp only [Int.reduceToNat] at ho119; rw [← Ny154.out] at ho119))
                have HO156 := mk_ (Kd.R_lower ho119 (zr2 (by repeat (first | (with_reducible first | exact HB.out | apply zq7 | apply zq8 | apply zq9 | refine zr1 ?_ GE151.out | refine zr1 ?_ GE152.out | refine zr1 ?_ GE153.out) | exact HB.out))))
                replace BK151 := mk_ (zq6 (by exact BK151.out) hb)
                replace BK152 := mk_ (zq6 (by exact BK152.out) hb)
                replace BK153 := mk_ (zq6 (by exact BK153.out) hb)
                replace HB := mk_ (zr3 (by repeat (first | (with_reducible first | exact HB.out | apply zq7 | apply zq8 | apply zq9 | refine zr1 ?_ GE151.out | refine zr1 ?_ GE152.out | refine zr1 ?_ GE153.out) | exact HB.out)) hb)
                clear hb ho119
                refine hK.out _ _ ⟨(zr4 BK151.out 0).trans rfl, (zr4 BK151.out 1).trans rfl, (zr4 BK152.out 0).trans rfl, (zr4 BK152.out 1).trans rfl, (zr4 BK152.out 2).trans rfl⟩ (fun hHeld => ?_)
                clear hK K
                refine norm_ (a' := ?_) ?_ ?_
                rotate_left
                · show Act.put _ (some 12) _ = _
                  simp only [Act.put, zs1, zs2, zs3, i64_w, i32_w]
                  rfl
                refine one_ (i := 3) (N := some 15) (bm 8 63) rfl rfl (one_of HT_.out (by kernel_rfl)) (by decide) (fun K hK => ?_)
                refine Kd.R_append_rows_step (Kd.int .u8) (w0 := w) w.heap.size (by rfl) (.tmp 12) (.tmp 14) 22 5 (.int .u8 0) 1 rfl Try.underlying22 info5 rfl (by decide) (by omega) v155 y154 l0_1 _ _ _ (fun _ => True) (fun _ => False) rfl rfl ?aO ?aR (fun _ _ h => h) (fun _ h => h.elim) ?aF ?aB ?aS ?aL ?_
                (case aR => repeat (first | exact (Kd.C_below HR0_1.out HB.out) | (with_reducible refine Kd.C_alloc ?_ _) | (with_reducible refine Kd.C_drewN ?_ _) | (with_reducible refine Kd.C_drew ?_)))
                (case aB => exact (by repeat (first | (with_reducible first | exact HB.out | apply zq7 | apply zq8 | apply zq9 | refine zr1 ?_ GE151.out | refine zr1 ?_ GE152.out | refine zr1 ?_ GE153.out) | exact HB.out)))
                (case aF => exact (fun _ _ => trivial))
                (case aO => exact (by (with_reducible repeat (first | apply Kd.R_alloc | apply Kd.R_drewN | apply Kd.R_drew)); exact HO156.out))
                (case aS => exact (zr2 (by repeat (first | (with_reducible first | exact HB.out | apply zq7 | apply zq8 | apply zq9 | refine zr1 ?_ GE151.out | refine zr1 ?_ GE152.out | refine zr1 ?_ GE153.out) | exact HB.out))))
                (case aL => have := LMc3.out; omega)
                intro v158 w120 ho hb hg hat
                rw [← Ny157.out] at ho
                have n0_ := mk_ (blk_grown (g := gb151) (o := .cells #[.int .i64 a0_0, .slice A0_1 l0_1.length c0_1] 35 (0, 0)) (by exact BK151.out) hg (Kd.R_ne HO156.out BK151.out (by decide)))
                have n1_ := mk_ (blk_grown (g := gb152) (o := .cells #[.int .i64 a1_0, .int .i64 a1_1, .slice A1_2 l1_2.length c1_2] 39 (0, 0)) (by exact BK152.out) hg (Kd.R_ne HO156.out BK152.out (by decide)))
                have n2_ := mk_ (blk_grown (g := gb153) (o := .cells #[.int .i64 0, .slice none 0 0] 35 (0, 0)) (by exact BK153.out) hg (Kd.R_ne HO156.out BK153.out (by decide)))
                have n3_ := mk_ (hb)
                have n4_ := mk_ (ho)
                clear BK151
                clear BK152
                clear BK153
                clear HB
                clear HO156
                have BK151 := n0_
                have BK152 := n1_
                have BK153 := n2_
                have HB := n3_
                have HO159 := n4_
                clear n0_ n1_ n2_ n3_ n4_
                clear ho hb hg hat
                refine hK.out _ _ ⟨(zr4 BK151.out 0).trans rfl, (zr4 BK151.out 1).trans rfl, (zr4 BK152.out 0).trans rfl, (zr4 BK152.out 1).trans rfl, (zr4 BK152.out 2).trans rfl⟩ (fun hHeld => ?_)
                clear hK K
                refine norm_ (a' := ?_) ?_ ?_
                rotate_left
                · show Act.put _ (some 15) _ = _
                  simp only [Act.put, zs1, zs2, zs3, i64_w, i32_w]
                  rfl
                refine one_ (i := 6) (N := some 18) (bm 8 127) rfl rfl (one_of HT_.out (by kernel_rfl)) (by decide) (fun K hK => ?_)
                refine Kd.R_append_rows_step (Kd.int .u8) (w0 := w) w.heap.size (by rfl) (.tmp 15) (.tmp 17) 22 5 (.int .u8 0) 1 rfl Try.underlying22 info5 rfl (by decide) (by omega) v158 y157 l1_2 _ _ _ (fun _ => True) (fun _ => False) rfl rfl ?aO ?aR (fun _ _ h => h) (fun _ h => h.elim) ?aF ?aB ?aS ?aL ?_
                (case aR => repeat (first | exact (Kd.C_below HR1_2.out HB.out) | (with_reducible refine Kd.C_alloc ?_ _) | (with_reducible refine Kd.C_drewN ?_ _) | (with_reducible refine Kd.C_drew ?_)))
                (case aB => exact (by repeat (first | (with_reducible first | exact HB.out | apply zq7 | apply zq8 | apply zq9 | refine zr1 ?_ GE151.out | refine zr1 ?_ GE152.out | refine zr1 ?_ GE153.out) | exact HB.out)))
                (case aF => exact (fun _ _ => trivial))
                (case aO => exact (by (with_reducible repeat (first | apply Kd.R_alloc | apply Kd.R_drewN | apply Kd.R_drew)); exact HO159.out))
                (case aS => exact (zr2 (by repeat (first | (with_reducible first | exact HB.out | apply zq7 | apply zq8 | apply zq9 | refine zr1 ?_ GE151.out | refine zr1 ?_ GE152.out | refine zr1 ?_ GE153.out) | exact HB.out))))
                (case aL => have := LMc4.out; omega)
                intro v161 w121 ho hb hg hat
                rw [← Ny160.out] at ho
                have n0_ := mk_ (blk_grown (g := gb151) (o := .cells #[.int .i64 a0_0, .slice A0_1 l0_1.length c0_1] 35 (0, 0)) (by exact BK151.out) hg (Kd.R_ne HO159.out BK151.out (by decide)))
                have n1_ := mk_ (blk_grown (g := gb152) (o := .cells #[.int .i64 a1_0, .int .i64 a1_1, .slice A1_2 l1_2.length c1_2] 39 (0, 0)) (by exact BK152.out) hg (Kd.R_ne HO159.out BK152.out (by decide)))
                have n2_ := mk_ (blk_grown (g := gb153) (o := .cells #[.int .i64 0, .slice none 0 0] 35 (0, 0)) (by exact BK153.out) hg (Kd.R_ne HO159.out BK153.out (by decide)))
                have n3_ := mk_ (hb)
                have n4_ := mk_ (ho)
                clear BK151
                clear BK152
                clear BK153
                clear HB
                clear HO159
                have BK151 := n0_
                have BK152 := n1_
                have BK153 := n2_
                have HB := n3_
                have HO162 := n4_
                clear n0_ n1_ n2_ n3_ n4_
                clear ho hb hg hat
                refine hK.out _ _ ⟨(zr4 BK151.out 0).trans rfl, (zr4 BK151.out 1).trans rfl, (zr4 BK152.out 0).trans rfl, (zr4 BK152.out 1).trans rfl, (zr4 BK152.out 2).trans rfl⟩ (fun hHeld => ?_)
                clear hK K
                refine norm_ (a' := ?_) ?_ ?_
                rotate_left
                · show Act.put _ (some 18) _ = _
                  simp only [Act.put, zs1, zs2, zs3, i64_w, i32_w]
                  rfl
                refine pA 7 (some 8) (bm 8 255) rfl rfl HT_.out (by kernel_rfl) (fun _ _ _ h => h) (by rfl) (by intro w'; go_simp; with_reducible rfl) (by simp only [Act.put, zs1, zs2, zs3, i64_w, i32_w]; rfl) ?_
                refine done_ (done_of HT_.out (by kernel_rfl)) ?_
                have hnb122 := NB152_153.out
                have hnc122 := NB153_152.out
                obtain ⟨hcz123_0, hcz123_1, hcz123_2⟩ := cz3 BK152.out
                obtain ⟨hfz123_0, hfz123_1, hfz123_2⟩ := fz3 BK152.out
                obtain ⟨Ao124, co124, eo124⟩ := Kd.R_slice HO162.out
                subst eo124
                obtain ⟨hcz125_0, hcz125_1⟩ := cz2 BK151.out
                obtain ⟨hfz125_0, hfz125_1⟩ := fz2 BK151.out
                obtain ⟨hcz126_0, hcz126_1⟩ := cz2 BK153.out
                obtain ⟨hfz126_0, hfz126_1⟩ := fz2 BK153.out
                try go_wp2
                refine bodyPost_ret (results_ctt rfl _ _ gb153 35 #[.int .i64 0, .slice none 0 0] (0, 0) _ rfl (by (with_reducible repeat (first | refine zq1 ?_ _ | refine zq2 ?_ | refine zq3 ?_ _)); apply pu2; (with_reducible repeat (first | refine zq1 ?_ _ | refine zq2 ?_ | refine zq3 ?_ _)); exact BK153.out) Try.underlying35 rfl (by kernel_rfl)) rfl ?_
                exact ⟨_, _, by first | rfl | (simp [errW_none, errW_some] <;> rfl) | (simp [*, errW_none, errW_some] <;> rfl), by first | exact Kd.R_nil _ _ _ _ _ | exact Kd.N_nil _ _ _ _ _ | exact Kd.V_nil _ _ _ _ _ | exact Kd.Q_nil _ _ _ _ _ | exact Kd.S_nil _ _ _ _ _, by (with_reducible repeat (first | apply Kd.R_alloc | apply Kd.R_drewN | apply Kd.R_drew)); exact Kd.R_mono (Kd.R_far (p := ⟨gb153, 1, none⟩) (Kd.R_far (p := ⟨gb153, 0, none⟩) (Kd.R_types HO162.out BK153.out (by decide)) (fun _ hk => hk.2) (.int .i64 0)) (fun _ hk => hk.2) (.slice none 0 0)) (fun _ hk => (by simp [Value.ownBlock])), by repeat (first | (with_reducible first | exact HB.out | apply zq7 | apply zq8 | apply zq9 | refine zr1 ?_ GE151.out | refine zr1 ?_ GE152.out | refine zr1 ?_ GE153.out) | exact HB.out)⟩
              · rw [if_neg c110] at H
                have c110b0 : ((y160.length : Int) == a0_0) = false := beq_eq_false_iff_ne.mpr c110
                have c110b1 : ((y160.length : Int) != a0_0) = true := bne_iff_ne.mpr c110
                replace H := Option.bind_eq_some_iff.mp H
                obtain ⟨⟨t193, t194, t197, t200⟩, A1270, H⟩ := H
                try dsimp only at H
                have A127 := mk_ A1270
                clear A1270
                simp only [Option.some.injEq, Prod.mk.injEq] at H
                obtain ⟨rfl, rfl, rfl, rfl⟩ := H
                go_enter Try.func76, Try.ntmps76
                try go_wp2_with (first | ((with_reducible refine gate_dst (N := 2) rfl ?_); (try (refine gate_guard (by rfl) ?_; dsimp only)); refine box_event ?hg (N := 2) ?hd (cs := #[.int .i64 a0_0, .slice A0_1 l0_1.length c0_1]) (t := 35) ?hr ?_; (case hd => rfl); (case hg => rfl); (case hr => first | (go_simp; done) | (go_simp; rfl)); intro gb151 hg w128 hbox hb; have BK151 := mk_ (hbox); have GW151 := mk_ ((by rw [hg]; exact (zr2 (by repeat (first | (with_reducible first | exact HB.out | apply zq7 | apply zq8 | apply zq9) | exact HB.out))) : w.heap.size ≤ gb151)); have GE151 := GW151; replace HB := mk_ (zr3 (by repeat (first | (with_reducible first | exact HB.out | apply zq7 | apply zq8 | apply zq9) | exact HB.out)) hb); clear hb hbox hg) | ((with_reducible refine gate_dst (N := 3) rfl ?_); (try (refine gate_guard (by rfl) ?_; dsimp only)); refine box_event ?hg (N := 3) ?hd (cs := #[.int .i64 a1_0, .int .i64 a1_1, .slice A1_2 l1_2.length c1_2]) (t := 39) ?hr ?_; (case hd => rfl); (case hg => rfl); (case hr => first | (go_simp; done) | (go_simp; rfl)); intro gb152 hg w129 hbox hb; have BK152 := mk_ (hbox); have GW152 := mk_ ((by rw [hg]; exact (zr2 (by repeat (first | (with_reducible first | exact HB.out | apply zq7 | apply zq8 | apply zq9 | refine zr1 ?_ GE151.out) | exact HB.out))) : w.heap.size ≤ gb152)); have GE152 := GW152; replace HB := mk_ (zr3 (by repeat (first | (with_reducible first | exact HB.out | apply zq7 | apply zq8 | apply zq9 | refine zr1 ?_ GE151.out) | exact HB.out)) hb); have NB151_152 := mk_ ((by rw [hg]; exact zm2 (zr6 (by exact BK151.out)) : gb151 ≠ gb152)); replace BK151 := mk_ (zq6 (by exact BK151.out) hb); have NB152_151 := mk_ NB151_152.out.symm; clear hb hbox hg) | ((with_reducible refine gate_dst (N := 4) rfl ?_); (try (refine gate_guard (by rfl) ?_; dsimp only)); refine box_event ?hg (N := 4) ?hd (cs := #[.int .i64 0, .slice none 0 0]) (t := 35) ?hr ?_; (case hd => rfl); (case hg => rfl); (case hr => first | (go_simp; done) | (go_simp; rfl)); intro gb153 hg w130 hbox hb; have BK153 := mk_ (hbox); have GW153 := mk_ ((by rw [hg]; exact (zr2 (by repeat (first | (with_reducible first | exact HB.out | apply zq7 | apply zq8 | apply zq9 | refine zr1 ?_ GE151.out | refine zr1 ?_ GE152.out) | exact HB.out))) : w.heap.size ≤ gb153)); have GE153 := GW153; replace HB := mk_ (zr3 (by repeat (first | (with_reducible first | exact HB.out | apply zq7 | apply zq8 | apply zq9 | refine zr1 ?_ GE151.out | refine zr1 ?_ GE152.out) | exact HB.out)) hb); have NB151_153 := mk_ ((by rw [hg]; exact zm2 (zr6 (by exact BK151.out)) : gb151 ≠ gb153)); replace BK151 := mk_ (zq6 (by exact BK151.out) hb); have NB153_151 := mk_ NB151_153.out.symm; have NB152_153 := mk_ ((by rw [hg]; exact zm2 (zr6 (by exact BK152.out)) : gb152 ≠ gb153)); replace BK152 := mk_ (zq6 (by exact BK152.out) hb); have NB153_152 := mk_ NB152_153.out.symm; clear hb hbox hg; have hnb131 := NB151_152.out; have hnc131 := NB152_151.out; have hnb132 := NB151_153.out; have hnc132 := NB153_151.out; obtain ⟨hcz133_0, hcz133_1⟩ := cz2 BK151.out; obtain ⟨hfz133_0, hfz133_1⟩ := fz2 BK151.out))
                replace BK151 := mk_ (zq2 BK151.out)
                replace BK152 := mk_ (zq2 BK152.out)
                replace BK153 := mk_ (zq2 BK153.out)
                replace HB := mk_ (zq9 HB.out)
                refine start_ (n := 8) (S := fun w' => w'.cell? ⟨gb151, 0, none⟩ = some (.int .i64 a0_0) ∧ w'.cell? ⟨gb151, 1, none⟩ = some (.slice A0_1 l0_1.length c0_1) ∧ w'.cell? ⟨gb152, 0, none⟩ = some (.int .i64 a1_0) ∧ w'.cell? ⟨gb152, 1, none⟩ = some (.int .i64 a1_1) ∧ w'.cell? ⟨gb152, 2, none⟩ = some (.slice A1_2 l1_2.length c1_2)) (ds := []) (bm 8 0) (by kernel_rfl) rfl rfl ⟨(zr4 BK151.out 0).trans rfl, (zr4 BK151.out 1).trans rfl, (zr4 BK152.out 0).trans rfl, (zr4 BK152.out 1).trans rfl, (zr4 BK152.out 2).trans rfl⟩ (fun hHeld => ?_); refine with_tabW spec_l4Put.tab2 spec_l4Put.bits2 (fun HT_ HW_ => ?_)
                generalize w130.drew = w134 at BK151 BK152 BK153 HB hHeld ⊢
                refine pA 1 (some 13) (bm 8 2) rfl rfl HT_.out (by kernel_rfl) (fun _ _ _ h => h) (by rfl) (by intro w'; go_simp; with_reducible rfl) (by simp only [Act.put, zs1, zs2, zs3, i64_w, i32_w]; rfl) ?_
                refine pA 4 (some 16) (bm 8 18) rfl rfl HT_.out (by kernel_rfl) (fun _ _ _ h => h) (by rfl) (by intro w'; go_simp; with_reducible rfl) (by simp only [Act.put, zs1, zs2, zs3, i64_w, i32_w]; rfl) ?_
                refine tA 2 (some 14) (bm 8 22) rfl rfl HT_.out HW_.out (by kernel_rfl) (fun _ _ _ h => h) (by rfl) hHeld (by rintro w' ⟨s0, s1, s2, s3, s4⟩; go_simp; with_reducible rfl) (by simp only [Act.put, zs1, zs2, zs3, i64_w, i32_w]; rfl) ?_
                refine tA 5 (some 17) (bm 8 54) rfl rfl HT_.out HW_.out (by kernel_rfl) (fun _ _ _ h => h) (by rfl) hHeld (by rintro w' ⟨s0, s1, s2, s3, s4⟩; go_simp; with_reducible rfl) (by simp only [Act.put, zs1, zs2, zs3, i64_w, i32_w]; rfl) ?_
                refine one_ (i := 0) (N := some 12) (bm 8 55) rfl rfl (one_of HT_.out (by kernel_rfl)) (by decide) (fun K hK => ?_)
                refine Kd.R_lit_step (Kd.int .u8) _ 5 ?hg (N := 12) ?hd (xs := ([] : List Int)) (inner := []) (ok := fun _ => True) (okp := fun _ => True) ?hr ?hp (fun _ hk => hk) trivial (Below.refl _ _) (Nat.le_refl _) (by simp) ?_; (case hd => rfl); (case hg => rfl); (case hr => first | (go_simp; done) | (go_simp; rfl)); (case hp => exact (Reps.none _ _))
                intro v155 w135 ho136 hb hg_ hnew_
                clear hg_ hnew_
                (first | rw [← Ny154.out] at ho136 | (simp only [Int.reduceToNat] at ho136; rw [← Ny154.out] at ho136))
                have HO156 := mk_ (Kd.R_lower ho136 (zr2 (by repeat (first | (with_reducible first | exact HB.out | apply zq7 | apply zq8 | apply zq9 | refine zr1 ?_ GE151.out | refine zr1 ?_ GE152.out | refine zr1 ?_ GE153.out) | exact HB.out))))
                replace BK151 := mk_ (zq6 (by exact BK151.out) hb)
                replace BK152 := mk_ (zq6 (by exact BK152.out) hb)
                replace BK153 := mk_ (zq6 (by exact BK153.out) hb)
                replace HB := mk_ (zr3 (by repeat (first | (with_reducible first | exact HB.out | apply zq7 | apply zq8 | apply zq9 | refine zr1 ?_ GE151.out | refine zr1 ?_ GE152.out | refine zr1 ?_ GE153.out) | exact HB.out)) hb)
                clear hb ho136
                refine hK.out _ _ ⟨(zr4 BK151.out 0).trans rfl, (zr4 BK151.out 1).trans rfl, (zr4 BK152.out 0).trans rfl, (zr4 BK152.out 1).trans rfl, (zr4 BK152.out 2).trans rfl⟩ (fun hHeld => ?_)
                clear hK K
                refine norm_ (a' := ?_) ?_ ?_
                rotate_left
                · show Act.put _ (some 12) _ = _
                  simp only [Act.put, zs1, zs2, zs3, i64_w, i32_w]
                  rfl
                refine one_ (i := 3) (N := some 15) (bm 8 63) rfl rfl (one_of HT_.out (by kernel_rfl)) (by decide) (fun K hK => ?_)
                refine Kd.R_append_rows_step (Kd.int .u8) (w0 := w) w.heap.size (by rfl) (.tmp 12) (.tmp 14) 22 5 (.int .u8 0) 1 rfl Try.underlying22 info5 rfl (by decide) (by omega) v155 y154 l0_1 _ _ _ (fun _ => True) (fun _ => False) rfl rfl ?aO ?aR (fun _ _ h => h) (fun _ h => h.elim) ?aF ?aB ?aS ?aL ?_
                (case aR => repeat (first | exact (Kd.C_below HR0_1.out HB.out) | (with_reducible refine Kd.C_alloc ?_ _) | (with_reducible refine Kd.C_drewN ?_ _) | (with_reducible refine Kd.C_drew ?_)))
                (case aB => exact (by repeat (first | (with_reducible first | exact HB.out | apply zq7 | apply zq8 | apply zq9 | refine zr1 ?_ GE151.out | refine zr1 ?_ GE152.out | refine zr1 ?_ GE153.out) | exact HB.out)))
                (case aF => exact (fun _ _ => trivial))
                (case aO => exact (by (with_reducible repeat (first | apply Kd.R_alloc | apply Kd.R_drewN | apply Kd.R_drew)); exact HO156.out))
                (case aS => exact (zr2 (by repeat (first | (with_reducible first | exact HB.out | apply zq7 | apply zq8 | apply zq9 | refine zr1 ?_ GE151.out | refine zr1 ?_ GE152.out | refine zr1 ?_ GE153.out) | exact HB.out))))
                (case aL => have := LMc3.out; omega)
                intro v158 w137 ho hb hg hat
                rw [← Ny157.out] at ho
                have n0_ := mk_ (blk_grown (g := gb151) (o := .cells #[.int .i64 a0_0, .slice A0_1 l0_1.length c0_1] 35 (0, 0)) (by exact BK151.out) hg (Kd.R_ne HO156.out BK151.out (by decide)))
                have n1_ := mk_ (blk_grown (g := gb152) (o := .cells #[.int .i64 a1_0, .int .i64 a1_1, .slice A1_2 l1_2.length c1_2] 39 (0, 0)) (by exact BK152.out) hg (Kd.R_ne HO156.out BK152.out (by decide)))
                have n2_ := mk_ (blk_grown (g := gb153) (o := .cells #[.int .i64 0, .slice none 0 0] 35 (0, 0)) (by exact BK153.out) hg (Kd.R_ne HO156.out BK153.out (by decide)))
                have n3_ := mk_ (hb)
                have n4_ := mk_ (ho)
                clear BK151
                clear BK152
                clear BK153
                clear HB
                clear HO156
                have BK151 := n0_
                have BK152 := n1_
                have BK153 := n2_
                have HB := n3_
                have HO159 := n4_
                clear n0_ n1_ n2_ n3_ n4_
                clear ho hb hg hat
                refine hK.out _ _ ⟨(zr4 BK151.out 0).trans rfl, (zr4 BK151.out 1).trans rfl, (zr4 BK152.out 0).trans rfl, (zr4 BK152.out 1).trans rfl, (zr4 BK152.out 2).trans rfl⟩ (fun hHeld => ?_)
                clear hK K
                refine norm_ (a' := ?_) ?_ ?_
                rotate_left
                · show Act.put _ (some 15) _ = _
                  simp only [Act.put, zs1, zs2, zs3, i64_w, i32_w]
                  rfl
                refine one_ (i := 6) (N := some 18) (bm 8 127) rfl rfl (one_of HT_.out (by kernel_rfl)) (by decide) (fun K hK => ?_)
                refine Kd.R_append_rows_step (Kd.int .u8) (w0 := w) w.heap.size (by rfl) (.tmp 15) (.tmp 17) 22 5 (.int .u8 0) 1 rfl Try.underlying22 info5 rfl (by decide) (by omega) v158 y157 l1_2 _ _ _ (fun _ => True) (fun _ => False) rfl rfl ?aO ?aR (fun _ _ h => h) (fun _ h => h.elim) ?aF ?aB ?aS ?aL ?_
                (case aR => repeat (first | exact (Kd.C_below HR1_2.out HB.out) | (with_reducible refine Kd.C_alloc ?_ _) | (with_reducible refine Kd.C_drewN ?_ _) | (with_reducible refine Kd.C_drew ?_)))
                (case aB => exact (by repeat (first | (with_reducible first | exact HB.out | apply zq7 | apply zq8 | apply zq9 | refine zr1 ?_ GE151.out | refine zr1 ?_ GE152.out | refine zr1 ?_ GE153.out) | exact HB.out)))
                (case aF => exact (fun _ _ => trivial))
                (case aO => exact (by (with_reducible repeat (first | apply Kd.R_alloc | apply Kd.R_drewN | apply Kd.R_drew)); exact HO159.out))
                (case aS => exact (zr2 (by repeat (first | (with_reducible first | exact HB.out | apply zq7 | apply zq8 | apply zq9 | refine zr1 ?_ GE151.out | refine zr1 ?_ GE152.out | refine zr1 ?_ GE153.out) | exact HB.out))))
                (case aL => have := LMc4.out; omega)
                intro v161 w138 ho hb hg hat
                rw [← Ny160.out] at ho
                have n0_ := mk_ (blk_grown (g := gb151) (o := .cells #[.int .i64 a0_0, .slice A0_1 l0_1.length c0_1] 35 (0, 0)) (by exact BK151.out) hg (Kd.R_ne HO159.out BK151.out (by decide)))
                have n1_ := mk_ (blk_grown (g := gb152) (o := .cells #[.int .i64 a1_0, .int .i64 a1_1, .slice A1_2 l1_2.length c1_2] 39 (0, 0)) (by exact BK152.out) hg (Kd.R_ne HO159.out BK152.out (by decide)))
                have n2_ := mk_ (blk_grown (g := gb153) (o := .cells #[.int .i64 0, .slice none 0 0] 35 (0, 0)) (by exact BK153.out) hg (Kd.R_ne HO159.out BK153.out (by decide)))
                have n3_ := mk_ (hb)
                have n4_ := mk_ (ho)
                clear BK151
                clear BK152
                clear BK153
                clear HB
                clear HO159
                have BK151 := n0_
                have BK152 := n1_
                have BK153 := n2_
                have HB := n3_
                have HO162 := n4_
                clear n0_ n1_ n2_ n3_ n4_
                clear ho hb hg hat
                refine hK.out _ _ ⟨(zr4 BK151.out 0).trans rfl, (zr4 BK151.out 1).trans rfl, (zr4 BK152.out 0).trans rfl, (zr4 BK152.out 1).trans rfl, (zr4 BK152.out 2).trans rfl⟩ (fun hHeld => ?_)
                clear hK K
                refine norm_ (a' := ?_) ?_ ?_
                rotate_left
                · show Act.put _ (some 18) _ = _
                  simp only [Act.put, zs1, zs2, zs3, i64_w, i32_w]
                  rfl
                refine pA 7 (some 8) (bm 8 255) rfl rfl HT_.out (by kernel_rfl) (fun _ _ _ h => h) (by rfl) (by intro w'; go_simp; with_reducible rfl) (by simp only [Act.put, zs1, zs2, zs3, i64_w, i32_w]; rfl) ?_
                refine done_ (done_of HT_.out (by kernel_rfl)) ?_
                have hnb139 := NB152_153.out
                have hnc139 := NB153_152.out
                obtain ⟨hcz140_0, hcz140_1, hcz140_2⟩ := cz3 BK152.out
                obtain ⟨hfz140_0, hfz140_1, hfz140_2⟩ := fz3 BK152.out
                obtain ⟨Ao141, co141, eo141⟩ := Kd.R_slice HO162.out
                subst eo141
                obtain ⟨hcz142_0, hcz142_1⟩ := cz2 BK151.out
                obtain ⟨hfz142_0, hfz142_1⟩ := fz2 BK151.out
                try go_wp2_with (first | ((with_reducible refine gate_callee (f := 97) rfl ?_); refine goesL_ (some 71) rfl rfl Try.func97 (by kernel_rfl) rfl #[] rfl (by (try simp only [List.map_toArray, List.map_cons, List.map_nil]); first | done | rfl | (simp only [List.length_drop, List.length_take]; rfl)) ?_; (with_reducible refine (spec_l4Bad.calls  t193 t194 t197 t200 _ A127.out).mono ?_); rintro e w143 ⟨v195, v198, rfl, ho0, ho1, hb⟩; refine ⟨_, rfl, ?_⟩; have HO196 := mk_ (Kd.R_lower (Kd.R_new' ho0 (Kd.R_lt (by (with_reducible repeat (first | apply Kd.R_alloc | apply Kd.R_drewN | apply Kd.R_drew)); exact HO162.out))) (zr2 (by repeat (first | (with_reducible first | exact HB.out | apply zq7 | apply zq8 | apply zq9 | refine zr1 ?_ GE151.out | refine zr1 ?_ GE152.out | refine zr1 ?_ GE153.out) | exact HB.out)))); have HO199 := mk_ (Kd.R_lower (Kd.R_new' ho1 (Kd.R_lt (by (with_reducible repeat (first | apply Kd.R_alloc | apply Kd.R_drewN | apply Kd.R_drew)); exact HO162.out))) (zr2 (by repeat (first | (with_reducible first | exact HB.out | apply zq7 | apply zq8 | apply zq9 | refine zr1 ?_ GE151.out | refine zr1 ?_ GE152.out | refine zr1 ?_ GE153.out) | exact HB.out)))); replace HO162 := mk_ (Kd.R_mono (Kd.R_told (Kd.R_told (Kd.R_old (by (with_reducible repeat (first | apply Kd.R_alloc | apply Kd.R_drewN | apply Kd.R_drew)); exact HO162.out) hb) (Kd.R_base ho0)) (Kd.R_base ho1)) (fun _ h_ => h_.1)); replace BK151 := mk_ (zq6 (by exact BK151.out) hb); replace BK152 := mk_ (zq6 (by exact BK152.out) hb); replace BK153 := mk_ (zq6 (by exact BK153.out) hb); replace HB := mk_ (zr3 (by repeat (first | (with_reducible first | exact HB.out | apply zq7 | apply zq8 | apply zq9 | refine zr1 ?_ GE151.out | refine zr1 ?_ GE152.out | refine zr1 ?_ GE153.out) | exact HB.out)) hb); (try clear hb); (try clear hb2); (try clear hk); (try clear hi); (try clear ho0); (try clear ho1); obtain ⟨hcz144_0, hcz144_1⟩ := cz2 BK153.out; obtain ⟨hfz144_0, hfz144_1⟩ := fz2 BK153.out; obtain ⟨Ao145, co145, eo145⟩ := Kd.R_slice HO196.out; subst eo145))
                refine bodyPost_ret (results_ctt rfl _ _ gb153 35 #[.int .i64 t193, .slice Ao145 t194.length co145] (0, 0) _ rfl (by (with_reducible repeat (first | refine zq1 ?_ _ | refine zq2 ?_ | refine zq3 ?_ _)); apply pu2; (with_reducible repeat (first | refine zq1 ?_ _ | refine zq2 ?_ | refine zq3 ?_ _)); exact BK153.out) Try.underlying35 rfl (by kernel_rfl)) rfl ?_
                exact ⟨_, _, by first | rfl | (simp [errW_none, errW_some] <;> rfl) | (simp [*, errW_none, errW_some] <;> rfl), by (with_reducible repeat (first | apply Kd.R_alloc | apply Kd.R_drewN | apply Kd.R_drew)); exact Kd.R_mono (Kd.R_far (p := ⟨gb153, 1, none⟩) (Kd.R_far (p := ⟨gb153, 0, none⟩) (Kd.R_types HO196.out BK153.out (by decide)) (fun _ hk => hk.2) (.int .i64 t193)) (fun _ hk => hk.2) (.slice Ao145 t194.length co145)) (fun _ hk => hk.1.1), by (with_reducible repeat (first | apply Kd.R_alloc | apply Kd.R_drewN | apply Kd.R_drew)); exact Kd.R_mono (Kd.R_far (p := ⟨gb153, 1, none⟩) (Kd.R_far (p := ⟨gb153, 0, none⟩) (Kd.R_types HO199.out BK153.out (by decide)) (fun _ hk => hk.2) (.int .i64 t193)) (fun _ hk => hk.2) (.slice Ao145 t194.length co145)) (fun _ hk => hk.1.1), by repeat (first | (with_reducible first | exact HB.out | apply zq7 | apply zq8 | apply zq9 | refine zr1 ?_ GE151.out | refine zr1 ?_ GE152.out | refine zr1 ?_ GE153.out) | exact HB.out)⟩
            · rw [if_neg c109] at H
              have c109b0 : decide (0 < a0_0) = false := decide_eq_false c109
              clear c109
              replace H := Option.bind_eq_some_iff.mp H
              obtain ⟨⟨t201, t202, t205, t208⟩, A1460, H⟩ := H
              try dsimp only at H
              have A146 := mk_ A1460
              clear A1460
              simp only [Option.some.injEq, Prod.mk.injEq] at H
              obtain ⟨rfl, rfl, rfl, rfl⟩ := H
              go_enter Try.func76, Try.ntmps76
              try go_wp2_with (first | ((with_reducible refine gate_dst (N := 2) rfl ?_); (try (refine gate_guard (by rfl) ?_; dsimp only)); refine box_event ?hg (N := 2) ?hd (cs := #[.int .i64 a0_0, .slice A0_1 l0_1.length c0_1]) (t := 35) ?hr ?_; (case hd => rfl); (case hg => rfl); (case hr => first | (go_simp; done) | (go_simp; rfl)); intro gb151 hg w147 hbox hb; have BK151 := mk_ (hbox); have GW151 := mk_ ((by rw [hg]; exact (zr2 (by repeat (first | (with_reducible first | exact HB.out | apply zq7 | apply zq8 | apply zq9) | exact HB.out))) : w.heap.size ≤ gb151)); have GE151 := GW151; replace HB := mk_ (zr3 (by repeat (first | (with_reducible first | exact HB.out | apply zq7 | apply zq8 | apply zq9) | exact HB.out)) hb); clear hb hbox hg) | ((with_reducible refine gate_dst (N := 3) rfl ?_); (try (refine gate_guard (by rfl) ?_; dsimp only)); refine box_event ?hg (N := 3) ?hd (cs := #[.int .i64 a1_0, .int .i64 a1_1, .slice A1_2 l1_2.length c1_2]) (t := 39) ?hr ?_; (case hd => rfl); (case hg => rfl); (case hr => first | (go_simp; done) | (go_simp; rfl)); intro gb152 hg w148 hbox hb; have BK152 := mk_ (hbox); have GW152 := mk_ ((by rw [hg]; exact (zr2 (by repeat (first | (with_reducible first | exact HB.out | apply zq7 | apply zq8 | apply zq9 | refine zr1 ?_ GE151.out) | exact HB.out))) : w.heap.size ≤ gb152)); have GE152 := GW152; replace HB := mk_ (zr3 (by repeat (first | (with_reducible first | exact HB.out | apply zq7 | apply zq8 | apply zq9 | refine zr1 ?_ GE151.out) | exact HB.out)) hb); have NB151_152 := mk_ ((by rw [hg]; exact zm2 (zr6 (by exact BK151.out)) : gb151 ≠ gb152)); replace BK151 := mk_ (zq6 (by exact BK151.out) hb); have NB152_151 := mk_ NB151_152.out.symm; clear hb hbox hg) | ((with_reducible refine gate_dst (N := 4) rfl ?_); (try (refine gate_guard (by rfl) ?_; dsimp only)); refine box_event ?hg (N := 4) ?hd (cs := #[.int .i64 0, .slice none 0 0]) (t := 35) ?hr ?_; (case hd => rfl); (case hg => rfl); (case hr => first | (go_simp; done) | (go_simp; rfl)); intro gb153 hg w149 hbox hb; have BK153 := mk_ (hbox); have GW153 := mk_ ((by rw [hg]; exact (zr2 (by repeat (first | (with_reducible first | exact HB.out | apply zq7 | apply zq8 | apply zq9 | refine zr1 ?_ GE151.out | refine zr1 ?_ GE152.out) | exact HB.out))) : w.heap.size ≤ gb153)); have GE153 := GW153; replace HB := mk_ (zr3 (by repeat (first | (with_reducible first | exact HB.out | apply zq7 | apply zq8 | apply zq9 | refine zr1 ?_ GE151.out | refine zr1 ?_ GE152.out) | exact HB.out)) hb); have NB151_153 := mk_ ((by rw [hg]; exact zm2 (zr6 (by exact BK151.out)) : gb151 ≠ gb153)); replace BK151 := mk_ (zq6 (by exact BK151.out) hb); have NB153_151 := mk_ NB151_153.out.symm; have NB152_153 := mk_ ((by rw [hg]; exact zm2 (zr6 (by exact BK152.out)) : gb152 ≠ gb153)); replace BK152 := mk_ (zq6 (by exact BK152.out) hb); have NB153_152 := mk_ NB152_153.out.symm; clear hb hbox hg; have hnb150 := NB151_152.out; have hnc150 := NB152_151.out; have hnb151 := NB151_153.out; have hnc151 := NB153_151.out; obtain ⟨hcz152_0, hcz152_1⟩ := cz2 BK151.out; obtain ⟨hfz152_0, hfz152_1⟩ := fz2 BK151.out))
              replace BK151 := mk_ (zq2 BK151.out)
              replace BK152 := mk_ (zq2 BK152.out)
              replace BK153 := mk_ (zq2 BK153.out)
              replace HB := mk_ (zq9 HB.out)
              refine start_ (n := 8) (S := fun w' => w'.cell? ⟨gb151, 0, none⟩ = some (.int .i64 a0_0) ∧ w'.cell? ⟨gb151, 1, none⟩ = some (.slice A0_1 l0_1.length c0_1) ∧ w'.cell? ⟨gb152, 0, none⟩ = some (.int .i64 a1_0) ∧ w'.cell? ⟨gb152, 1, none⟩ = some (.int .i64 a1_1) ∧ w'.cell? ⟨gb152, 2, none⟩ = some (.slice A1_2 l1_2.length c1_2)) (ds := []) (bm 8 0) (by kernel_rfl) rfl rfl ⟨(zr4 BK151.out 0).trans rfl, (zr4 BK151.out 1).trans rfl, (zr4 BK152.out 0).trans rfl, (zr4 BK152.out 1).trans rfl, (zr4 BK152.out 2).trans rfl⟩ (fun hHeld => ?_); refine with_tabW spec_l4Put.tab2 spec_l4Put.bits2 (fun HT_ HW_ => ?_)
              generalize w149.drew = w153 at BK151 BK152 BK153 HB hHeld ⊢
              refine pA 1 (some 13) (bm 8 2) rfl rfl HT_.out (by kernel_rfl) (fun _ _ _ h => h) (by rfl) (by intro w'; go_simp; with_reducible rfl) (by simp only [Act.put, zs1, zs2, zs3, i64_w, i32_w]; rfl) ?_
              refine pA 4 (some 16) (bm 8 18) rfl rfl HT_.out (by kernel_rfl) (fun _ _ _ h => h) (by rfl) (by intro w'; go_simp; with_reducible rfl) (by simp only [Act.put, zs1, zs2, zs3, i64_w, i32_w]; rfl) ?_
              refine tA 2 (some 14) (bm 8 22) rfl rfl HT_.out HW_.out (by kernel_rfl) (fun _ _ _ h => h) (by rfl) hHeld (by rintro w' ⟨s0, s1, s2, s3, s4⟩; go_simp; with_reducible rfl) (by simp only [Act.put, zs1, zs2, zs3, i64_w, i32_w]; rfl) ?_
              refine tA 5 (some 17) (bm 8 54) rfl rfl HT_.out HW_.out (by kernel_rfl) (fun _ _ _ h => h) (by rfl) hHeld (by rintro w' ⟨s0, s1, s2, s3, s4⟩; go_simp; with_reducible rfl) (by simp only [Act.put, zs1, zs2, zs3, i64_w, i32_w]; rfl) ?_
              refine one_ (i := 0) (N := some 12) (bm 8 55) rfl rfl (one_of HT_.out (by kernel_rfl)) (by decide) (fun K hK => ?_)
              refine Kd.R_lit_step (Kd.int .u8) _ 5 ?hg (N := 12) ?hd (xs := ([] : List Int)) (inner := []) (ok := fun _ => True) (okp := fun _ => True) ?hr ?hp (fun _ hk => hk) trivial (Below.refl _ _) (Nat.le_refl _) (by simp) ?_; (case hd => rfl); (case hg => rfl); (case hr => first | (go_simp; done) | (go_simp; rfl)); (case hp => exact (Reps.none _ _))
              intro v155 w154 ho155 hb hg_ hnew_
              clear hg_ hnew_
              (first | rw [← Ny154.out] at ho155 | (simp only [Int.reduceToNat] at ho155; rw [← Ny154.out] at ho155))
              have HO156 := mk_ (Kd.R_lower ho155 (zr2 (by repeat (first | (with_reducible first | exact HB.out | apply zq7 | apply zq8 | apply zq9 | refine zr1 ?_ GE151.out | refine zr1 ?_ GE152.out | refine zr1 ?_ GE153.out) | exact HB.out))))
              replace BK151 := mk_ (zq6 (by exact BK151.out) hb)
              replace BK152 := mk_ (zq6 (by exact BK152.out) hb)
              replace BK153 := mk_ (zq6 (by exact BK153.out) hb)
              replace HB := mk_ (zr3 (by repeat (first | (with_reducible first | exact HB.out | apply zq7 | apply zq8 | apply zq9 | refine zr1 ?_ GE151.out | refine zr1 ?_ GE152.out | refine zr1 ?_ GE153.out) | exact HB.out)) hb)
              clear hb ho155
              refine hK.out _ _ ⟨(zr4 BK151.out 0).trans rfl, (zr4 BK151.out 1).trans rfl, (zr4 BK152.out 0).trans rfl, (zr4 BK152.out 1).trans rfl, (zr4 BK152.out 2).trans rfl⟩ (fun hHeld => ?_)
              clear hK K
              refine norm_ (a' := ?_) ?_ ?_
              rotate_left
              · show Act.put _ (some 12) _ = _
                simp only [Act.put, zs1, zs2, zs3, i64_w, i32_w]
                rfl
              refine one_ (i := 3) (N := some 15) (bm 8 63) rfl rfl (one_of HT_.out (by kernel_rfl)) (by decide) (fun K hK => ?_)
              refine Kd.R_append_rows_step (Kd.int .u8) (w0 := w) w.heap.size (by rfl) (.tmp 12) (.tmp 14) 22 5 (.int .u8 0) 1 rfl Try.underlying22 info5 rfl (by decide) (by omega) v155 y154 l0_1 _ _ _ (fun _ => True) (fun _ => False) rfl rfl ?aO ?aR (fun _ _ h => h) (fun _ h => h.elim) ?aF ?aB ?aS ?aL ?_
              (case aR => repeat (first | exact (Kd.C_below HR0_1.out HB.out) | (with_reducible refine Kd.C_alloc ?_ _) | (with_reducible refine Kd.C_drewN ?_ _) | (with_reducible refine Kd.C_drew ?_)))
              (case aB => exact (by repeat (first | (with_reducible first | exact HB.out | apply zq7 | apply zq8 | apply zq9 | refine zr1 ?_ GE151.out | refine zr1 ?_ GE152.out | refine zr1 ?_ GE153.out) | exact HB.out)))
              (case aF => exact (fun _ _ => trivial))
              (case aO => exact (by (with_reducible repeat (first | apply Kd.R_alloc | apply Kd.R_drewN | apply Kd.R_drew)); exact HO156.out))
              (case aS => exact (zr2 (by repeat (first | (with_reducible first | exact HB.out | apply zq7 | apply zq8 | apply zq9 | refine zr1 ?_ GE151.out | refine zr1 ?_ GE152.out | refine zr1 ?_ GE153.out) | exact HB.out))))
              (case aL => have := LMc3.out; omega)
              intro v158 w156 ho hb hg hat
              rw [← Ny157.out] at ho
              have n0_ := mk_ (blk_grown (g := gb151) (o := .cells #[.int .i64 a0_0, .slice A0_1 l0_1.length c0_1] 35 (0, 0)) (by exact BK151.out) hg (Kd.R_ne HO156.out BK151.out (by decide)))
              have n1_ := mk_ (blk_grown (g := gb152) (o := .cells #[.int .i64 a1_0, .int .i64 a1_1, .slice A1_2 l1_2.length c1_2] 39 (0, 0)) (by exact BK152.out) hg (Kd.R_ne HO156.out BK152.out (by decide)))
              have n2_ := mk_ (blk_grown (g := gb153) (o := .cells #[.int .i64 0, .slice none 0 0] 35 (0, 0)) (by exact BK153.out) hg (Kd.R_ne HO156.out BK153.out (by decide)))
              have n3_ := mk_ (hb)
              have n4_ := mk_ (ho)
              clear BK151
              clear BK152
              clear BK153
              clear HB
              clear HO156
              have BK151 := n0_
              have BK152 := n1_
              have BK153 := n2_
              have HB := n3_
              have HO159 := n4_
              clear n0_ n1_ n2_ n3_ n4_
              clear ho hb hg hat
              refine hK.out _ _ ⟨(zr4 BK151.out 0).trans rfl, (zr4 BK151.out 1).trans rfl, (zr4 BK152.out 0).trans rfl, (zr4 BK152.out 1).trans rfl, (zr4 BK152.out 2).trans rfl⟩ (fun hHeld => ?_)
              clear hK K
              refine norm_ (a' := ?_) ?_ ?_
              rotate_left
              · show Act.put _ (some 15) _ = _
                simp only [Act.put, zs1, zs2, zs3, i64_w, i32_w]
                rfl
              refine one_ (i := 6) (N := some 18) (bm 8 127) rfl rfl (one_of HT_.out (by kernel_rfl)) (by decide) (fun K hK => ?_)
              refine Kd.R_append_rows_step (Kd.int .u8) (w0 := w) w.heap.size (by rfl) (.tmp 15) (.tmp 17) 22 5 (.int .u8 0) 1 rfl Try.underlying22 info5 rfl (by decide) (by omega) v158 y157 l1_2 _ _ _ (fun _ => True) (fun _ => False) rfl rfl ?aO ?aR (fun _ _ h => h) (fun _ h => h.elim) ?aF ?aB ?aS ?aL ?_
              (case aR => repeat (first | exact (Kd.C_below HR1_2.out HB.out) | (with_reducible refine Kd.C_alloc ?_ _) | (with_reducible refine Kd.C_drewN ?_ _) | (with_reducible refine Kd.C_drew ?_)))
              (case aB => exact (by repeat (first | (with_reducible first | exact HB.out | apply zq7 | apply zq8 | apply zq9 | refine zr1 ?_ GE151.out | refine zr1 ?_ GE152.out | refine zr1 ?_ GE153.out) | exact HB.out)))
              (case aF => exact (fun _ _ => trivial))
              (case aO => exact (by (with_reducible repeat (first | apply Kd.R_alloc | apply Kd.R_drewN | apply Kd.R_drew)); exact HO159.out))
              (case aS => exact (zr2 (by repeat (first | (with_reducible first | exact HB.out | apply zq7 | apply zq8 | apply zq9 | refine zr1 ?_ GE151.out | refine zr1 ?_ GE152.out | refine zr1 ?_ GE153.out) | exact HB.out))))
              (case aL => have := LMc4.out; omega)
              intro v161 w157 ho hb hg hat
              rw [← Ny160.out] at ho
              have n0_ := mk_ (blk_grown (g := gb151) (o := .cells #[.int .i64 a0_0, .slice A0_1 l0_1.length c0_1] 35 (0, 0)) (by exact BK151.out) hg (Kd.R_ne HO159.out BK151.out (by decide)))
              have n1_ := mk_ (blk_grown (g := gb152) (o := .cells #[.int .i64 a1_0, .int .i64 a1_1, .slice A1_2 l1_2.length c1_2] 39 (0, 0)) (by exact BK152.out) hg (Kd.R_ne HO159.out BK152.out (by decide)))
              have n2_ := mk_ (blk_grown (g := gb153) (o := .cells #[.int .i64 0, .slice none 0 0] 35 (0, 0)) (by exact BK153.out) hg (Kd.R_ne HO159.out BK153.out (by decide)))
              have n3_ := mk_ (hb)
              have n4_ := mk_ (ho)
              clear BK151
              clear BK152
              clear BK153
              clear HB
              clear HO159
              have BK151 := n0_
              have BK152 := n1_
              have BK153 := n2_
              have HB := n3_
              have HO162 := n4_
              clear n0_ n1_ n2_ n3_ n4_
              clear ho hb hg hat
              refine hK.out _ _ ⟨(zr4 BK151.out 0).trans rfl, (zr4 BK151.out 1).trans rfl, (zr4 BK152.out 0).trans rfl, (zr4 BK152.out 1).trans rfl, (zr4 BK152.out 2).trans rfl⟩ (fun hHeld => ?_)
              clear hK K
              refine norm_ (a' := ?_) ?_ ?_
              rotate_left
              · show Act.put _ (some 18) _ = _
                simp only [Act.put, zs1, zs2, zs3, i64_w, i32_w]
                rfl
              refine pA 7 (some 8) (bm 8 255) rfl rfl HT_.out (by kernel_rfl) (fun _ _ _ h => h) (by rfl) (by intro w'; go_simp; with_reducible rfl) (by simp only [Act.put, zs1, zs2, zs3, i64_w, i32_w]; rfl) ?_
              refine done_ (done_of HT_.out (by kernel_rfl)) ?_
              have hnb158 := NB152_153.out
              have hnc158 := NB153_152.out
              obtain ⟨hcz159_0, hcz159_1, hcz159_2⟩ := cz3 BK152.out
              obtain ⟨hfz159_0, hfz159_1, hfz159_2⟩ := fz3 BK152.out
              try go_wp2_with (first | ((with_reducible refine gate_callee (f := 97) rfl ?_); refine goesL_ (some 71) rfl rfl Try.func97 (by kernel_rfl) rfl #[] rfl (by (try simp only [List.map_toArray, List.map_cons, List.map_nil]); first | done | rfl | (simp only [List.length_drop, List.length_take]; rfl)) ?_; (with_reducible refine (spec_l4Bad.calls  t201 t202 t205 t208 _ A146.out).mono ?_); rintro e w160 ⟨v203, v206, rfl, ho0, ho1, hb⟩; refine ⟨_, rfl, ?_⟩; have HO204 := mk_ (Kd.R_lower (Kd.R_new' ho0 (Kd.R_lt (by (with_reducible repeat (first | apply Kd.R_alloc | apply Kd.R_drewN | apply Kd.R_drew)); exact HO162.out))) (zr2 (by repeat (first | (with_reducible first | exact HB.out | apply zq7 | apply zq8 | apply zq9 | refine zr1 ?_ GE151.out | refine zr1 ?_ GE152.out | refine zr1 ?_ GE153.out) | exact HB.out)))); have HO207 := mk_ (Kd.R_lower (Kd.R_new' ho1 (Kd.R_lt (by (with_reducible repeat (first | apply Kd.R_alloc | apply Kd.R_drewN | apply Kd.R_drew)); exact HO162.out))) (zr2 (by repeat (first | (with_reducible first | exact HB.out | apply zq7 | apply zq8 | apply zq9 | refine zr1 ?_ GE151.out | refine zr1 ?_ GE152.out | refine zr1 ?_ GE153.out) | exact HB.out)))); replace HO162 := mk_ (Kd.R_mono (Kd.R_told (Kd.R_told (Kd.R_old (by (with_reducible repeat (first | apply Kd.R_alloc | apply Kd.R_drewN | apply Kd.R_drew)); exact HO162.out) hb) (Kd.R_base ho0)) (Kd.R_base ho1)) (fun _ h_ => h_.1)); replace BK151 := mk_ (zq6 (by exact BK151.out) hb); replace BK152 := mk_ (zq6 (by exact BK152.out) hb); replace BK153 := mk_ (zq6 (by exact BK153.out) hb); replace HB := mk_ (zr3 (by repeat (first | (with_reducible first | exact HB.out | apply zq7 | apply zq8 | apply zq9 | refine zr1 ?_ GE151.out | refine zr1 ?_ GE152.out | refine zr1 ?_ GE153.out) | exact HB.out)) hb); (try clear hb); (try clear hb2); (try clear hk); (try clear hi); (try clear ho0); (try clear ho1); obtain ⟨hcz161_0, hcz161_1⟩ := cz2 BK153.out; obtain ⟨hfz161_0, hfz161_1⟩ := fz2 BK153.out; obtain ⟨Ao162, co162, eo162⟩ := Kd.R_slice HO204.out; subst eo162))
              refine bodyPost_ret (results_ctt rfl _ _ gb153 35 #[.int .i64 t201, .slice Ao162 t202.length co162] (0, 0) _ rfl (by (with_reducible repeat (first | refine zq1 ?_ _ | refine zq2 ?_ | refine zq3 ?_ _)); apply pu2; (with_reducible repeat (first | refine zq1 ?_ _ | refine zq2 ?_ | refine zq3 ?_ _)); exact BK153.out) Try.underlying35 rfl (by kernel_rfl)) rfl ?_
              exact ⟨_, _, by first | rfl | (simp [errW_none, errW_some] <;> rfl) | (simp [*, errW_none, errW_some] <;> rfl), by (with_reducible repeat (first | apply Kd.R_alloc | apply Kd.R_drewN | apply Kd.R_drew)); exact Kd.R_mono (Kd.R_far (p := ⟨gb153, 1, none⟩) (Kd.R_far (p := ⟨gb153, 0, none⟩) (Kd.R_types HO204.out BK153.out (by decide)) (fun _ hk => hk.2) (.int .i64 t201)) (fun _ hk => hk.2) (.slice Ao162 t202.length co162)) (fun _ hk => hk.1.1), by (with_reducible repeat (first | apply Kd.R_alloc | apply Kd.R_drewN | apply Kd.R_drew)); exact Kd.R_mono (Kd.R_far (p := ⟨gb153, 1, none⟩) (Kd.R_far (p := ⟨gb153, 0, none⟩) (Kd.R_types HO207.out BK153.out (by decide)) (fun _ hk => hk.2) (.int .i64 t201)) (fun _ hk => hk.2) (.slice Ao162 t202.length co162)) (fun _ hk => hk.1.1), by repeat (first | (with_reducible first | exact HB.out | apply zq7 | apply zq8 | apply zq9 | refine zr1 ?_ GE151.out | refine zr1 ?_ GE152.out | refine zr1 ?_ GE153.out) | exact HB.out)⟩
    · rw [if_neg c4] at H
      exact absurd H (by simp)
  · rw [if_neg c3] at H
    exact absurd H (by simp)

end Go.Proofs.Yteknaofnageihaa.QFnSegPut
