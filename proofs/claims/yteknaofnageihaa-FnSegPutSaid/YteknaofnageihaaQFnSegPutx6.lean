-- Written by a program of this session, a turned copy of the print (not by print.sh itself). Lean checks it.
import Derived.Test.YteknaofnageihaaQFnSegPutx0
import Derived.Test.YteknaofnageihaaQFnSegPutx5
namespace Go.Proofs.Yteknaofnageihaa.QFnSegPut
open Go.RowKit Go.Proofs.YteknaofnageihaaW.PrintWords Go.Proofs.YteknaofnageihaaW.PrintLast Go.Proofs.YteknaofnageihaaW.PrintMore Go.Proofs.YteknaofnageihaaLoc
attribute [local go_sem] max2_int min2_int max_two min_two max_three min_three max_four min_four   -- for this text's walks alone
set_option linter.unusedVariables false
set_option linter.unusedSimpArgs false

/-! ### spec_l20Part: function 99 -/
mutual
def spec_l20Part.j0 : Nat → Bool → List Int → Int → Int → Int → List Int → Option (Int × Int × List Int × Int)
  | 0, _, _, _, _, _, _ => none
  | k + 1, x17, x1000, x1001, x292000, x292001, x292002 => if x17 = true then (spec_l20Part.j1 k x1000 x1001 x292000 x292001 (([7] : List Int))) else (spec_l20Part.j1 k x1000 x1001 x292000 x292001 x292002)
def spec_l20Part.j1 : Nat → List Int → Int → Int → Int → List Int → Option (Int × Int × List Int × Int)
  | 0, _, _, _, _, _ => none
  | k + 1, x1000, x1001, x292000, x292001, x292002 => if x292000 = 0 then (if x292000 = 1 then ((spec_l20Rd_pick.f k x1000 x1001 (wrap64 (24 - (x292002.length : Int)))).bind fun bt295 => (some (x292000, wrap64 ((wrap64 ((x292002.length : Int) + 1)) + bt295.1), x292002, bt295.2))) else (some (x292000, (x292002.length : Int), x292002, x1001))) else (if x292000 = 1 then ((spec_l20Rd_pick.f k x1000 x1001 (wrap64 (24 - (x292002.length : Int)))).bind fun bt297 => (some (x292000, wrap64 ((wrap64 ((x292002.length : Int) + 1)) + bt297.1), x292002, bt297.2))) else (some (x292000, x292001, x292002, x1001)))
end
def spec_l20Part.f (k : Nat) (s0_0 : List Int) (s0_1 : Int) : Option (Int × Int × List Int × Int) := (spec_l20Rd_pick.f k s0_0 s0_1 4).bind fun bt285 => ((spec_l20Bytes.f k s0_0 bt285.2 8).bind fun bt287 => (if bt285.1 = 0 then (spec_l20Part.j0 k false s0_0 bt287.2 bt285.1 0 bt287.1) else (spec_l20Part.j0 k ((bt287.1.length : Int) == 0) s0_0 bt287.2 bt285.1 0 bt287.1)))
theorem spec_l20Part.mono_l : ∀ k, (∀ y0 y1 y2 y3 y4 y5, LeO (spec_l20Part.j0 k y0 y1 y2 y3 y4 y5) (spec_l20Part.j0 (k + 1) y0 y1 y2 y3 y4 y5)) ∧ (∀ y0 y1 y2 y3 y4, LeO (spec_l20Part.j1 k y0 y1 y2 y3 y4) (spec_l20Part.j1 (k + 1) y0 y1 y2 y3 y4))
  | 0 => ⟨fun _ _ _ _ _ _ r h => by simp [spec_l20Part.j0] at h, fun _ _ _ _ _ r h => by simp [spec_l20Part.j1] at h⟩
  | k + 1 => by
    obtain ⟨ih0, ih1⟩ := spec_l20Part.mono_l k
    refine ⟨?_, ?_⟩
    · intro y0 y1 y2 y3 y4 y5
      unfold spec_l20Part.j0
      repeat' first
      | (with_reducible exact ih0 _ _ _ _ _ _)
      | (with_reducible exact ih1 _ _ _ _ _)
      | (with_reducible exact spec_l20Bytes.mono _ _ _ _)
      | (with_reducible exact spec_l20Rd_pick.mono _ _ _ _)
      | (with_reducible exact LeO.refl _)
      | (with_reducible exact LeO.none _)
      | (with_reducible refine LeO.ite ?_ ?_)
      | (with_reducible refine LeO.bind ?_ (fun _ => ?_))
      | exact ih0 _ _ _ _ _ _
      | exact ih1 _ _ _ _ _
      | exact spec_l20Bytes.mono _ _ _ _
      | exact spec_l20Rd_pick.mono _ _ _ _
      | exact LeO.none _
      | refine LeO.ite ?_ ?_
      | refine LeO.bind ?_ (fun _ => ?_)
    · intro y0 y1 y2 y3 y4
      unfold spec_l20Part.j1
      repeat' first
      | (with_reducible exact ih0 _ _ _ _ _ _)
      | (with_reducible exact ih1 _ _ _ _ _)
      | (with_reducible exact spec_l20Bytes.mono _ _ _ _)
      | (with_reducible exact spec_l20Rd_pick.mono _ _ _ _)
      | (with_reducible exact LeO.refl _)
      | (with_reducible exact LeO.none _)
      | (with_reducible refine LeO.ite ?_ ?_)
      | (with_reducible refine LeO.bind ?_ (fun _ => ?_))
      | exact ih0 _ _ _ _ _ _
      | exact ih1 _ _ _ _ _
      | exact spec_l20Bytes.mono _ _ _ _
      | exact spec_l20Rd_pick.mono _ _ _ _
      | exact LeO.none _
      | refine LeO.ite ?_ ?_
      | refine LeO.bind ?_ (fun _ => ?_)
theorem spec_l20Part.mono : ∀ a0 a1 k, LeO (spec_l20Part.f k a0 a1) (spec_l20Part.f (k + 1) a0 a1) := by
 intro a0 a1 k
 obtain ⟨ih0, ih1⟩ := spec_l20Part.mono_l k
 unfold spec_l20Part.f
 repeat' first
     | (with_reducible exact ih0 _ _ _ _ _ _)
     | (with_reducible exact ih1 _ _ _ _ _)
     | (with_reducible exact spec_l20Bytes.mono _ _ _ _)
     | (with_reducible exact spec_l20Rd_pick.mono _ _ _ _)
     | (with_reducible exact LeO.refl _)
     | (with_reducible exact LeO.none _)
     | (with_reducible refine LeO.ite ?_ ?_)
     | (with_reducible refine LeO.bind ?_ (fun _ => ?_))
     | exact ih0 _ _ _ _ _ _
     | exact ih1 _ _ _ _ _
     | exact spec_l20Bytes.mono _ _ _ _
     | exact spec_l20Rd_pick.mono _ _ _ _
     | exact LeO.none _
     | refine LeO.ite ?_ ?_
     | refine LeO.bind ?_ (fun _ => ?_)
def spec_l20Part.T7 : Bool × List (List Nat × List Nat) := (true, [([], []), ([0], [0]), ([1], [1]), ([2], [2]), ([], []), ([], []), ([5], [5]), ([6], [6]), ([7], [7]), ([4, 8], [4, 8]), ([3, 9], [3, 9]), ([0, 1, 2, 3, 4, 5, 6, 7, 8, 9, 10], []), ([11, 10, 9, 0, 1, 2, 3, 4, 5, 6, 7, 8, 9, 10], [10, 11])])
def spec_l20Part.B7 : List Nat := [0, 1, 3, 7, 0, 0, 32, 96, 224, 496, 1023, 2047, 4095]
theorem spec_l20Part.tab7 : rtab .any (opsOf Try.f99 7) = spec_l20Part.T7 := by kernel_rfl
theorem spec_l20Part.bits7 : waitsOk spec_l20Part.T7.2 spec_l20Part.B7 = true := by kernel_rfl
set_option maxHeartbeats 60000000 in
set_option maxRecDepth 100000 in
theorem spec_l20Part.calls (k : Nat) (g : Nat) (s0_0 : List Int) (s0_1 : Int) (r1 : Int) (r2 : Int) (r3 : List Int) (r4 : Int) (w0 w : World) (hI : IsS113 w0 w g s0_0 s0_1) (hB : Below w0.heap.size w0 w) (h : spec_l20Part.f k s0_0 s0_1 = some (r1, r2, r3, r4)) :
    Calls Try.prog 99 #[.pointer (some ⟨g, 0, none⟩)] w fun e w' => ∃ v2_ : Value, e = .returned (.agg #[.int .i64 r1, .int .i64 r2, v2_]) ∧ Kd.R (Kd.int .u8) 5 w' w.heap.size (fun _ => True) v2_ r3 ∧ IsS113 w0 w' g s0_0 r4 ∧ Below w0.heap.size w0 w' ∧ KeepBut w w' g none := by
  have hu39 := Try.underlying39
  have HI0 := mk_ hI
  have HK := mk_ (KeepBut.refl w g none)
  have HL := mk_ hB.size
  clear hI
  have HW0 := mk_ hB.size
  have HB := mk_ hB
  clear hB
  have H : ((spec_l20Rd_pick.f k s0_0 s0_1 4).bind fun bt285 => ((spec_l20Bytes.f k s0_0 bt285.2 8).bind fun bt287 => (if bt285.1 = 0 then (spec_l20Part.j0 k false s0_0 bt287.2 bt285.1 0 bt287.1) else (spec_l20Part.j0 k ((bt287.1.length : Int) == 0) s0_0 bt287.2 bt285.1 0 bt287.1)))) = some (r1, r2, r3, r4) := h
  clear h
  replace H := Option.bind_eq_some_iff.mp H
  obtain ⟨⟨t285, t286⟩, A20, H⟩ := H
  try dsimp only at H
  have A2 := mk_ A20
  clear A20
  replace H := Option.bind_eq_some_iff.mp H
  obtain ⟨⟨t287, t290⟩, A30, H⟩ := H
  try dsimp only at H
  have A3 := mk_ A30
  clear A30
  have HC4 := mk_ H
  clear H
  go_enter Try.func99, Try.ntmps99
  go_upto_region 2 with (first | ((with_reducible refine gate_dst (N := 2) rfl ?_); (try (refine gate_guard (by rfl) ?_; dsimp only)); refine box_event ?hg (N := 2) ?hd (cs := #[.int .i64 0, .int .i64 0, .slice none 0 0]) (t := 39) ?hr ?_; (case hd => rfl); (case hg => rfl); (case hr => first | (go_simp; done) | (go_simp; rfl)); intro gb284 hg w5 hbox hb; replace HB := mk_ (zr3 (by repeat (first | (with_reducible first | exact HB.out | apply zq7 | apply zq8 | apply zq9 | refine zr1 ?_ (IsS113.ge HI0.out)) | exact HB.out)) hb); have BK284 := mk_ (hbox); have GW284 := mk_ ((by rw [hg]; exact (keep_size (w := w) (g := g) (row := none) (by repeat (first | (with_reducible first | exact HK.out | apply zm1 | apply zr7 | apply zr8 | apply zr9) | exact HK.out))) : w.heap.size ≤ gb284)); have GE284 := mk_ ((Nat.le_trans HW0.out (by rw [hg]; exact (keep_size (w := w) (g := g) (row := none) (by repeat (first | (with_reducible first | exact HK.out | apply zm1 | apply zr7 | apply zr8 | apply zr9) | exact HK.out))) : w.heap.size ≤ gb284) : w0.heap.size ≤ gb284)); replace HK := mk_ (KeepBut.trans (by repeat (first | (with_reducible first | exact HK.out | apply zm1 | apply zr7 | apply zr8 | apply zr9) | exact HK.out)) (KeepBut.of_below hb g none) (.inl rfl)); have NB0_284 := mk_ ((by rw [hg]; exact zm2 (IsS113.lt (show IsS113 w0 _ g s0_0 s0_1 from by repeat (first | (with_reducible first | exact HI0.out | apply IsS113.alloc | apply IsS113.drewN | apply IsS113.drew | apply IsS113.set_1) | exact HI0.out))) : g ≠ gb284)); replace HI0 := mk_ (IsS113.below (by repeat (first | (with_reducible first | exact HI0.out | apply IsS113.alloc | apply IsS113.drewN | apply IsS113.drew | apply IsS113.set_1) | exact HI0.out)) hb); have NB284_0 := mk_ NB0_284.out.symm; clear hb hbox hg) | ((with_reducible refine gate_callee (f := 70) rfl ?_); refine goesL_ (some 5) rfl rfl Try.func70 (by kernel_rfl) rfl #[.pointer (some ⟨g, 0, none⟩), .int .i64 4] rfl (by (try simp only [List.map_toArray, List.map_cons, List.map_nil]); first | done | rfl | (simp only [List.length_drop, List.length_take]; rfl)) ?_; (with_reducible refine (spec_l20Rd_pick.calls k g s0_0 s0_1 4 t285 t286 w0 _ ?side1 ?side2 A2.out).mono ?_); (case side1 => repeat (first | (with_reducible first | exact HI0.out | apply IsS113.alloc | apply IsS113.drewN | apply IsS113.drew | apply IsS113.set_1 | refine IsS113.far ?_ NB0_284.out _) | exact HI0.out)); (case side2 => repeat (first | (with_reducible first | exact HB.out | apply zq7 | apply zq8 | apply zq9 | refine zr1 ?_ (IsS113.ge HI0.out) | refine zr1 ?_ GE284.out) | exact HB.out)); rintro e w6 ⟨rfl, hi, hb, hk⟩; refine ⟨_, rfl, ?_⟩; replace BK284 := mk_ (KeepBut.blk hk (g' := gb284) (o := .cells #[.int .i64 0, .int .i64 0, .slice none 0 0] 39 (0, 0)) (by exact BK284.out) NB284_0.out (by simp)); replace HK := mk_ (KeepBut.trans (by repeat (first | (with_reducible first | exact HK.out | apply zm1 | apply zr7 | apply zr8 | apply zr9 | refine keep_far ?_ GW284.out _) | exact HK.out)) hk (.inl rfl)); replace HB := mk_ (hb); replace HI0 := mk_ (hi); (try clear hb); (try clear hb2); (try clear hk); (try clear hi)) | ((with_reducible refine gate_callee (f := 69) rfl ?_); refine goesL_ (some 7) rfl rfl Try.func69 (by kernel_rfl) rfl #[.pointer (some ⟨g, 0, none⟩), .int .i64 8] rfl (by (try simp only [List.map_toArray, List.map_cons, List.map_nil]); first | done | rfl | (simp only [List.length_drop, List.length_take]; rfl)) ?_; (with_reducible refine (spec_l20Bytes.calls k g s0_0 t286 8 t287 t290 w0 _ ?side1 ?side2 A3.out).mono ?_); (case side1 => repeat (first | (with_reducible first | exact HI0.out | apply IsS113.alloc | apply IsS113.drewN | apply IsS113.drew | apply IsS113.set_1 | refine IsS113.far ?_ NB0_284.out _) | exact HI0.out)); (case side2 => repeat (first | (with_reducible first | exact HB.out | apply zq7 | apply zq8 | apply zq9 | refine zr1 ?_ (IsS113.ge HI0.out) | refine zr1 ?_ GE284.out) | exact HB.out)); rintro e w7 ⟨v288, rfl, ho0, hi, hb, hk⟩; refine ⟨_, rfl, ?_⟩; replace BK284 := mk_ (KeepBut.blk hk (g' := gb284) (o := .cells #[.int .i64 0, .int .i64 0, .slice none 0 0] 39 (0, 0)) (by exact BK284.out) NB284_0.out (by simp)); have HO289 := mk_ (Kd.R_lower ho0 (keep_size (w := w) (g := g) (row := none) (by repeat (first | (with_reducible first | exact HK.out | apply zm1 | apply zr7 | apply zr8 | apply zr9 | refine keep_far ?_ GW284.out _) | exact HK.out)))); replace HK := mk_ (KeepBut.trans (by repeat (first | (with_reducible first | exact HK.out | apply zm1 | apply zr7 | apply zr8 | apply zr9 | refine keep_far ?_ GW284.out _) | exact HK.out)) hk (.inl rfl)); replace HB := mk_ (hb); replace HI0 := mk_ (hi); (try clear hb); (try clear hb2); (try clear hk); (try clear hi); (try clear ho0); obtain ⟨Ao8, co8, eo8⟩ := Kd.R_slice HO289.out; subst eo8) | ((with_reducible refine gate_dst (N := 3) rfl ?_); (try (refine gate_guard (by rfl) ?_; dsimp only)); refine box_event ?hg (N := 3) ?hd (cs := #[.int .i64 0, .int .i64 0, .slice none 0 0]) (t := 39) ?hr ?_; (case hd => rfl); (case hg => rfl); (case hr => first | (go_simp; done) | (go_simp; rfl)); intro gb291 hg w9 hbox hb; replace HO289 := mk_ (Kd.R_below (by (with_reducible repeat (first | apply Kd.R_alloc | apply Kd.R_drewN | apply Kd.R_drew)); exact HO289.out) hb); replace HB := mk_ (zr3 (by repeat (first | (with_reducible first | exact HB.out | apply zq7 | apply zq8 | apply zq9 | refine zr1 ?_ (IsS113.ge HI0.out) | refine zr1 ?_ GE284.out) | exact HB.out)) hb); have BK291 := mk_ (hbox); have GW291 := mk_ ((by rw [hg]; exact (keep_size (w := w) (g := g) (row := none) (by repeat (first | (with_reducible first | exact HK.out | apply zm1 | apply zr7 | apply zr8 | apply zr9 | refine keep_far ?_ GW284.out _) | exact HK.out))) : w.heap.size ≤ gb291)); have GE291 := mk_ ((Nat.le_trans HW0.out (by rw [hg]; exact (keep_size (w := w) (g := g) (row := none) (by repeat (first | (with_reducible first | exact HK.out | apply zm1 | apply zr7 | apply zr8 | apply zr9 | refine keep_far ?_ GW284.out _) | exact HK.out))) : w.heap.size ≤ gb291) : w0.heap.size ≤ gb291)); replace HK := mk_ (KeepBut.trans (by repeat (first | (with_reducible first | exact HK.out | apply zm1 | apply zr7 | apply zr8 | apply zr9 | refine keep_far ?_ GW284.out _) | exact HK.out)) (KeepBut.of_below hb g none) (.inl rfl)); have NB284_291 := mk_ ((by rw [hg]; exact zm2 (zr6 (by exact BK284.out)) : gb284 ≠ gb291)); replace BK284 := mk_ (zq6 (by exact BK284.out) hb); have NB291_284 := mk_ NB284_291.out.symm; have NB0_291 := mk_ ((by rw [hg]; exact zm2 (IsS113.lt (show IsS113 w0 _ g s0_0 t290 from by repeat (first | (with_reducible first | exact HI0.out | apply IsS113.alloc | apply IsS113.drewN | apply IsS113.drew | apply IsS113.set_1 | refine IsS113.far ?_ NB0_284.out _) | exact HI0.out))) : g ≠ gb291)); replace HI0 := mk_ (IsS113.below (by repeat (first | (with_reducible first | exact HI0.out | apply IsS113.alloc | apply IsS113.drewN | apply IsS113.drew | apply IsS113.set_1 | refine IsS113.far ?_ NB0_284.out _) | exact HI0.out)) hb); have NB291_0 := mk_ NB0_291.out.symm; clear hb hbox hg; have hnb10 := NB291_284.out; have hnc10 := NB284_291.out; have hnb11 := NB291_0.out; have hnc11 := NB0_291.out; obtain ⟨hcz12_0, hcz12_1, hcz12_2⟩ := cz3 BK291.out; obtain ⟨hfz12_0, hfz12_1, hfz12_2⟩ := fz3 BK291.out))
  (try simp only [Act.put, List.setIfInBounds_toArray, List.set_cons_zero, List.set_cons_succ])
  go_cut [17] (fun v17 wc => ∃ (kq : Nat) (x17_3 : Bool), v17 = .bool x17_3 ∧ Aside0 (spec_l20Part.j0 kq x17_3 s0_0 t290 t285 0 t287 = some (r1, r2, r3, r4)) ∧ Aside0 (kq ≤ k) ∧ Aside0 (Kd.R (Kd.int .u8) 5 wc w.heap.size (fun _ => True) (.slice Ao8 t287.length co8) t287) ∧ Aside0 (wc.heap[gb284]? = some (.cells #[.int .i64 0, .int .i64 0, (.slice none 0 0)] 39 (0, 0))) ∧ Aside0 (wc.heap[gb291]? = some (.cells #[.int .i64 t285, .int .i64 0, (.slice Ao8 t287.length co8)] 39 (0, 0))) ∧ Aside0 (IsS113 w0 wc g s0_0 t290) ∧ Aside0 (KeepBut w wc g none) ∧ Aside0 (Below w0.heap.size w0 wc))
  case first =>
    have H := HC4.out
    clear HC4
    by_cases c13 : t285 = 0
    · rw [if_pos c13] at H
      have c13b0 : (t285 == 0) = true := beq_iff_eq.mpr c13
      have c13b1 : (t285 != 0) = false := bne_eq_false_iff_eq.mpr c13
      clear c13
      (first | rw [c13b0] | (simp only [i64_w, i32_w]; rw [c13b0]) | skip)
      have H' := mk_ H
      clear H
      have hnb14 := NB291_284.out
      have hnc14 := NB284_291.out
      have hnb15 := NB291_0.out
      have hnc15 := NB0_291.out
      obtain ⟨hcz16_0, hcz16_1, hcz16_2⟩ := cz3 BK291.out
      obtain ⟨hfz16_0, hfz16_1, hfz16_2⟩ := fz3 BK291.out
      go_wp2
      go_meet
      case rel => exact ⟨_, (false), (by first | rfl | (simp; done) | (simp [*]; done)), H', ⟨by first | omega | exact Nat.le_refl _⟩, ⟨by (with_reducible repeat (first | apply Kd.R_alloc | apply Kd.R_drewN | apply Kd.R_drew)); exact Kd.R_mono (Kd.R_far (p := ⟨gb291, 2, none⟩) (Kd.R_far (p := ⟨gb291, 1, none⟩) (Kd.R_far (p := ⟨gb291, 0, none⟩) (Kd.R_types HO289.out BK291.out (by decide)) (fun _ hk => hk.2) (.int .i64 t285)) (fun _ hk => hk.2) (.int .i64 0)) (fun _ hk => hk.2) (.slice Ao8 t287.length co8)) (fun _ hk => trivial)⟩, ⟨by (with_reducible repeat (first | refine zq1 ?_ _ | refine zq2 ?_ | refine zq3 ?_ _)); refine fa3 ?_ NB284_291.out; (with_reducible repeat (first | refine zq1 ?_ _ | refine zq2 ?_ | refine zq3 ?_ _)); exact BK284.out⟩, ⟨by (with_reducible repeat (first | refine zq1 ?_ _ | refine zq2 ?_ | refine zq3 ?_ _)); apply pu3; (with_reducible repeat (first | refine zq1 ?_ _ | refine zq2 ?_ | refine zq3 ?_ _)); exact BK291.out⟩, ⟨by repeat (first | (with_reducible first | exact HI0.out | apply IsS113.alloc | apply IsS113.drewN | apply IsS113.drew | apply IsS113.set_1 | refine IsS113.far ?_ NB0_284.out _ | refine IsS113.far ?_ NB0_291.out _) | exact HI0.out)⟩, ⟨by repeat (first | (with_reducible first | exact HK.out | apply zm1 | apply zr7 | apply zr8 | apply zr9 | refine keep_far ?_ GW284.out _ | refine keep_far ?_ GW291.out _) | exact HK.out)⟩, ⟨by repeat (first | (with_reducible first | exact HB.out | apply zq7 | apply zq8 | apply zq9 | refine zr1 ?_ (IsS113.ge HI0.out) | refine zr1 ?_ GE284.out | refine zr1 ?_ GE291.out) | exact HB.out)⟩⟩
    · rw [if_neg c13] at H
      have c13b0 : (t285 == 0) = false := beq_eq_false_iff_ne.mpr c13
      have c13b1 : (t285 != 0) = true := bne_iff_ne.mpr c13
      (first | rw [c13b0] | (simp only [i64_w, i32_w]; rw [c13b0]) | skip)
      have H' := mk_ H
      clear H
      have hnb17 := NB291_284.out
      have hnc17 := NB284_291.out
      have hnb18 := NB291_0.out
      have hnc18 := NB0_291.out
      obtain ⟨hcz19_0, hcz19_1, hcz19_2⟩ := cz3 BK291.out
      obtain ⟨hfz19_0, hfz19_1, hfz19_2⟩ := fz3 BK291.out
      go_wp2
      go_meet
      case rel => exact ⟨_, (((t287.length : Int) == 0)), (by first | rfl | (simp; done) | (simp [*]; done)), H', ⟨by first | omega | exact Nat.le_refl _⟩, ⟨by (with_reducible repeat (first | apply Kd.R_alloc | apply Kd.R_drewN | apply Kd.R_drew)); exact Kd.R_mono (Kd.R_far (p := ⟨gb291, 2, none⟩) (Kd.R_far (p := ⟨gb291, 1, none⟩) (Kd.R_far (p := ⟨gb291, 0, none⟩) (Kd.R_types HO289.out BK291.out (by decide)) (fun _ hk => hk.2) (.int .i64 t285)) (fun _ hk => hk.2) (.int .i64 0)) (fun _ hk => hk.2) (.slice Ao8 t287.length co8)) (fun _ hk => trivial)⟩, ⟨by (with_reducible repeat (first | refine zq1 ?_ _ | refine zq2 ?_ | refine zq3 ?_ _)); refine fa3 ?_ NB284_291.out; (with_reducible repeat (first | refine zq1 ?_ _ | refine zq2 ?_ | refine zq3 ?_ _)); exact BK284.out⟩, ⟨by (with_reducible repeat (first | refine zq1 ?_ _ | refine zq2 ?_ | refine zq3 ?_ _)); apply pu3; (with_reducible repeat (first | refine zq1 ?_ _ | refine zq2 ?_ | refine zq3 ?_ _)); exact BK291.out⟩, ⟨by repeat (first | (with_reducible first | exact HI0.out | apply IsS113.alloc | apply IsS113.drewN | apply IsS113.drew | apply IsS113.set_1 | refine IsS113.far ?_ NB0_284.out _ | refine IsS113.far ?_ NB0_291.out _) | exact HI0.out)⟩, ⟨by repeat (first | (with_reducible first | exact HK.out | apply zm1 | apply zr7 | apply zr8 | apply zr9 | refine keep_far ?_ GW284.out _ | refine keep_far ?_ GW291.out _) | exact HK.out)⟩, ⟨by repeat (first | (with_reducible first | exact HB.out | apply zq7 | apply zq8 | apply zq9 | refine zr1 ?_ (IsS113.ge HI0.out) | refine zr1 ?_ GE284.out | refine zr1 ?_ GE291.out) | exact HB.out)⟩⟩
  case rest =>
    clear HC4
    try clear c1
    try clear p2
    try clear c6
    try clear c7
    try clear c9
    try clear c10
    try clear c11
    try clear c13
    try clear c13b0
    try clear c13b1
    try clear c14
    try clear c15
    try clear c17
    try clear c18
    try clear hcz12_0 hcz12_1 hcz12_2
    try clear hcz16_0 hcz16_1 hcz16_2
    try clear hcz19_0 hcz19_1 hcz19_2
    try clear hfz12_0 hfz12_1 hfz12_2
    try clear hfz16_0 hfz16_1 hfz16_2
    try clear hfz19_0 hfz19_1 hfz19_2
    obtain ⟨kq, x17_3, rfl, HA, HJ3, HO_292002, BK284, BK291, HI0, HK, HB⟩ := hcut
    cases kq with
    | zero => exact absurd HA.out (by simp [spec_l20Part.j0])
    | succ kj3 =>
      have H := HA.out
      clear HA
      simp only [spec_l20Part.j0] at H
      have HC20 := mk_ H
      clear H
      go_upto_if 17 with (fail)
      go_cut [] (fun wc => ∃ (kq : Nat) (x292002_19 : List Int) (u292002 : Value), Aside0 (spec_l20Part.j1 kq s0_0 t290 t285 0 x292002_19 = some (r1, r2, r3, r4)) ∧ Aside0 (kq ≤ kj3) ∧ Aside0 (Kd.R (Kd.int .u8) 5 wc w.heap.size (fun _ => True) u292002 x292002_19) ∧ Aside0 (wc.heap[gb284]? = some (.cells #[.int .i64 0, .int .i64 0, (.slice none 0 0)] 39 (0, 0))) ∧ Aside0 (wc.heap[gb291]? = some (.cells #[.int .i64 t285, .int .i64 0, u292002] 39 (0, 0))) ∧ Aside0 (IsS113 w0 wc g s0_0 t290) ∧ Aside0 (KeepBut w wc g none) ∧ Aside0 (Below w0.heap.size w0 wc))
      case first =>
        have H := HC20.out
        clear HC20
        by_cases c21 : x17_3 = true
        · subst c21
          have H1 : (spec_l20Part.j1 kj3 s0_0 t290 t285 0 (([7] : List Int))) = some (r1, r2, r3, r4) := by rw [if_pos rfl] at H; exact H
          clear H
          have H := H1
          clear H1
          obtain ⟨y292, hy292⟩ : ∃ y_ : List Int, y_ = (([7] : List Int)) := ⟨_, rfl⟩
          replace H : (spec_l20Part.j1 kj3 s0_0 t290 t285 0 y292) = some (r1, r2, r3, r4) := by first | (rw [hy292]; with_reducible exact H) | (have H2_ := (Option.bind_some _ _).symm.trans H; rw [hy292]; with_reducible exact H2_) | (have H2_ := (Option.bind_some _ _).symm.trans H; with_reducible exact H2_) | with_reducible exact H | (rw [hy292]; exact H) | exact H
          have Ny292 := mk_ hy292
          clear hy292
          have H' := mk_ H
          clear H
          go_wp2_with (first | ((with_reducible refine gate_dst (N := 18) rfl ?_); (try (refine gate_guard (by rfl) ?_; dsimp only)); refine Kd.R_lit (Kd.int .u8) _ 5 ?hg (N := 18) ?hd (xs := ([7] : List Int)) (inner := [.int .u8 7]) (ok := fun _ => True) (okp := fun _ => True) ?hr ?hp (fun _ hk => hk) trivial (Below.refl _ _) (Nat.le_refl _) (by simp) ?_; (case hd => rfl); (case hg => rfl); (case hr => first | (go_simp; done) | (go_simp; rfl)); (case hp => exact (Reps.one (show Kd.M (Kd.int .u8) _ _ _ 7 [.int .u8 7] from rfl) (Reps.none _ _))); intro v293 w22 ho23 hb hg_ hnew_; clear hg_ hnew_; (first | rw [← Ny292.out] at ho23 | (simp only [Int.reduceToNat] at ho23; rw [← Ny292.out] at ho23)); have HO294 := mk_ (Kd.R_lower (Kd.R_new' ho23 (Kd.R_lt (by (with_reducible repeat (first | apply Kd.R_alloc | apply Kd.R_drewN | apply Kd.R_drew)); exact HO_292002.out))) (keep_size (w := w) (g := g) (row := none) (by repeat (first | (with_reducible first | exact HK.out | apply zm1 | apply zr7 | apply zr8 | apply zr9 | refine keep_far ?_ GW284.out _ | refine keep_far ?_ GW291.out _) | exact HK.out)))); replace HO_292002 := mk_ (Kd.R_elder' (by (with_reducible repeat (first | apply Kd.R_alloc | apply Kd.R_drewN | apply Kd.R_drew)); exact HO_292002.out) (Kd.R_base ho23) hb); replace BK284 := mk_ (zq6 (by exact BK284.out) hb); replace BK291 := mk_ (zq6 (by exact BK291.out) hb); replace HK := mk_ (KeepBut.trans (by repeat (first | (with_reducible first | exact HK.out | apply zm1 | apply zr7 | apply zr8 | apply zr9 | refine keep_far ?_ GW284.out _ | refine keep_far ?_ GW291.out _) | exact HK.out)) (KeepBut.of_below hb g none) (.inl rfl)); replace HB := mk_ (zr3 (by repeat (first | (with_reducible first | exact HB.out | apply zq7 | apply zq8 | apply zq9 | refine zr1 ?_ (IsS113.ge HI0.out) | refine zr1 ?_ GE284.out | refine zr1 ?_ GE291.out) | exact HB.out)) hb); replace HI0 := mk_ (IsS113.below (by repeat (first | (with_reducible first | exact HI0.out | apply IsS113.alloc | apply IsS113.drewN | apply IsS113.drew | apply IsS113.set_1 | refine IsS113.far ?_ NB0_284.out _ | refine IsS113.far ?_ NB0_291.out _) | exact HI0.out)) hb); clear hb ho23; obtain ⟨Ao24, co24, eo24⟩ := Kd.R_slice HO294.out; subst eo24; have hnb25 := NB291_284.out; have hnc25 := NB284_291.out; have hnb26 := NB291_0.out; have hnc26 := NB0_291.out; obtain ⟨hcz27_0, hcz27_1, hcz27_2⟩ := cz3 BK291.out; obtain ⟨hfz27_0, hfz27_1, hfz27_2⟩ := fz3 BK291.out))
          go_meet
          case rel => exact ⟨_, (y292), (.slice Ao24 y292.length co24), H', ⟨by have := HJ3.out; first | omega | exact Nat.le_refl _⟩, ⟨by (with_reducible repeat (first | apply Kd.R_alloc | apply Kd.R_drewN | apply Kd.R_drew)); exact Kd.R_mono (Kd.R_far (p := ⟨gb291, 2, none⟩) (Kd.R_types HO294.out BK291.out (by decide)) (fun _ hk => hk.2) (.slice Ao24 y292.length co24)) (fun _ hk => trivial)⟩, ⟨by (with_reducible repeat (first | refine zq1 ?_ _ | refine zq2 ?_ | refine zq3 ?_ _)); refine zq5 ?_ NB284_291.out _; (with_reducible repeat (first | refine zq1 ?_ _ | refine zq2 ?_ | refine zq3 ?_ _)); exact BK284.out⟩, ⟨by (with_reducible repeat (first | refine zq1 ?_ _ | refine zq2 ?_ | refine zq3 ?_ _)); refine zq4 (cs := #[.int .i64 t285, .int .i64 0, .slice Ao8 t287.length co8]) ?_ 2 _ rfl; (with_reducible repeat (first | refine zq1 ?_ _ | refine zq2 ?_ | refine zq3 ?_ _)); exact BK291.out⟩, ⟨by repeat (first | (with_reducible first | exact HI0.out | apply IsS113.alloc | apply IsS113.drewN | apply IsS113.drew | apply IsS113.set_1 | refine IsS113.far ?_ NB0_284.out _ | refine IsS113.far ?_ NB0_291.out _) | exact HI0.out)⟩, ⟨by repeat (first | (with_reducible first | exact HK.out | apply zm1 | apply zr7 | apply zr8 | apply zr9 | refine keep_far ?_ GW284.out _ | refine keep_far ?_ GW291.out _) | exact HK.out)⟩, ⟨by repeat (first | (with_reducible first | exact HB.out | apply zq7 | apply zq8 | apply zq9 | refine zr1 ?_ (IsS113.ge HI0.out) | refine zr1 ?_ GE284.out | refine zr1 ?_ GE291.out) | exact HB.out)⟩⟩
        · replace c21 := Bool.eq_false_iff.mpr c21
          subst c21
          have H1 : (spec_l20Part.j1 kj3 s0_0 t290 t285 0 t287) = some (r1, r2, r3, r4) := by rw [if_neg (show ¬ (false = true) by decide)] at H; exact H
          clear H
          have H := H1
          clear H1
          have H' := mk_ H
          clear H
          go_wp2
          go_meet
          case rel => exact ⟨_, (t287), (.slice Ao8 t287.length co8), H', ⟨by have := HJ3.out; first | omega | exact Nat.le_refl _⟩, ⟨by (with_reducible repeat (first | apply Kd.R_alloc | apply Kd.R_drewN | apply Kd.R_drew)); exact HO_292002.out⟩, ⟨by (with_reducible repeat (first | refine zq1 ?_ _ | refine zq2 ?_ | refine zq3 ?_ _)); exact BK284.out⟩, ⟨by (with_reducible repeat (first | refine zq1 ?_ _ | refine zq2 ?_ | refine zq3 ?_ _)); exact BK291.out⟩, ⟨by repeat (first | (with_reducible first | exact HI0.out | apply IsS113.alloc | apply IsS113.drewN | apply IsS113.drew | apply IsS113.set_1 | refine IsS113.far ?_ NB0_284.out _ | refine IsS113.far ?_ NB0_291.out _) | exact HI0.out)⟩, ⟨by repeat (first | (with_reducible first | exact HK.out | apply zm1 | apply zr7 | apply zr8 | apply zr9 | refine keep_far ?_ GW284.out _ | refine keep_far ?_ GW291.out _) | exact HK.out)⟩, ⟨by repeat (first | (with_reducible first | exact HB.out | apply zq7 | apply zq8 | apply zq9 | refine zr1 ?_ (IsS113.ge HI0.out) | refine zr1 ?_ GE284.out | refine zr1 ?_ GE291.out) | exact HB.out)⟩⟩
      case rest =>
        clear HC20
        try clear c1
        try clear c2
        try clear p2
        try clear c6
        try clear c7
        try clear c9
        try clear c10
        try clear c11
        try clear c13
        try clear c13b0
        try clear c13b1
        try clear c14
        try clear c15
        try clear c17
        try clear c18
        try clear c21
        try clear c25
        try clear c26
        try clear hcz12_0 hcz12_1 hcz12_2
        try clear hcz16_0 hcz16_1 hcz16_2
        try clear hcz19_0 hcz19_1 hcz19_2
        try clear hcz27_0 hcz27_1 hcz27_2
        try clear hfz12_0 hfz12_1 hfz12_2
        try clear hfz16_0 hfz16_1 hfz16_2
        try clear hfz19_0 hfz19_1 hfz19_2
        try clear hfz27_0 hfz27_1 hfz27_2
        try clear p2
        obtain ⟨kq, x292002_19, u292002, HA, HJ19, HO_292002, BK284, BK291, HI0, HK, HB⟩ := hcut
        cases kq with
        | zero => exact absurd HA.out (by simp [spec_l20Part.j1])
        | succ kj19 =>
          have H := HA.out
          clear HA
          simp only [spec_l20Part.j1] at H
          by_cases c28 : t285 = 0
          · rw [if_pos c28] at H
            have c28b0 : (t285 == 0) = true := beq_iff_eq.mpr c28
            have c28b1 : (t285 != 0) = false := bne_eq_false_iff_eq.mpr c28
            clear c28
            by_cases c29 : t285 = 1
            · rw [if_pos c29] at H
              have c29b0 : (t285 == 1) = true := beq_iff_eq.mpr c29
              have c29b1 : (t285 != 1) = false := bne_eq_false_iff_eq.mpr c29
              clear c29
              replace H := Option.bind_eq_some_iff.mp H
              obtain ⟨⟨t295, t296⟩, A300, H⟩ := H
              try dsimp only at H
              have A30 := mk_ A300
              clear A300
              simp only [Option.some.injEq, Prod.mk.injEq] at H
              obtain ⟨rfl, rfl, rfl, rfl⟩ := H
              have hnb31 := NB291_284.out
              have hnc31 := NB284_291.out
              have hnb32 := NB291_0.out
              have hnc32 := NB0_291.out
              obtain ⟨hcz33_0, hcz33_1, hcz33_2⟩ := cz3 BK291.out
              obtain ⟨hfz33_0, hfz33_1, hfz33_2⟩ := fz3 BK291.out
              obtain ⟨Ao34, co34, eo34⟩ := Kd.R_slice HO_292002.out
              subst eo34
              try go_wp2
              have n0_ : Aside0 (Kd.R (Kd.int .u8) 5 (wc.setCell ⟨gb291, 1, none⟩ (.int .i64 (x292002_19.length : Int))) w.heap.size (fun _ => True) (.slice Ao34 x292002_19.length co34) x292002_19) := ⟨by (with_reducible repeat (first | apply Kd.R_alloc | apply Kd.R_drewN | apply Kd.R_drew)); exact Kd.R_mono (Kd.R_far (p := ⟨gb291, 1, none⟩) (Kd.R_types HO_292002.out BK291.out (by decide)) (fun _ hk => hk.2) (.int .i64 (x292002_19.length : Int))) (fun _ hk => trivial)⟩
              have n1_ : Aside0 ((wc.setCell ⟨gb291, 1, none⟩ (.int .i64 (x292002_19.length : Int))).heap[gb284]? = some (.cells #[.int .i64 0, .int .i64 0, .slice none 0 0] 39 (0, 0))) := ⟨by (with_reducible repeat (first | refine zq1 ?_ _ | refine zq2 ?_ | refine zq3 ?_ _)); refine zq5 ?_ NB284_291.out _; (with_reducible repeat (first | refine zq1 ?_ _ | refine zq2 ?_ | refine zq3 ?_ _)); exact BK284.out⟩
              have n2_ : Aside0 ((wc.setCell ⟨gb291, 1, none⟩ (.int .i64 (x292002_19.length : Int))).heap[gb291]? = some (.cells #[.int .i64 t285, .int .i64 (x292002_19.length : Int), .slice Ao34 x292002_19.length co34] 39 (0, 0))) := ⟨by (with_reducible repeat (first | refine zq1 ?_ _ | refine zq2 ?_ | refine zq3 ?_ _)); refine zq4 (cs := #[.int .i64 t285, .int .i64 0, .slice Ao34 x292002_19.length co34]) ?_ 1 _ rfl; (with_reducible repeat (first | refine zq1 ?_ _ | refine zq2 ?_ | refine zq3 ?_ _)); exact BK291.out⟩
              have n3_ : Aside0 (IsS113 w0 (wc.setCell ⟨gb291, 1, none⟩ (.int .i64 (x292002_19.length : Int))) g s0_0 t290) := ⟨by repeat (first | (with_reducible first | exact HI0.out | apply IsS113.alloc | apply IsS113.drewN | apply IsS113.drew | apply IsS113.set_1 | refine IsS113.far ?_ NB0_284.out _ | refine IsS113.far ?_ NB0_291.out _) | exact HI0.out)⟩
              have n4_ : Aside0 (KeepBut w (wc.setCell ⟨gb291, 1, none⟩ (.int .i64 (x292002_19.length : Int))) g none) := ⟨by repeat (first | (with_reducible first | exact HK.out | apply zm1 | apply zr7 | apply zr8 | apply zr9 | refine keep_far ?_ GW284.out _ | refine keep_far ?_ GW291.out _) | exact HK.out)⟩
              have n5_ : Aside0 (Below w0.heap.size w0 (wc.setCell ⟨gb291, 1, none⟩ (.int .i64 (x292002_19.length : Int)))) := ⟨by repeat (first | (with_reducible first | exact HB.out | apply zq7 | apply zq8 | apply zq9 | refine zr1 ?_ (IsS113.ge HI0.out) | refine zr1 ?_ GE284.out | refine zr1 ?_ GE291.out) | exact HB.out)⟩
              (try clear HO_292002)
              (try clear BK284)
              (try clear BK291)
              (try clear HI0)
              (try clear HK)
              (try clear HB)
              generalize (wc.setCell ⟨gb291, 1, none⟩ (.int .i64 (x292002_19.length : Int))) = w35 at n0_ n1_ n2_ n3_ n4_ n5_ ⊢
              have HO_292002 := n0_
              have BK284 := n1_
              have BK291 := n2_
              have HI0 := n3_
              have HK := n4_
              have HB := n5_
              clear n0_ n1_ n2_ n3_ n4_ n5_
              replace HO_292002 := mk_ (Kd.R_drew HO_292002.out)
              replace BK284 := mk_ (zq2 BK284.out)
              replace BK291 := mk_ (zq2 BK291.out)
              replace HI0 := mk_ (IsS113.drew HI0.out)
              replace HK := mk_ (zr8 HK.out)
              replace HB := mk_ (zq9 HB.out)
              refine start_ (n := 13) (S := fun w' => w'.cell? ⟨gb291, 0, none⟩ = some (.int .i64 t285) ∧ w'.cell? ⟨gb291, 1, none⟩ = some (.int .i64 (x292002_19.length : Int)) ∧ w'.cell? ⟨gb291, 2, none⟩ = some (.slice Ao34 x292002_19.length co34)) (ds := [12]) (bm 13 0) (by kernel_rfl) rfl rfl ⟨(zr4 BK291.out 0).trans rfl, (zr4 BK291.out 1).trans rfl, (zr4 BK291.out 2).trans rfl⟩ (fun hHeld => ?_); refine with_tabW spec_l20Part.tab7 spec_l20Part.bits7 (fun HT_ HW_ => ?_)
              generalize w35.drew = w36 at HO_292002 BK284 BK291 HI0 HK HB hHeld ⊢
              refine pA 0 (some 30) (bm 13 1) rfl rfl HT_.out (by kernel_rfl) (fun _ _ _ h => h) (by rfl) (by intro w'; go_simp; with_reducible rfl) (by simp only [Act.put, zs1, zs2, zs3, i64_w, i32_w]; rfl) ?_
              refine pA 4 (some 34) (bm 13 17) rfl rfl HT_.out (by kernel_rfl) (fun _ _ _ h => h) (by rfl) (by intro w'; go_simp; with_reducible rfl) (by simp only [Act.put, zs1, zs2, zs3, i64_w, i32_w]; rfl) ?_
              refine pA 5 (some 35) (bm 13 49) rfl rfl HT_.out (by kernel_rfl) (fun _ _ _ h => h) (by rfl) (by intro w'; go_simp; with_reducible rfl) (by simp only [Act.put, zs1, zs2, zs3, i64_w, i32_w]; rfl) ?_
              refine tA 1 (some 31) (bm 13 51) rfl rfl HT_.out HW_.out (by kernel_rfl) (fun _ _ _ h => h) (by rfl) hHeld (by rintro w' ⟨s0, s1, s2⟩; go_simp; with_reducible rfl) (by simp only [Act.put, zs1, zs2, zs3, i64_w, i32_w]; rfl) ?_
              refine pA 2 (some 32) (bm 13 55) rfl rfl HT_.out (by kernel_rfl) (fun _ _ _ h => h) (by rfl) (by intro w'; go_simp; with_reducible rfl) (by simp only [Act.put, zs1, zs2, zs3, i64_w, i32_w]; rfl) ?_
              refine pA 3 (some 33) (bm 13 63) rfl rfl HT_.out (by kernel_rfl) (fun _ _ _ h => h) (by rfl) (by intro w'; go_simp; with_reducible rfl) (by simp only [Act.put, zs1, zs2, zs3, i64_w, i32_w]; rfl) ?_
              refine tA 6 (some 36) (bm 13 127) rfl rfl HT_.out HW_.out (by kernel_rfl) (fun _ _ _ h => h) (by rfl) hHeld (by rintro w' ⟨s0, s1, s2⟩; go_simp; with_reducible rfl) (by simp only [Act.put, zs1, zs2, zs3, i64_w, i32_w]; rfl) ?_
              refine pA 7 (some 37) (bm 13 255) rfl rfl HT_.out (by kernel_rfl) (fun _ _ _ h => h) (by rfl) (by intro w'; go_simp; with_reducible rfl) (by simp only [Act.put, zs1, zs2, zs3, i64_w, i32_w]; rfl) ?_
              refine pA 8 (some 38) (bm 13 511) rfl rfl HT_.out (by kernel_rfl) (fun _ _ _ h => h) (by rfl) (by intro w'; go_simp; with_reducible rfl) (by simp only [Act.put, zs1, zs2, zs3, i64_w, i32_w]; rfl) ?_
              refine one_ (i := 9) (N := some 39) (bm 13 1023) rfl rfl (one_of HT_.out (by kernel_rfl)) (by decide) (fun K hK => ?_)
              refine goes_ Try.func70 (by kernel_rfl) rfl #[.pointer (some ⟨g, 0, none⟩), .int .i64 (wrap64 (24 - (x292002_19.length : Int)))] (by rfl) rfl rfl (by (try simp only [List.map_toArray, List.map_cons, List.map_nil]); first | done | rfl | (simp only [List.length_drop, List.length_take]; rfl)) ?_
              with_reducible refine (spec_l20Rd_pick.calls kj19 g s0_0 t290 (wrap64 (24 - (x292002_19.length : Int))) t295 t296 w0 _ ?side1 ?side2 A30.out).mono ?_
              (case side1 => repeat (first | (with_reducible first | exact HI0.out | apply IsS113.alloc | apply IsS113.drewN | apply IsS113.drew | apply IsS113.set_1 | refine IsS113.far ?_ NB0_284.out _ | refine IsS113.far ?_ NB0_291.out _) | exact HI0.out))
              (case side2 => repeat (first | (with_reducible first | exact HB.out | apply zq7 | apply zq8 | apply zq9 | refine zr1 ?_ (IsS113.ge HI0.out) | refine zr1 ?_ GE284.out | refine zr1 ?_ GE291.out) | exact HB.out))
              rintro e w37 ⟨rfl, hi, hb, hk⟩
              refine ⟨_, rfl, ?_⟩
              replace HO_292002 := mk_ (Kd.R_mono (Kd.R_keep (IsS113.apart (show IsS113 w0 _ g s0_0 t290 from by repeat (first | (with_reducible first | exact HI0.out | apply IsS113.alloc | apply IsS113.drewN | apply IsS113.drew | apply IsS113.set_1 | refine IsS113.far ?_ NB0_284.out _ | refine IsS113.far ?_ NB0_291.out _) | exact HI0.out)) (by (with_reducible repeat (first | apply Kd.R_alloc | apply Kd.R_drewN | apply Kd.R_drew)); exact HO_292002.out) (by decide)) hk (fun _ h => h.2)) (fun _ h => h.1))
              replace BK284 := mk_ (KeepBut.blk hk (g' := gb284) (o := .cells #[.int .i64 0, .int .i64 0, .slice none 0 0] 39 (0, 0)) (by exact BK284.out) NB284_0.out (by simp))
              replace BK291 := mk_ (KeepBut.blk hk (g' := gb291) (o := .cells #[.int .i64 t285, .int .i64 (x292002_19.length : Int), .slice Ao34 x292002_19.length co34] 39 (0, 0)) (by exact BK291.out) NB291_0.out (by simp))
              replace HK := mk_ (KeepBut.trans (by repeat (first | (with_reducible first | exact HK.out | apply zm1 | apply zr7 | apply zr8 | apply zr9 | refine keep_far ?_ GW284.out _ | refine keep_far ?_ GW291.out _) | exact HK.out)) hk (.inl rfl))
              replace HB := mk_ (hb)
              replace HI0 := mk_ (hi)
              (try clear hb)
              (try clear hb2)
              (try clear hk)
              (try clear hi)
              refine hK.out _ _ ⟨(zr4 BK291.out 0).trans rfl, (zr4 BK291.out 1).trans rfl, (zr4 BK291.out 2).trans rfl⟩ (fun hHeld => ?_)
              clear hK K
              refine norm_ (a' := ?_) ?_ ?_
              rotate_left
              · show Act.put _ (some 39) _ = _
                simp only [Act.put, zs1, zs2, zs3, i64_w, i32_w]
                rfl
              refine pA 10 (some 40) (bm 13 2047) rfl rfl HT_.out (by kernel_rfl) (fun _ _ _ h => h) (by rfl) (by intro w'; go_simp; with_reducible rfl) (by simp only [Act.put, zs1, zs2, zs3, i64_w, i32_w]; rfl) ?_
              refine pA 11 (some 41) (bm 13 4095) rfl rfl HT_.out (by kernel_rfl) (fun _ _ _ h => h) (by rfl) (by intro w'; go_simp; with_reducible rfl) (by simp only [Act.put, zs1, zs2, zs3, i64_w, i32_w]; rfl) ?_
              refine last_ (i := 12) (N := none) (bm 13 8191) rfl rfl (one_of HT_.out (by kernel_rfl)) (by decide) (fun K hK => ?_)
              have hs38 : w37.cell? ⟨gb291, 1, none⟩ = some (.int .i64 (x292002_19.length : Int)) := (zr4 BK291.out 1).trans rfl
              have hfs38 := zr5 BK291.out 1
              have hns38_0 := NB284_291.out
              have hms38_0 := NB291_284.out
              refine skip_ (w1 := ?_) (by rfl) rfl ?_ ?_
              rotate_left
              · go_simp
                rfl
              refine hK.out _ _ ?_
              clear hK K
              refine done_ (done_of HT_.out (by kernel_rfl)) ?_
              obtain ⟨hcz39_0, hcz39_1, hcz39_2⟩ := cz3 BK291.out
              obtain ⟨hfz39_0, hfz39_1, hfz39_2⟩ := fz3 BK291.out
              have hnb40 := NB284_0.out
              have hnc40 := NB0_284.out
              obtain ⟨hcz41_0, hcz41_1, hcz41_2⟩ := cz3 BK284.out
              obtain ⟨hfz41_0, hfz41_1, hfz41_2⟩ := fz3 BK284.out
              try go_wp2
              refine bodyPost_ret (results_cell_row rfl _ _ gb284 39 #[.int .i64 t285, .int .i64 (wrap64 ((wrap64 ((x292002_19.length : Int) + 1)) + t295)), .slice Ao34 x292002_19.length co34] (0, 0) _ rfl (by (with_reducible repeat (first | refine zq1 ?_ _ | refine zq2 ?_ | refine zq3 ?_ _)); apply pu3; (with_reducible repeat (first | refine zq1 ?_ _ | refine zq2 ?_ | refine zq3 ?_ _)); refine zq5 ?_ NB284_291.out _; (with_reducible repeat (first | refine zq1 ?_ _ | refine zq2 ?_ | refine zq3 ?_ _)); exact BK284.out) Try.underlying39 rfl (by kernel_rfl)) rfl ?_
              exact ⟨_, by first | rfl | (simp [errW_none, errW_some] <;> rfl) | (simp [*, errW_none, errW_some] <;> rfl), by (with_reducible repeat (first | apply Kd.R_alloc | apply Kd.R_drewN | apply Kd.R_drew)); exact Kd.R_mono (Kd.R_far (p := ⟨gb284, 2, none⟩) (Kd.R_far (p := ⟨gb284, 1, none⟩) (Kd.R_far (p := ⟨gb284, 0, none⟩) (Kd.R_far (p := ⟨gb291, 1, none⟩) (Kd.R_types (Kd.R_types HO_292002.out BK291.out (by decide)) BK284.out (by decide)) (fun _ hk => hk.1.2) (.int .i64 (wrap64 ((wrap64 ((x292002_19.length : Int) + 1)) + t295)))) (fun _ hk => hk.2) (.int .i64 t285)) (fun _ hk => hk.2) (.int .i64 (wrap64 ((wrap64 ((x292002_19.length : Int) + 1)) + t295)))) (fun _ hk => hk.2) (.slice Ao34 x292002_19.length co34)) (fun _ hk => trivial), by repeat (first | (with_reducible first | exact HI0.out | apply IsS113.alloc | apply IsS113.drewN | apply IsS113.drew | apply IsS113.set_1 | refine IsS113.far ?_ NB0_284.out _ | refine IsS113.far ?_ NB0_291.out _) | exact HI0.out), by repeat (first | (with_reducible first | exact HB.out | apply zq7 | apply zq8 | apply zq9 | refine zr1 ?_ (IsS113.ge HI0.out) | refine zr1 ?_ GE284.out | refine zr1 ?_ GE291.out) | exact HB.out), by repeat (first | (with_reducible first | exact HK.out | apply zm1 | apply zr7 | apply zr8 | apply zr9 | refine keep_far ?_ GW284.out _ | refine keep_far ?_ GW291.out _) | exact HK.out)⟩
            · rw [if_neg c29] at H
              have c29b0 : (t285 == 1) = false := beq_eq_false_iff_ne.mpr c29
              have c29b1 : (t285 != 1) = true := bne_iff_ne.mpr c29
              simp only [Option.some.injEq, Prod.mk.injEq] at H
              obtain ⟨rfl, rfl, rfl, rfl⟩ := H
              have hnb42 := NB291_284.out
              have hnc42 := NB284_291.out
              have hnb43 := NB291_0.out
              have hnc43 := NB0_291.out
              obtain ⟨hcz44_0, hcz44_1, hcz44_2⟩ := cz3 BK291.out
              obtain ⟨hfz44_0, hfz44_1, hfz44_2⟩ := fz3 BK291.out
              obtain ⟨Ao45, co45, eo45⟩ := Kd.R_slice HO_292002.out
              subst eo45
              have hnb46 := NB284_0.out
              have hnc46 := NB0_284.out
              obtain ⟨hcz47_0, hcz47_1, hcz47_2⟩ := cz3 BK284.out
              obtain ⟨hfz47_0, hfz47_1, hfz47_2⟩ := fz3 BK284.out
              go_wp2
              refine bodyPost_ret (results_cell_row rfl _ _ gb284 39 #[.int .i64 t285, .int .i64 (x292002_19.length : Int), .slice Ao45 x292002_19.length co45] (0, 0) _ rfl (by (with_reducible repeat (first | refine zq1 ?_ _ | refine zq2 ?_ | refine zq3 ?_ _)); apply pu3; (with_reducible repeat (first | refine zq1 ?_ _ | refine zq2 ?_ | refine zq3 ?_ _)); refine zq5 ?_ NB284_291.out _; (with_reducible repeat (first | refine zq1 ?_ _ | refine zq2 ?_ | refine zq3 ?_ _)); exact BK284.out) Try.underlying39 rfl (by kernel_rfl)) rfl ?_
              exact ⟨_, by first | rfl | (simp [errW_none, errW_some] <;> rfl) | (simp [*, errW_none, errW_some] <;> rfl), by (with_reducible repeat (first | apply Kd.R_alloc | apply Kd.R_drewN | apply Kd.R_drew)); exact Kd.R_mono (Kd.R_far (p := ⟨gb284, 2, none⟩) (Kd.R_far (p := ⟨gb284, 1, none⟩) (Kd.R_far (p := ⟨gb284, 0, none⟩) (Kd.R_far (p := ⟨gb291, 1, none⟩) (Kd.R_types (Kd.R_types HO_292002.out BK291.out (by decide)) BK284.out (by decide)) (fun _ hk => hk.1.2) (.int .i64 (x292002_19.length : Int))) (fun _ hk => hk.2) (.int .i64 t285)) (fun _ hk => hk.2) (.int .i64 (x292002_19.length : Int))) (fun _ hk => hk.2) (.slice Ao45 x292002_19.length co45)) (fun _ hk => trivial), by repeat (first | (with_reducible first | exact HI0.out | apply IsS113.alloc | apply IsS113.drewN | apply IsS113.drew | apply IsS113.set_1 | refine IsS113.far ?_ NB0_284.out _ | refine IsS113.far ?_ NB0_291.out _) | exact HI0.out), by repeat (first | (with_reducible first | exact HB.out | apply zq7 | apply zq8 | apply zq9 | refine zr1 ?_ (IsS113.ge HI0.out) | refine zr1 ?_ GE284.out | refine zr1 ?_ GE291.out) | exact HB.out), by repeat (first | (with_reducible first | exact HK.out | apply zm1 | apply zr7 | apply zr8 | apply zr9 | refine keep_far ?_ GW284.out _ | refine keep_far ?_ GW291.out _) | exact HK.out)⟩
          · rw [if_neg c28] at H
            have c28b0 : (t285 == 0) = false := beq_eq_false_iff_ne.mpr c28
            have c28b1 : (t285 != 0) = true := bne_iff_ne.mpr c28
            by_cases c48 : t285 = 1
            · rw [if_pos c48] at H
              have c48b0 : (t285 == 1) = true := beq_iff_eq.mpr c48
              have c48b1 : (t285 != 1) = false := bne_eq_false_iff_eq.mpr c48
              clear c48
              replace H := Option.bind_eq_some_iff.mp H
              obtain ⟨⟨t297, t298⟩, A490, H⟩ := H
              try dsimp only at H
              have A49 := mk_ A490
              clear A490
              simp only [Option.some.injEq, Prod.mk.injEq] at H
              obtain ⟨rfl, rfl, rfl, rfl⟩ := H
              have hnb50 := NB291_284.out
              have hnc50 := NB284_291.out
              have hnb51 := NB291_0.out
              have hnc51 := NB0_291.out
              obtain ⟨hcz52_0, hcz52_1, hcz52_2⟩ := cz3 BK291.out
              obtain ⟨hfz52_0, hfz52_1, hfz52_2⟩ := fz3 BK291.out
              try go_wp2
              replace HO_292002 := mk_ (Kd.R_drew HO_292002.out)
              replace BK284 := mk_ (zq2 BK284.out)
              replace BK291 := mk_ (zq2 BK291.out)
              replace HI0 := mk_ (IsS113.drew HI0.out)
              replace HK := mk_ (zr8 HK.out)
              replace HB := mk_ (zq9 HB.out)
              obtain ⟨Ao54, co54, eo54⟩ := Kd.R_slice HO_292002.out
              (first | subst eo54 | (injection eo54 with f1_ f2_ f3_; have f4_ := f1_.symm; have f5_ := f3_.symm; clear f1_ f2_ f3_; subst f4_; subst f5_))
              refine start_ (n := 13) (S := fun w' => w'.cell? ⟨gb291, 0, none⟩ = some (.int .i64 t285) ∧ w'.cell? ⟨gb291, 1, none⟩ = some (.int .i64 0) ∧ w'.cell? ⟨gb291, 2, none⟩ = some (.slice Ao54 x292002_19.length co54)) (ds := [12]) (bm 13 0) (by kernel_rfl) rfl rfl ⟨(zr4 BK291.out 0).trans rfl, (zr4 BK291.out 1).trans rfl, (zr4 BK291.out 2).trans rfl⟩ (fun hHeld => ?_); refine with_tabW spec_l20Part.tab7 spec_l20Part.bits7 (fun HT_ HW_ => ?_)
              generalize wc.drew = w53 at HO_292002 BK284 BK291 HI0 HK HB hHeld ⊢
              refine pA 0 (some 30) (bm 13 1) rfl rfl HT_.out (by kernel_rfl) (fun _ _ _ h => h) (by rfl) (by intro w'; go_simp; with_reducible rfl) (by simp only [Act.put, zs1, zs2, zs3, i64_w, i32_w]; rfl) ?_
              refine pA 4 (some 34) (bm 13 17) rfl rfl HT_.out (by kernel_rfl) (fun _ _ _ h => h) (by rfl) (by intro w'; go_simp; with_reducible rfl) (by simp only [Act.put, zs1, zs2, zs3, i64_w, i32_w]; rfl) ?_
              refine pA 5 (some 35) (bm 13 49) rfl rfl HT_.out (by kernel_rfl) (fun _ _ _ h => h) (by rfl) (by intro w'; go_simp; with_reducible rfl) (by simp only [Act.put, zs1, zs2, zs3, i64_w, i32_w]; rfl) ?_
              refine tA 1 (some 31) (bm 13 51) rfl rfl HT_.out HW_.out (by kernel_rfl) (fun _ _ _ h => h) (by rfl) hHeld (by rintro w' ⟨s0, s1, s2⟩; go_simp; with_reducible rfl) (by simp only [Act.put, zs1, zs2, zs3, i64_w, i32_w]; rfl) ?_
              refine pA 2 (some 32) (bm 13 55) rfl rfl HT_.out (by kernel_rfl) (fun _ _ _ h => h) (by rfl) (by intro w'; go_simp; with_reducible rfl) (by simp only [Act.put, zs1, zs2, zs3, i64_w, i32_w]; rfl) ?_
              refine pA 3 (some 33) (bm 13 63) rfl rfl HT_.out (by kernel_rfl) (fun _ _ _ h => h) (by rfl) (by intro w'; go_simp; with_reducible rfl) (by simp only [Act.put, zs1, zs2, zs3, i64_w, i32_w]; rfl) ?_
              refine tA 6 (some 36) (bm 13 127) rfl rfl HT_.out HW_.out (by kernel_rfl) (fun _ _ _ h => h) (by rfl) hHeld (by rintro w' ⟨s0, s1, s2⟩; go_simp; with_reducible rfl) (by simp only [Act.put, zs1, zs2, zs3, i64_w, i32_w]; rfl) ?_
              refine pA 7 (some 37) (bm 13 255) rfl rfl HT_.out (by kernel_rfl) (fun _ _ _ h => h) (by rfl) (by intro w'; go_simp; with_reducible rfl) (by simp only [Act.put, zs1, zs2, zs3, i64_w, i32_w]; rfl) ?_
              refine pA 8 (some 38) (bm 13 511) rfl rfl HT_.out (by kernel_rfl) (fun _ _ _ h => h) (by rfl) (by intro w'; go_simp; with_reducible rfl) (by simp only [Act.put, zs1, zs2, zs3, i64_w, i32_w]; rfl) ?_
              refine one_ (i := 9) (N := some 39) (bm 13 1023) rfl rfl (one_of HT_.out (by kernel_rfl)) (by decide) (fun K hK => ?_)
              refine goes_ Try.func70 (by kernel_rfl) rfl #[.pointer (some ⟨g, 0, none⟩), .int .i64 (wrap64 (24 - (x292002_19.length : Int)))] (by rfl) rfl rfl (by (try simp only [List.map_toArray, List.map_cons, List.map_nil]); first | done | rfl | (simp only [List.length_drop, List.length_take]; rfl)) ?_
              with_reducible refine (spec_l20Rd_pick.calls kj19 g s0_0 t290 (wrap64 (24 - (x292002_19.length : Int))) t297 t298 w0 _ ?side1 ?side2 A49.out).mono ?_
              (case side1 => repeat (first | (with_reducible first | exact HI0.out | apply IsS113.alloc | apply IsS113.drewN | apply IsS113.drew | apply IsS113.set_1 | refine IsS113.far ?_ NB0_284.out _ | refine IsS113.far ?_ NB0_291.out _) | exact HI0.out))
              (case side2 => repeat (first | (with_reducible first | exact HB.out | apply zq7 | apply zq8 | apply zq9 | refine zr1 ?_ (IsS113.ge HI0.out) | refine zr1 ?_ GE284.out | refine zr1 ?_ GE291.out) | exact HB.out))
              rintro e w55 ⟨rfl, hi, hb, hk⟩
              refine ⟨_, rfl, ?_⟩
              replace HO_292002 := mk_ (Kd.R_mono (Kd.R_keep (IsS113.apart (show IsS113 w0 _ g s0_0 t290 from by repeat (first | (with_reducible first | exact HI0.out | apply IsS113.alloc | apply IsS113.drewN | apply IsS113.drew | apply IsS113.set_1 | refine IsS113.far ?_ NB0_284.out _ | refine IsS113.far ?_ NB0_291.out _) | exact HI0.out)) (by (with_reducible repeat (first | apply Kd.R_alloc | apply Kd.R_drewN | apply Kd.R_drew)); exact HO_292002.out) (by decide)) hk (fun _ h => h.2)) (fun _ h => h.1))
              replace BK284 := mk_ (KeepBut.blk hk (g' := gb284) (o := .cells #[.int .i64 0, .int .i64 0, .slice none 0 0] 39 (0, 0)) (by exact BK284.out) NB284_0.out (by simp))
              replace BK291 := mk_ (KeepBut.blk hk (g' := gb291) (o := .cells #[.int .i64 t285, .int .i64 0, .slice Ao54 x292002_19.length co54] 39 (0, 0)) (by exact BK291.out) NB291_0.out (by simp))
              replace HK := mk_ (KeepBut.trans (by repeat (first | (with_reducible first | exact HK.out | apply zm1 | apply zr7 | apply zr8 | apply zr9 | refine keep_far ?_ GW284.out _ | refine keep_far ?_ GW291.out _) | exact HK.out)) hk (.inl rfl))
              replace HB := mk_ (hb)
              replace HI0 := mk_ (hi)
              (try clear hb)
              (try clear hb2)
              (try clear hk)
              (try clear hi)
              refine hK.out _ _ ⟨(zr4 BK291.out 0).trans rfl, (zr4 BK291.out 1).trans rfl, (zr4 BK291.out 2).trans rfl⟩ (fun hHeld => ?_)
              clear hK K
              refine norm_ (a' := ?_) ?_ ?_
              rotate_left
              · show Act.put _ (some 39) _ = _
                simp only [Act.put, zs1, zs2, zs3, i64_w, i32_w]
                rfl
              refine pA 10 (some 40) (bm 13 2047) rfl rfl HT_.out (by kernel_rfl) (fun _ _ _ h => h) (by rfl) (by intro w'; go_simp; with_reducible rfl) (by simp only [Act.put, zs1, zs2, zs3, i64_w, i32_w]; rfl) ?_
              refine pA 11 (some 41) (bm 13 4095) rfl rfl HT_.out (by kernel_rfl) (fun _ _ _ h => h) (by rfl) (by intro w'; go_simp; with_reducible rfl) (by simp only [Act.put, zs1, zs2, zs3, i64_w, i32_w]; rfl) ?_
              refine last_ (i := 12) (N := none) (bm 13 8191) rfl rfl (one_of HT_.out (by kernel_rfl)) (by decide) (fun K hK => ?_)
              have hs56 : w55.cell? ⟨gb291, 1, none⟩ = some (.int .i64 0) := (zr4 BK291.out 1).trans rfl
              have hfs56 := zr5 BK291.out 1
              have hns56_0 := NB284_291.out
              have hms56_0 := NB291_284.out
              refine skip_ (w1 := ?_) (by rfl) rfl ?_ ?_
              rotate_left
              · go_simp
                rfl
              refine hK.out _ _ ?_
              clear hK K
              refine done_ (done_of HT_.out (by kernel_rfl)) ?_
              obtain ⟨hcz57_0, hcz57_1, hcz57_2⟩ := cz3 BK291.out
              obtain ⟨hfz57_0, hfz57_1, hfz57_2⟩ := fz3 BK291.out
              have hnb58 := NB284_0.out
              have hnc58 := NB0_284.out
              obtain ⟨hcz59_0, hcz59_1, hcz59_2⟩ := cz3 BK284.out
              obtain ⟨hfz59_0, hfz59_1, hfz59_2⟩ := fz3 BK284.out
              try go_wp2
              refine bodyPost_ret (results_cell_row rfl _ _ gb284 39 #[.int .i64 t285, .int .i64 (wrap64 ((wrap64 ((x292002_19.length : Int) + 1)) + t297)), .slice Ao54 x292002_19.length co54] (0, 0) _ rfl (by (with_reducible repeat (first | refine zq1 ?_ _ | refine zq2 ?_ | refine zq3 ?_ _)); apply pu3; (with_reducible repeat (first | refine zq1 ?_ _ | refine zq2 ?_ | refine zq3 ?_ _)); refine zq5 ?_ NB284_291.out _; (with_reducible repeat (first | refine zq1 ?_ _ | refine zq2 ?_ | refine zq3 ?_ _)); exact BK284.out) Try.underlying39 rfl (by kernel_rfl)) rfl ?_
              exact ⟨_, by first | rfl | (simp [errW_none, errW_some] <;> rfl) | (simp [*, errW_none, errW_some] <;> rfl), by (with_reducible repeat (first | apply Kd.R_alloc | apply Kd.R_drewN | apply Kd.R_drew)); exact Kd.R_mono (Kd.R_far (p := ⟨gb284, 2, none⟩) (Kd.R_far (p := ⟨gb284, 1, none⟩) (Kd.R_far (p := ⟨gb284, 0, none⟩) (Kd.R_far (p := ⟨gb291, 1, none⟩) (Kd.R_types (Kd.R_types HO_292002.out BK291.out (by decide)) BK284.out (by decide)) (fun _ hk => hk.1.2) (.int .i64 (wrap64 ((wrap64 ((x292002_19.length : Int) + 1)) + t297)))) (fun _ hk => hk.2) (.int .i64 t285)) (fun _ hk => hk.2) (.int .i64 (wrap64 ((wrap64 ((x292002_19.length : Int) + 1)) + t297)))) (fun _ hk => hk.2) (.slice Ao54 x292002_19.length co54)) (fun _ hk => trivial), by repeat (first | (with_reducible first | exact HI0.out | apply IsS113.alloc | apply IsS113.drewN | apply IsS113.drew | apply IsS113.set_1 | refine IsS113.far ?_ NB0_284.out _ | refine IsS113.far ?_ NB0_291.out _) | exact HI0.out), by repeat (first | (with_reducible first | exact HB.out | apply zq7 | apply zq8 | apply zq9 | refine zr1 ?_ (IsS113.ge HI0.out) | refine zr1 ?_ GE284.out | refine zr1 ?_ GE291.out) | exact HB.out), by repeat (first | (with_reducible first | exact HK.out | apply zm1 | apply zr7 | apply zr8 | apply zr9 | refine keep_far ?_ GW284.out _ | refine keep_far ?_ GW291.out _) | exact HK.out)⟩
            · rw [if_neg c48] at H
              have c48b0 : (t285 == 1) = false := beq_eq_false_iff_ne.mpr c48
              have c48b1 : (t285 != 1) = true := bne_iff_ne.mpr c48
              simp only [Option.some.injEq, Prod.mk.injEq] at H
              obtain ⟨rfl, rfl, rfl, rfl⟩ := H
              have hnb60 := NB291_284.out
              have hnc60 := NB284_291.out
              have hnb61 := NB291_0.out
              have hnc61 := NB0_291.out
              obtain ⟨hcz62_0, hcz62_1, hcz62_2⟩ := cz3 BK291.out
              obtain ⟨hfz62_0, hfz62_1, hfz62_2⟩ := fz3 BK291.out
              have hnb63 := NB284_0.out
              have hnc63 := NB0_284.out
              obtain ⟨hcz64_0, hcz64_1, hcz64_2⟩ := cz3 BK284.out
              obtain ⟨hfz64_0, hfz64_1, hfz64_2⟩ := fz3 BK284.out
              obtain ⟨Ao65, co65, eo65⟩ := Kd.R_slice HO_292002.out
              subst eo65
              go_wp2
              refine bodyPost_ret (results_cell_row rfl _ _ gb284 39 #[.int .i64 t285, .int .i64 0, .slice Ao65 x292002_19.length co65] (0, 0) _ rfl (by (with_reducible repeat (first | refine zq1 ?_ _ | refine zq2 ?_ | refine zq3 ?_ _)); apply pu3; (with_reducible repeat (first | refine zq1 ?_ _ | refine zq2 ?_ | refine zq3 ?_ _)); exact BK284.out) Try.underlying39 rfl (by kernel_rfl)) rfl ?_
              exact ⟨_, by first | rfl | (simp [errW_none, errW_some] <;> rfl) | (simp [*, errW_none, errW_some] <;> rfl), by (with_reducible repeat (first | apply Kd.R_alloc | apply Kd.R_drewN | apply Kd.R_drew)); exact Kd.R_mono (Kd.R_far (p := ⟨gb284, 2, none⟩) (Kd.R_far (p := ⟨gb284, 1, none⟩) (Kd.R_far (p := ⟨gb284, 0, none⟩) (Kd.R_types HO_292002.out BK284.out (by decide)) (fun _ hk => hk.2) (.int .i64 t285)) (fun _ hk => hk.2) (.int .i64 0)) (fun _ hk => hk.2) (.slice Ao65 x292002_19.length co65)) (fun _ hk => trivial), by repeat (first | (with_reducible first | exact HI0.out | apply IsS113.alloc | apply IsS113.drewN | apply IsS113.drew | apply IsS113.set_1 | refine IsS113.far ?_ NB0_284.out _ | refine IsS113.far ?_ NB0_291.out _) | exact HI0.out), by repeat (first | (with_reducible first | exact HB.out | apply zq7 | apply zq8 | apply zq9 | refine zr1 ?_ (IsS113.ge HI0.out) | refine zr1 ?_ GE284.out | refine zr1 ?_ GE291.out) | exact HB.out), by repeat (first | (with_reducible first | exact HK.out | apply zm1 | apply zr7 | apply zr8 | apply zr9 | refine keep_far ?_ GW284.out _ | refine keep_far ?_ GW291.out _) | exact HK.out)⟩

/-! ### spec_l20PartOr: function 78 -/
def spec_l20PartOr.f (k : Nat) (s0_0 : List Int) (s0_1 : Int) (a1 : Int) : Option (Int × Int × List Int × Int) := (spec_l20Part.f k s0_0 s0_1).bind fun bt300 => ((spec_l20Rd_odd.f k s0_0 bt300.2.2.2 a1).bind fun bt307 => (if bt307.1 = true then ((spec_l20Rd_pick.f k s0_0 bt307.2 3).bind fun bt309 => (if bt309.1 = 0 then ((some (([(-1), 4, 1] : List Int) : List Int)).bind fun y311 => ((spec_l20Rd_pick.f k s0_0 bt309.2 3).bind fun bt314 => (if 0 ≤ bt314.1 then (if bt314.1 < (y311.length : Int) then (some (rd y311 bt314.1, bt300.2.1, bt300.2.2.1, bt314.2)) else (none)) else (none)))) else (if bt309.1 = 1 then ((some (([(-1), 25, 3] : List Int) : List Int)).bind fun y317 => ((spec_l20Rd_pick.f k s0_0 bt309.2 3).bind fun bt320 => (if 0 ≤ bt320.1 then (if bt320.1 < (y317.length : Int) then (some (bt300.1, rd y317 bt320.1, bt300.2.2.1, bt320.2)) else (none)) else (none)))) else ((some (([1, 2, 3, 4, 5, 6, 7, 8] : List Int) : List Int)).bind fun y323 => (if bt300.2.2.1.length + y323.length < 140737488355328 then (some (bt300.1, bt300.2.1, (bt300.2.2.1 ++ y323), bt309.2)) else (none)))))) else (some (bt300.1, bt300.2.1, bt300.2.2.1, bt307.2))))
theorem spec_l20PartOr.mono : ∀ a0 a1 a2 k, LeO (spec_l20PartOr.f k a0 a1 a2) (spec_l20PartOr.f (k + 1) a0 a1 a2) := by
 intro a0 a1 a2 k
 unfold spec_l20PartOr.f
 repeat' first
     | (with_reducible exact spec_l20Part.mono _ _ _)
     | (with_reducible exact spec_l20Rd_odd.mono _ _ _ _)
     | (with_reducible exact spec_l20Rd_pick.mono _ _ _ _)
     | (with_reducible exact LeO.refl _)
     | (with_reducible exact LeO.none _)
     | (with_reducible refine LeO.ite ?_ ?_)
     | (with_reducible refine LeO.bind ?_ (fun _ => ?_))
     | exact spec_l20Part.mono _ _ _
     | exact spec_l20Rd_odd.mono _ _ _ _
     | exact spec_l20Rd_pick.mono _ _ _ _
     | exact LeO.none _
     | refine LeO.ite ?_ ?_
     | refine LeO.bind ?_ (fun _ => ?_)
set_option maxHeartbeats 60000000 in
set_option maxRecDepth 100000 in
theorem spec_l20PartOr.calls (k : Nat) (g : Nat) (s0_0 : List Int) (s0_1 : Int) (a1 : Int) (r1 : Int) (r2 : Int) (r3 : List Int) (r4 : Int) (w0 w : World) (hI : IsS113 w0 w g s0_0 s0_1) (hB : Below w0.heap.size w0 w) (h : spec_l20PartOr.f k s0_0 s0_1 a1 = some (r1, r2, r3, r4)) :
    Calls Try.prog 78 #[.pointer (some ⟨g, 0, none⟩), .int .i64 a1] w fun e w' => ∃ v2_ : Value, e = .returned (.agg #[.int .i64 r1, .int .i64 r2, v2_]) ∧ Kd.R (Kd.int .u8) 5 w' w.heap.size (fun _ => True) v2_ r3 ∧ IsS113 w0 w' g s0_0 r4 ∧ Below w0.heap.size w0 w' ∧ KeepBut w w' g none := by
 have hu39 := Try.underlying39
 have HI0 := mk_ hI
 have HK := mk_ (KeepBut.refl w g none)
 have HL := mk_ hB.size
 clear hI
 have HW0 := mk_ hB.size
 have HB := mk_ hB
 clear hB
 have H : ((spec_l20Part.f k s0_0 s0_1).bind fun bt300 => ((spec_l20Rd_odd.f k s0_0 bt300.2.2.2 a1).bind fun bt307 => (if bt307.1 = true then ((spec_l20Rd_pick.f k s0_0 bt307.2 3).bind fun bt309 => (if bt309.1 = 0 then ((some (([(-1), 4, 1] : List Int) : List Int)).bind fun y311 => ((spec_l20Rd_pick.f k s0_0 bt309.2 3).bind fun bt314 => (if 0 ≤ bt314.1 then (if bt314.1 < (y311.length : Int) then (some (rd y311 bt314.1, bt300.2.1, bt300.2.2.1, bt314.2)) else (none)) else (none)))) else (if bt309.1 = 1 then ((some (([(-1), 25, 3] : List Int) : List Int)).bind fun y317 => ((spec_l20Rd_pick.f k s0_0 bt309.2 3).bind fun bt320 => (if 0 ≤ bt320.1 then (if bt320.1 < (y317.length : Int) then (some (bt300.1, rd y317 bt320.1, bt300.2.2.1, bt320.2)) else (none)) else (none)))) else ((some (([1, 2, 3, 4, 5, 6, 7, 8] : List Int) : List Int)).bind fun y323 => (if bt300.2.2.1.length + y323.length < 140737488355328 then (some (bt300.1, bt300.2.1, (bt300.2.2.1 ++ y323), bt309.2)) else (none)))))) else (some (bt300.1, bt300.2.1, bt300.2.2.1, bt307.2))))) = some (r1, r2, r3, r4) := h
 clear h
 replace H := Option.bind_eq_some_iff.mp H
 obtain ⟨⟨t300, t301, t302, t305⟩, A30, H⟩ := H
 try dsimp only at H
 have A3 := mk_ A30
 clear A30
 replace H := Option.bind_eq_some_iff.mp H
 obtain ⟨⟨t307, t308⟩, A40, H⟩ := H
 try dsimp only at H
 have A4 := mk_ A40
 clear A40
 have HH_ := mk_ H
 clear H
 go_enter Try.func78, Try.ntmps78
 go_wp2_with (first | ((with_reducible refine gate_dst (N := 4) rfl ?_); refine box_event ?hg (N := 4) ?hd (cs := #[.int .i64 0, .int .i64 0, .slice none 0 0]) (t := 39) ?hr ?_; (case hd => rfl); (case hg => rfl); (case hr => first | (go_simp; done) | (go_simp; rfl)); intro gb299 hg w11 hbox hb; replace HB := mk_ (zr3 (by repeat (first | (with_reducible first | exact HB.out | apply zq7 | apply zq8 | apply zq9 | refine zr1 ?_ (IsS113.ge HI0.out)) | exact HB.out)) hb); have BK299 := mk_ (hbox); have GW299 := mk_ ((by rw [hg]; exact (keep_size (w := w) (g := g) (row := none) (by repeat (first | (with_reducible first | exact HK.out | apply zm1 | apply zr7 | apply zr8 | apply zr9) | exact HK.out))) : w.heap.size ≤ gb299)); have GE299 := mk_ ((Nat.le_trans HW0.out (by rw [hg]; exact (keep_size (w := w) (g := g) (row := none) (by repeat (first | (with_reducible first | exact HK.out | apply zm1 | apply zr7 | apply zr8 | apply zr9) | exact HK.out))) : w.heap.size ≤ gb299) : w0.heap.size ≤ gb299)); replace HK := mk_ (KeepBut.trans (by repeat (first | (with_reducible first | exact HK.out | apply zm1 | apply zr7 | apply zr8 | apply zr9) | exact HK.out)) (KeepBut.of_below hb g none) (.inl rfl)); have NB0_299 := mk_ ((by rw [hg]; exact zm2 (IsS113.lt (show IsS113 w0 _ g s0_0 s0_1 from by repeat (first | (with_reducible first | exact HI0.out | apply IsS113.alloc | apply IsS113.drewN | apply IsS113.drew | apply IsS113.set_1) | exact HI0.out))) : g ≠ gb299)); replace HI0 := mk_ (IsS113.below (by repeat (first | (with_reducible first | exact HI0.out | apply IsS113.alloc | apply IsS113.drewN | apply IsS113.drew | apply IsS113.set_1) | exact HI0.out)) hb); have NB299_0 := mk_ NB0_299.out.symm; clear hb hbox hg) | ((with_reducible refine gate_callee (f := 99) rfl ?_); refine goesL_ (some 7) rfl rfl Try.func99 (by kernel_rfl) rfl #[.pointer (some ⟨g, 0, none⟩)] rfl (by (try simp only [List.map_toArray, List.map_cons, List.map_nil]); first | done | rfl | (simp only [List.length_drop, List.length_take]; rfl)) ?_; (with_reducible refine (spec_l20Part.calls k g s0_0 s0_1 t300 t301 t302 t305 w0 _ ?side1 ?side2 A3.out).mono ?_); (case side1 => repeat (first | (with_reducible first | exact HI0.out | apply IsS113.alloc | apply IsS113.drewN | apply IsS113.drew | apply IsS113.set_1 | refine IsS113.far ?_ NB0_299.out _) | exact HI0.out)); (case side2 => repeat (first | (with_reducible first | exact HB.out | apply zq7 | apply zq8 | apply zq9 | refine zr1 ?_ (IsS113.ge HI0.out) | refine zr1 ?_ GE299.out) | exact HB.out)); rintro e w12 ⟨v303, rfl, ho0, hi, hb, hk⟩; refine ⟨_, rfl, ?_⟩; replace BK299 := mk_ (KeepBut.blk hk (g' := gb299) (o := .cells #[.int .i64 0, .int .i64 0, .slice none 0 0] 39 (0, 0)) (by exact BK299.out) NB299_0.out (by simp)); have HO304 := mk_ (Kd.R_lower ho0 (keep_size (w := w) (g := g) (row := none) (by repeat (first | (with_reducible first | exact HK.out | apply zm1 | apply zr7 | apply zr8 | apply zr9 | refine keep_far ?_ GW299.out _) | exact HK.out)))); replace HK := mk_ (KeepBut.trans (by repeat (first | (with_reducible first | exact HK.out | apply zm1 | apply zr7 | apply zr8 | apply zr9 | refine keep_far ?_ GW299.out _) | exact HK.out)) hk (.inl rfl)); replace HB := mk_ (hb); replace HI0 := mk_ (hi); (try clear hb); (try clear hb2); (try clear hk); (try clear hi); (try clear ho0)) | ((with_reducible refine gate_dst (N := 5) rfl ?_); refine Aside0.out ?_))
 have H := HH_.out
 clear HH_
 by_cases c5 : t307 = true
 rotate_left
 · replace c5 := Bool.eq_false_iff.mpr c5
   subst c5
   have H1 : (some (t300, t301, t302, t308)) = some (r1, r2, r3, r4) := by rw [if_neg (show ¬ (false = true) by decide)] at H; exact H
   clear H
   have H := H1
   clear H1
   simp only [Option.some.injEq, Prod.mk.injEq] at H
   obtain ⟨rfl, rfl, rfl, rfl⟩ := H
   refine mk_ ?_
   go_wp2_with (first | ((with_reducible refine gate_dst (N := 5) rfl ?_); refine box_event ?hg (N := 5) ?hd (cs := #[.int .i64 0, .int .i64 0, .slice none 0 0]) (t := 39) ?hr ?_; (case hd => rfl); (case hg => rfl); (case hr => first | (go_simp; done) | (go_simp; rfl)); intro gb306 hg w68 hbox hb; replace HO304 := mk_ (Kd.R_below (by (with_reducible repeat (first | apply Kd.R_alloc | apply Kd.R_drewN | apply Kd.R_drew)); exact HO304.out) hb); replace HB := mk_ (zr3 (by repeat (first | (with_reducible first | exact HB.out | apply zq7 | apply zq8 | apply zq9 | refine zr1 ?_ (IsS113.ge HI0.out) | refine zr1 ?_ GE299.out) | exact HB.out)) hb); have BK306 := mk_ (hbox); have GW306 := mk_ ((by rw [hg]; exact (keep_size (w := w) (g := g) (row := none) (by repeat (first | (with_reducible first | exact HK.out | apply zm1 | apply zr7 | apply zr8 | apply zr9 | refine keep_far ?_ GW299.out _) | exact HK.out))) : w.heap.size ≤ gb306)); have GE306 := mk_ ((Nat.le_trans HW0.out (by rw [hg]; exact (keep_size (w := w) (g := g) (row := none) (by repeat (first | (with_reducible first | exact HK.out | apply zm1 | apply zr7 | apply zr8 | apply zr9 | refine keep_far ?_ GW299.out _) | exact HK.out))) : w.heap.size ≤ gb306) : w0.heap.size ≤ gb306)); replace HK := mk_ (KeepBut.trans (by repeat (first | (with_reducible first | exact HK.out | apply zm1 | apply zr7 | apply zr8 | apply zr9 | refine keep_far ?_ GW299.out _) | exact HK.out)) (KeepBut.of_below hb g none) (.inl rfl)); have NB299_306 := mk_ ((by rw [hg]; exact zm2 (zr6 (by exact BK299.out)) : gb299 ≠ gb306)); replace BK299 := mk_ (zq6 (by exact BK299.out) hb); have NB306_299 := mk_ NB299_306.out.symm; have NB0_306 := mk_ ((by rw [hg]; exact zm2 (IsS113.lt (show IsS113 w0 _ g s0_0 t305 from by repeat (first | (with_reducible first | exact HI0.out | apply IsS113.alloc | apply IsS113.drewN | apply IsS113.drew | apply IsS113.set_1 | refine IsS113.far ?_ NB0_299.out _) | exact HI0.out))) : g ≠ gb306)); replace HI0 := mk_ (IsS113.below (by repeat (first | (with_reducible first | exact HI0.out | apply IsS113.alloc | apply IsS113.drewN | apply IsS113.drew | apply IsS113.set_1 | refine IsS113.far ?_ NB0_299.out _) | exact HI0.out)) hb); have NB306_0 := mk_ NB0_306.out.symm; clear hb hbox hg; have hnb69 := NB306_299.out; have hnc69 := NB299_306.out; have hnb70 := NB306_0.out; have hnc70 := NB0_306.out; obtain ⟨hcz71_0, hcz71_1, hcz71_2⟩ := cz3 BK306.out; obtain ⟨hfz71_0, hfz71_1, hfz71_2⟩ := fz3 BK306.out; obtain ⟨Ao72, co72, eo72⟩ := Kd.R_slice HO304.out; subst eo72) | ((with_reducible refine gate_callee (f := 98) rfl ?_); refine goesL_ (some 10) rfl rfl Try.func98 (by kernel_rfl) rfl #[.pointer (some ⟨g, 0, none⟩), .int .i64 a1] rfl (by (try simp only [List.map_toArray, List.map_cons, List.map_nil]); first | done | rfl | (simp only [List.length_drop, List.length_take]; rfl)) ?_; (with_reducible refine (spec_l20Rd_odd.calls k g s0_0 t305 a1 false t308 w0 _ ?side1 ?side2 A4.out).mono ?_); (case side1 => repeat (first | (with_reducible first | exact HI0.out | apply IsS113.alloc | apply IsS113.drewN | apply IsS113.drew | apply IsS113.set_1 | refine IsS113.far ?_ NB0_299.out _ | refine IsS113.far ?_ NB0_306.out _) | exact HI0.out)); (case side2 => repeat (first | (with_reducible first | exact HB.out | apply zq7 | apply zq8 | apply zq9 | refine zr1 ?_ (IsS113.ge HI0.out) | refine zr1 ?_ GE299.out | refine zr1 ?_ GE306.out) | exact HB.out)); rintro e w73 ⟨rfl, hi, hb, hk⟩; refine ⟨_, rfl, ?_⟩; replace BK299 := mk_ (KeepBut.blk hk (g' := gb299) (o := .cells #[.int .i64 0, .int .i64 0, .slice none 0 0] 39 (0, 0)) (by (with_reducible repeat (first | refine zq1 ?_ _ | refine zq2 ?_ | refine zq3 ?_ _)); refine fa3 ?_ NB299_306.out; (with_reducible repeat (first | refine zq1 ?_ _ | refine zq2 ?_ | refine zq3 ?_ _)); exact BK299.out) NB299_0.out (by simp)); replace HO304 := mk_ (Kd.R_mono (Kd.R_keep (IsS113.apart (show IsS113 w0 _ g s0_0 t305 from by repeat (first | (with_reducible first | exact HI0.out | apply IsS113.alloc | apply IsS113.drewN | apply IsS113.drew | apply IsS113.set_1 | refine IsS113.far ?_ NB0_299.out _ | refine IsS113.far ?_ NB0_306.out _) | exact HI0.out)) (by (with_reducible repeat (first | apply Kd.R_alloc | apply Kd.R_drewN | apply Kd.R_drew)); exact (Kd.R_mono (Kd.R_far (p := ⟨gb306, 2, none⟩) (Kd.R_far (p := ⟨gb306, 1, none⟩) (Kd.R_far (p := ⟨gb306, 0, none⟩) (Kd.R_types HO304.out BK306.out (by decide)) (fun _ hk => hk.2) (.int .i64 t300)) (fun _ hk => hk.2) (.int .i64 t301)) (fun _ hk => hk.2) (.slice Ao72 t302.length co72)) (fun _ h_ => h_.1))) (by decide)) hk (fun _ h => h.2)) (fun _ h => h.1)); replace BK306 := mk_ (KeepBut.blk hk (g' := gb306) (o := .cells #[.int .i64 t300, .int .i64 t301, .slice Ao72 t302.length co72] 39 (0, 0)) (by (with_reducible repeat (first | refine zq1 ?_ _ | refine zq2 ?_ | refine zq3 ?_ _)); apply pu3; (with_reducible repeat (first | refine zq1 ?_ _ | refine zq2 ?_ | refine zq3 ?_ _)); exact BK306.out) NB306_0.out (by simp)); replace HK := mk_ (KeepBut.trans (by repeat (first | (with_reducible first | exact HK.out | apply zm1 | apply zr7 | apply zr8 | apply zr9 | refine keep_far ?_ GW299.out _ | refine keep_far ?_ GW306.out _) | exact HK.out)) hk (.inl rfl)); replace HB := mk_ (hb); replace HI0 := mk_ (hi); (try clear hb); (try clear hb2); (try clear hk); (try clear hi); obtain ⟨hcz74_0, hcz74_1, hcz74_2⟩ := cz3 BK306.out; obtain ⟨hfz74_0, hfz74_1, hfz74_2⟩ := fz3 BK306.out; have hnb75 := NB299_0.out; have hnc75 := NB0_299.out; obtain ⟨hcz76_0, hcz76_1, hcz76_2⟩ := cz3 BK299.out; obtain ⟨hfz76_0, hfz76_1, hfz76_2⟩ := fz3 BK299.out))
   refine bodyPost_ret (results_cell_row rfl _ _ gb299 39 #[.int .i64 t300, .int .i64 t301, .slice Ao72 t302.length co72] (0, 0) _ rfl (by (with_reducible repeat (first | refine zq1 ?_ _ | refine zq2 ?_ | refine zq3 ?_ _)); apply pu3; (with_reducible repeat (first | refine zq1 ?_ _ | refine zq2 ?_ | refine zq3 ?_ _)); exact BK299.out) Try.underlying39 rfl (by kernel_rfl)) rfl ?_
   exact ⟨_, by first | rfl | (simp [errW_none, errW_some] <;> rfl) | (simp [*, errW_none, errW_some] <;> rfl), by (with_reducible repeat (first | apply Kd.R_alloc | apply Kd.R_drewN | apply Kd.R_drew)); exact Kd.R_mono (Kd.R_far (p := ⟨gb299, 2, none⟩) (Kd.R_far (p := ⟨gb299, 1, none⟩) (Kd.R_far (p := ⟨gb299, 0, none⟩) (Kd.R_types HO304.out BK299.out (by decide)) (fun _ hk => hk.2) (.int .i64 t300)) (fun _ hk => hk.2) (.int .i64 t301)) (fun _ hk => hk.2) (.slice Ao72 t302.length co72)) (fun _ hk => trivial), by repeat (first | (with_reducible first | exact HI0.out | apply IsS113.alloc | apply IsS113.drewN | apply IsS113.drew | apply IsS113.set_1 | refine IsS113.far ?_ NB0_299.out _ | refine IsS113.far ?_ NB0_306.out _) | exact HI0.out), by repeat (first | (with_reducible first | exact HB.out | apply zq7 | apply zq8 | apply zq9 | refine zr1 ?_ (IsS113.ge HI0.out) | refine zr1 ?_ GE299.out | refine zr1 ?_ GE306.out) | exact HB.out), by repeat (first | (with_reducible first | exact HK.out | apply zm1 | apply zr7 | apply zr8 | apply zr9 | refine keep_far ?_ GW299.out _ | refine keep_far ?_ GW306.out _) | exact HK.out)⟩
 subst c5
 have H1 : ((spec_l20Rd_pick.f k s0_0 t308 3).bind fun bt309 => (if bt309.1 = 0 then ((some (([(-1), 4, 1] : List Int) : List Int)).bind fun y311 => ((spec_l20Rd_pick.f k s0_0 bt309.2 3).bind fun bt314 => (if 0 ≤ bt314.1 then (if bt314.1 < (y311.length : Int) then (some (rd y311 bt314.1, t301, t302, bt314.2)) else (none)) else (none)))) else (if bt309.1 = 1 then ((some (([(-1), 25, 3] : List Int) : List Int)).bind fun y317 => ((spec_l20Rd_pick.f k s0_0 bt309.2 3).bind fun bt320 => (if 0 ≤ bt320.1 then (if bt320.1 < (y317.length : Int) then (some (t300, rd y317 bt320.1, t302, bt320.2)) else (none)) else (none)))) else ((some (([1, 2, 3, 4, 5, 6, 7, 8] : List Int) : List Int)).bind fun y323 => (if t302.length + y323.length < 140737488355328 then (some (t300, t301, (t302 ++ y323), bt309.2)) else (none)))))) = some (r1, r2, r3, r4) := by rw [if_pos rfl] at H; exact H
 clear H
 have H := H1
 clear H1
 replace H := Option.bind_eq_some_iff.mp H
 obtain ⟨⟨t309, t310⟩, A60, H⟩ := H
 try dsimp only at H
 have A6 := mk_ A60
 clear A60
 by_cases c7 : t309 = 0
 · rw [if_pos c7] at H
   have c7b0 : (t309 == 0) = true := beq_iff_eq.mpr c7
   have c7b1 : (t309 != 0) = false := bne_eq_false_iff_eq.mpr c7
   clear c7
   obtain ⟨y311, hy311⟩ : ∃ y_ : List Int, y_ = (([(-1), 4, 1] : List Int)) := ⟨_, rfl⟩
   replace H : ((spec_l20Rd_pick.f k s0_0 t310 3).bind fun bt314 => (if 0 ≤ bt314.1 then (if bt314.1 < (y311.length : Int) then (some (rd y311 bt314.1, t301, t302, bt314.2)) else (none)) else (none))) = some (r1, r2, r3, r4) := by first | (rw [hy311]; with_reducible exact H) | (have H2_ := (Option.bind_some _ _).symm.trans H; rw [hy311]; with_reducible exact H2_) | (have H2_ := (Option.bind_some _ _).symm.trans H; with_reducible exact H2_) | with_reducible exact H | (rw [hy311]; exact H) | exact H
   have Ny311 := mk_ hy311
   clear hy311
   replace H := Option.bind_eq_some_iff.mp H
   obtain ⟨⟨t314, t315⟩, A80, H⟩ := H
   try dsimp only at H
   have A8 := mk_ A80
   clear A80
   have HH_ := mk_ H
   clear H
   refine mk_ ?_
   go_wp2_with (first | ((with_reducible refine gate_dst (N := 5) rfl ?_); refine box_event ?hg (N := 5) ?hd (cs := #[.int .i64 0, .int .i64 0, .slice none 0 0]) (t := 39) ?hr ?_; (case hd => rfl); (case hg => rfl); (case hr => first | (go_simp; done) | (go_simp; rfl)); intro gb306 hg w13 hbox hb; replace HO304 := mk_ (Kd.R_below (by (with_reducible repeat (first | apply Kd.R_alloc | apply Kd.R_drewN | apply Kd.R_drew)); exact HO304.out) hb); replace HB := mk_ (zr3 (by repeat (first | (with_reducible first | exact HB.out | apply zq7 | apply zq8 | apply zq9 | refine zr1 ?_ (IsS113.ge HI0.out) | refine zr1 ?_ GE299.out) | exact HB.out)) hb); have BK306 := mk_ (hbox); have GW306 := mk_ ((by rw [hg]; exact (keep_size (w := w) (g := g) (row := none) (by repeat (first | (with_reducible first | exact HK.out | apply zm1 | apply zr7 | apply zr8 | apply zr9 | refine keep_far ?_ GW299.out _) | exact HK.out))) : w.heap.size ≤ gb306)); have GE306 := mk_ ((Nat.le_trans HW0.out (by rw [hg]; exact (keep_size (w := w) (g := g) (row := none) (by repeat (first | (with_reducible first | exact HK.out | apply zm1 | apply zr7 | apply zr8 | apply zr9 | refine keep_far ?_ GW299.out _) | exact HK.out))) : w.heap.size ≤ gb306) : w0.heap.size ≤ gb306)); replace HK := mk_ (KeepBut.trans (by repeat (first | (with_reducible first | exact HK.out | apply zm1 | apply zr7 | apply zr8 | apply zr9 | refine keep_far ?_ GW299.out _) | exact HK.out)) (KeepBut.of_below hb g none) (.inl rfl)); have NB299_306 := mk_ ((by rw [hg]; exact zm2 (zr6 (by exact BK299.out)) : gb299 ≠ gb306)); replace BK299 := mk_ (zq6 (by exact BK299.out) hb); have NB306_299 := mk_ NB299_306.out.symm; have NB0_306 := mk_ ((by rw [hg]; exact zm2 (IsS113.lt (show IsS113 w0 _ g s0_0 t305 from by repeat (first | (with_reducible first | exact HI0.out | apply IsS113.alloc | apply IsS113.drewN | apply IsS113.drew | apply IsS113.set_1 | refine IsS113.far ?_ NB0_299.out _) | exact HI0.out))) : g ≠ gb306)); replace HI0 := mk_ (IsS113.below (by repeat (first | (with_reducible first | exact HI0.out | apply IsS113.alloc | apply IsS113.drewN | apply IsS113.drew | apply IsS113.set_1 | refine IsS113.far ?_ NB0_299.out _) | exact HI0.out)) hb); have NB306_0 := mk_ NB0_306.out.symm; clear hb hbox hg; have hnb14 := NB306_299.out; have hnc14 := NB299_306.out; have hnb15 := NB306_0.out; have hnc15 := NB0_306.out; obtain ⟨hcz16_0, hcz16_1, hcz16_2⟩ := cz3 BK306.out; obtain ⟨hfz16_0, hfz16_1, hfz16_2⟩ := fz3 BK306.out; obtain ⟨Ao17, co17, eo17⟩ := Kd.R_slice HO304.out; subst eo17) | ((with_reducible refine gate_callee (f := 98) rfl ?_); refine goesL_ (some 10) rfl rfl Try.func98 (by kernel_rfl) rfl #[.pointer (some ⟨g, 0, none⟩), .int .i64 a1] rfl (by (try simp only [List.map_toArray, List.map_cons, List.map_nil]); first | done | rfl | (simp only [List.length_drop, List.length_take]; rfl)) ?_; (with_reducible refine (spec_l20Rd_odd.calls k g s0_0 t305 a1 true t308 w0 _ ?side1 ?side2 A4.out).mono ?_); (case side1 => repeat (first | (with_reducible first | exact HI0.out | apply IsS113.alloc | apply IsS113.drewN | apply IsS113.drew | apply IsS113.set_1 | refine IsS113.far ?_ NB0_299.out _ | refine IsS113.far ?_ NB0_306.out _) | exact HI0.out)); (case side2 => repeat (first | (with_reducible first | exact HB.out | apply zq7 | apply zq8 | apply zq9 | refine zr1 ?_ (IsS113.ge HI0.out) | refine zr1 ?_ GE299.out | refine zr1 ?_ GE306.out) | exact HB.out)); rintro e w18 ⟨rfl, hi, hb, hk⟩; refine ⟨_, rfl, ?_⟩; replace BK299 := mk_ (KeepBut.blk hk (g' := gb299) (o := .cells #[.int .i64 0, .int .i64 0, .slice none 0 0] 39 (0, 0)) (by (with_reducible repeat (first | refine zq1 ?_ _ | refine zq2 ?_ | refine zq3 ?_ _)); refine fa3 ?_ NB299_306.out; (with_reducible repeat (first | refine zq1 ?_ _ | refine zq2 ?_ | refine zq3 ?_ _)); exact BK299.out) NB299_0.out (by simp)); replace HO304 := mk_ (Kd.R_mono (Kd.R_keep (IsS113.apart (show IsS113 w0 _ g s0_0 t305 from by repeat (first | (with_reducible first | exact HI0.out | apply IsS113.alloc | apply IsS113.drewN | apply IsS113.drew | apply IsS113.set_1 | refine IsS113.far ?_ NB0_299.out _ | refine IsS113.far ?_ NB0_306.out _) | exact HI0.out)) (by (with_reducible repeat (first | apply Kd.R_alloc | apply Kd.R_drewN | apply Kd.R_drew)); exact (Kd.R_mono (Kd.R_far (p := ⟨gb306, 2, none⟩) (Kd.R_far (p := ⟨gb306, 1, none⟩) (Kd.R_far (p := ⟨gb306, 0, none⟩) (Kd.R_types HO304.out BK306.out (by decide)) (fun _ hk => hk.2) (.int .i64 t300)) (fun _ hk => hk.2) (.int .i64 t301)) (fun _ hk => hk.2) (.slice Ao17 t302.length co17)) (fun _ h_ => h_.1))) (by decide)) hk (fun _ h => h.2)) (fun _ h => h.1)); replace BK306 := mk_ (KeepBut.blk hk (g' := gb306) (o := .cells #[.int .i64 t300, .int .i64 t301, .slice Ao17 t302.length co17] 39 (0, 0)) (by (with_reducible repeat (first | refine zq1 ?_ _ | refine zq2 ?_ | refine zq3 ?_ _)); apply pu3; (with_reducible repeat (first | refine zq1 ?_ _ | refine zq2 ?_ | refine zq3 ?_ _)); exact BK306.out) NB306_0.out (by simp)); replace HK := mk_ (KeepBut.trans (by repeat (first | (with_reducible first | exact HK.out | apply zm1 | apply zr7 | apply zr8 | apply zr9 | refine keep_far ?_ GW299.out _ | refine keep_far ?_ GW306.out _) | exact HK.out)) hk (.inl rfl)); replace HB := mk_ (hb); replace HI0 := mk_ (hi); (try clear hb); (try clear hb2); (try clear hk); (try clear hi)) | ((with_reducible refine gate_callee (f := 70) rfl ?_); refine goesL_ (some 12) rfl rfl Try.func70 (by kernel_rfl) rfl #[.pointer (some ⟨g, 0, none⟩), .int .i64 3] rfl (by (try simp only [List.map_toArray, List.map_cons, List.map_nil]); first | done | rfl | (simp only [List.length_drop, List.length_take]; rfl)) ?_; (with_reducible refine (spec_l20Rd_pick.calls k g s0_0 t308 3 t309 t310 w0 _ ?side1 ?side2 A6.out).mono ?_); (case side1 => repeat (first | (with_reducible first | exact HI0.out | apply IsS113.alloc | apply IsS113.drewN | apply IsS113.drew | apply IsS113.set_1 | refine IsS113.far ?_ NB0_299.out _ | refine IsS113.far ?_ NB0_306.out _) | exact HI0.out)); (case side2 => repeat (first | (with_reducible first | exact HB.out | apply zq7 | apply zq8 | apply zq9 | refine zr1 ?_ (IsS113.ge HI0.out) | refine zr1 ?_ GE299.out | refine zr1 ?_ GE306.out) | exact HB.out)); rintro e w19 ⟨rfl, hi, hb, hk⟩; refine ⟨_, rfl, ?_⟩; replace BK299 := mk_ (KeepBut.blk hk (g' := gb299) (o := .cells #[.int .i64 0, .int .i64 0, .slice none 0 0] 39 (0, 0)) (by exact BK299.out) NB299_0.out (by simp)); replace HO304 := mk_ (Kd.R_mono (Kd.R_keep (IsS113.apart (show IsS113 w0 _ g s0_0 t308 from by repeat (first | (with_reducible first | exact HI0.out | apply IsS113.alloc | apply IsS113.drewN | apply IsS113.drew | apply IsS113.set_1 | refine IsS113.far ?_ NB0_299.out _ | refine IsS113.far ?_ NB0_306.out _) | exact HI0.out)) (by (with_reducible repeat (first | apply Kd.R_alloc | apply Kd.R_drewN | apply Kd.R_drew)); exact HO304.out) (by decide)) hk (fun _ h => h.2)) (fun _ h => h.1)); replace BK306 := mk_ (KeepBut.blk hk (g' := gb306) (o := .cells #[.int .i64 t300, .int .i64 t301, .slice Ao17 t302.length co17] 39 (0, 0)) (by exact BK306.out) NB306_0.out (by simp)); replace HK := mk_ (KeepBut.trans (by repeat (first | (with_reducible first | exact HK.out | apply zm1 | apply zr7 | apply zr8 | apply zr9 | refine keep_far ?_ GW299.out _ | refine keep_far ?_ GW306.out _) | exact HK.out)) hk (.inl rfl)); replace HB := mk_ (hb); replace HI0 := mk_ (hi); (try clear hb); (try clear hb2); (try clear hk); (try clear hi)) | ((with_reducible refine gate_dst (N := 20) rfl ?_); refine Aside0.out ?_))
   have H := HH_.out
   clear HH_
   by_cases c9 : 0 ≤ t314
   rotate_left
   · rw [if_neg c9] at H
     exact absurd H (by simp)
   rw [if_pos c9] at H
   have c9b0 : decide (0 ≤ t314) = true := decide_eq_true c9
   clear c9
   by_cases c10 : t314 < (y311.length : Int)
   rotate_left
   · rw [if_neg c10] at H
     exact absurd H (by simp)
   rw [if_pos c10] at H
   have c10b0 : decide (t314 < (y311.length : Int)) = true := decide_eq_true c10
   clear c10
   simp only [Option.some.injEq, Prod.mk.injEq] at H
   obtain ⟨rfl, rfl, rfl, rfl⟩ := H
   refine mk_ ?_
   go_wp2_with (first | ((with_reducible refine gate_dst (N := 20) rfl ?_); refine Kd.R_lit (Kd.int .i64) _ 3 ?hg (N := 20) ?hd (xs := ([(-1), 4, 1] : List Int)) (inner := [.int .i64 (-1), .int .i64 4, .int .i64 1]) (ok := fun _ => True) (okp := fun _ => True) ?hr ?hp (fun _ hk => hk) trivial (Below.refl _ _) (Nat.le_refl _) (by simp) ?_; (case hd => rfl); (case hg => rfl); (case hr => first | (go_simp; done) | (go_simp; rfl)); (case hp => exact (Reps.one (show Kd.M (Kd.int .i64) _ _ _ (-1) [.int .i64 (-1)] from rfl) (Reps.one (show Kd.M (Kd.int .i64) _ _ _ 4 [.int .i64 4] from rfl) (Reps.one (show Kd.M (Kd.int .i64) _ _ _ 1 [.int .i64 1] from rfl) (Reps.none _ _))))); intro v312 w20 ho21 hb hg_ hnew_; clear hg_ hnew_; (first | rw [← Ny311.out] at ho21 | (simp only [Int.reduceToNat] at ho21; rw [← Ny311.out] at ho21)); replace HO304 := mk_ (Kd.R_below (by (with_reducible repeat (first | apply Kd.R_alloc | apply Kd.R_drewN | apply Kd.R_drew)); exact HO304.out) hb); have HO313 := mk_ (Kd.R_lower ho21 (keep_size (w := w) (g := g) (row := none) (by repeat (first | (with_reducible first | exact HK.out | apply zm1 | apply zr7 | apply zr8 | apply zr9 | refine keep_far ?_ GW299.out _ | refine keep_far ?_ GW306.out _) | exact HK.out)))); replace BK299 := mk_ (zq6 (by exact BK299.out) hb); replace BK306 := mk_ (zq6 (by exact BK306.out) hb); replace HK := mk_ (KeepBut.trans (by repeat (first | (with_reducible first | exact HK.out | apply zm1 | apply zr7 | apply zr8 | apply zr9 | refine keep_far ?_ GW299.out _ | refine keep_far ?_ GW306.out _) | exact HK.out)) (KeepBut.of_below hb g none) (.inl rfl)); replace HB := mk_ (zr3 (by repeat (first | (with_reducible first | exact HB.out | apply zq7 | apply zq8 | apply zq9 | refine zr1 ?_ (IsS113.ge HI0.out) | refine zr1 ?_ GE299.out | refine zr1 ?_ GE306.out) | exact HB.out)) hb); replace HI0 := mk_ (IsS113.below (by repeat (first | (with_reducible first | exact HI0.out | apply IsS113.alloc | apply IsS113.drewN | apply IsS113.drew | apply IsS113.set_1 | refine IsS113.far ?_ NB0_299.out _ | refine IsS113.far ?_ NB0_306.out _) | exact HI0.out)) hb); clear hb ho21) | ((with_reducible refine gate_callee (f := 70) rfl ?_); refine goesL_ (some 22) rfl rfl Try.func70 (by kernel_rfl) rfl #[.pointer (some ⟨g, 0, none⟩), .int .i64 3] rfl (by (try simp only [List.map_toArray, List.map_cons, List.map_nil]); first | done | rfl | (simp only [List.length_drop, List.length_take]; rfl)) ?_; (with_reducible refine (spec_l20Rd_pick.calls k g s0_0 t310 3 t314 t315 w0 _ ?side1 ?side2 A8.out).mono ?_); (case side1 => repeat (first | (with_reducible first | exact HI0.out | apply IsS113.alloc | apply IsS113.drewN | apply IsS113.drew | apply IsS113.set_1 | refine IsS113.far ?_ NB0_299.out _ | refine IsS113.far ?_ NB0_306.out _) | exact HI0.out)); (case side2 => repeat (first | (with_reducible first | exact HB.out | apply zq7 | apply zq8 | apply zq9 | refine zr1 ?_ (IsS113.ge HI0.out) | refine zr1 ?_ GE299.out | refine zr1 ?_ GE306.out) | exact HB.out)); rintro e w22 ⟨rfl, hi, hb, hk⟩; refine ⟨_, rfl, ?_⟩; replace BK299 := mk_ (KeepBut.blk hk (g' := gb299) (o := .cells #[.int .i64 0, .int .i64 0, .slice none 0 0] 39 (0, 0)) (by exact BK299.out) NB299_0.out (by simp)); replace HO304 := mk_ (Kd.R_mono (Kd.R_keep (IsS113.apart (show IsS113 w0 _ g s0_0 t310 from by repeat (first | (with_reducible first | exact HI0.out | apply IsS113.alloc | apply IsS113.drewN | apply IsS113.drew | apply IsS113.set_1 | refine IsS113.far ?_ NB0_299.out _ | refine IsS113.far ?_ NB0_306.out _) | exact HI0.out)) (by (with_reducible repeat (first | apply Kd.R_alloc | apply Kd.R_drewN | apply Kd.R_drew)); exact HO304.out) (by decide)) hk (fun _ h => h.2)) (fun _ h => h.1)); replace BK306 := mk_ (KeepBut.blk hk (g' := gb306) (o := .cells #[.int .i64 t300, .int .i64 t301, .slice Ao17 t302.length co17] 39 (0, 0)) (by exact BK306.out) NB306_0.out (by simp)); replace HO313 := mk_ (Kd.R_mono (Kd.R_keep (IsS113.apart (show IsS113 w0 _ g s0_0 t310 from by repeat (first | (with_reducible first | exact HI0.out | apply IsS113.alloc | apply IsS113.drewN | apply IsS113.drew | apply IsS113.set_1 | refine IsS113.far ?_ NB0_299.out _ | refine IsS113.far ?_ NB0_306.out _) | exact HI0.out)) (by (with_reducible repeat (first | apply Kd.R_alloc | apply Kd.R_drewN | apply Kd.R_drew)); exact HO313.out) (by decide)) hk (fun _ h => h.2)) (fun _ h => h.1)); replace HK := mk_ (KeepBut.trans (by repeat (first | (with_reducible first | exact HK.out | apply zm1 | apply zr7 | apply zr8 | apply zr9 | refine keep_far ?_ GW299.out _ | refine keep_far ?_ GW306.out _) | exact HK.out)) hk (.inl rfl)); replace HB := mk_ (hb); replace HI0 := mk_ (hi); (try clear hb); (try clear hb2); (try clear hk); (try clear hi); obtain ⟨Ao23, co23, eo23⟩ := Kd.R_slice HO313.out; subst eo23; have p316 : 0 ≤ (t314 : Int) := of_decide_eq_true (by first | (with_reducible assumption) | assumption); have q316 : t314 < (y311.length : Int) := of_decide_eq_true (by first | (with_reducible assumption) | assumption); obtain ⟨ad316, e316, hx316_0⟩ := Kd.at_int (Kd.R_reads' HO313.out).2.2 t314 p316 q316; cases e316; replace p316 := eq_true p316; replace q316 := eq_true q316; obtain ⟨hcz24_0, hcz24_1, hcz24_2⟩ := cz3 BK306.out; obtain ⟨hfz24_0, hfz24_1, hfz24_2⟩ := fz3 BK306.out; have hnb25 := NB299_0.out; have hnc25 := NB0_299.out; obtain ⟨hcz26_0, hcz26_1, hcz26_2⟩ := cz3 BK299.out; obtain ⟨hfz26_0, hfz26_1, hfz26_2⟩ := fz3 BK299.out))
   refine bodyPost_ret (results_cell_row rfl _ _ gb299 39 #[.int .i64 (rd y311 t314), .int .i64 t301, .slice Ao17 t302.length co17] (0, 0) _ rfl (by (with_reducible repeat (first | refine zq1 ?_ _ | refine zq2 ?_ | refine zq3 ?_ _)); apply pu3; (with_reducible repeat (first | refine zq1 ?_ _ | refine zq2 ?_ | refine zq3 ?_ _)); refine zq5 ?_ NB299_306.out _; (with_reducible repeat (first | refine zq1 ?_ _ | refine zq2 ?_ | refine zq3 ?_ _)); exact BK299.out) Try.underlying39 rfl (by kernel_rfl)) rfl ?_
   exact ⟨_, by first | rfl | (simp [errW_none, errW_some] <;> rfl) | (simp [*, errW_none, errW_some] <;> rfl), by (with_reducible repeat (first | apply Kd.R_alloc | apply Kd.R_drewN | apply Kd.R_drew)); exact Kd.R_mono (Kd.R_far (p := ⟨gb299, 2, none⟩) (Kd.R_far (p := ⟨gb299, 1, none⟩) (Kd.R_far (p := ⟨gb299, 0, none⟩) (Kd.R_far (p := ⟨gb306, 0, none⟩) (Kd.R_types (Kd.R_types HO304.out BK306.out (by decide)) BK299.out (by decide)) (fun _ hk => hk.1.2) (.int .i64 (rd y311 t314))) (fun _ hk => hk.2) (.int .i64 (rd y311 t314))) (fun _ hk => hk.2) (.int .i64 t301)) (fun _ hk => hk.2) (.slice Ao17 t302.length co17)) (fun _ hk => trivial), by repeat (first | (with_reducible first | exact HI0.out | apply IsS113.alloc | apply IsS113.drewN | apply IsS113.drew | apply IsS113.set_1 | refine IsS113.far ?_ NB0_299.out _ | refine IsS113.far ?_ NB0_306.out _) | exact HI0.out), by repeat (first | (with_reducible first | exact HB.out | apply zq7 | apply zq8 | apply zq9 | refine zr1 ?_ (IsS113.ge HI0.out) | refine zr1 ?_ GE299.out | refine zr1 ?_ GE306.out) | exact HB.out), by repeat (first | (with_reducible first | exact HK.out | apply zm1 | apply zr7 | apply zr8 | apply zr9 | refine keep_far ?_ GW299.out _ | refine keep_far ?_ GW306.out _) | exact HK.out)⟩
 rw [if_neg c7] at H
 have c7b0 : (t309 == 0) = false := beq_eq_false_iff_ne.mpr c7
 have c7b1 : (t309 != 0) = true := bne_iff_ne.mpr c7
 by_cases c27 : t309 = 1
 · rw [if_pos c27] at H
   have c27b0 : (t309 == 1) = true := beq_iff_eq.mpr c27
   have c27b1 : (t309 != 1) = false := bne_eq_false_iff_eq.mpr c27
   clear c27
   obtain ⟨y317, hy317⟩ : ∃ y_ : List Int, y_ = (([(-1), 25, 3] : List Int)) := ⟨_, rfl⟩
   replace H : ((spec_l20Rd_pick.f k s0_0 t310 3).bind fun bt320 => (if 0 ≤ bt320.1 then (if bt320.1 < (y317.length : Int) then (some (t300, rd y317 bt320.1, t302, bt320.2)) else (none)) else (none))) = some (r1, r2, r3, r4) := by first | (rw [hy317]; with_reducible exact H) | (have H2_ := (Option.bind_some _ _).symm.trans H; rw [hy317]; with_reducible exact H2_) | (have H2_ := (Option.bind_some _ _).symm.trans H; with_reducible exact H2_) | with_reducible exact H | (rw [hy317]; exact H) | exact H
   have Ny317 := mk_ hy317
   clear hy317
   replace H := Option.bind_eq_some_iff.mp H
   obtain ⟨⟨t320, t321⟩, A280, H⟩ := H
   try dsimp only at H
   have A28 := mk_ A280
   clear A280
   have HH_ := mk_ H
   clear H
   refine mk_ ?_
   go_wp2_with (first | ((with_reducible refine gate_dst (N := 5) rfl ?_); refine box_event ?hg (N := 5) ?hd (cs := #[.int .i64 0, .int .i64 0, .slice none 0 0]) (t := 39) ?hr ?_; (case hd => rfl); (case hg => rfl); (case hr => first | (go_simp; done) | (go_simp; rfl)); intro gb306 hg w33 hbox hb; replace HO304 := mk_ (Kd.R_below (by (with_reducible repeat (first | apply Kd.R_alloc | apply Kd.R_drewN | apply Kd.R_drew)); exact HO304.out) hb); replace HB := mk_ (zr3 (by repeat (first | (with_reducible first | exact HB.out | apply zq7 | apply zq8 | apply zq9 | refine zr1 ?_ (IsS113.ge HI0.out) | refine zr1 ?_ GE299.out) | exact HB.out)) hb); have BK306 := mk_ (hbox); have GW306 := mk_ ((by rw [hg]; exact (keep_size (w := w) (g := g) (row := none) (by repeat (first | (with_reducible first | exact HK.out | apply zm1 | apply zr7 | apply zr8 | apply zr9 | refine keep_far ?_ GW299.out _) | exact HK.out))) : w.heap.size ≤ gb306)); have GE306 := mk_ ((Nat.le_trans HW0.out (by rw [hg]; exact (keep_size (w := w) (g := g) (row := none) (by repeat (first | (with_reducible first | exact HK.out | apply zm1 | apply zr7 | apply zr8 | apply zr9 | refine keep_far ?_ GW299.out _) | exact HK.out))) : w.heap.size ≤ gb306) : w0.heap.size ≤ gb306)); replace HK := mk_ (KeepBut.trans (by repeat (first | (with_reducible first | exact HK.out | apply zm1 | apply zr7 | apply zr8 | apply zr9 | refine keep_far ?_ GW299.out _) | exact HK.out)) (KeepBut.of_below hb g none) (.inl rfl)); have NB299_306 := mk_ ((by rw [hg]; exact zm2 (zr6 (by exact BK299.out)) : gb299 ≠ gb306)); replace BK299 := mk_ (zq6 (by exact BK299.out) hb); have NB306_299 := mk_ NB299_306.out.symm; have NB0_306 := mk_ ((by rw [hg]; exact zm2 (IsS113.lt (show IsS113 w0 _ g s0_0 t305 from by repeat (first | (with_reducible first | exact HI0.out | apply IsS113.alloc | apply IsS113.drewN | apply IsS113.drew | apply IsS113.set_1 | refine IsS113.far ?_ NB0_299.out _) | exact HI0.out))) : g ≠ gb306)); replace HI0 := mk_ (IsS113.below (by repeat (first | (with_reducible first | exact HI0.out | apply IsS113.alloc | apply IsS113.drewN | apply IsS113.drew | apply IsS113.set_1 | refine IsS113.far ?_ NB0_299.out _) | exact HI0.out)) hb); have NB306_0 := mk_ NB0_306.out.symm; clear hb hbox hg; have hnb34 := NB306_299.out; have hnc34 := NB299_306.out; have hnb35 := NB306_0.out; have hnc35 := NB0_306.out; obtain ⟨hcz36_0, hcz36_1, hcz36_2⟩ := cz3 BK306.out; obtain ⟨hfz36_0, hfz36_1, hfz36_2⟩ := fz3 BK306.out; obtain ⟨Ao37, co37, eo37⟩ := Kd.R_slice HO304.out; subst eo37) | ((with_reducible refine gate_callee (f := 98) rfl ?_); refine goesL_ (some 10) rfl rfl Try.func98 (by kernel_rfl) rfl #[.pointer (some ⟨g, 0, none⟩), .int .i64 a1] rfl (by (try simp only [List.map_toArray, List.map_cons, List.map_nil]); first | done | rfl | (simp only [List.length_drop, List.length_take]; rfl)) ?_; (with_reducible refine (spec_l20Rd_odd.calls k g s0_0 t305 a1 true t308 w0 _ ?side1 ?side2 A4.out).mono ?_); (case side1 => repeat (first | (with_reducible first | exact HI0.out | apply IsS113.alloc | apply IsS113.drewN | apply IsS113.drew | apply IsS113.set_1 | refine IsS113.far ?_ NB0_299.out _ | refine IsS113.far ?_ NB0_306.out _) | exact HI0.out)); (case side2 => repeat (first | (with_reducible first | exact HB.out | apply zq7 | apply zq8 | apply zq9 | refine zr1 ?_ (IsS113.ge HI0.out) | refine zr1 ?_ GE299.out | refine zr1 ?_ GE306.out) | exact HB.out)); rintro e w38 ⟨rfl, hi, hb, hk⟩; refine ⟨_, rfl, ?_⟩; replace BK299 := mk_ (KeepBut.blk hk (g' := gb299) (o := .cells #[.int .i64 0, .int .i64 0, .slice none 0 0] 39 (0, 0)) (by (with_reducible repeat (first | refine zq1 ?_ _ | refine zq2 ?_ | refine zq3 ?_ _)); refine fa3 ?_ NB299_306.out; (with_reducible repeat (first | refine zq1 ?_ _ | refine zq2 ?_ | refine zq3 ?_ _)); exact BK299.out) NB299_0.out (by simp)); replace HO304 := mk_ (Kd.R_mono (Kd.R_keep (IsS113.apart (show IsS113 w0 _ g s0_0 t305 from by repeat (first | (with_reducible first | exact HI0.out | apply IsS113.alloc | apply IsS113.drewN | apply IsS113.drew | apply IsS113.set_1 | refine IsS113.far ?_ NB0_299.out _ | refine IsS113.far ?_ NB0_306.out _) | exact HI0.out)) (by (with_reducible repeat (first | apply Kd.R_alloc | apply Kd.R_drewN | apply Kd.R_drew)); exact (Kd.R_mono (Kd.R_far (p := ⟨gb306, 2, none⟩) (Kd.R_far (p := ⟨gb306, 1, none⟩) (Kd.R_far (p := ⟨gb306, 0, none⟩) (Kd.R_types HO304.out BK306.out (by decide)) (fun _ hk => hk.2) (.int .i64 t300)) (fun _ hk => hk.2) (.int .i64 t301)) (fun _ hk => hk.2) (.slice Ao37 t302.length co37)) (fun _ h_ => h_.1))) (by decide)) hk (fun _ h => h.2)) (fun _ h => h.1)); replace BK306 := mk_ (KeepBut.blk hk (g' := gb306) (o := .cells #[.int .i64 t300, .int .i64 t301, .slice Ao37 t302.length co37] 39 (0, 0)) (by (with_reducible repeat (first | refine zq1 ?_ _ | refine zq2 ?_ | refine zq3 ?_ _)); apply pu3; (with_reducible repeat (first | refine zq1 ?_ _ | refine zq2 ?_ | refine zq3 ?_ _)); exact BK306.out) NB306_0.out (by simp)); replace HK := mk_ (KeepBut.trans (by repeat (first | (with_reducible first | exact HK.out | apply zm1 | apply zr7 | apply zr8 | apply zr9 | refine keep_far ?_ GW299.out _ | refine keep_far ?_ GW306.out _) | exact HK.out)) hk (.inl rfl)); replace HB := mk_ (hb); replace HI0 := mk_ (hi); (try clear hb); (try clear hb2); (try clear hk); (try clear hi)) | ((with_reducible refine gate_callee (f := 70) rfl ?_); refine goesL_ (some 12) rfl rfl Try.func70 (by kernel_rfl) rfl #[.pointer (some ⟨g, 0, none⟩), .int .i64 3] rfl (by (try simp only [List.map_toArray, List.map_cons, List.map_nil]); first | done | rfl | (simp only [List.length_drop, List.length_take]; rfl)) ?_; (with_reducible refine (spec_l20Rd_pick.calls k g s0_0 t308 3 t309 t310 w0 _ ?side1 ?side2 A6.out).mono ?_); (case side1 => repeat (first | (with_reducible first | exact HI0.out | apply IsS113.alloc | apply IsS113.drewN | apply IsS113.drew | apply IsS113.set_1 | refine IsS113.far ?_ NB0_299.out _ | refine IsS113.far ?_ NB0_306.out _) | exact HI0.out)); (case side2 => repeat (first | (with_reducible first | exact HB.out | apply zq7 | apply zq8 | apply zq9 | refine zr1 ?_ (IsS113.ge HI0.out) | refine zr1 ?_ GE299.out | refine zr1 ?_ GE306.out) | exact HB.out)); rintro e w39 ⟨rfl, hi, hb, hk⟩; refine ⟨_, rfl, ?_⟩; replace BK299 := mk_ (KeepBut.blk hk (g' := gb299) (o := .cells #[.int .i64 0, .int .i64 0, .slice none 0 0] 39 (0, 0)) (by exact BK299.out) NB299_0.out (by simp)); replace HO304 := mk_ (Kd.R_mono (Kd.R_keep (IsS113.apart (show IsS113 w0 _ g s0_0 t308 from by repeat (first | (with_reducible first | exact HI0.out | apply IsS113.alloc | apply IsS113.drewN | apply IsS113.drew | apply IsS113.set_1 | refine IsS113.far ?_ NB0_299.out _ | refine IsS113.far ?_ NB0_306.out _) | exact HI0.out)) (by (with_reducible repeat (first | apply Kd.R_alloc | apply Kd.R_drewN | apply Kd.R_drew)); exact HO304.out) (by decide)) hk (fun _ h => h.2)) (fun _ h => h.1)); replace BK306 := mk_ (KeepBut.blk hk (g' := gb306) (o := .cells #[.int .i64 t300, .int .i64 t301, .slice Ao37 t302.length co37] 39 (0, 0)) (by exact BK306.out) NB306_0.out (by simp)); replace HK := mk_ (KeepBut.trans (by repeat (first | (with_reducible first | exact HK.out | apply zm1 | apply zr7 | apply zr8 | apply zr9 | refine keep_far ?_ GW299.out _ | refine keep_far ?_ GW306.out _) | exact HK.out)) hk (.inl rfl)); replace HB := mk_ (hb); replace HI0 := mk_ (hi); (try clear hb); (try clear hb2); (try clear hk); (try clear hi)) | ((with_reducible refine gate_dst (N := 28) rfl ?_); refine Aside0.out ?_))
   have H := HH_.out
   clear HH_
   by_cases c29 : 0 ≤ t320
   rotate_left
   · rw [if_neg c29] at H
     exact absurd H (by simp)
   rw [if_pos c29] at H
   have c29b0 : decide (0 ≤ t320) = true := decide_eq_true c29
   clear c29
   by_cases c30 : t320 < (y317.length : Int)
   rotate_left
   · rw [if_neg c30] at H
     exact absurd H (by simp)
   rw [if_pos c30] at H
   have c30b0 : decide (t320 < (y317.length : Int)) = true := decide_eq_true c30
   clear c30
   simp only [Option.some.injEq, Prod.mk.injEq] at H
   obtain ⟨rfl, rfl, rfl, rfl⟩ := H
   refine mk_ ?_
   go_wp2_with (first | ((with_reducible refine gate_dst (N := 28) rfl ?_); refine Kd.R_lit (Kd.int .i64) _ 3 ?hg (N := 28) ?hd (xs := ([(-1), 25, 3] : List Int)) (inner := [.int .i64 (-1), .int .i64 25, .int .i64 3]) (ok := fun _ => True) (okp := fun _ => True) ?hr ?hp (fun _ hk => hk) trivial (Below.refl _ _) (Nat.le_refl _) (by simp) ?_; (case hd => rfl); (case hg => rfl); (case hr => first | (go_simp; done) | (go_simp; rfl)); (case hp => exact (Reps.one (show Kd.M (Kd.int .i64) _ _ _ (-1) [.int .i64 (-1)] from rfl) (Reps.one (show Kd.M (Kd.int .i64) _ _ _ 25 [.int .i64 25] from rfl) (Reps.one (show Kd.M (Kd.int .i64) _ _ _ 3 [.int .i64 3] from rfl) (Reps.none _ _))))); intro v318 w40 ho41 hb hg_ hnew_; clear hg_ hnew_; (first | rw [← Ny317.out] at ho41 | (simp only [Int.reduceToNat] at ho41; rw [← Ny317.out] at ho41)); replace HO304 := mk_ (Kd.R_below (by (with_reducible repeat (first | apply Kd.R_alloc | apply Kd.R_drewN | apply Kd.R_drew)); exact HO304.out) hb); have HO319 := mk_ (Kd.R_lower ho41 (keep_size (w := w) (g := g) (row := none) (by repeat (first | (with_reducible first | exact HK.out | apply zm1 | apply zr7 | apply zr8 | apply zr9 | refine keep_far ?_ GW299.out _ | refine keep_far ?_ GW306.out _) | exact HK.out)))); replace BK299 := mk_ (zq6 (by exact BK299.out) hb); replace BK306 := mk_ (zq6 (by exact BK306.out) hb); replace HK := mk_ (KeepBut.trans (by repeat (first | (with_reducible first | exact HK.out | apply zm1 | apply zr7 | apply zr8 | apply zr9 | refine keep_far ?_ GW299.out _ | refine keep_far ?_ GW306.out _) | exact HK.out)) (KeepBut.of_below hb g none) (.inl rfl)); replace HB := mk_ (zr3 (by repeat (first | (with_reducible first | exact HB.out | apply zq7 | apply zq8 | apply zq9 | refine zr1 ?_ (IsS113.ge HI0.out) | refine zr1 ?_ GE299.out | refine zr1 ?_ GE306.out) | exact HB.out)) hb); replace HI0 := mk_ (IsS113.below (by repeat (first | (with_reducible first | exact HI0.out | apply IsS113.alloc | apply IsS113.drewN | apply IsS113.drew | apply IsS113.set_1 | refine IsS113.far ?_ NB0_299.out _ | refine IsS113.far ?_ NB0_306.out _) | exact HI0.out)) hb); clear hb ho41) | ((with_reducible refine gate_callee (f := 70) rfl ?_); refine goesL_ (some 30) rfl rfl Try.func70 (by kernel_rfl) rfl #[.pointer (some ⟨g, 0, none⟩), .int .i64 3] rfl (by (try simp only [List.map_toArray, List.map_cons, List.map_nil]); first | done | rfl | (simp only [List.length_drop, List.length_take]; rfl)) ?_; (with_reducible refine (spec_l20Rd_pick.calls k g s0_0 t310 3 t320 t321 w0 _ ?side1 ?side2 A28.out).mono ?_); (case side1 => repeat (first | (with_reducible first | exact HI0.out | apply IsS113.alloc | apply IsS113.drewN | apply IsS113.drew | apply IsS113.set_1 | refine IsS113.far ?_ NB0_299.out _ | refine IsS113.far ?_ NB0_306.out _) | exact HI0.out)); (case side2 => repeat (first | (with_reducible first | exact HB.out | apply zq7 | apply zq8 | apply zq9 | refine zr1 ?_ (IsS113.ge HI0.out) | refine zr1 ?_ GE299.out | refine zr1 ?_ GE306.out) | exact HB.out)); rintro e w42 ⟨rfl, hi, hb, hk⟩; refine ⟨_, rfl, ?_⟩; replace BK299 := mk_ (KeepBut.blk hk (g' := gb299) (o := .cells #[.int .i64 0, .int .i64 0, .slice none 0 0] 39 (0, 0)) (by exact BK299.out) NB299_0.out (by simp)); replace HO304 := mk_ (Kd.R_mono (Kd.R_keep (IsS113.apart (show IsS113 w0 _ g s0_0 t310 from by repeat (first | (with_reducible first | exact HI0.out | apply IsS113.alloc | apply IsS113.drewN | apply IsS113.drew | apply IsS113.set_1 | refine IsS113.far ?_ NB0_299.out _ | refine IsS113.far ?_ NB0_306.out _) | exact HI0.out)) (by (with_reducible repeat (first | apply Kd.R_alloc | apply Kd.R_drewN | apply Kd.R_drew)); exact HO304.out) (by decide)) hk (fun _ h => h.2)) (fun _ h => h.1)); replace BK306 := mk_ (KeepBut.blk hk (g' := gb306) (o := .cells #[.int .i64 t300, .int .i64 t301, .slice Ao37 t302.length co37] 39 (0, 0)) (by exact BK306.out) NB306_0.out (by simp)); replace HO319 := mk_ (Kd.R_mono (Kd.R_keep (IsS113.apart (show IsS113 w0 _ g s0_0 t310 from by repeat (first | (with_reducible first | exact HI0.out | apply IsS113.alloc | apply IsS113.drewN | apply IsS113.drew | apply IsS113.set_1 | refine IsS113.far ?_ NB0_299.out _ | refine IsS113.far ?_ NB0_306.out _) | exact HI0.out)) (by (with_reducible repeat (first | apply Kd.R_alloc | apply Kd.R_drewN | apply Kd.R_drew)); exact HO319.out) (by decide)) hk (fun _ h => h.2)) (fun _ h => h.1)); replace HK := mk_ (KeepBut.trans (by repeat (first | (with_reducible first | exact HK.out | apply zm1 | apply zr7 | apply zr8 | apply zr9 | refine keep_far ?_ GW299.out _ | refine keep_far ?_ GW306.out _) | exact HK.out)) hk (.inl rfl)); replace HB := mk_ (hb); replace HI0 := mk_ (hi); (try clear hb); (try clear hb2); (try clear hk); (try clear hi); obtain ⟨Ao43, co43, eo43⟩ := Kd.R_slice HO319.out; subst eo43; have p322 : 0 ≤ (t320 : Int) := of_decide_eq_true (by first | (with_reducible assumption) | assumption); have q322 : t320 < (y317.length : Int) := of_decide_eq_true (by first | (with_reducible assumption) | assumption); obtain ⟨ad322, e322, hx322_0⟩ := Kd.at_int (Kd.R_reads' HO319.out).2.2 t320 p322 q322; cases e322; replace p322 := eq_true p322; replace q322 := eq_true q322; obtain ⟨hcz44_0, hcz44_1, hcz44_2⟩ := cz3 BK306.out; obtain ⟨hfz44_0, hfz44_1, hfz44_2⟩ := fz3 BK306.out; have hnb45 := NB299_0.out; have hnc45 := NB0_299.out; obtain ⟨hcz46_0, hcz46_1, hcz46_2⟩ := cz3 BK299.out; obtain ⟨hfz46_0, hfz46_1, hfz46_2⟩ := fz3 BK299.out))
   refine bodyPost_ret (results_cell_row rfl _ _ gb299 39 #[.int .i64 t300, .int .i64 (rd y317 t320), .slice Ao37 t302.length co37] (0, 0) _ rfl (by (with_reducible repeat (first | refine zq1 ?_ _ | refine zq2 ?_ | refine zq3 ?_ _)); apply pu3; (with_reducible repeat (first | refine zq1 ?_ _ | refine zq2 ?_ | refine zq3 ?_ _)); refine zq5 ?_ NB299_306.out _; (with_reducible repeat (first | refine zq1 ?_ _ | refine zq2 ?_ | refine zq3 ?_ _)); exact BK299.out) Try.underlying39 rfl (by kernel_rfl)) rfl ?_
   exact ⟨_, by first | rfl | (simp [errW_none, errW_some] <;> rfl) | (simp [*, errW_none, errW_some] <;> rfl), by (with_reducible repeat (first | apply Kd.R_alloc | apply Kd.R_drewN | apply Kd.R_drew)); exact Kd.R_mono (Kd.R_far (p := ⟨gb299, 2, none⟩) (Kd.R_far (p := ⟨gb299, 1, none⟩) (Kd.R_far (p := ⟨gb299, 0, none⟩) (Kd.R_far (p := ⟨gb306, 1, none⟩) (Kd.R_types (Kd.R_types HO304.out BK306.out (by decide)) BK299.out (by decide)) (fun _ hk => hk.1.2) (.int .i64 (rd y317 t320))) (fun _ hk => hk.2) (.int .i64 t300)) (fun _ hk => hk.2) (.int .i64 (rd y317 t320))) (fun _ hk => hk.2) (.slice Ao37 t302.length co37)) (fun _ hk => trivial), by repeat (first | (with_reducible first | exact HI0.out | apply IsS113.alloc | apply IsS113.drewN | apply IsS113.drew | apply IsS113.set_1 | refine IsS113.far ?_ NB0_299.out _ | refine IsS113.far ?_ NB0_306.out _) | exact HI0.out), by repeat (first | (with_reducible first | exact HB.out | apply zq7 | apply zq8 | apply zq9 | refine zr1 ?_ (IsS113.ge HI0.out) | refine zr1 ?_ GE299.out | refine zr1 ?_ GE306.out) | exact HB.out), by repeat (first | (with_reducible first | exact HK.out | apply zm1 | apply zr7 | apply zr8 | apply zr9 | refine keep_far ?_ GW299.out _ | refine keep_far ?_ GW306.out _) | exact HK.out)⟩
 rw [if_neg c27] at H
 have c27b0 : (t309 == 1) = false := beq_eq_false_iff_ne.mpr c27
 have c27b1 : (t309 != 1) = true := bne_iff_ne.mpr c27
 obtain ⟨y323, hy323⟩ : ∃ y_ : List Int, y_ = (([1, 2, 3, 4, 5, 6, 7, 8] : List Int)) := ⟨_, rfl⟩
 replace H : (if t302.length + y323.length < 140737488355328 then (some (t300, t301, (t302 ++ y323), t310)) else (none)) = some (r1, r2, r3, r4) := by first | (rw [hy323]; with_reducible exact H) | (have H2_ := (Option.bind_some _ _).symm.trans H; rw [hy323]; with_reducible exact H2_) | (have H2_ := (Option.bind_some _ _).symm.trans H; with_reducible exact H2_) | with_reducible exact H | (rw [hy323]; exact H) | exact H
 have Ny323 := mk_ hy323
 clear hy323
 have HH_ := mk_ H
 clear H
 refine mk_ ?_
 go_wp2_with (first | ((with_reducible refine gate_dst (N := 5) rfl ?_); refine box_event ?hg (N := 5) ?hd (cs := #[.int .i64 0, .int .i64 0, .slice none 0 0]) (t := 39) ?hr ?_; (case hd => rfl); (case hg => rfl); (case hr => first | (go_simp; done) | (go_simp; rfl)); intro gb306 hg w50 hbox hb; replace HO304 := mk_ (Kd.R_below (by (with_reducible repeat (first | apply Kd.R_alloc | apply Kd.R_drewN | apply Kd.R_drew)); exact HO304.out) hb); replace HB := mk_ (zr3 (by repeat (first | (with_reducible first | exact HB.out | apply zq7 | apply zq8 | apply zq9 | refine zr1 ?_ (IsS113.ge HI0.out) | refine zr1 ?_ GE299.out) | exact HB.out)) hb); have BK306 := mk_ (hbox); have GW306 := mk_ ((by rw [hg]; exact (keep_size (w := w) (g := g) (row := none) (by repeat (first | (with_reducible first | exact HK.out | apply zm1 | apply zr7 | apply zr8 | apply zr9 | refine keep_far ?_ GW299.out _) | exact HK.out))) : w.heap.size ≤ gb306)); have GE306 := mk_ ((Nat.le_trans HW0.out (by rw [hg]; exact (keep_size (w := w) (g := g) (row := none) (by repeat (first | (with_reducible first | exact HK.out | apply zm1 | apply zr7 | apply zr8 | apply zr9 | refine keep_far ?_ GW299.out _) | exact HK.out))) : w.heap.size ≤ gb306) : w0.heap.size ≤ gb306)); replace HK := mk_ (KeepBut.trans (by repeat (first | (with_reducible first | exact HK.out | apply zm1 | apply zr7 | apply zr8 | apply zr9 | refine keep_far ?_ GW299.out _) | exact HK.out)) (KeepBut.of_below hb g none) (.inl rfl)); have NB299_306 := mk_ ((by rw [hg]; exact zm2 (zr6 (by exact BK299.out)) : gb299 ≠ gb306)); replace BK299 := mk_ (zq6 (by exact BK299.out) hb); have NB306_299 := mk_ NB299_306.out.symm; have NB0_306 := mk_ ((by rw [hg]; exact zm2 (IsS113.lt (show IsS113 w0 _ g s0_0 t305 from by repeat (first | (with_reducible first | exact HI0.out | apply IsS113.alloc | apply IsS113.drewN | apply IsS113.drew | apply IsS113.set_1 | refine IsS113.far ?_ NB0_299.out _) | exact HI0.out))) : g ≠ gb306)); replace HI0 := mk_ (IsS113.below (by repeat (first | (with_reducible first | exact HI0.out | apply IsS113.alloc | apply IsS113.drewN | apply IsS113.drew | apply IsS113.set_1 | refine IsS113.far ?_ NB0_299.out _) | exact HI0.out)) hb); have NB306_0 := mk_ NB0_306.out.symm; clear hb hbox hg; have hnb51 := NB306_299.out; have hnc51 := NB299_306.out; have hnb52 := NB306_0.out; have hnc52 := NB0_306.out; obtain ⟨hcz53_0, hcz53_1, hcz53_2⟩ := cz3 BK306.out; obtain ⟨hfz53_0, hfz53_1, hfz53_2⟩ := fz3 BK306.out; obtain ⟨Ao54, co54, eo54⟩ := Kd.R_slice HO304.out; subst eo54) | ((with_reducible refine gate_callee (f := 98) rfl ?_); refine goesL_ (some 10) rfl rfl Try.func98 (by kernel_rfl) rfl #[.pointer (some ⟨g, 0, none⟩), .int .i64 a1] rfl (by (try simp only [List.map_toArray, List.map_cons, List.map_nil]); first | done | rfl | (simp only [List.length_drop, List.length_take]; rfl)) ?_; (with_reducible refine (spec_l20Rd_odd.calls k g s0_0 t305 a1 true t308 w0 _ ?side1 ?side2 A4.out).mono ?_); (case side1 => repeat (first | (with_reducible first | exact HI0.out | apply IsS113.alloc | apply IsS113.drewN | apply IsS113.drew | apply IsS113.set_1 | refine IsS113.far ?_ NB0_299.out _ | refine IsS113.far ?_ NB0_306.out _) | exact HI0.out)); (case side2 => repeat (first | (with_reducible first | exact HB.out | apply zq7 | apply zq8 | apply zq9 | refine zr1 ?_ (IsS113.ge HI0.out) | refine zr1 ?_ GE299.out | refine zr1 ?_ GE306.out) | exact HB.out)); rintro e w55 ⟨rfl, hi, hb, hk⟩; refine ⟨_, rfl, ?_⟩; replace BK299 := mk_ (KeepBut.blk hk (g' := gb299) (o := .cells #[.int .i64 0, .int .i64 0, .slice none 0 0] 39 (0, 0)) (by (with_reducible repeat (first | refine zq1 ?_ _ | refine zq2 ?_ | refine zq3 ?_ _)); refine fa3 ?_ NB299_306.out; (with_reducible repeat (first | refine zq1 ?_ _ | refine zq2 ?_ | refine zq3 ?_ _)); exact BK299.out) NB299_0.out (by simp)); replace HO304 := mk_ (Kd.R_mono (Kd.R_keep (IsS113.apart (show IsS113 w0 _ g s0_0 t305 from by repeat (first | (with_reducible first | exact HI0.out | apply IsS113.alloc | apply IsS113.drewN | apply IsS113.drew | apply IsS113.set_1 | refine IsS113.far ?_ NB0_299.out _ | refine IsS113.far ?_ NB0_306.out _) | exact HI0.out)) (by (with_reducible repeat (first | apply Kd.R_alloc | apply Kd.R_drewN | apply Kd.R_drew)); exact (Kd.R_mono (Kd.R_far (p := ⟨gb306, 2, none⟩) (Kd.R_far (p := ⟨gb306, 1, none⟩) (Kd.R_far (p := ⟨gb306, 0, none⟩) (Kd.R_types HO304.out BK306.out (by decide)) (fun _ hk => hk.2) (.int .i64 t300)) (fun _ hk => hk.2) (.int .i64 t301)) (fun _ hk => hk.2) (.slice Ao54 t302.length co54)) (fun _ h_ => h_.1))) (by decide)) hk (fun _ h => h.2)) (fun _ h => h.1)); replace BK306 := mk_ (KeepBut.blk hk (g' := gb306) (o := .cells #[.int .i64 t300, .int .i64 t301, .slice Ao54 t302.length co54] 39 (0, 0)) (by (with_reducible repeat (first | refine zq1 ?_ _ | refine zq2 ?_ | refine zq3 ?_ _)); apply pu3; (with_reducible repeat (first | refine zq1 ?_ _ | refine zq2 ?_ | refine zq3 ?_ _)); exact BK306.out) NB306_0.out (by simp)); replace HK := mk_ (KeepBut.trans (by repeat (first | (with_reducible first | exact HK.out | apply zm1 | apply zr7 | apply zr8 | apply zr9 | refine keep_far ?_ GW299.out _ | refine keep_far ?_ GW306.out _) | exact HK.out)) hk (.inl rfl)); replace HB := mk_ (hb); replace HI0 := mk_ (hi); (try clear hb); (try clear hb2); (try clear hk); (try clear hi)) | ((with_reducible refine gate_callee (f := 70) rfl ?_); refine Aside0.out ?_))
 have H := HH_.out
 clear HH_
 by_cases c47 : t302.length + y323.length < 140737488355328
 rotate_left
 · rw [if_neg c47] at H
   exact absurd H (by simp)
 rw [if_pos c47] at H
 have LMc47 := mk_ c47
 clear c47
 obtain ⟨y326, hy326⟩ : ∃ y_ : List Int, y_ = (t302 ++ y323) := ⟨_, rfl⟩
 replace H : (some (t300, t301, y326, t310)) = some (r1, r2, r3, r4) := by first | (rw [hy326]; with_reducible exact H) | (have H2_ := (Option.bind_some _ _).symm.trans H; rw [hy326]; with_reducible exact H2_) | (have H2_ := (Option.bind_some _ _).symm.trans H; with_reducible exact H2_) | with_reducible exact H | (rw [hy326]; exact H) | exact H
 have Ny326 := mk_ hy326
 clear hy326
 simp only [Option.some.injEq, Prod.mk.injEq] at H
 obtain ⟨rfl, rfl, rfl, rfl⟩ := H
 refine mk_ ?_
 go_wp2_with (first | ((with_reducible refine gate_callee (f := 70) rfl ?_); refine goesL_ (some 12) rfl rfl Try.func70 (by kernel_rfl) rfl #[.pointer (some ⟨g, 0, none⟩), .int .i64 3] rfl (by (try simp only [List.map_toArray, List.map_cons, List.map_nil]); first | done | rfl | (simp only [List.length_drop, List.length_take]; rfl)) ?_; (with_reducible refine (spec_l20Rd_pick.calls k g s0_0 t308 3 t309 t310 w0 _ ?side1 ?side2 A6.out).mono ?_); (case side1 => repeat (first | (with_reducible first | exact HI0.out | apply IsS113.alloc | apply IsS113.drewN | apply IsS113.drew | apply IsS113.set_1 | refine IsS113.far ?_ NB0_299.out _ | refine IsS113.far ?_ NB0_306.out _) | exact HI0.out)); (case side2 => repeat (first | (with_reducible first | exact HB.out | apply zq7 | apply zq8 | apply zq9 | refine zr1 ?_ (IsS113.ge HI0.out) | refine zr1 ?_ GE299.out | refine zr1 ?_ GE306.out) | exact HB.out)); rintro e w56 ⟨rfl, hi, hb, hk⟩; refine ⟨_, rfl, ?_⟩; replace BK299 := mk_ (KeepBut.blk hk (g' := gb299) (o := .cells #[.int .i64 0, .int .i64 0, .slice none 0 0] 39 (0, 0)) (by exact BK299.out) NB299_0.out (by simp)); replace HO304 := mk_ (Kd.R_mono (Kd.R_keep (IsS113.apart (show IsS113 w0 _ g s0_0 t308 from by repeat (first | (with_reducible first | exact HI0.out | apply IsS113.alloc | apply IsS113.drewN | apply IsS113.drew | apply IsS113.set_1 | refine IsS113.far ?_ NB0_299.out _ | refine IsS113.far ?_ NB0_306.out _) | exact HI0.out)) (by (with_reducible repeat (first | apply Kd.R_alloc | apply Kd.R_drewN | apply Kd.R_drew)); exact HO304.out) (by decide)) hk (fun _ h => h.2)) (fun _ h => h.1)); replace BK306 := mk_ (KeepBut.blk hk (g' := gb306) (o := .cells #[.int .i64 t300, .int .i64 t301, .slice Ao54 t302.length co54] 39 (0, 0)) (by exact BK306.out) NB306_0.out (by simp)); replace HK := mk_ (KeepBut.trans (by repeat (first | (with_reducible first | exact HK.out | apply zm1 | apply zr7 | apply zr8 | apply zr9 | refine keep_far ?_ GW299.out _ | refine keep_far ?_ GW306.out _) | exact HK.out)) hk (.inl rfl)); replace HB := mk_ (hb); replace HI0 := mk_ (hi); (try clear hb); (try clear hb2); (try clear hk); (try clear hi); obtain ⟨hcz57_0, hcz57_1, hcz57_2⟩ := cz3 BK306.out; obtain ⟨hfz57_0, hfz57_1, hfz57_2⟩ := fz3 BK306.out) | ((with_reducible refine gate_builtin (b := .append) (xs := #[.tmp 14, .tmp 15]) rfl ?_); at_builtin; refine Kd.R_append_rows (Kd.int .u8) w.heap.size rfl (.tmp 14) (.tmp 15) 22 5 (.int .u8 0) 1 rfl Try.underlying22 info5 rfl (by decide) (by omega) (.slice Ao54 t302.length co54) t302 y323 _ _ _ (fun k_ => some k_ ≠ (.slice Ao61 y323.length co61 : Value).ownBlock) (fun _ => False) rfl rfl ?aO ?aR (fun _ _ h => h) (fun _ h => h.elim) ?aF (Below.refl _ _) ?aS ?aL ?_; (case aR => repeat (first | exact (Kd.R_reads' HO325.out).2.2 | (with_reducible refine Kd.C_alloc ?_ _) | (with_reducible refine Kd.C_drewN ?_ _) | (with_reducible refine Kd.C_drew ?_))); (case aF => exact (fun k_ hk => Kd.fresh' (Kd.R_lt (by (with_reducible repeat (first | apply Kd.R_alloc | apply Kd.R_drewN | apply Kd.R_drew)); exact HO325.out)) k_ hk)); (case aO => exact (by (with_reducible repeat (first | apply Kd.R_alloc | apply Kd.R_drewN | apply Kd.R_drew)); exact Kd.R_mono HO304.out (fun _ hk => hk.2))); (case aS => exact (keep_size (w := w) (g := g) (row := none) (by repeat (first | (with_reducible first | exact HK.out | apply zm1 | apply zr7 | apply zr8 | apply zr9 | refine keep_far ?_ GW299.out _ | refine keep_far ?_ GW306.out _) | exact HK.out)))); (case aL => have := LMc47.out; omega); intro v327 w60 ho hb hg hat; rw [← Ny326.out] at ho; have n0_ := mk_ (IsS113.grown (by repeat (first | (with_reducible first | exact HI0.out | apply IsS113.alloc | apply IsS113.drewN | apply IsS113.drew | apply IsS113.set_1 | refine IsS113.far ?_ NB0_299.out _ | refine IsS113.far ?_ NB0_306.out _) | exact HI0.out)) hg (IsS113.own_ne HI0.out HO304.out (by decide))); have n1_ := mk_ (blk_grown (g := gb299) (o := .cells #[.int .i64 0, .int .i64 0, .slice none 0 0] 39 (0, 0)) (by exact BK299.out) hg (Kd.R_ne HO304.out BK299.out (by decide))); have n2_ := mk_ (blk_grown (g := gb306) (o := .cells #[.int .i64 t300, .int .i64 t301, .slice Ao54 t302.length co54] 39 (0, 0)) (by exact BK306.out) hg (Kd.R_ne HO304.out BK306.out (by decide))); have n3_ := mk_ (Kd.R_after (ok := (fun _ => True)) (by (with_reducible repeat (first | apply Kd.R_alloc | apply Kd.R_drewN | apply Kd.R_drew)); exact HO325.out) hg hat); have n4_ := mk_ (below_weaken (by repeat (first | (with_reducible first | exact HB.out | apply zq7 | apply zq8 | apply zq9 | refine zr1 ?_ (IsS113.ge HI0.out) | refine zr1 ?_ GE299.out | refine zr1 ?_ GE306.out) | exact HB.out)) HL.out hb); have n5_ := mk_ (KeepBut.trans (by repeat (first | (with_reducible first | exact HK.out | apply zm1 | apply zr7 | apply zr8 | apply zr9 | refine keep_far ?_ GW299.out _ | refine keep_far ?_ GW306.out _) | exact HK.out)) (KeepBut.of_grown hg g) (Kd.R_base2 HO304.out)); have n6_ := mk_ (ho); clear HI0; clear BK299; clear BK306; clear HO325; clear HB; clear HK; clear HO304; have HI0 := n0_; have BK299 := n1_; have BK306 := n2_; have HO325 := n3_; have HB := n4_; have HK := n5_; have HO328 := n6_; clear n0_ n1_ n2_ n3_ n4_ n5_ n6_; clear ho hb hg hat; obtain ⟨Ao62, co62, eo62⟩ := Kd.R_slice HO328.out; subst eo62; obtain ⟨hcz63_0, hcz63_1, hcz63_2⟩ := cz3 BK306.out; obtain ⟨hfz63_0, hfz63_1, hfz63_2⟩ := fz3 BK306.out; have hnb64 := NB299_0.out; have hnc64 := NB0_299.out; obtain ⟨hcz65_0, hcz65_1, hcz65_2⟩ := cz3 BK299.out; obtain ⟨hfz65_0, hfz65_1, hfz65_2⟩ := fz3 BK299.out) | ((with_reducible refine gate_dst (N := 15) rfl ?_); refine Kd.R_lit (Kd.int .u8) _ 5 ?hg (N := 15) ?hd (xs := ([1, 2, 3, 4, 5, 6, 7, 8] : List Int)) (inner := [.int .u8 1, .int .u8 2, .int .u8 3, .int .u8 4, .int .u8 5, .int .u8 6, .int .u8 7, .int .u8 8]) (ok := fun _ => True) (okp := fun _ => True) ?hr ?hp (fun _ hk => hk) trivial (Below.refl _ _) (Nat.le_refl _) (by simp) ?_; (case hd => rfl); (case hg => rfl); (case hr => first | (go_simp; done) | (go_simp; rfl)); (case hp => exact (Reps.one (show Kd.M (Kd.int .u8) _ _ _ 1 [.int .u8 1] from rfl) (Reps.one (show Kd.M (Kd.int .u8) _ _ _ 2 [.int .u8 2] from rfl) (Reps.one (show Kd.M (Kd.int .u8) _ _ _ 3 [.int .u8 3] from rfl) (Reps.one (show Kd.M (Kd.int .u8) _ _ _ 4 [.int .u8 4] from rfl) (Reps.one (show Kd.M (Kd.int .u8) _ _ _ 5 [.int .u8 5] from rfl) (Reps.one (show Kd.M (Kd.int .u8) _ _ _ 6 [.int .u8 6] from rfl) (Reps.one (show Kd.M (Kd.int .u8) _ _ _ 7 [.int .u8 7] from rfl) (Reps.one (show Kd.M (Kd.int .u8) _ _ _ 8 [.int .u8 8] from rfl) (Reps.none _ _)))))))))); intro v324 w58 ho59 hb hg_ hnew_; clear hg_ hnew_; (first | rw [← Ny323.out] at ho59 | (simp only [Int.reduceToNat] at ho59; rw [← Ny323.out] at ho59)); have HO325 := mk_ (Kd.R_lower (Kd.R_new' ho59 (Kd.R_lt (by (with_reducible repeat (first | apply Kd.R_alloc | apply Kd.R_drewN | apply Kd.R_drew)); exact HO304.out))) (keep_size (w := w) (g := g) (row := none) (by repeat (first | (with_reducible first | exact HK.out | apply zm1 | apply zr7 | apply zr8 | apply zr9 | refine keep_far ?_ GW299.out _ | refine keep_far ?_ GW306.out _) | exact HK.out)))); replace HO304 := mk_ (Kd.R_elder' (by (with_reducible repeat (first | apply Kd.R_alloc | apply Kd.R_drewN | apply Kd.R_drew)); exact HO304.out) (Kd.R_base ho59) hb); replace BK299 := mk_ (zq6 (by exact BK299.out) hb); replace BK306 := mk_ (zq6 (by exact BK306.out) hb); replace HK := mk_ (KeepBut.trans (by repeat (first | (with_reducible first | exact HK.out | apply zm1 | apply zr7 | apply zr8 | apply zr9 | refine keep_far ?_ GW299.out _ | refine keep_far ?_ GW306.out _) | exact HK.out)) (KeepBut.of_below hb g none) (.inl rfl)); replace HB := mk_ (zr3 (by repeat (first | (with_reducible first | exact HB.out | apply zq7 | apply zq8 | apply zq9 | refine zr1 ?_ (IsS113.ge HI0.out) | refine zr1 ?_ GE299.out | refine zr1 ?_ GE306.out) | exact HB.out)) hb); replace HI0 := mk_ (IsS113.below (by repeat (first | (with_reducible first | exact HI0.out | apply IsS113.alloc | apply IsS113.drewN | apply IsS113.drew | apply IsS113.set_1 | refine IsS113.far ?_ NB0_299.out _ | refine IsS113.far ?_ NB0_306.out _) | exact HI0.out)) hb); clear hb ho59; obtain ⟨Ao61, co61, eo61⟩ := Kd.R_slice HO325.out; subst eo61))
 refine bodyPost_ret (results_cell_row rfl _ _ gb299 39 #[.int .i64 t300, .int .i64 t301, .slice Ao62 y326.length co62] (0, 0) _ rfl (by (with_reducible repeat (first | refine zq1 ?_ _ | refine zq2 ?_ | refine zq3 ?_ _)); apply pu3; (with_reducible repeat (first | refine zq1 ?_ _ | refine zq2 ?_ | refine zq3 ?_ _)); refine zq5 ?_ NB299_306.out _; (with_reducible repeat (first | refine zq1 ?_ _ | refine zq2 ?_ | refine zq3 ?_ _)); exact BK299.out) Try.underlying39 rfl (by kernel_rfl)) rfl ?_
 exact ⟨_, by first | rfl | (simp [errW_none, errW_some] <;> rfl) | (simp [*, errW_none, errW_some] <;> rfl), by (with_reducible repeat (first | apply Kd.R_alloc | apply Kd.R_drewN | apply Kd.R_drew)); exact Kd.R_mono (Kd.R_far (p := ⟨gb299, 2, none⟩) (Kd.R_far (p := ⟨gb299, 1, none⟩) (Kd.R_far (p := ⟨gb299, 0, none⟩) (Kd.R_far (p := ⟨gb306, 2, none⟩) (Kd.R_types (Kd.R_types HO328.out BK306.out (by decide)) BK299.out (by decide)) (fun _ hk => hk.1.2) (.slice Ao62 y326.length co62)) (fun _ hk => hk.2) (.int .i64 t300)) (fun _ hk => hk.2) (.int .i64 t301)) (fun _ hk => hk.2) (.slice Ao62 y326.length co62)) (fun _ hk => trivial), by repeat (first | (with_reducible first | exact HI0.out | apply IsS113.alloc | apply IsS113.drewN | apply IsS113.drew | apply IsS113.set_1 | refine IsS113.far ?_ NB0_299.out _ | refine IsS113.far ?_ NB0_306.out _) | exact HI0.out), by repeat (first | (with_reducible first | exact HB.out | apply zq7 | apply zq8 | apply zq9 | refine zr1 ?_ (IsS113.ge HI0.out) | refine zr1 ?_ GE299.out | refine zr1 ?_ GE306.out) | exact HB.out), by repeat (first | (with_reducible first | exact HK.out | apply zm1 | apply zr7 | apply zr8 | apply zr9 | refine keep_far ?_ GW299.out _ | refine keep_far ?_ GW306.out _) | exact HK.out)⟩

end Go.Proofs.Yteknaofnageihaa.QFnSegPut
