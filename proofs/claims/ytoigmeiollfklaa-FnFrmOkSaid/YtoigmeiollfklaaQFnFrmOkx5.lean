-- Written by a program of this session, a turned copy of the print (not by print.sh itself). Lean checks it.
import Derived.Test.YtoigmeiollfklaaQFnFrmOkx0
import Derived.Test.YtoigmeiollfklaaQFnFrmOkx4
namespace Go.Proofs.Ytoigmeiollfklaa.QFnFrmOk
open Go.RowKit Go.Proofs.YtoigmeiollfklaaW.PrintWords Go.Proofs.YtoigmeiollfklaaW.PrintLast Go.Proofs.YtoigmeiollfklaaW.PrintMore Go.Proofs.YtoigmeiollfklaaLoc
attribute [local go_sem] max2_int min2_int max_two min_two max_three min_three max_four min_four   -- for this text's walks alone
set_option linter.unusedVariables false
set_option linter.unusedSimpArgs false

/-! ### spec_l20Part: function 69 -/
mutual
def spec_l20Part.j0 : Nat → Bool → List Int → Int → Int → Int → List Int → Option (Int × Int × List Int × Int)
  | 0, _, _, _, _, _, _ => none
  | k + 1, x17, x1000, x1001, x179000, x179001, x179002 => if x17 = true then (spec_l20Part.j1 k x1000 x1001 x179000 x179001 (([7] : List Int))) else (spec_l20Part.j1 k x1000 x1001 x179000 x179001 x179002)
def spec_l20Part.j1 : Nat → List Int → Int → Int → Int → List Int → Option (Int × Int × List Int × Int)
  | 0, _, _, _, _, _ => none
  | k + 1, x1000, x1001, x179000, x179001, x179002 => if x179000 = 0 then (if x179000 = 1 then ((spec_l20Rd_pick.f k x1000 x1001 (wrap64 (24 - (x179002.length : Int)))).bind fun bt182 => (some (x179000, wrap64 ((wrap64 ((x179002.length : Int) + 1)) + bt182.1), x179002, bt182.2))) else (some (x179000, (x179002.length : Int), x179002, x1001))) else (if x179000 = 1 then ((spec_l20Rd_pick.f k x1000 x1001 (wrap64 (24 - (x179002.length : Int)))).bind fun bt184 => (some (x179000, wrap64 ((wrap64 ((x179002.length : Int) + 1)) + bt184.1), x179002, bt184.2))) else (some (x179000, x179001, x179002, x1001)))
end
def spec_l20Part.f (k : Nat) (s0_0 : List Int) (s0_1 : Int) : Option (Int × Int × List Int × Int) := (spec_l20Rd_pick.f k s0_0 s0_1 4).bind fun bt172 => ((spec_l20Bytes.f k s0_0 bt172.2 8).bind fun bt174 => (if bt172.1 = 0 then (spec_l20Part.j0 k false s0_0 bt174.2 bt172.1 0 bt174.1) else (spec_l20Part.j0 k ((bt174.1.length : Int) == 0) s0_0 bt174.2 bt172.1 0 bt174.1)))
theorem spec_l20Part.mono_l : ∀ k, (∀ y0 y1 y2 y3 y4 y5, LeO (spec_l20Part.j0 k y0 y1 y2 y3 y4 y5) (spec_l20Part.j0 (k + 1) y0 y1 y2 y3 y4 y5)) ∧ (∀ y0 y1 y2 y3 y4, LeO (spec_l20Part.j1 k y0 y1 y2 y3 y4) (spec_l20Part.j1 (k + 1) y0 y1 y2 y3 y4))
  | 0 => ⟨fun _ _ _ _ _ _ r h => by simp [spec_l20Part.j0] at h, fun _ _ _ _ _ r h => by simp [spec_l20Part.j1] at h⟩
  | k + 1 => by
    obtain ⟨ih0, ih1⟩ := spec_l20Part.mono_l k
    refine ⟨?_, ?_⟩
    · intro y0 y1 y2 y3 y4 y5
      unfold spec_l20Part.j0
      repeat' first
      | (with_reducible exact ih0 _ _ _ _ _ _)
      | (with_reducible exact ih1 _ _ _ _ _)
      | (with_reducible exact spec_l20Bytes.mono _ _ _ _)
      | (with_reducible exact spec_l20Rd_pick.mono _ _ _ _)
      | (with_reducible exact LeO.refl _)
      | (with_reducible exact LeO.none _)
      | (with_reducible refine LeO.ite ?_ ?_)
      | (with_reducible refine LeO.bind ?_ (fun _ => ?_))
      | exact ih0 _ _ _ _ _ _
      | exact ih1 _ _ _ _ _
      | exact spec_l20Bytes.mono _ _ _ _
      | exact spec_l20Rd_pick.mono _ _ _ _
      | exact LeO.none _
      | refine LeO.ite ?_ ?_
      | refine LeO.bind ?_ (fun _ => ?_)
    · intro y0 y1 y2 y3 y4
      unfold spec_l20Part.j1
      repeat' first
      | (with_reducible exact ih0 _ _ _ _ _ _)
      | (with_reducible exact ih1 _ _ _ _ _)
      | (with_reducible exact spec_l20Bytes.mono _ _ _ _)
      | (with_reducible exact spec_l20Rd_pick.mono _ _ _ _)
      | (with_reducible exact LeO.refl _)
      | (with_reducible exact LeO.none _)
      | (with_reducible refine LeO.ite ?_ ?_)
      | (with_reducible refine LeO.bind ?_ (fun _ => ?_))
      | exact ih0 _ _ _ _ _ _
      | exact ih1 _ _ _ _ _
      | exact spec_l20Bytes.mono _ _ _ _
      | exact spec_l20Rd_pick.mono _ _ _ _
      | exact LeO.none _
      | refine LeO.ite ?_ ?_
      | refine LeO.bind ?_ (fun _ => ?_)
theorem spec_l20Part.mono : ∀ a0 a1 k, LeO (spec_l20Part.f k a0 a1) (spec_l20Part.f (k + 1) a0 a1) := by
 intro a0 a1 k
 obtain ⟨ih0, ih1⟩ := spec_l20Part.mono_l k
 unfold spec_l20Part.f
 repeat' first
     | (with_reducible exact ih0 _ _ _ _ _ _)
     | (with_reducible exact ih1 _ _ _ _ _)
     | (with_reducible exact spec_l20Bytes.mono _ _ _ _)
     | (with_reducible exact spec_l20Rd_pick.mono _ _ _ _)
     | (with_reducible exact LeO.refl _)
     | (with_reducible exact LeO.none _)
     | (with_reducible refine LeO.ite ?_ ?_)
     | (with_reducible refine LeO.bind ?_ (fun _ => ?_))
     | exact ih0 _ _ _ _ _ _
     | exact ih1 _ _ _ _ _
     | exact spec_l20Bytes.mono _ _ _ _
     | exact spec_l20Rd_pick.mono _ _ _ _
     | exact LeO.none _
     | refine LeO.ite ?_ ?_
     | refine LeO.bind ?_ (fun _ => ?_)
def spec_l20Part.T7 : Bool × List (List Nat × List Nat) := (true, [([], []), ([0], [0]), ([1], [1]), ([2], [2]), ([], []), ([], []), ([5], [5]), ([6], [6]), ([7], [7]), ([4, 8], [4, 8]), ([3, 9], [3, 9]), ([0, 1, 2, 3, 4, 5, 6, 7, 8, 9, 10], []), ([11, 10, 9, 0, 1, 2, 3, 4, 5, 6, 7, 8, 9, 10], [10, 11])])
def spec_l20Part.B7 : List Nat := [0, 1, 3, 7, 0, 0, 32, 96, 224, 496, 1023, 2047, 4095]
theorem spec_l20Part.tab7 : rtab .any (opsOf Try.f69 7) = spec_l20Part.T7 := by kernel_rfl
theorem spec_l20Part.bits7 : waitsOk spec_l20Part.T7.2 spec_l20Part.B7 = true := by kernel_rfl
set_option maxHeartbeats 60000000 in
set_option maxRecDepth 100000 in
theorem spec_l20Part.calls (k : Nat) (g : Nat) (s0_0 : List Int) (s0_1 : Int) (r1 : Int) (r2 : Int) (r3 : List Int) (r4 : Int) (w0 w : World) (hI : IsS93 w0 w g s0_0 s0_1) (hB : Below w0.heap.size w0 w) (h : spec_l20Part.f k s0_0 s0_1 = some (r1, r2, r3, r4)) :
    Calls Try.prog 69 #[.pointer (some ⟨g, 0, none⟩)] w fun e w' => ∃ v2_ : Value, e = .returned (.agg #[.int .i64 r1, .int .i64 r2, v2_]) ∧ Kd.R (Kd.int .u8) 5 w' w.heap.size (fun _ => True) v2_ r3 ∧ IsS93 w0 w' g s0_0 r4 ∧ Below w0.heap.size w0 w' ∧ KeepBut w w' g none := by
  have hu95 := Try.underlying95
  have HI0 := mk_ hI
  have HK := mk_ (KeepBut.refl w g none)
  have HL := mk_ hB.size
  clear hI
  have HW0 := mk_ hB.size
  have HB := mk_ hB
  clear hB
  have H : ((spec_l20Rd_pick.f k s0_0 s0_1 4).bind fun bt172 => ((spec_l20Bytes.f k s0_0 bt172.2 8).bind fun bt174 => (if bt172.1 = 0 then (spec_l20Part.j0 k false s0_0 bt174.2 bt172.1 0 bt174.1) else (spec_l20Part.j0 k ((bt174.1.length : Int) == 0) s0_0 bt174.2 bt172.1 0 bt174.1)))) = some (r1, r2, r3, r4) := h
  clear h
  replace H := Option.bind_eq_some_iff.mp H
  obtain ⟨⟨t172, t173⟩, A20, H⟩ := H
  try dsimp only at H
  have A2 := mk_ A20
  clear A20
  replace H := Option.bind_eq_some_iff.mp H
  obtain ⟨⟨t174, t177⟩, A30, H⟩ := H
  try dsimp only at H
  have A3 := mk_ A30
  clear A30
  have HC4 := mk_ H
  clear H
  go_enter Try.func69, Try.ntmps69
  go_upto_region 2 with (first | ((with_reducible refine gate_dst (N := 2) rfl ?_); (try (refine gate_guard (by rfl) ?_; dsimp only)); refine box_event ?hg (N := 2) ?hd (cs := #[.int .i64 0, .int .i64 0, .slice none 0 0]) (t := 95) ?hr ?_; (case hd => rfl); (case hg => rfl); (case hr => first | (go_simp; done) | (go_simp; rfl)); intro gb171 hg w5 hbox hb; replace HB := mk_ (zr3 (by repeat (first | (with_reducible first | exact HB.out | apply zq7 | apply zq8 | apply zq9 | refine zr1 ?_ (IsS93.ge HI0.out)) | exact HB.out)) hb); have BK171 := mk_ (hbox); have GW171 := mk_ ((by rw [hg]; exact (keep_size (w := w) (g := g) (row := none) (by repeat (first | (with_reducible first | exact HK.out | apply zm1 | apply zr7 | apply zr8 | apply zr9) | exact HK.out))) : w.heap.size ≤ gb171)); have GE171 := mk_ ((Nat.le_trans HW0.out (by rw [hg]; exact (keep_size (w := w) (g := g) (row := none) (by repeat (first | (with_reducible first | exact HK.out | apply zm1 | apply zr7 | apply zr8 | apply zr9) | exact HK.out))) : w.heap.size ≤ gb171) : w0.heap.size ≤ gb171)); replace HK := mk_ (KeepBut.trans (by repeat (first | (with_reducible first | exact HK.out | apply zm1 | apply zr7 | apply zr8 | apply zr9) | exact HK.out)) (KeepBut.of_below hb g none) (.inl rfl)); have NB0_171 := mk_ ((by rw [hg]; exact zm2 (IsS93.lt (show IsS93 w0 _ g s0_0 s0_1 from by repeat (first | (with_reducible first | exact HI0.out | apply IsS93.alloc | apply IsS93.drewN | apply IsS93.drew | apply IsS93.set_1) | exact HI0.out))) : g ≠ gb171)); replace HI0 := mk_ (IsS93.below (by repeat (first | (with_reducible first | exact HI0.out | apply IsS93.alloc | apply IsS93.drewN | apply IsS93.drew | apply IsS93.set_1) | exact HI0.out)) hb); have NB171_0 := mk_ NB0_171.out.symm; clear hb hbox hg) | ((with_reducible refine gate_callee (f := 58) rfl ?_); refine goesL_ (some 5) rfl rfl Try.func58 (by kernel_rfl) rfl #[.pointer (some ⟨g, 0, none⟩), .int .i64 4] rfl (by (try simp only [List.map_toArray, List.map_cons, List.map_nil]); first | done | rfl | (simp only [List.length_drop, List.length_take]; rfl)) ?_; (with_reducible refine (spec_l20Rd_pick.calls k g s0_0 s0_1 4 t172 t173 w0 _ ?side1 ?side2 A2.out).mono ?_); (case side1 => repeat (first | (with_reducible first | exact HI0.out | apply IsS93.alloc | apply IsS93.drewN | apply IsS93.drew | apply IsS93.set_1 | refine IsS93.far ?_ NB0_171.out _) | exact HI0.out)); (case side2 => repeat (first | (with_reducible first | exact HB.out | apply zq7 | apply zq8 | apply zq9 | refine zr1 ?_ (IsS93.ge HI0.out) | refine zr1 ?_ GE171.out) | exact HB.out)); rintro e w6 ⟨rfl, hi, hb, hk⟩; refine ⟨_, rfl, ?_⟩; replace BK171 := mk_ (KeepBut.blk hk (g' := gb171) (o := .cells #[.int .i64 0, .int .i64 0, .slice none 0 0] 95 (0, 0)) (by exact BK171.out) NB171_0.out (by simp)); replace HK := mk_ (KeepBut.trans (by repeat (first | (with_reducible first | exact HK.out | apply zm1 | apply zr7 | apply zr8 | apply zr9 | refine keep_far ?_ GW171.out _) | exact HK.out)) hk (.inl rfl)); replace HB := mk_ (hb); replace HI0 := mk_ (hi); (try clear hb); (try clear hb2); (try clear hk); (try clear hi)) | ((with_reducible refine gate_callee (f := 70) rfl ?_); refine goesL_ (some 7) rfl rfl Try.func70 (by kernel_rfl) rfl #[.pointer (some ⟨g, 0, none⟩), .int .i64 8] rfl (by (try simp only [List.map_toArray, List.map_cons, List.map_nil]); first | done | rfl | (simp only [List.length_drop, List.length_take]; rfl)) ?_; (with_reducible refine (spec_l20Bytes.calls k g s0_0 t173 8 t174 t177 w0 _ ?side1 ?side2 A3.out).mono ?_); (case side1 => repeat (first | (with_reducible first | exact HI0.out | apply IsS93.alloc | apply IsS93.drewN | apply IsS93.drew | apply IsS93.set_1 | refine IsS93.far ?_ NB0_171.out _) | exact HI0.out)); (case side2 => repeat (first | (with_reducible first | exact HB.out | apply zq7 | apply zq8 | apply zq9 | refine zr1 ?_ (IsS93.ge HI0.out) | refine zr1 ?_ GE171.out) | exact HB.out)); rintro e w7 ⟨v175, rfl, ho0, hi, hb, hk⟩; refine ⟨_, rfl, ?_⟩; replace BK171 := mk_ (KeepBut.blk hk (g' := gb171) (o := .cells #[.int .i64 0, .int .i64 0, .slice none 0 0] 95 (0, 0)) (by exact BK171.out) NB171_0.out (by simp)); have HO176 := mk_ (Kd.R_lower ho0 (keep_size (w := w) (g := g) (row := none) (by repeat (first | (with_reducible first | exact HK.out | apply zm1 | apply zr7 | apply zr8 | apply zr9 | refine keep_far ?_ GW171.out _) | exact HK.out)))); replace HK := mk_ (KeepBut.trans (by repeat (first | (with_reducible first | exact HK.out | apply zm1 | apply zr7 | apply zr8 | apply zr9 | refine keep_far ?_ GW171.out _) | exact HK.out)) hk (.inl rfl)); replace HB := mk_ (hb); replace HI0 := mk_ (hi); (try clear hb); (try clear hb2); (try clear hk); (try clear hi); (try clear ho0); obtain ⟨Ao8, co8, eo8⟩ := Kd.R_slice HO176.out; subst eo8) | ((with_reducible refine gate_dst (N := 3) rfl ?_); (try (refine gate_guard (by rfl) ?_; dsimp only)); refine box_event ?hg (N := 3) ?hd (cs := #[.int .i64 0, .int .i64 0, .slice none 0 0]) (t := 95) ?hr ?_; (case hd => rfl); (case hg => rfl); (case hr => first | (go_simp; done) | (go_simp; rfl)); intro gb178 hg w9 hbox hb; replace HO176 := mk_ (Kd.R_below (by (with_reducible repeat (first | apply Kd.R_alloc | apply Kd.R_drewN | apply Kd.R_drew)); exact HO176.out) hb); replace HB := mk_ (zr3 (by repeat (first | (with_reducible first | exact HB.out | apply zq7 | apply zq8 | apply zq9 | refine zr1 ?_ (IsS93.ge HI0.out) | refine zr1 ?_ GE171.out) | exact HB.out)) hb); have BK178 := mk_ (hbox); have GW178 := mk_ ((by rw [hg]; exact (keep_size (w := w) (g := g) (row := none) (by repeat (first | (with_reducible first | exact HK.out | apply zm1 | apply zr7 | apply zr8 | apply zr9 | refine keep_far ?_ GW171.out _) | exact HK.out))) : w.heap.size ≤ gb178)); have GE178 := mk_ ((Nat.le_trans HW0.out (by rw [hg]; exact (keep_size (w := w) (g := g) (row := none) (by repeat (first | (with_reducible first | exact HK.out | apply zm1 | apply zr7 | apply zr8 | apply zr9 | refine keep_far ?_ GW171.out _) | exact HK.out))) : w.heap.size ≤ gb178) : w0.heap.size ≤ gb178)); replace HK := mk_ (KeepBut.trans (by repeat (first | (with_reducible first | exact HK.out | apply zm1 | apply zr7 | apply zr8 | apply zr9 | refine keep_far ?_ GW171.out _) | exact HK.out)) (KeepBut.of_below hb g none) (.inl rfl)); have NB171_178 := mk_ ((by rw [hg]; exact zm2 (zr6 (by exact BK171.out)) : gb171 ≠ gb178)); replace BK171 := mk_ (zq6 (by exact BK171.out) hb); have NB178_171 := mk_ NB171_178.out.symm; have NB0_178 := mk_ ((by rw [hg]; exact zm2 (IsS93.lt (show IsS93 w0 _ g s0_0 t177 from by repeat (first | (with_reducible first | exact HI0.out | apply IsS93.alloc | apply IsS93.drewN | apply IsS93.drew | apply IsS93.set_1 | refine IsS93.far ?_ NB0_171.out _) | exact HI0.out))) : g ≠ gb178)); replace HI0 := mk_ (IsS93.below (by repeat (first | (with_reducible first | exact HI0.out | apply IsS93.alloc | apply IsS93.drewN | apply IsS93.drew | apply IsS93.set_1 | refine IsS93.far ?_ NB0_171.out _) | exact HI0.out)) hb); have NB178_0 := mk_ NB0_178.out.symm; clear hb hbox hg; have hnb10 := NB178_171.out; have hnc10 := NB171_178.out; have hnb11 := NB178_0.out; have hnc11 := NB0_178.out; obtain ⟨hcz12_0, hcz12_1, hcz12_2⟩ := cz3 BK178.out; obtain ⟨hfz12_0, hfz12_1, hfz12_2⟩ := fz3 BK178.out))
  (try simp only [Act.put, List.setIfInBounds_toArray, List.set_cons_zero, List.set_cons_succ])
  go_cut [17] (fun v17 wc => ∃ (kq : Nat) (x17_3 : Bool), v17 = .bool x17_3 ∧ Aside0 (spec_l20Part.j0 kq x17_3 s0_0 t177 t172 0 t174 = some (r1, r2, r3, r4)) ∧ Aside0 (kq ≤ k) ∧ Aside0 (Kd.R (Kd.int .u8) 5 wc w.heap.size (fun _ => True) (.slice Ao8 t174.length co8) t174) ∧ Aside0 (wc.heap[gb171]? = some (.cells #[.int .i64 0, .int .i64 0, (.slice none 0 0)] 95 (0, 0))) ∧ Aside0 (wc.heap[gb178]? = some (.cells #[.int .i64 t172, .int .i64 0, (.slice Ao8 t174.length co8)] 95 (0, 0))) ∧ Aside0 (IsS93 w0 wc g s0_0 t177) ∧ Aside0 (KeepBut w wc g none) ∧ Aside0 (Below w0.heap.size w0 wc))
  case first =>
    have H := HC4.out
    clear HC4
    by_cases c13 : t172 = 0
    · rw [if_pos c13] at H
      have c13b0 : (t172 == 0) = true := beq_iff_eq.mpr c13
      have c13b1 : (t172 != 0) = false := bne_eq_false_iff_eq.mpr c13
      clear c13
      (first | rw [c13b0] | (simp only [i64_w, i32_w]; rw [c13b0]) | skip)
      have H' := mk_ H
      clear H
      have hnb14 := NB178_171.out
      have hnc14 := NB171_178.out
      have hnb15 := NB178_0.out
      have hnc15 := NB0_178.out
      obtain ⟨hcz16_0, hcz16_1, hcz16_2⟩ := cz3 BK178.out
      obtain ⟨hfz16_0, hfz16_1, hfz16_2⟩ := fz3 BK178.out
      go_wp2
      go_meet
      case rel => exact ⟨_, (false), (by first | rfl | (simp; done) | (simp [*]; done)), H', ⟨by first | omega | exact Nat.le_refl _⟩, ⟨by (with_reducible repeat (first | apply Kd.R_alloc | apply Kd.R_drewN | apply Kd.R_drew)); exact Kd.R_mono (Kd.R_far (p := ⟨gb178, 2, none⟩) (Kd.R_far (p := ⟨gb178, 1, none⟩) (Kd.R_far (p := ⟨gb178, 0, none⟩) (Kd.R_types HO176.out BK178.out (by decide)) (fun _ hk => hk.2) (.int .i64 t172)) (fun _ hk => hk.2) (.int .i64 0)) (fun _ hk => hk.2) (.slice Ao8 t174.length co8)) (fun _ hk => trivial)⟩, ⟨by (with_reducible repeat (first | refine zq1 ?_ _ | refine zq2 ?_ | refine zq3 ?_ _)); refine fa3 ?_ NB171_178.out; (with_reducible repeat (first | refine zq1 ?_ _ | refine zq2 ?_ | refine zq3 ?_ _)); exact BK171.out⟩, ⟨by (with_reducible repeat (first | refine zq1 ?_ _ | refine zq2 ?_ | refine zq3 ?_ _)); apply pu3; (with_reducible repeat (first | refine zq1 ?_ _ | refine zq2 ?_ | refine zq3 ?_ _)); exact BK178.out⟩, ⟨by repeat (first | (with_reducible first | exact HI0.out | apply IsS93.alloc | apply IsS93.drewN | apply IsS93.drew | apply IsS93.set_1 | refine IsS93.far ?_ NB0_171.out _ | refine IsS93.far ?_ NB0_178.out _) | exact HI0.out)⟩, ⟨by repeat (first | (with_reducible first | exact HK.out | apply zm1 | apply zr7 | apply zr8 | apply zr9 | refine keep_far ?_ GW171.out _ | refine keep_far ?_ GW178.out _) | exact HK.out)⟩, ⟨by repeat (first | (with_reducible first | exact HB.out | apply zq7 | apply zq8 | apply zq9 | refine zr1 ?_ (IsS93.ge HI0.out) | refine zr1 ?_ GE171.out | refine zr1 ?_ GE178.out) | exact HB.out)⟩⟩
    · rw [if_neg c13] at H
      have c13b0 : (t172 == 0) = false := beq_eq_false_iff_ne.mpr c13
      have c13b1 : (t172 != 0) = true := bne_iff_ne.mpr c13
      (first | rw [c13b0] | (simp only [i64_w, i32_w]; rw [c13b0]) | skip)
      have H' := mk_ H
      clear H
      have hnb17 := NB178_171.out
      have hnc17 := NB171_178.out
      have hnb18 := NB178_0.out
      have hnc18 := NB0_178.out
      obtain ⟨hcz19_0, hcz19_1, hcz19_2⟩ := cz3 BK178.out
      obtain ⟨hfz19_0, hfz19_1, hfz19_2⟩ := fz3 BK178.out
      go_wp2
      go_meet
      case rel => exact ⟨_, (((t174.length : Int) == 0)), (by first | rfl | (simp; done) | (simp [*]; done)), H', ⟨by first | omega | exact Nat.le_refl _⟩, ⟨by (with_reducible repeat (first | apply Kd.R_alloc | apply Kd.R_drewN | apply Kd.R_drew)); exact Kd.R_mono (Kd.R_far (p := ⟨gb178, 2, none⟩) (Kd.R_far (p := ⟨gb178, 1, none⟩) (Kd.R_far (p := ⟨gb178, 0, none⟩) (Kd.R_types HO176.out BK178.out (by decide)) (fun _ hk => hk.2) (.int .i64 t172)) (fun _ hk => hk.2) (.int .i64 0)) (fun _ hk => hk.2) (.slice Ao8 t174.length co8)) (fun _ hk => trivial)⟩, ⟨by (with_reducible repeat (first | refine zq1 ?_ _ | refine zq2 ?_ | refine zq3 ?_ _)); refine fa3 ?_ NB171_178.out; (with_reducible repeat (first | refine zq1 ?_ _ | refine zq2 ?_ | refine zq3 ?_ _)); exact BK171.out⟩, ⟨by (with_reducible repeat (first | refine zq1 ?_ _ | refine zq2 ?_ | refine zq3 ?_ _)); apply pu3; (with_reducible repeat (first | refine zq1 ?_ _ | refine zq2 ?_ | refine zq3 ?_ _)); exact BK178.out⟩, ⟨by repeat (first | (with_reducible first | exact HI0.out | apply IsS93.alloc | apply IsS93.drewN | apply IsS93.drew | apply IsS93.set_1 | refine IsS93.far ?_ NB0_171.out _ | refine IsS93.far ?_ NB0_178.out _) | exact HI0.out)⟩, ⟨by repeat (first | (with_reducible first | exact HK.out | apply zm1 | apply zr7 | apply zr8 | apply zr9 | refine keep_far ?_ GW171.out _ | refine keep_far ?_ GW178.out _) | exact HK.out)⟩, ⟨by repeat (first | (with_reducible first | exact HB.out | apply zq7 | apply zq8 | apply zq9 | refine zr1 ?_ (IsS93.ge HI0.out) | refine zr1 ?_ GE171.out | refine zr1 ?_ GE178.out) | exact HB.out)⟩⟩
  case rest =>
    clear HC4
    try clear c1
    try clear p2
    try clear c5
    try clear c6
    try clear c7
    try clear c10
    try clear c11
    try clear c13
    try clear c13b0
    try clear c13b1
    try clear c14
    try clear c15
    try clear c17
    try clear c18
    try clear hcz12_0 hcz12_1 hcz12_2
    try clear hcz16_0 hcz16_1 hcz16_2
    try clear hcz19_0 hcz19_1 hcz19_2
    try clear hfz12_0 hfz12_1 hfz12_2
    try clear hfz16_0 hfz16_1 hfz16_2
    try clear hfz19_0 hfz19_1 hfz19_2
    obtain ⟨kq, x17_3, rfl, HA, HJ3, HO_179002, BK171, BK178, HI0, HK, HB⟩ := hcut
    cases kq with
    | zero => exact absurd HA.out (by simp [spec_l20Part.j0])
    | succ kj3 =>
      have H := HA.out
      clear HA
      simp only [spec_l20Part.j0] at H
      have HC20 := mk_ H
      clear H
      go_upto_if 17 with (fail)
      go_cut [] (fun wc => ∃ (kq : Nat) (x179002_19 : List Int) (u179002 : Value), Aside0 (spec_l20Part.j1 kq s0_0 t177 t172 0 x179002_19 = some (r1, r2, r3, r4)) ∧ Aside0 (kq ≤ kj3) ∧ Aside0 (Kd.R (Kd.int .u8) 5 wc w.heap.size (fun _ => True) u179002 x179002_19) ∧ Aside0 (wc.heap[gb171]? = some (.cells #[.int .i64 0, .int .i64 0, (.slice none 0 0)] 95 (0, 0))) ∧ Aside0 (wc.heap[gb178]? = some (.cells #[.int .i64 t172, .int .i64 0, u179002] 95 (0, 0))) ∧ Aside0 (IsS93 w0 wc g s0_0 t177) ∧ Aside0 (KeepBut w wc g none) ∧ Aside0 (Below w0.heap.size w0 wc))
      case first =>
        have H := HC20.out
        clear HC20
        by_cases c21 : x17_3 = true
        · subst c21
          have H1 : (spec_l20Part.j1 kj3 s0_0 t177 t172 0 (([7] : List Int))) = some (r1, r2, r3, r4) := by rw [if_pos rfl] at H; exact H
          clear H
          have H := H1
          clear H1
          obtain ⟨y179, hy179⟩ : ∃ y_ : List Int, y_ = (([7] : List Int)) := ⟨_, rfl⟩
          replace H : (spec_l20Part.j1 kj3 s0_0 t177 t172 0 y179) = some (r1, r2, r3, r4) := by first | (rw [hy179]; with_reducible exact H) | (have H2_ := (Option.bind_some _ _).symm.trans H; rw [hy179]; with_reducible exact H2_) | (have H2_ := (Option.bind_some _ _).symm.trans H; with_reducible exact H2_) | with_reducible exact H | (rw [hy179]; exact H) | exact H
          have Ny179 := mk_ hy179
          clear hy179
          have H' := mk_ H
          clear H
          go_wp2_with (first | ((with_reducible refine gate_dst (N := 18) rfl ?_); (try (refine gate_guard (by rfl) ?_; dsimp only)); refine Kd.R_lit (Kd.int .u8) _ 5 ?hg (N := 18) ?hd (xs := ([7] : List Int)) (inner := [.int .u8 7]) (ok := fun _ => True) (okp := fun _ => True) ?hr ?hp (fun _ hk => hk) trivial (Below.refl _ _) (Nat.le_refl _) (by simp) ?_; (case hd => rfl); (case hg => rfl); (case hr => first | (go_simp; done) | (go_simp; rfl)); (case hp => exact (Reps.one (show Kd.M (Kd.int .u8) _ _ _ 7 [.int .u8 7] from rfl) (Reps.none _ _))); intro v180 w22 ho23 hb hg_ hnew_; clear hg_ hnew_; (first | rw [← Ny179.out] at ho23 | (simp only [Int.reduceToNat] at ho23; rw [← Ny179.out] at ho23)); have HO181 := mk_ (Kd.R_lower (Kd.R_new' ho23 (Kd.R_lt (by (with_reducible repeat (first | apply Kd.R_alloc | apply Kd.R_drewN | apply Kd.R_drew)); exact HO_179002.out))) (keep_size (w := w) (g := g) (row := none) (by repeat (first | (with_reducible first | exact HK.out | apply zm1 | apply zr7 | apply zr8 | apply zr9 | refine keep_far ?_ GW171.out _ | refine keep_far ?_ GW178.out _) | exact HK.out)))); replace HO_179002 := mk_ (Kd.R_elder' (by (with_reducible repeat (first | apply Kd.R_alloc | apply Kd.R_drewN | apply Kd.R_drew)); exact HO_179002.out) (Kd.R_base ho23) hb); replace BK171 := mk_ (zq6 (by exact BK171.out) hb); replace BK178 := mk_ (zq6 (by exact BK178.out) hb); replace HK := mk_ (KeepBut.trans (by repeat (first | (with_reducible first | exact HK.out | apply zm1 | apply zr7 | apply zr8 | apply zr9 | refine keep_far ?_ GW171.out _ | refine keep_far ?_ GW178.out _) | exact HK.out)) (KeepBut.of_below hb g none) (.inl rfl)); replace HB := mk_ (zr3 (by repeat (first | (with_reducible first | exact HB.out | apply zq7 | apply zq8 | apply zq9 | refine zr1 ?_ (IsS93.ge HI0.out) | refine zr1 ?_ GE171.out | refine zr1 ?_ GE178.out) | exact HB.out)) hb); replace HI0 := mk_ (IsS93.below (by repeat (first | (with_reducible first | exact HI0.out | apply IsS93.alloc | apply IsS93.drewN | apply IsS93.drew | apply IsS93.set_1 | refine IsS93.far ?_ NB0_171.out _ | refine IsS93.far ?_ NB0_178.out _) | exact HI0.out)) hb); clear hb ho23; obtain ⟨Ao24, co24, eo24⟩ := Kd.R_slice HO181.out; subst eo24; have hnb25 := NB178_171.out; have hnc25 := NB171_178.out; have hnb26 := NB178_0.out; have hnc26 := NB0_178.out; obtain ⟨hcz27_0, hcz27_1, hcz27_2⟩ := cz3 BK178.out; obtain ⟨hfz27_0, hfz27_1, hfz27_2⟩ := fz3 BK178.out))
          go_meet
          case rel => exact ⟨_, (y179), (.slice Ao24 y179.length co24), H', ⟨by have := HJ3.out; first | omega | exact Nat.le_refl _⟩, ⟨by (with_reducible repeat (first | apply Kd.R_alloc | apply Kd.R_drewN | apply Kd.R_drew)); exact Kd.R_mono (Kd.R_far (p := ⟨gb178, 2, none⟩) (Kd.R_types HO181.out BK178.out (by decide)) (fun _ hk => hk.2) (.slice Ao24 y179.length co24)) (fun _ hk => trivial)⟩, ⟨by (with_reducible repeat (first | refine zq1 ?_ _ | refine zq2 ?_ | refine zq3 ?_ _)); refine zq5 ?_ NB171_178.out _; (with_reducible repeat (first | refine zq1 ?_ _ | refine zq2 ?_ | refine zq3 ?_ _)); exact BK171.out⟩, ⟨by (with_reducible repeat (first | refine zq1 ?_ _ | refine zq2 ?_ | refine zq3 ?_ _)); refine zq4 (cs := #[.int .i64 t172, .int .i64 0, .slice Ao8 t174.length co8]) ?_ 2 _ rfl; (with_reducible repeat (first | refine zq1 ?_ _ | refine zq2 ?_ | refine zq3 ?_ _)); exact BK178.out⟩, ⟨by repeat (first | (with_reducible first | exact HI0.out | apply IsS93.alloc | apply IsS93.drewN | apply IsS93.drew | apply IsS93.set_1 | refine IsS93.far ?_ NB0_171.out _ | refine IsS93.far ?_ NB0_178.out _) | exact HI0.out)⟩, ⟨by repeat (first | (with_reducible first | exact HK.out | apply zm1 | apply zr7 | apply zr8 | apply zr9 | refine keep_far ?_ GW171.out _ | refine keep_far ?_ GW178.out _) | exact HK.out)⟩, ⟨by repeat (first | (with_reducible first | exact HB.out | apply zq7 | apply zq8 | apply zq9 | refine zr1 ?_ (IsS93.ge HI0.out) | refine zr1 ?_ GE171.out | refine zr1 ?_ GE178.out) | exact HB.out)⟩⟩
        · replace c21 := Bool.eq_false_iff.mpr c21
          subst c21
          have H1 : (spec_l20Part.j1 kj3 s0_0 t177 t172 0 t174) = some (r1, r2, r3, r4) := by rw [if_neg (show ¬ (false = true) by decide)] at H; exact H
          clear H
          have H := H1
          clear H1
          have H' := mk_ H
          clear H
          go_wp2
          go_meet
          case rel => exact ⟨_, (t174), (.slice Ao8 t174.length co8), H', ⟨by have := HJ3.out; first | omega | exact Nat.le_refl _⟩, ⟨by (with_reducible repeat (first | apply Kd.R_alloc | apply Kd.R_drewN | apply Kd.R_drew)); exact HO_179002.out⟩, ⟨by (with_reducible repeat (first | refine zq1 ?_ _ | refine zq2 ?_ | refine zq3 ?_ _)); exact BK171.out⟩, ⟨by (with_reducible repeat (first | refine zq1 ?_ _ | refine zq2 ?_ | refine zq3 ?_ _)); exact BK178.out⟩, ⟨by repeat (first | (with_reducible first | exact HI0.out | apply IsS93.alloc | apply IsS93.drewN | apply IsS93.drew | apply IsS93.set_1 | refine IsS93.far ?_ NB0_171.out _ | refine IsS93.far ?_ NB0_178.out _) | exact HI0.out)⟩, ⟨by repeat (first | (with_reducible first | exact HK.out | apply zm1 | apply zr7 | apply zr8 | apply zr9 | refine keep_far ?_ GW171.out _ | refine keep_far ?_ GW178.out _) | exact HK.out)⟩, ⟨by repeat (first | (with_reducible first | exact HB.out | apply zq7 | apply zq8 | apply zq9 | refine zr1 ?_ (IsS93.ge HI0.out) | refine zr1 ?_ GE171.out | refine zr1 ?_ GE178.out) | exact HB.out)⟩⟩
      case rest =>
        clear HC20
        try clear c1
        try clear c2
        try clear p2
        try clear c5
        try clear c6
        try clear c7
        try clear c10
        try clear c11
        try clear c13
        try clear c13b0
        try clear c13b1
        try clear c14
        try clear c15
        try clear c17
        try clear c18
        try clear c21
        try clear c25
        try clear c26
        try clear hcz12_0 hcz12_1 hcz12_2
        try clear hcz16_0 hcz16_1 hcz16_2
        try clear hcz19_0 hcz19_1 hcz19_2
        try clear hcz27_0 hcz27_1 hcz27_2
        try clear hfz12_0 hfz12_1 hfz12_2
        try clear hfz16_0 hfz16_1 hfz16_2
        try clear hfz19_0 hfz19_1 hfz19_2
        try clear hfz27_0 hfz27_1 hfz27_2
        try clear p2
        obtain ⟨kq, x179002_19, u179002, HA, HJ19, HO_179002, BK171, BK178, HI0, HK, HB⟩ := hcut
        cases kq with
        | zero => exact absurd HA.out (by simp [spec_l20Part.j1])
        | succ kj19 =>
          have H := HA.out
          clear HA
          simp only [spec_l20Part.j1] at H
          by_cases c28 : t172 = 0
          · rw [if_pos c28] at H
            have c28b0 : (t172 == 0) = true := beq_iff_eq.mpr c28
            have c28b1 : (t172 != 0) = false := bne_eq_false_iff_eq.mpr c28
            clear c28
            by_cases c29 : t172 = 1
            · rw [if_pos c29] at H
              have c29b0 : (t172 == 1) = true := beq_iff_eq.mpr c29
              have c29b1 : (t172 != 1) = false := bne_eq_false_iff_eq.mpr c29
              clear c29
              replace H := Option.bind_eq_some_iff.mp H
              obtain ⟨⟨t182, t183⟩, A300, H⟩ := H
              try dsimp only at H
              have A30 := mk_ A300
              clear A300
              simp only [Option.some.injEq, Prod.mk.injEq] at H
              obtain ⟨rfl, rfl, rfl, rfl⟩ := H
              have hnb31 := NB178_171.out
              have hnc31 := NB171_178.out
              have hnb32 := NB178_0.out
              have hnc32 := NB0_178.out
              obtain ⟨hcz33_0, hcz33_1, hcz33_2⟩ := cz3 BK178.out
              obtain ⟨hfz33_0, hfz33_1, hfz33_2⟩ := fz3 BK178.out
              obtain ⟨Ao34, co34, eo34⟩ := Kd.R_slice HO_179002.out
              subst eo34
              try go_wp2
              have n0_ : Aside0 (Kd.R (Kd.int .u8) 5 (wc.setCell ⟨gb178, 1, none⟩ (.int .i64 (x179002_19.length : Int))) w.heap.size (fun _ => True) (.slice Ao34 x179002_19.length co34) x179002_19) := ⟨by (with_reducible repeat (first | apply Kd.R_alloc | apply Kd.R_drewN | apply Kd.R_drew)); exact Kd.R_mono (Kd.R_far (p := ⟨gb178, 1, none⟩) (Kd.R_types HO_179002.out BK178.out (by decide)) (fun _ hk => hk.2) (.int .i64 (x179002_19.length : Int))) (fun _ hk => trivial)⟩
              have n1_ : Aside0 ((wc.setCell ⟨gb178, 1, none⟩ (.int .i64 (x179002_19.length : Int))).heap[gb171]? = some (.cells #[.int .i64 0, .int .i64 0, .slice none 0 0] 95 (0, 0))) := ⟨by (with_reducible repeat (first | refine zq1 ?_ _ | refine zq2 ?_ | refine zq3 ?_ _)); refine zq5 ?_ NB171_178.out _; (with_reducible repeat (first | refine zq1 ?_ _ | refine zq2 ?_ | refine zq3 ?_ _)); exact BK171.out⟩
              have n2_ : Aside0 ((wc.setCell ⟨gb178, 1, none⟩ (.int .i64 (x179002_19.length : Int))).heap[gb178]? = some (.cells #[.int .i64 t172, .int .i64 (x179002_19.length : Int), .slice Ao34 x179002_19.length co34] 95 (0, 0))) := ⟨by (with_reducible repeat (first | refine zq1 ?_ _ | refine zq2 ?_ | refine zq3 ?_ _)); refine zq4 (cs := #[.int .i64 t172, .int .i64 0, .slice Ao34 x179002_19.length co34]) ?_ 1 _ rfl; (with_reducible repeat (first | refine zq1 ?_ _ | refine zq2 ?_ | refine zq3 ?_ _)); exact BK178.out⟩
              have n3_ : Aside0 (IsS93 w0 (wc.setCell ⟨gb178, 1, none⟩ (.int .i64 (x179002_19.length : Int))) g s0_0 t177) := ⟨by repeat (first | (with_reducible first | exact HI0.out | apply IsS93.alloc | apply IsS93.drewN | apply IsS93.drew | apply IsS93.set_1 | refine IsS93.far ?_ NB0_171.out _ | refine IsS93.far ?_ NB0_178.out _) | exact HI0.out)⟩
              have n4_ : Aside0 (KeepBut w (wc.setCell ⟨gb178, 1, none⟩ (.int .i64 (x179002_19.length : Int))) g none) := ⟨by repeat (first | (with_reducible first | exact HK.out | apply zm1 | apply zr7 | apply zr8 | apply zr9 | refine keep_far ?_ GW171.out _ | refine keep_far ?_ GW178.out _) | exact HK.out)⟩
              have n5_ : Aside0 (Below w0.heap.size w0 (wc.setCell ⟨gb178, 1, none⟩ (.int .i64 (x179002_19.length : Int)))) := ⟨by repeat (first | (with_reducible first | exact HB.out | apply zq7 | apply zq8 | apply zq9 | refine zr1 ?_ (IsS93.ge HI0.out) | refine zr1 ?_ GE171.out | refine zr1 ?_ GE178.out) | exact HB.out)⟩
              (try clear HO_179002)
              (try clear BK171)
              (try clear BK178)
              (try clear HI0)
              (try clear HK)
              (try clear HB)
              generalize (wc.setCell ⟨gb178, 1, none⟩ (.int .i64 (x179002_19.length : Int))) = w35 at n0_ n1_ n2_ n3_ n4_ n5_ ⊢
              have HO_179002 := n0_
              have BK171 := n1_
              have BK178 := n2_
              have HI0 := n3_
              have HK := n4_
              have HB := n5_
              clear n0_ n1_ n2_ n3_ n4_ n5_
              replace HO_179002 := mk_ (Kd.R_drew HO_179002.out)
              replace BK171 := mk_ (zq2 BK171.out)
              replace BK178 := mk_ (zq2 BK178.out)
              replace HI0 := mk_ (IsS93.drew HI0.out)
              replace HK := mk_ (zr8 HK.out)
              replace HB := mk_ (zq9 HB.out)
              refine start_ (n := 13) (S := fun w' => w'.cell? ⟨gb178, 0, none⟩ = some (.int .i64 t172) ∧ w'.cell? ⟨gb178, 1, none⟩ = some (.int .i64 (x179002_19.length : Int)) ∧ w'.cell? ⟨gb178, 2, none⟩ = some (.slice Ao34 x179002_19.length co34)) (ds := [12]) (bm 13 0) (by kernel_rfl) rfl rfl ⟨(zr4 BK178.out 0).trans rfl, (zr4 BK178.out 1).trans rfl, (zr4 BK178.out 2).trans rfl⟩ (fun hHeld => ?_); refine with_tabW spec_l20Part.tab7 spec_l20Part.bits7 (fun HT_ HW_ => ?_)
              generalize w35.drew = w36 at HO_179002 BK171 BK178 HI0 HK HB hHeld ⊢
              refine pA 0 (some 30) (bm 13 1) rfl rfl HT_.out (by kernel_rfl) (fun _ _ _ h => h) (by rfl) (by intro w'; go_simp; with_reducible rfl) (by simp only [Act.put, zs1, zs2, zs3, i64_w, i32_w]; rfl) ?_
              refine pA 4 (some 34) (bm 13 17) rfl rfl HT_.out (by kernel_rfl) (fun _ _ _ h => h) (by rfl) (by intro w'; go_simp; with_reducible rfl) (by simp only [Act.put, zs1, zs2, zs3, i64_w, i32_w]; rfl) ?_
              refine pA 5 (some 35) (bm 13 49) rfl rfl HT_.out (by kernel_rfl) (fun _ _ _ h => h) (by rfl) (by intro w'; go_simp; with_reducible rfl) (by simp only [Act.put, zs1, zs2, zs3, i64_w, i32_w]; rfl) ?_
              refine tA 1 (some 31) (bm 13 51) rfl rfl HT_.out HW_.out (by kernel_rfl) (fun _ _ _ h => h) (by rfl) hHeld (by rintro w' ⟨s0, s1, s2⟩; go_simp; with_reducible rfl) (by simp only [Act.put, zs1, zs2, zs3, i64_w, i32_w]; rfl) ?_
              refine pA 2 (some 32) (bm 13 55) rfl rfl HT_.out (by kernel_rfl) (fun _ _ _ h => h) (by rfl) (by intro w'; go_simp; with_reducible rfl) (by simp only [Act.put, zs1, zs2, zs3, i64_w, i32_w]; rfl) ?_
              refine pA 3 (some 33) (bm 13 63) rfl rfl HT_.out (by kernel_rfl) (fun _ _ _ h => h) (by rfl) (by intro w'; go_simp; with_reducible rfl) (by simp only [Act.put, zs1, zs2, zs3, i64_w, i32_w]; rfl) ?_
              refine tA 6 (some 36) (bm 13 127) rfl rfl HT_.out HW_.out (by kernel_rfl) (fun _ _ _ h => h) (by rfl) hHeld (by rintro w' ⟨s0, s1, s2⟩; go_simp; with_reducible rfl) (by simp only [Act.put, zs1, zs2, zs3, i64_w, i32_w]; rfl) ?_
              refine pA 7 (some 37) (bm 13 255) rfl rfl HT_.out (by kernel_rfl) (fun _ _ _ h => h) (by rfl) (by intro w'; go_simp; with_reducible rfl) (by simp only [Act.put, zs1, zs2, zs3, i64_w, i32_w]; rfl) ?_
              refine pA 8 (some 38) (bm 13 511) rfl rfl HT_.out (by kernel_rfl) (fun _ _ _ h => h) (by rfl) (by intro w'; go_simp; with_reducible rfl) (by simp only [Act.put, zs1, zs2, zs3, i64_w, i32_w]; rfl) ?_
              refine one_ (i := 9) (N := some 39) (bm 13 1023) rfl rfl (one_of HT_.out (by kernel_rfl)) (by decide) (fun K hK => ?_)
              refine goes_ Try.func58 (by kernel_rfl) rfl #[.pointer (some ⟨g, 0, none⟩), .int .i64 (wrap64 (24 - (x179002_19.length : Int)))] (by rfl) rfl rfl (by (try simp only [List.map_toArray, List.map_cons, List.map_nil]); first | done | rfl | (simp only [List.length_drop, List.length_take]; rfl)) ?_
              with_reducible refine (spec_l20Rd_pick.calls kj19 g s0_0 t177 (wrap64 (24 - (x179002_19.length : Int))) t182 t183 w0 _ ?side1 ?side2 A30.out).mono ?_
              (case side1 => repeat (first | (with_reducible first | exact HI0.out | apply IsS93.alloc | apply IsS93.drewN | apply IsS93.drew | apply IsS93.set_1 | refine IsS93.far ?_ NB0_171.out _ | refine IsS93.far ?_ NB0_178.out _) | exact HI0.out))
              (case side2 => repeat (first | (with_reducible first | exact HB.out | apply zq7 | apply zq8 | apply zq9 | refine zr1 ?_ (IsS93.ge HI0.out) | refine zr1 ?_ GE171.out | refine zr1 ?_ GE178.out) | exact HB.out))
              rintro e w37 ⟨rfl, hi, hb, hk⟩
              refine ⟨_, rfl, ?_⟩
              replace HO_179002 := mk_ (Kd.R_mono (Kd.R_keep (IsS93.apart (show IsS93 w0 _ g s0_0 t177 from by repeat (first | (with_reducible first | exact HI0.out | apply IsS93.alloc | apply IsS93.drewN | apply IsS93.drew | apply IsS93.set_1 | refine IsS93.far ?_ NB0_171.out _ | refine IsS93.far ?_ NB0_178.out _) | exact HI0.out)) (by (with_reducible repeat (first | apply Kd.R_alloc | apply Kd.R_drewN | apply Kd.R_drew)); exact HO_179002.out) (by decide)) hk (fun _ h => h.2)) (fun _ h => h.1))
              replace BK171 := mk_ (KeepBut.blk hk (g' := gb171) (o := .cells #[.int .i64 0, .int .i64 0, .slice none 0 0] 95 (0, 0)) (by exact BK171.out) NB171_0.out (by simp))
              replace BK178 := mk_ (KeepBut.blk hk (g' := gb178) (o := .cells #[.int .i64 t172, .int .i64 (x179002_19.length : Int), .slice Ao34 x179002_19.length co34] 95 (0, 0)) (by exact BK178.out) NB178_0.out (by simp))
              replace HK := mk_ (KeepBut.trans (by repeat (first | (with_reducible first | exact HK.out | apply zm1 | apply zr7 | apply zr8 | apply zr9 | refine keep_far ?_ GW171.out _ | refine keep_far ?_ GW178.out _) | exact HK.out)) hk (.inl rfl))
              replace HB := mk_ (hb)
              replace HI0 := mk_ (hi)
              (try clear hb)
              (try clear hb2)
              (try clear hk)
              (try clear hi)
              refine hK.out _ _ ⟨(zr4 BK178.out 0).trans rfl, (zr4 BK178.out 1).trans rfl, (zr4 BK178.out 2).trans rfl⟩ (fun hHeld => ?_)
              clear hK K
              refine norm_ (a' := ?_) ?_ ?_
              rotate_left
              · show Act.put _ (some 39) _ = _
                simp only [Act.put, zs1, zs2, zs3, i64_w, i32_w]
                rfl
              refine pA 10 (some 40) (bm 13 2047) rfl rfl HT_.out (by kernel_rfl) (fun _ _ _ h => h) (by rfl) (by intro w'; go_simp; with_reducible rfl) (by simp only [Act.put, zs1, zs2, zs3, i64_w, i32_w]; rfl) ?_
              refine pA 11 (some 41) (bm 13 4095) rfl rfl HT_.out (by kernel_rfl) (fun _ _ _ h => h) (by rfl) (by intro w'; go_simp; with_reducible rfl) (by simp only [Act.put, zs1, zs2, zs3, i64_w, i32_w]; rfl) ?_
              refine last_ (i := 12) (N := none) (bm 13 8191) rfl rfl (one_of HT_.out (by kernel_rfl)) (by decide) (fun K hK => ?_)
              have hs38 : w37.cell? ⟨gb178, 1, none⟩ = some (.int .i64 (x179002_19.length : Int)) := (zr4 BK178.out 1).trans rfl
              have hfs38 := zr5 BK178.out 1
              have hns38_0 := NB171_178.out
              have hms38_0 := NB178_171.out
              refine skip_ (w1 := ?_) (by rfl) rfl ?_ ?_
              rotate_left
              · go_simp
                rfl
              refine hK.out _ _ ?_
              clear hK K
              refine done_ (done_of HT_.out (by kernel_rfl)) ?_
              obtain ⟨hcz39_0, hcz39_1, hcz39_2⟩ := cz3 BK178.out
              obtain ⟨hfz39_0, hfz39_1, hfz39_2⟩ := fz3 BK178.out
              have hnb40 := NB171_0.out
              have hnc40 := NB0_171.out
              obtain ⟨hcz41_0, hcz41_1, hcz41_2⟩ := cz3 BK171.out
              obtain ⟨hfz41_0, hfz41_1, hfz41_2⟩ := fz3 BK171.out
              try go_wp2
              refine bodyPost_ret (results_cell_row rfl _ _ gb171 95 #[.int .i64 t172, .int .i64 (wrap64 ((wrap64 ((x179002_19.length : Int) + 1)) + t182)), .slice Ao34 x179002_19.length co34] (0, 0) _ rfl (by (with_reducible repeat (first | refine zq1 ?_ _ | refine zq2 ?_ | refine zq3 ?_ _)); apply pu3; (with_reducible repeat (first | refine zq1 ?_ _ | refine zq2 ?_ | refine zq3 ?_ _)); refine zq5 ?_ NB171_178.out _; (with_reducible repeat (first | refine zq1 ?_ _ | refine zq2 ?_ | refine zq3 ?_ _)); exact BK171.out) Try.underlying95 rfl (by kernel_rfl)) rfl ?_
              exact ⟨_, by first | rfl | (simp [errW_none, errW_some] <;> rfl) | (simp [*, errW_none, errW_some] <;> rfl), by (with_reducible repeat (first | apply Kd.R_alloc | apply Kd.R_drewN | apply Kd.R_drew)); exact Kd.R_mono (Kd.R_far (p := ⟨gb171, 2, none⟩) (Kd.R_far (p := ⟨gb171, 1, none⟩) (Kd.R_far (p := ⟨gb171, 0, none⟩) (Kd.R_far (p := ⟨gb178, 1, none⟩) (Kd.R_types (Kd.R_types HO_179002.out BK178.out (by decide)) BK171.out (by decide)) (fun _ hk => hk.1.2) (.int .i64 (wrap64 ((wrap64 ((x179002_19.length : Int) + 1)) + t182)))) (fun _ hk => hk.2) (.int .i64 t172)) (fun _ hk => hk.2) (.int .i64 (wrap64 ((wrap64 ((x179002_19.length : Int) + 1)) + t182)))) (fun _ hk => hk.2) (.slice Ao34 x179002_19.length co34)) (fun _ hk => trivial), by repeat (first | (with_reducible first | exact HI0.out | apply IsS93.alloc | apply IsS93.drewN | apply IsS93.drew | apply IsS93.set_1 | refine IsS93.far ?_ NB0_171.out _ | refine IsS93.far ?_ NB0_178.out _) | exact HI0.out), by repeat (first | (with_reducible first | exact HB.out | apply zq7 | apply zq8 | apply zq9 | refine zr1 ?_ (IsS93.ge HI0.out) | refine zr1 ?_ GE171.out | refine zr1 ?_ GE178.out) | exact HB.out), by repeat (first | (with_reducible first | exact HK.out | apply zm1 | apply zr7 | apply zr8 | apply zr9 | refine keep_far ?_ GW171.out _ | refine keep_far ?_ GW178.out _) | exact HK.out)⟩
            · rw [if_neg c29] at H
              have c29b0 : (t172 == 1) = false := beq_eq_false_iff_ne.mpr c29
              have c29b1 : (t172 != 1) = true := bne_iff_ne.mpr c29
              simp only [Option.some.injEq, Prod.mk.injEq] at H
              obtain ⟨rfl, rfl, rfl, rfl⟩ := H
              have hnb42 := NB178_171.out
              have hnc42 := NB171_178.out
              have hnb43 := NB178_0.out
              have hnc43 := NB0_178.out
              obtain ⟨hcz44_0, hcz44_1, hcz44_2⟩ := cz3 BK178.out
              obtain ⟨hfz44_0, hfz44_1, hfz44_2⟩ := fz3 BK178.out
              obtain ⟨Ao45, co45, eo45⟩ := Kd.R_slice HO_179002.out
              subst eo45
              have hnb46 := NB171_0.out
              have hnc46 := NB0_171.out
              obtain ⟨hcz47_0, hcz47_1, hcz47_2⟩ := cz3 BK171.out
              obtain ⟨hfz47_0, hfz47_1, hfz47_2⟩ := fz3 BK171.out
              go_wp2
              refine bodyPost_ret (results_cell_row rfl _ _ gb171 95 #[.int .i64 t172, .int .i64 (x179002_19.length : Int), .slice Ao45 x179002_19.length co45] (0, 0) _ rfl (by (with_reducible repeat (first | refine zq1 ?_ _ | refine zq2 ?_ | refine zq3 ?_ _)); apply pu3; (with_reducible repeat (first | refine zq1 ?_ _ | refine zq2 ?_ | refine zq3 ?_ _)); refine zq5 ?_ NB171_178.out _; (with_reducible repeat (first | refine zq1 ?_ _ | refine zq2 ?_ | refine zq3 ?_ _)); exact BK171.out) Try.underlying95 rfl (by kernel_rfl)) rfl ?_
              exact ⟨_, by first | rfl | (simp [errW_none, errW_some] <;> rfl) | (simp [*, errW_none, errW_some] <;> rfl), by (with_reducible repeat (first | apply Kd.R_alloc | apply Kd.R_drewN | apply Kd.R_drew)); exact Kd.R_mono (Kd.R_far (p := ⟨gb171, 2, none⟩) (Kd.R_far (p := ⟨gb171, 1, none⟩) (Kd.R_far (p := ⟨gb171, 0, none⟩) (Kd.R_far (p := ⟨gb178, 1, none⟩) (Kd.R_types (Kd.R_types HO_179002.out BK178.out (by decide)) BK171.out (by decide)) (fun _ hk => hk.1.2) (.int .i64 (x179002_19.length : Int))) (fun _ hk => hk.2) (.int .i64 t172)) (fun _ hk => hk.2) (.int .i64 (x179002_19.length : Int))) (fun _ hk => hk.2) (.slice Ao45 x179002_19.length co45)) (fun _ hk => trivial), by repeat (first | (with_reducible first | exact HI0.out | apply IsS93.alloc | apply IsS93.drewN | apply IsS93.drew | apply IsS93.set_1 | refine IsS93.far ?_ NB0_171.out _ | refine IsS93.far ?_ NB0_178.out _) | exact HI0.out), by repeat (first | (with_reducible first | exact HB.out | apply zq7 | apply zq8 | apply zq9 | refine zr1 ?_ (IsS93.ge HI0.out) | refine zr1 ?_ GE171.out | refine zr1 ?_ GE178.out) | exact HB.out), by repeat (first | (with_reducible first | exact HK.out | apply zm1 | apply zr7 | apply zr8 | apply zr9 | refine keep_far ?_ GW171.out _ | refine keep_far ?_ GW178.out _) | exact HK.out)⟩
          · rw [if_neg c28] at H
            have c28b0 : (t172 == 0) = false := beq_eq_false_iff_ne.mpr c28
            have c28b1 : (t172 != 0) = true := bne_iff_ne.mpr c28
            by_cases c48 : t172 = 1
            · rw [if_pos c48] at H
              have c48b0 : (t172 == 1) = true := beq_iff_eq.mpr c48
              have c48b1 : (t172 != 1) = false := bne_eq_false_iff_eq.mpr c48
              clear c48
              replace H := Option.bind_eq_some_iff.mp H
              obtain ⟨⟨t184, t185⟩, A490, H⟩ := H
              try dsimp only at H
              have A49 := mk_ A490
              clear A490
              simp only [Option.some.injEq, Prod.mk.injEq] at H
              obtain ⟨rfl, rfl, rfl, rfl⟩ := H
              have hnb50 := NB178_171.out
              have hnc50 := NB171_178.out
              have hnb51 := NB178_0.out
              have hnc51 := NB0_178.out
              obtain ⟨hcz52_0, hcz52_1, hcz52_2⟩ := cz3 BK178.out
              obtain ⟨hfz52_0, hfz52_1, hfz52_2⟩ := fz3 BK178.out
              try go_wp2
              replace HO_179002 := mk_ (Kd.R_drew HO_179002.out)
              replace BK171 := mk_ (zq2 BK171.out)
              replace BK178 := mk_ (zq2 BK178.out)
              replace HI0 := mk_ (IsS93.drew HI0.out)
              replace HK := mk_ (zr8 HK.out)
              replace HB := mk_ (zq9 HB.out)
              obtain ⟨Ao54, co54, eo54⟩ := Kd.R_slice HO_179002.out
              (first | subst eo54 | (injection eo54 with f1_ f2_ f3_; have f4_ := f1_.symm; have f5_ := f3_.symm; clear f1_ f2_ f3_; subst f4_; subst f5_))
              refine start_ (n := 13) (S := fun w' => w'.cell? ⟨gb178, 0, none⟩ = some (.int .i64 t172) ∧ w'.cell? ⟨gb178, 1, none⟩ = some (.int .i64 0) ∧ w'.cell? ⟨gb178, 2, none⟩ = some (.slice Ao54 x179002_19.length co54)) (ds := [12]) (bm 13 0) (by kernel_rfl) rfl rfl ⟨(zr4 BK178.out 0).trans rfl, (zr4 BK178.out 1).trans rfl, (zr4 BK178.out 2).trans rfl⟩ (fun hHeld => ?_); refine with_tabW spec_l20Part.tab7 spec_l20Part.bits7 (fun HT_ HW_ => ?_)
              generalize wc.drew = w53 at HO_179002 BK171 BK178 HI0 HK HB hHeld ⊢
              refine pA 0 (some 30) (bm 13 1) rfl rfl HT_.out (by kernel_rfl) (fun _ _ _ h => h) (by rfl) (by intro w'; go_simp; with_reducible rfl) (by simp only [Act.put, zs1, zs2, zs3, i64_w, i32_w]; rfl) ?_
              refine pA 4 (some 34) (bm 13 17) rfl rfl HT_.out (by kernel_rfl) (fun _ _ _ h => h) (by rfl) (by intro w'; go_simp; with_reducible rfl) (by simp only [Act.put, zs1, zs2, zs3, i64_w, i32_w]; rfl) ?_
              refine pA 5 (some 35) (bm 13 49) rfl rfl HT_.out (by kernel_rfl) (fun _ _ _ h => h) (by rfl) (by intro w'; go_simp; with_reducible rfl) (by simp only [Act.put, zs1, zs2, zs3, i64_w, i32_w]; rfl) ?_
              refine tA 1 (some 31) (bm 13 51) rfl rfl HT_.out HW_.out (by kernel_rfl) (fun _ _ _ h => h) (by rfl) hHeld (by rintro w' ⟨s0, s1, s2⟩; go_simp; with_reducible rfl) (by simp only [Act.put, zs1, zs2, zs3, i64_w, i32_w]; rfl) ?_
              refine pA 2 (some 32) (bm 13 55) rfl rfl HT_.out (by kernel_rfl) (fun _ _ _ h => h) (by rfl) (by intro w'; go_simp; with_reducible rfl) (by simp only [Act.put, zs1, zs2, zs3, i64_w, i32_w]; rfl) ?_
              refine pA 3 (some 33) (bm 13 63) rfl rfl HT_.out (by kernel_rfl) (fun _ _ _ h => h) (by rfl) (by intro w'; go_simp; with_reducible rfl) (by simp only [Act.put, zs1, zs2, zs3, i64_w, i32_w]; rfl) ?_
              refine tA 6 (some 36) (bm 13 127) rfl rfl HT_.out HW_.out (by kernel_rfl) (fun _ _ _ h => h) (by rfl) hHeld (by rintro w' ⟨s0, s1, s2⟩; go_simp; with_reducible rfl) (by simp only [Act.put, zs1, zs2, zs3, i64_w, i32_w]; rfl) ?_
              refine pA 7 (some 37) (bm 13 255) rfl rfl HT_.out (by kernel_rfl) (fun _ _ _ h => h) (by rfl) (by intro w'; go_simp; with_reducible rfl) (by simp only [Act.put, zs1, zs2, zs3, i64_w, i32_w]; rfl) ?_
              refine pA 8 (some 38) (bm 13 511) rfl rfl HT_.out (by kernel_rfl) (fun _ _ _ h => h) (by rfl) (by intro w'; go_simp; with_reducible rfl) (by simp only [Act.put, zs1, zs2, zs3, i64_w, i32_w]; rfl) ?_
              refine one_ (i := 9) (N := some 39) (bm 13 1023) rfl rfl (one_of HT_.out (by kernel_rfl)) (by decide) (fun K hK => ?_)
              refine goes_ Try.func58 (by kernel_rfl) rfl #[.pointer (some ⟨g, 0, none⟩), .int .i64 (wrap64 (24 - (x179002_19.length : Int)))] (by rfl) rfl rfl (by (try simp only [List.map_toArray, List.map_cons, List.map_nil]); first | done | rfl | (simp only [List.length_drop, List.length_take]; rfl)) ?_
              with_reducible refine (spec_l20Rd_pick.calls kj19 g s0_0 t177 (wrap64 (24 - (x179002_19.length : Int))) t184 t185 w0 _ ?side1 ?side2 A49.out).mono ?_
              (case side1 => repeat (first | (with_reducible first | exact HI0.out | apply IsS93.alloc | apply IsS93.drewN | apply IsS93.drew | apply IsS93.set_1 | refine IsS93.far ?_ NB0_171.out _ | refine IsS93.far ?_ NB0_178.out _) | exact HI0.out))
              (case side2 => repeat (first | (with_reducible first | exact HB.out | apply zq7 | apply zq8 | apply zq9 | refine zr1 ?_ (IsS93.ge HI0.out) | refine zr1 ?_ GE171.out | refine zr1 ?_ GE178.out) | exact HB.out))
              rintro e w55 ⟨rfl, hi, hb, hk⟩
              refine ⟨_, rfl, ?_⟩
              replace HO_179002 := mk_ (Kd.R_mono (Kd.R_keep (IsS93.apart (show IsS93 w0 _ g s0_0 t177 from by repeat (first | (with_reducible first | exact HI0.out | apply IsS93.alloc | apply IsS93.drewN | apply IsS93.drew | apply IsS93.set_1 | refine IsS93.far ?_ NB0_171.out _ | refine IsS93.far ?_ NB0_178.out _) | exact HI0.out)) (by (with_reducible repeat (first | apply Kd.R_alloc | apply Kd.R_drewN | apply Kd.R_drew)); exact HO_179002.out) (by decide)) hk (fun _ h => h.2)) (fun _ h => h.1))
              replace BK171 := mk_ (KeepBut.blk hk (g' := gb171) (o := .cells #[.int .i64 0, .int .i64 0, .slice none 0 0] 95 (0, 0)) (by exact BK171.out) NB171_0.out (by simp))
              replace BK178 := mk_ (KeepBut.blk hk (g' := gb178) (o := .cells #[.int .i64 t172, .int .i64 0, .slice Ao54 x179002_19.length co54] 95 (0, 0)) (by exact BK178.out) NB178_0.out (by simp))
              replace HK := mk_ (KeepBut.trans (by repeat (first | (with_reducible first | exact HK.out | apply zm1 | apply zr7 | apply zr8 | apply zr9 | refine keep_far ?_ GW171.out _ | refine keep_far ?_ GW178.out _) | exact HK.out)) hk (.inl rfl))
              replace HB := mk_ (hb)
              replace HI0 := mk_ (hi)
              (try clear hb)
              (try clear hb2)
              (try clear hk)
              (try clear hi)
              refine hK.out _ _ ⟨(zr4 BK178.out 0).trans rfl, (zr4 BK178.out 1).trans rfl, (zr4 BK178.out 2).trans rfl⟩ (fun hHeld => ?_)
              clear hK K
              refine norm_ (a' := ?_) ?_ ?_
              rotate_left
              · show Act.put _ (some 39) _ = _
                simp only [Act.put, zs1, zs2, zs3, i64_w, i32_w]
                rfl
              refine pA 10 (some 40) (bm 13 2047) rfl rfl HT_.out (by kernel_rfl) (fun _ _ _ h => h) (by rfl) (by intro w'; go_simp; with_reducible rfl) (by simp only [Act.put, zs1, zs2, zs3, i64_w, i32_w]; rfl) ?_
              refine pA 11 (some 41) (bm 13 4095) rfl rfl HT_.out (by kernel_rfl) (fun _ _ _ h => h) (by rfl) (by intro w'; go_simp; with_reducible rfl) (by simp only [Act.put, zs1, zs2, zs3, i64_w, i32_w]; rfl) ?_
              refine last_ (i := 12) (N := none) (bm 13 8191) rfl rfl (one_of HT_.out (by kernel_rfl)) (by decide) (fun K hK => ?_)
              have hs56 : w55.cell? ⟨gb178, 1, none⟩ = some (.int .i64 0) := (zr4 BK178.out 1).trans rfl
              have hfs56 := zr5 BK178.out 1
              have hns56_0 := NB171_178.out
              have hms56_0 := NB178_171.out
              refine skip_ (w1 := ?_) (by rfl) rfl ?_ ?_
              rotate_left
              · go_simp
                rfl
              refine hK.out _ _ ?_
              clear hK K
              refine done_ (done_of HT_.out (by kernel_rfl)) ?_
              obtain ⟨hcz57_0, hcz57_1, hcz57_2⟩ := cz3 BK178.out
              obtain ⟨hfz57_0, hfz57_1, hfz57_2⟩ := fz3 BK178.out
              have hnb58 := NB171_0.out
              have hnc58 := NB0_171.out
              obtain ⟨hcz59_0, hcz59_1, hcz59_2⟩ := cz3 BK171.out
              obtain ⟨hfz59_0, hfz59_1, hfz59_2⟩ := fz3 BK171.out
              try go_wp2
              refine bodyPost_ret (results_cell_row rfl _ _ gb171 95 #[.int .i64 t172, .int .i64 (wrap64 ((wrap64 ((x179002_19.length : Int) + 1)) + t184)), .slice Ao54 x179002_19.length co54] (0, 0) _ rfl (by (with_reducible repeat (first | refine zq1 ?_ _ | refine zq2 ?_ | refine zq3 ?_ _)); apply pu3; (with_reducible repeat (first | refine zq1 ?_ _ | refine zq2 ?_ | refine zq3 ?_ _)); refine zq5 ?_ NB171_178.out _; (with_reducible repeat (first | refine zq1 ?_ _ | refine zq2 ?_ | refine zq3 ?_ _)); exact BK171.out) Try.underlying95 rfl (by kernel_rfl)) rfl ?_
              exact ⟨_, by first | rfl | (simp [errW_none, errW_some] <;> rfl) | (simp [*, errW_none, errW_some] <;> rfl), by (with_reducible repeat (first | apply Kd.R_alloc | apply Kd.R_drewN | apply Kd.R_drew)); exact Kd.R_mono (Kd.R_far (p := ⟨gb171, 2, none⟩) (Kd.R_far (p := ⟨gb171, 1, none⟩) (Kd.R_far (p := ⟨gb171, 0, none⟩) (Kd.R_far (p := ⟨gb178, 1, none⟩) (Kd.R_types (Kd.R_types HO_179002.out BK178.out (by decide)) BK171.out (by decide)) (fun _ hk => hk.1.2) (.int .i64 (wrap64 ((wrap64 ((x179002_19.length : Int) + 1)) + t184)))) (fun _ hk => hk.2) (.int .i64 t172)) (fun _ hk => hk.2) (.int .i64 (wrap64 ((wrap64 ((x179002_19.length : Int) + 1)) + t184)))) (fun _ hk => hk.2) (.slice Ao54 x179002_19.length co54)) (fun _ hk => trivial), by repeat (first | (with_reducible first | exact HI0.out | apply IsS93.alloc | apply IsS93.drewN | apply IsS93.drew | apply IsS93.set_1 | refine IsS93.far ?_ NB0_171.out _ | refine IsS93.far ?_ NB0_178.out _) | exact HI0.out), by repeat (first | (with_reducible first | exact HB.out | apply zq7 | apply zq8 | apply zq9 | refine zr1 ?_ (IsS93.ge HI0.out) | refine zr1 ?_ GE171.out | refine zr1 ?_ GE178.out) | exact HB.out), by repeat (first | (with_reducible first | exact HK.out | apply zm1 | apply zr7 | apply zr8 | apply zr9 | refine keep_far ?_ GW171.out _ | refine keep_far ?_ GW178.out _) | exact HK.out)⟩
            · rw [if_neg c48] at H
              have c48b0 : (t172 == 1) = false := beq_eq_false_iff_ne.mpr c48
              have c48b1 : (t172 != 1) = true := bne_iff_ne.mpr c48
              simp only [Option.some.injEq, Prod.mk.injEq] at H
              obtain ⟨rfl, rfl, rfl, rfl⟩ := H
              have hnb60 := NB178_171.out
              have hnc60 := NB171_178.out
              have hnb61 := NB178_0.out
              have hnc61 := NB0_178.out
              obtain ⟨hcz62_0, hcz62_1, hcz62_2⟩ := cz3 BK178.out
              obtain ⟨hfz62_0, hfz62_1, hfz62_2⟩ := fz3 BK178.out
              have hnb63 := NB171_0.out
              have hnc63 := NB0_171.out
              obtain ⟨hcz64_0, hcz64_1, hcz64_2⟩ := cz3 BK171.out
              obtain ⟨hfz64_0, hfz64_1, hfz64_2⟩ := fz3 BK171.out
              obtain ⟨Ao65, co65, eo65⟩ := Kd.R_slice HO_179002.out
              subst eo65
              go_wp2
              refine bodyPost_ret (results_cell_row rfl _ _ gb171 95 #[.int .i64 t172, .int .i64 0, .slice Ao65 x179002_19.length co65] (0, 0) _ rfl (by (with_reducible repeat (first | refine zq1 ?_ _ | refine zq2 ?_ | refine zq3 ?_ _)); apply pu3; (with_reducible repeat (first | refine zq1 ?_ _ | refine zq2 ?_ | refine zq3 ?_ _)); exact BK171.out) Try.underlying95 rfl (by kernel_rfl)) rfl ?_
              exact ⟨_, by first | rfl | (simp [errW_none, errW_some] <;> rfl) | (simp [*, errW_none, errW_some] <;> rfl), by (with_reducible repeat (first | apply Kd.R_alloc | apply Kd.R_drewN | apply Kd.R_drew)); exact Kd.R_mono (Kd.R_far (p := ⟨gb171, 2, none⟩) (Kd.R_far (p := ⟨gb171, 1, none⟩) (Kd.R_far (p := ⟨gb171, 0, none⟩) (Kd.R_types HO_179002.out BK171.out (by decide)) (fun _ hk => hk.2) (.int .i64 t172)) (fun _ hk => hk.2) (.int .i64 0)) (fun _ hk => hk.2) (.slice Ao65 x179002_19.length co65)) (fun _ hk => trivial), by repeat (first | (with_reducible first | exact HI0.out | apply IsS93.alloc | apply IsS93.drewN | apply IsS93.drew | apply IsS93.set_1 | refine IsS93.far ?_ NB0_171.out _ | refine IsS93.far ?_ NB0_178.out _) | exact HI0.out), by repeat (first | (with_reducible first | exact HB.out | apply zq7 | apply zq8 | apply zq9 | refine zr1 ?_ (IsS93.ge HI0.out) | refine zr1 ?_ GE171.out | refine zr1 ?_ GE178.out) | exact HB.out), by repeat (first | (with_reducible first | exact HK.out | apply zm1 | apply zr7 | apply zr8 | apply zr9 | refine keep_far ?_ GW171.out _ | refine keep_far ?_ GW178.out _) | exact HK.out)⟩

end Go.Proofs.Ytoigmeiollfklaa.QFnFrmOk
