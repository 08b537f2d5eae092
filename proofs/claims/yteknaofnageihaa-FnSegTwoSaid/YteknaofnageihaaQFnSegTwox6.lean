-- Written by a program of this session, a turned copy of the print (not by print.sh itself). Lean checks it.
import Derived.Test.YteknaofnageihaaQFnSegTwox0
import Derived.Test.YteknaofnageihaaQFnSegTwox3
import Derived.Test.YteknaofnageihaaQFnSegTwox5
namespace Go.Proofs.Yteknaofnageihaa.QFnSegTwo
open Go.RowKit Go.Proofs.YteknaofnageihaaW.PrintWords Go.Proofs.YteknaofnageihaaW.PrintLast Go.Proofs.YteknaofnageihaaW.PrintMore Go.Proofs.YteknaofnageihaaLoc
attribute [local go_sem] max2_int min2_int max_two min_two max_three min_three max_four min_four   -- for this text's walks alone
set_option linter.unusedVariables false
set_option linter.unusedSimpArgs false

/-! ### laws_liFeed: function 30 -/
def laws_liFeed.l0 : Nat → List (S39) → List (List Int) → Int → Int → List Int → Option ((List (List Int)))
  | 0, _, _, _, _, _ => none
  | k + 1, x0, x4, x5, x247000, x247001 => if x5 < (x0.length : Int) then (if 0 ≤ x5 then ((impl_SegPut.f k x247000 x247001 ((rd_T39 x0 x5).f0) ((rd_T39 x0 x5).f1) ((rd_T39 x0 x5).f2)).bind fun bt251 => (if bt251.2.2.2 = 2 then (if x4.length < 5864062014805 then (laws_liFeed.l0 k x0 (x4 ++ [bt251.2.2.1]) (wrap64 (x5 + 1)) bt251.1 bt251.2.1) else (none)) else (laws_liFeed.l0 k x0 x4 (wrap64 (x5 + 1)) bt251.1 bt251.2.1))) else (none)) else (some x4)
def laws_liFeed.f (k : Nat) (l0 : List (S39)) : Option ((List (List Int))) := laws_liFeed.l0 k l0 (([] : List (List Int))) 0 0 ([] : List Int)
theorem laws_liFeed.mono_l : ∀ k, (∀ y0 y1 y2 y3 y4, LeO (laws_liFeed.l0 k y0 y1 y2 y3 y4) (laws_liFeed.l0 (k + 1) y0 y1 y2 y3 y4))
  | 0 => fun _ _ _ _ _ r h => by simp [laws_liFeed.l0] at h
  | k + 1 => by
    have ih0 := laws_liFeed.mono_l k
    · intro y0 y1 y2 y3 y4
      unfold laws_liFeed.l0
      repeat' first
      | (with_reducible exact ih0 _ _ _ _ _)
      | (with_reducible exact impl_SegPut.mono _ _ _ _ _ _)
      | (with_reducible exact LeO.refl _)
      | (with_reducible exact LeO.none _)
      | (with_reducible refine LeO.ite ?_ ?_)
      | (with_reducible refine LeO.bind ?_ (fun _ => ?_))
      | exact ih0 _ _ _ _ _
      | exact impl_SegPut.mono _ _ _ _ _ _
      | exact LeO.none _
      | refine LeO.ite ?_ ?_
      | refine LeO.bind ?_ (fun _ => ?_)
theorem laws_liFeed.mono : ∀ a0 k, LeO (laws_liFeed.f k a0) (laws_liFeed.f (k + 1) a0) := by
 intro a0 k
 have ih0 := laws_liFeed.mono_l k
 unfold laws_liFeed.f
 repeat' first
     | (with_reducible exact ih0 _ _ _ _ _)
     | (with_reducible exact impl_SegPut.mono _ _ _ _ _ _)
     | (with_reducible exact LeO.refl _)
     | (with_reducible exact LeO.none _)
     | (with_reducible refine LeO.ite ?_ ?_)
     | (with_reducible refine LeO.bind ?_ (fun _ => ?_))
     | exact ih0 _ _ _ _ _
     | exact impl_SegPut.mono _ _ _ _ _ _
     | exact LeO.none _
     | refine LeO.ite ?_ ?_
     | refine LeO.bind ?_ (fun _ => ?_)
def laws_liFeed.T6 : Bool × List (List Nat × List Nat) := (true, [([], []), ([], []), ([], []), ([1, 2], [1, 2]), ([3], [3]), ([0, 4], [0, 4]), ([5], [5]), ([6], [6]), ([6], [6]), ([6], [6]), ([], []), ([10, 7, 5, 0, 1, 2, 3, 4, 5, 6, 7, 10], [7, 10]), ([8, 11, 0, 1, 2, 3, 4, 5, 6, 7, 8, 10, 11], [8]), ([9, 12, 0, 1, 2, 3, 4, 5, 6, 7, 8, 9, 10, 11, 12], [9])])
def laws_liFeed.B6 : List Nat := [0, 0, 0, 6, 14, 31, 63, 127, 127, 127, 0, 1279, 3583, 8191]
theorem laws_liFeed.tab6 : rtab .any (opsOf Try.f30 6) = laws_liFeed.T6 := by kernel_rfl
theorem laws_liFeed.bits6 : waitsOk laws_liFeed.T6.2 laws_liFeed.B6 = true := by kernel_rfl
set_option maxHeartbeats 60000000 in
set_option maxRecDepth 100000 in
theorem laws_liFeed.calls (k : Nat) (A0 : Option Addr) (c0 : Nat) (l0 : List (S39)) (r : List (List Int)) (w : World) (hr0 : Kd.C k39 w A0 l0.length l0) (hc0 : l0.length ≤ c0) (h : laws_liFeed.f k l0 = some r) :
    Calls Try.prog 30 #[.slice A0 l0.length c0] w fun e w' => ∃ v0_ : Value, e = .returned (v0_) ∧ Kd.N (Kd.slice 5 (Kd.int .u8)) 22 w' w.heap.size (fun k_ => (w.heap.size ≤ k_)) v0_ r ∧ Below w.heap.size w w' := by
 have hu35 := Try.underlying35
 have hu39 := Try.underlying39
 have HR0 := mk_ hr0
 have HC0 := mk_ hc0
 clear hr0 hc0
 have HB := mk_ (Below.refl w.heap.size w)
 have H : (laws_liFeed.l0 k l0 (([] : List (List Int))) 0 0 ([] : List Int)) = some r := h
 clear h
 obtain ⟨y247, hy247⟩ : ∃ y_ : List (List Int), y_ = (([] : List (List Int))) := ⟨_, rfl⟩
 replace H : (laws_liFeed.l0 k l0 y247 0 0 ([] : List Int)) = some r := by first | (rw [hy247]; with_reducible exact H) | (have H2_ := (Option.bind_some _ _).symm.trans H; rw [hy247]; with_reducible exact H2_) | (have H2_ := (Option.bind_some _ _).symm.trans H; with_reducible exact H2_) | with_reducible exact H | (rw [hy247]; exact H) | exact H
 have Ny247 := mk_ hy247
 clear hy247
 have H' := mk_ H
 clear H
 go_enter Try.func30, Try.ntmps30
 go_wp2_with (first | ((with_reducible refine gate_dst (N := 3) rfl ?_); refine box_event ?hg (N := 3) ?hd (cs := #[.int .i64 0, .slice none 0 0]) (t := 35) ?hr ?_; (case hd => rfl); (case hg => rfl); (case hr => first | (go_simp; done) | (go_simp; rfl)); intro gb246 hg w2 hbox hb; have BK246 := mk_ (hbox); have GW246 := mk_ ((by rw [hg]; exact (zr2 (by repeat (first | (with_reducible first | exact HB.out | apply zq7 | apply zq8 | apply zq9) | exact HB.out))) : w.heap.size ≤ gb246)); have GE246 := GW246; replace HB := mk_ (zr3 (by repeat (first | (with_reducible first | exact HB.out | apply zq7 | apply zq8 | apply zq9) | exact HB.out)) hb); clear hb hbox hg; obtain ⟨hcz3_0, hcz3_1⟩ := cz2 BK246.out; obtain ⟨hfz3_0, hfz3_1⟩ := fz2 BK246.out) | ((with_reducible refine gate_dst (N := 10) rfl ?_); refine Kd.N_lit (Kd.slice 5 (Kd.int .u8)) _ 22 ?hg (N' := 10) ?hd (xs := ([] : List (List Int))) (inner := []) (ok := (fun k_ => (w.heap.size ≤ k_) ∧ k_ ≠ gb246)) (okp := (fun k_ => (w.heap.size ≤ k_) ∧ k_ ≠ gb246)) ?hr ?hp (fun _ hk => hk) (show (fun k_ => (w.heap.size ≤ k_) ∧ k_ ≠ gb246) _ from ⟨(zr2 (by repeat (first | (with_reducible first | exact HB.out | apply zq7 | apply zq8 | apply zq9 | refine zr1 ?_ GE246.out) | exact HB.out))), Kd.freshB (g := gb246) (o := .cells #[.int .i64 0, .slice none 0 0] 35 (0, 0)) (by (with_reducible repeat (first | refine zq1 ?_ _ | refine zq2 ?_ | refine zq3 ?_ _)); apply pu2; (with_reducible repeat (first | refine zq1 ?_ _ | refine zq2 ?_ | refine zq3 ?_ _)); exact BK246.out) _ (Nat.le_refl _)⟩) (Below.refl _ _) (Nat.le_refl _) (by simp) ?_; (case hd => rfl); (case hg => rfl); (case hr => first | (go_simp; done) | (go_simp; rfl)); (case hp => exact (Reps.none _ _)); intro v248 w4 ho5 hb hg_ hnew_; clear hg_ hnew_; (first | rw [← Ny247.out] at ho5 | (simp only [Int.reduceToNat] at ho5; rw [← Ny247.out] at ho5)); have HO249 := mk_ (Kd.N_lower ho5 (zr2 (by repeat (first | (with_reducible first | exact HB.out | apply zq7 | apply zq8 | apply zq9 | refine zr1 ?_ GE246.out) | exact HB.out)))); replace BK246 := mk_ (zq6 (g := gb246) (o := .cells #[.int .i64 0, .slice none 0 0] 35 (0, 0)) (by (with_reducible repeat (first | refine zq1 ?_ _ | refine zq2 ?_ | refine zq3 ?_ _)); apply pu2; (with_reducible repeat (first | refine zq1 ?_ _ | refine zq2 ?_ | refine zq3 ?_ _)); exact BK246.out) hb); replace HB := mk_ (zr3 (by repeat (first | (with_reducible first | exact HB.out | apply zq7 | apply zq8 | apply zq9 | refine zr1 ?_ GE246.out) | exact HB.out)) hb); clear hb ho5))
 go_loopg [4, 5] k (fun kq v4 v5 w' => ∃ (x4_1 : List (List Int)) (x5_1 : Int) (x247000_1 : Int) (x247001_1 : List Int) (u247001 : Value), v5 = .int .i64 x5_1 ∧ Aside0 (laws_liFeed.l0 kq l0 x4_1 x5_1 x247000_1 x247001_1 = some r) ∧ Aside0 (kq ≤ k) ∧ Aside0 (Kd.N (Kd.slice 5 (Kd.int .u8)) 22 w' w.heap.size (fun k_ => (w.heap.size ≤ k_) ∧ k_ ≠ gb246) v4 x4_1) ∧ Aside0 (Kd.V (Kd.int .u8) 5 w' w.heap.size (fun k_ => (w.heap.size ≤ k_) ∧ some k_ ≠ (v4 : Value).ownBlock ∧ k_ ≠ gb246) u247001 x247001_1) ∧ Aside0 (w'.heap[gb246]? = some (.cells #[.int .i64 x247000_1, u247001] 35 (0, 0))) ∧ Aside0 (Below w.heap.size w w'))
 case atStart => exact ⟨(y247), (0), (0), (([] : List Int)), (.slice none 0 0), (by first | rfl | (simp; done) | (simp [*]; done)), H', ⟨Nat.le_refl _⟩, ⟨by (with_reducible repeat (first | apply Kd.N_alloc | apply Kd.N_drewN | apply Kd.N_drew)); exact HO249.out⟩, ⟨by exact Kd.V_nil _ _ _ _ _⟩, ⟨by (with_reducible repeat (first | refine zq1 ?_ _ | refine zq2 ?_ | refine zq3 ?_ _)); exact BK246.out⟩, ⟨by repeat (first | (with_reducible first | exact HB.out | apply zq7 | apply zq8 | apply zq9 | refine zr1 ?_ GE246.out) | exact HB.out)⟩⟩
 case round =>
   clear H'
   try clear p2
   try clear c3
   try clear hcz3_0 hcz3_1
   try clear hfz3_0 hfz3_1
   obtain ⟨x4_1, x5_1, x247000_1, x247001_1, u247001, rfl, HA, HK1, HO_4, HO_247001, BK246, HB⟩ := hrel
   cases gk with
   | zero => exact absurd HA.out (by simp [laws_liFeed.l0])
   | succ k1 =>
     have H := HA.out
     clear HA
     simp only [laws_liFeed.l0] at H
     by_cases c6 : x5_1 < (l0.length : Int)
     rotate_left
     · rw [if_neg c6] at H
       have c6b0 : decide (x5_1 < (l0.length : Int)) = false := decide_eq_false c6
       clear c6
       obtain rfl := Option.some.inj H
       go_wp2
       go_ret
       exact ⟨_, by first | rfl | (simp [errW_none, errW_some] <;> rfl) | (simp [*, errW_none, errW_some] <;> rfl), by (with_reducible repeat (first | apply Kd.N_alloc | apply Kd.N_drewN | apply Kd.N_drew)); exact Kd.N_mono HO_4.out (fun _ hk => hk.1), by repeat (first | (with_reducible first | exact HB.out | apply zq7 | apply zq8 | apply zq9 | refine zr1 ?_ GE246.out) | exact HB.out)⟩
     rw [if_pos c6] at H
     have c6b0 : decide (x5_1 < (l0.length : Int)) = true := decide_eq_true c6
     clear c6
     by_cases c7 : 0 ≤ x5_1
     rotate_left
     · rw [if_neg c7] at H
       exact absurd H (by simp)
     rw [if_pos c7] at H
     have c7b0 : decide (0 ≤ x5_1) = true := decide_eq_true c7
     clear c7
     replace H := Option.bind_eq_some_iff.mp H
     obtain ⟨⟨t251, t252, t255, t258⟩, A80, H⟩ := H
     try dsimp only at H
     have A8 := mk_ A80
     clear A80
     by_cases c9 : t258 = 2
     rotate_left
     · rw [if_neg c9] at H
       have c9b0 : (t258 == 2) = false := beq_eq_false_iff_ne.mpr c9
       have c9b1 : (t258 != 2) = true := bne_iff_ne.mpr c9
       have H' := mk_ H
       clear H
       obtain ⟨Ao26, co26, eo26⟩ := Kd.V_slice HO_247001.out
       subst eo26
       try go_wp2
       replace HO_4 := mk_ (Kd.N_drew HO_4.out)
       replace HO_247001 := mk_ (Kd.V_drew HO_247001.out)
       replace BK246 := mk_ (zq2 BK246.out)
       replace HB := mk_ (zq9 HB.out)
       have p250 : 0 ≤ (x5_1 : Int) := of_decide_eq_true (by first | (with_reducible assumption) | assumption)
       have q250 : x5_1 < (l0.length : Int) := of_decide_eq_true (by first | (with_reducible assumption) | assumption)
       obtain ⟨ad250, A250_2, c250_2, e250, hx250_0, hx250_1, hx250_2, hl250_2, hi250_2⟩ := at_T39 HR0.out x5_1 p250 q250
       have hw250_2 := hx250_2
       have hw250_1 := hx250_1
       have hw250_0 := hx250_0
       cases e250
       replace hx250_0 := (HB.out.cell (World.block_lt_of_cell? w _ hx250_0)).trans hx250_0
       replace hx250_1 := (HB.out.cell (World.block_lt_of_cell? w _ hx250_1)).trans hx250_1
       replace hx250_2 := (HB.out.cell (World.block_lt_of_cell? w _ hx250_2)).trans hx250_2
       have HR250_2 := mk_ hi250_2
       have HC250_2 := mk_ hl250_2
       clear hi250_2 hl250_2
       replace p250 := eq_true p250
       replace q250 := eq_true q250
       refine start_ (n := 14) (S := fun w' => w'.cell? ⟨gb246, 0, none⟩ = some (.int .i64 x247000_1) ∧ w'.cell? ⟨gb246, 1, none⟩ = some (.slice Ao26 x247001_1.length co26) ∧ w'.cell? (ad250.add ((x5_1).toNat * 3)) = some (.int .i64 ((rd_T39 l0 x5_1).f0)) ∧ w'.cell? ⟨(ad250.add ((x5_1).toNat * 3)).block, (ad250.add ((x5_1).toNat * 3)).off + 1, none⟩ = some (.int .i64 ((rd_T39 l0 x5_1).f1)) ∧ w'.cell? ⟨(ad250.add ((x5_1).toNat * 3)).block, (ad250.add ((x5_1).toNat * 3)).off + 2, none⟩ = some (.slice A250_2 ((rd_T39 l0 x5_1).f2).length c250_2)) (ds := []) (bm 14 0) (by kernel_rfl) rfl rfl ⟨(zr4 BK246.out 0).trans rfl, (zr4 BK246.out 1).trans rfl, ((HB.out.cell (World.block_lt_of_cell? w _ hw250_0)).trans hw250_0), ((HB.out.cell (World.block_lt_of_cell? w _ hw250_1)).trans hw250_1), ((HB.out.cell (World.block_lt_of_cell? w _ hw250_2)).trans hw250_2)⟩ (fun hHeld => ?_); refine with_tabW laws_liFeed.tab6 laws_liFeed.bits6 (fun HT_ HW_ => ?_)
       generalize wr.drew = w27 at HO_4 HO_247001 BK246 HB HR250_2 hx250_0 hx250_1 hx250_2 hHeld ⊢
       refine pA 1 (some 19) (bm 14 2) rfl rfl HT_.out (by kernel_rfl) (fun _ _ _ h => h) (by rfl) (by intro w'; go_simp; with_reducible rfl) (by simp only [Act.put, zs1, zs2, zs3, i64_w, i32_w]; rfl) ?_
       refine pA 2 (some 20) (bm 14 6) rfl rfl HT_.out (by kernel_rfl) (fun _ _ _ h => h) (by rfl) (by intro w'; go_simp; with_reducible rfl) (by simp only [Act.put, zs1, zs2, zs3, i64_w, i32_w]; rfl) ?_
       refine pA 3 (some 21) (bm 14 14) rfl rfl HT_.out (by kernel_rfl) (fun _ _ _ h => h) (by rfl) (by intro w'; go_simp; with_reducible rfl) (by simp only [Act.put, zs1, zs2, zs3, i64_w, i32_w]; rfl) ?_
       refine tA 0 (some 18) (bm 14 15) rfl rfl HT_.out HW_.out (by kernel_rfl) (fun _ _ _ h => h) (by rfl) hHeld (by rintro w' ⟨s0, s1, s2, s3, s4⟩; go_simp; with_reducible rfl) (by simp only [Act.put, zs1, zs2, zs3, i64_w, i32_w]; rfl) ?_
       refine tA 4 (some 22) (bm 14 31) rfl rfl HT_.out HW_.out (by kernel_rfl) (fun _ _ _ h => h) (by rfl) hHeld (by rintro w' ⟨s0, s1, s2, s3, s4⟩; go_simp; with_reducible rfl) (by simp only [Act.put, zs1, zs2, zs3, i64_w, i32_w]; rfl) ?_
       refine join_ (σ := Value × Value × Nat) 3 (bm 14 2047) (fun s_ => [(23, .tuple #[.agg #[.int .i64 t251, s_.1], s_.2.1, .int .i64 t258]), (6, .pointer (some ⟨s_.2.2, 0, none⟩)), (17, .tuple #[.agg #[.int .i64 t251, s_.1], s_.2.1, .int .i64 t258]), (24, .agg #[.int .i64 t251, s_.1]), (25, s_.2.1), (26, .int .i64 t258)]) (fun s_ w' => (w'.cell? ⟨gb246, 0, none⟩ = some (.int .i64 x247000_1) ∧ w'.cell? ⟨gb246, 1, none⟩ = some (.slice Ao26 x247001_1.length co26) ∧ w'.cell? (ad250.add ((x5_1).toNat * 3)) = some (.int .i64 ((rd_T39 l0 x5_1).f0)) ∧ w'.cell? ⟨(ad250.add ((x5_1).toNat * 3)).block, (ad250.add ((x5_1).toNat * 3)).off + 1, none⟩ = some (.int .i64 ((rd_T39 l0 x5_1).f1)) ∧ w'.cell? ⟨(ad250.add ((x5_1).toNat * 3)).block, (ad250.add ((x5_1).toNat * 3)).off + 2, none⟩ = some (.slice A250_2 ((rd_T39 l0 x5_1).f2).length c250_2)) ∧ (Kd.V (Kd.int .u8) 5 w' w.heap.size (fun k_ => (w.heap.size ≤ k_) ∧ some k_ ≠ (u4 : Value).ownBlock ∧ k_ ≠ gb246 ∧ k_ ≠ s_.2.2) s_.1 t252) ∧ (Kd.V (Kd.int .u8) 5 w' w.heap.size (fun k_ => (w.heap.size ≤ k_) ∧ some k_ ≠ (u4 : Value).ownBlock ∧ k_ ≠ gb246 ∧ k_ ≠ s_.2.2) s_.2.1 t255) ∧ (Kd.V (Kd.int .u8) 5 w' w.heap.size (fun k_ => (w.heap.size ≤ k_) ∧ some k_ ≠ (u4 : Value).ownBlock ∧ k_ ≠ gb246 ∧ k_ ≠ s_.2.2) (.slice Ao26 x247001_1.length co26) x247001_1) ∧ (Kd.N (Kd.slice 5 (Kd.int .u8)) 22 w' w.heap.size (fun k_ => (w.heap.size ≤ k_) ∧ k_ ≠ gb246 ∧ k_ ≠ s_.2.2) u4 x4_1) ∧ (w'.heap[gb246]? = some (.cells #[.int .i64 x247000_1, .slice Ao26 x247001_1.length co26] 35 (0, 0))) ∧ (w'.heap[s_.2.2]? = some (.cells #[.int .i64 0, .slice none 0 0] 35 (0, 0))) ∧ (w.heap.size ≤ s_.2.2) ∧ (w.heap.size ≤ s_.2.2) ∧ (gb246 ≠ s_.2.2) ∧ (s_.2.2 ≠ gb246) ∧ (Below w.heap.size w w')) ?_ ?_
       rotate_left
       · intro hCont
         refine two_ (i := 5) (j := 10) (Ni := some 23) (Nj := some 6) (bm 14 63) (bm 14 1055) rfl rfl rfl rfl (two_of HT_.out (by kernel_rfl)) (by decide) (by decide) (fun K hK => ?_) (fun K hK => ?_)
         · skip
           refine goes_ Try.func26 (by kernel_rfl) rfl #[.agg #[.int .i64 x247000_1, .slice Ao26 x247001_1.length co26], .agg #[.int .i64 ((rd_T39 l0 x5_1).f0), .int .i64 ((rd_T39 l0 x5_1).f1), .slice A250_2 ((rd_T39 l0 x5_1).f2).length c250_2]] (by rfl) rfl rfl (by (try simp only [List.map_toArray, List.map_cons, List.map_nil]); first | done | rfl | (simp only [List.length_drop, List.length_take]; rfl)) ?_
           with_reducible refine (impl_SegPut.calls k1 x247000_1 _ _ x247001_1 ((rd_T39 l0 x5_1).f0) ((rd_T39 l0 x5_1).f1) _ _ ((rd_T39 l0 x5_1).f2) t251 t252 t255 t258 _ ?side1 ?side2 ?side3 ?side4 A8.out).mono ?_
           (case side1 => repeat (first | exact (Kd.V_reads' HO_247001.out).2.2 | (with_reducible refine Kd.C_alloc ?_ _) | (with_reducible refine Kd.C_drewN ?_ _) | (with_reducible refine Kd.C_drew ?_)))
           (case side2 => exact (Kd.V_reads' HO_247001.out).2.1)
           (case side3 => repeat (first | exact (Kd.C_below HR250_2.out HB.out) | (with_reducible refine Kd.C_alloc ?_ _) | (with_reducible refine Kd.C_drewN ?_ _) | (with_reducible refine Kd.C_drew ?_)))
           (case side4 => exact HC250_2.out)
           rintro e w28 ⟨v253, v256, rfl, ho0, ho1, hb⟩
           refine ⟨_, rfl, ?_⟩
           replace HO_247001 := mk_ (Kd.V_below (by (with_reducible repeat (first | apply Kd.V_alloc | apply Kd.V_drewN | apply Kd.V_drew)); exact HO_247001.out) hb)
           have HO254 := mk_ (Kd.V_lower (Kd.V_mono (ok' := fun k_ => (w.heap.size ≤ k_) ∧ some k_ ≠ (u4 : Value).ownBlock ∧ k_ ≠ gb246) ho0 (fun k_ hk_ => ⟨(Nat.le_trans (zr2 (by repeat (first | (with_reducible first | exact HB.out | apply zq7 | apply zq8 | apply zq9 | refine zr1 ?_ GE246.out) | exact HB.out))) hk_), (Kd.fresh' (Kd.N_lt (by (with_reducible repeat (first | apply Kd.N_alloc | apply Kd.N_drewN | apply Kd.N_drew)); exact HO_4.out)) k_ hk_), (Kd.freshB (g := gb246) (o := .cells #[.int .i64 x247000_1, .slice Ao26 x247001_1.length co26] 35 (0, 0)) (by exact BK246.out) k_ hk_)⟩)) (zr2 (by repeat (first | (with_reducible first | exact HB.out | apply zq7 | apply zq8 | apply zq9 | refine zr1 ?_ GE246.out) | exact HB.out))))
           have HO257 := mk_ (Kd.V_lower (Kd.V_mono (ok' := fun k_ => (w.heap.size ≤ k_) ∧ some k_ ≠ (u4 : Value).ownBlock ∧ k_ ≠ gb246) ho1 (fun k_ hk_ => ⟨(Nat.le_trans (zr2 (by repeat (first | (with_reducible first | exact HB.out | apply zq7 | apply zq8 | apply zq9 | refine zr1 ?_ GE246.out) | exact HB.out))) hk_), (Kd.fresh' (Kd.N_lt (by (with_reducible repeat (first | apply Kd.N_alloc | apply Kd.N_drewN | apply Kd.N_drew)); exact HO_4.out)) k_ hk_), (Kd.freshB (g := gb246) (o := .cells #[.int .i64 x247000_1, .slice Ao26 x247001_1.length co26] 35 (0, 0)) (by exact BK246.out) k_ hk_)⟩)) (zr2 (by repeat (first | (with_reducible first | exact HB.out | apply zq7 | apply zq8 | apply zq9 | refine zr1 ?_ GE246.out) | exact HB.out))))
           replace HO_4 := mk_ (Kd.N_below (by (with_reducible repeat (first | apply Kd.N_alloc | apply Kd.N_drewN | apply Kd.N_drew)); exact HO_4.out) hb)
           replace BK246 := mk_ (zq6 (by exact BK246.out) hb)
           replace HB := mk_ (zr3 (by repeat (first | (with_reducible first | exact HB.out | apply zq7 | apply zq8 | apply zq9 | refine zr1 ?_ GE246.out) | exact HB.out)) hb)
           (try clear hb)
           (try clear hb2)
           (try clear hk)
           (try clear hi)
           (try clear ho0)
           (try clear ho1)
           refine hK.out _ _ ⟨(zr4 BK246.out 0).trans rfl, (zr4 BK246.out 1).trans rfl, ((HB.out.cell (World.block_lt_of_cell? w _ hw250_0)).trans hw250_0), ((HB.out.cell (World.block_lt_of_cell? w _ hw250_1)).trans hw250_1), ((HB.out.cell (World.block_lt_of_cell? w _ hw250_2)).trans hw250_2)⟩ (fun hHeld => ?_)
           clear hK K
           refine norm_ (a' := ?_) ?_ ?_
           rotate_left
           · show Act.put _ (some 23) _ = _
             simp only [Act.put, zs1, zs2, zs3, i64_w, i32_w]
             rfl
           refine pA 6 (some 17) (bm 14 127) rfl rfl HT_.out (by kernel_rfl) (fun _ _ _ h => h) (by rfl) (by intro w'; go_simp; with_reducible rfl) (by simp only [Act.put, zs1, zs2, zs3, i64_w, i32_w]; rfl) ?_
           refine pA 7 (some 24) (bm 14 255) rfl rfl HT_.out (by kernel_rfl) (fun _ _ _ h => h) (by rfl) (by intro w'; go_simp; with_reducible rfl) (by simp only [Act.put, zs1, zs2, zs3, i64_w, i32_w]; rfl) ?_
           refine pA 8 (some 25) (bm 14 511) rfl rfl HT_.out (by kernel_rfl) (fun _ _ _ h => h) (by rfl) (by intro w'; go_simp; with_reducible rfl) (by simp only [Act.put, zs1, zs2, zs3, i64_w, i32_w]; rfl) ?_
           refine pA 9 (some 26) (bm 14 1023) rfl rfl HT_.out (by kernel_rfl) (fun _ _ _ h => h) (by rfl) (by intro w'; go_simp; with_reducible rfl) (by simp only [Act.put, zs1, zs2, zs3, i64_w, i32_w]; rfl) ?_
           refine one_ (i := 10) (N := some 6) (bm 14 2047) rfl rfl (one_of HT_.out (by kernel_rfl)) (by decide) (fun K hK => ?_)
           refine box_step ?hg (N := 6) ?hd (cs := #[.int .i64 0, .slice none 0 0]) (t := 35) ?hr ?_; (case hd => rfl); (case hg => rfl); (case hr => first | (go_simp; done) | (go_simp; rfl))
           intro gb259 hg w29 hbox hb
           replace HO_4 := mk_ (Kd.N_below (Kd.N_elderB (by (with_reducible repeat (first | apply Kd.N_alloc | apply Kd.N_drewN | apply Kd.N_drew)); exact HO_4.out) gb259 (Nat.le_of_eq hg.symm)) hb)
           replace HO_247001 := mk_ (Kd.V_below (Kd.V_elderB (by (with_reducible repeat (first | apply Kd.V_alloc | apply Kd.V_drewN | apply Kd.V_drew)); exact HO_247001.out) gb259 (Nat.le_of_eq hg.symm)) hb)
           replace HO254 := mk_ (Kd.V_below (Kd.V_elderB (by (with_reducible repeat (first | apply Kd.V_alloc | apply Kd.V_drewN | apply Kd.V_drew)); exact HO254.out) gb259 (Nat.le_of_eq hg.symm)) hb)
           replace HO257 := mk_ (Kd.V_below (Kd.V_elderB (by (with_reducible repeat (first | apply Kd.V_alloc | apply Kd.V_drewN | apply Kd.V_drew)); exact HO257.out) gb259 (Nat.le_of_eq hg.symm)) hb)
           have BK259 := mk_ (hbox)
           have GW259 := mk_ ((by rw [hg]; exact (zr2 (by repeat (first | (with_reducible first | exact HB.out | apply zq7 | apply zq8 | apply zq9 | refine zr1 ?_ GE246.out) | exact HB.out))) : w.heap.size ≤ gb259))
           have GE259 := GW259
           replace HB := mk_ (zr3 (by repeat (first | (with_reducible first | exact HB.out | apply zq7 | apply zq8 | apply zq9 | refine zr1 ?_ GE246.out) | exact HB.out)) hb)
           have NB246_259 := mk_ ((by rw [hg]; exact zm2 (zr6 (by exact BK246.out)) : gb246 ≠ gb259))
           have NB259_246 := mk_ NB246_259.out.symm
           replace BK246 := mk_ (zq6 (by exact BK246.out) hb)
           clear hb hbox hg
           refine hK.out _ _ ⟨(zr4 BK246.out 0).trans rfl, (zr4 BK246.out 1).trans rfl, ((HB.out.cell (World.block_lt_of_cell? w _ hw250_0)).trans hw250_0), ((HB.out.cell (World.block_lt_of_cell? w _ hw250_1)).trans hw250_1), ((HB.out.cell (World.block_lt_of_cell? w _ hw250_2)).trans hw250_2)⟩ (fun hHeld => ?_)
           clear hK K
           refine norm_ (a' := ?_) ?_ ?_
           rotate_left
           · show Act.put _ (some 6) _ = _
             simp only [Act.put, zs1, zs2, zs3, i64_w, i32_w]
             rfl
           exact norm_ (by simp only [putAll, Act.put, List.setIfInBounds_toArray, List.set_cons_zero, List.set_cons_succ]) (hCont (v253, v256, gb259) _ ⟨hHeld, (by (with_reducible repeat (first | apply Kd.V_alloc | apply Kd.V_drewN | apply Kd.V_drew)); exact Kd.V_mono HO254.out (fun _ hk => ⟨hk.1.1, ⟨hk.1.2.1, ⟨hk.1.2.2, hk.2⟩⟩⟩)), (by (with_reducible repeat (first | apply Kd.V_alloc | apply Kd.V_drewN | apply Kd.V_drew)); exact Kd.V_mono HO257.out (fun _ hk => ⟨hk.1.1, ⟨hk.1.2.1, ⟨hk.1.2.2, hk.2⟩⟩⟩)), (by (with_reducible repeat (first | apply Kd.V_alloc | apply Kd.V_drewN | apply Kd.V_drew)); exact Kd.V_mono HO_247001.out (fun _ hk => ⟨hk.1.1, ⟨hk.1.2.1, ⟨hk.1.2.2, hk.2⟩⟩⟩)), (by (with_reducible repeat (first | apply Kd.N_alloc | apply Kd.N_drewN | apply Kd.N_drew)); exact Kd.N_mono HO_4.out (fun _ hk => ⟨hk.1.1, ⟨hk.1.2, hk.2⟩⟩)), (by exact BK246.out), (by exact BK259.out), GW259.out, GE259.out, NB246_259.out, NB259_246.out, (by repeat (first | (with_reducible first | exact HB.out | apply zq7 | apply zq8 | apply zq9 | refine zr1 ?_ GE246.out | refine zr1 ?_ GE259.out) | exact HB.out))⟩)
         · skip
           refine box_step ?hg (N := 6) ?hd (cs := #[.int .i64 0, .slice none 0 0]) (t := 35) ?hr ?_; (case hd => rfl); (case hg => rfl); (case hr => first | (go_simp; done) | (go_simp; rfl))
           intro gb259 hg w28 hbox hb
           replace HO_4 := mk_ (Kd.N_below (Kd.N_elderB (by (with_reducible repeat (first | apply Kd.N_alloc | apply Kd.N_drewN | apply Kd.N_drew)); exact HO_4.out) gb259 (Nat.le_of_eq hg.symm)) hb)
           replace HO_247001 := mk_ (Kd.V_below (Kd.V_elderB (by (with_reducible repeat (first | apply Kd.V_alloc | apply Kd.V_drewN | apply Kd.V_drew)); exact HO_247001.out) gb259 (Nat.le_of_eq hg.symm)) hb)
           have BK259 := mk_ (hbox)
           have GW259 := mk_ ((by rw [hg]; exact (zr2 (by repeat (first | (with_reducible first | exact HB.out | apply zq7 | apply zq8 | apply zq9 | refine zr1 ?_ GE246.out) | exact HB.out))) : w.heap.size ≤ gb259))
           have GE259 := GW259
           replace HB := mk_ (zr3 (by repeat (first | (with_reducible first | exact HB.out | apply zq7 | apply zq8 | apply zq9 | refine zr1 ?_ GE246.out) | exact HB.out)) hb)
           have NB246_259 := mk_ ((by rw [hg]; exact zm2 (zr6 (by exact BK246.out)) : gb246 ≠ gb259))
           have NB259_246 := mk_ NB246_259.out.symm
           replace BK246 := mk_ (zq6 (by exact BK246.out) hb)
           clear hb hbox hg
           refine hK.out _ _ ⟨(zr4 BK246.out 0).trans rfl, (zr4 BK246.out 1).trans rfl, ((HB.out.cell (World.block_lt_of_cell? w _ hw250_0)).trans hw250_0), ((HB.out.cell (World.block_lt_of_cell? w _ hw250_1)).trans hw250_1), ((HB.out.cell (World.block_lt_of_cell? w _ hw250_2)).trans hw250_2)⟩ (fun hHeld => ?_)
           clear hK K
           refine norm_ (a' := ?_) ?_ ?_
           rotate_left
           · show Act.put _ (some 6) _ = _
             simp only [Act.put, zs1, zs2, zs3, i64_w, i32_w]
             rfl
           refine one_ (i := 5) (N := some 23) (bm 14 1087) rfl rfl (one_of HT_.out (by kernel_rfl)) (by decide) (fun K hK => ?_)
           refine goes_ Try.func26 (by kernel_rfl) rfl #[.agg #[.int .i64 x247000_1, .slice Ao26 x247001_1.length co26], .agg #[.int .i64 ((rd_T39 l0 x5_1).f0), .int .i64 ((rd_T39 l0 x5_1).f1), .slice A250_2 ((rd_T39 l0 x5_1).f2).length c250_2]] (by rfl) rfl rfl (by (try simp only [List.map_toArray, List.map_cons, List.map_nil]); first | done | rfl | (simp only [List.length_drop, List.length_take]; rfl)) ?_
           with_reducible refine (impl_SegPut.calls k1 x247000_1 _ _ x247001_1 ((rd_T39 l0 x5_1).f0) ((rd_T39 l0 x5_1).f1) _ _ ((rd_T39 l0 x5_1).f2) t251 t252 t255 t258 _ ?side1 ?side2 ?side3 ?side4 A8.out).mono ?_
           (case side1 => repeat (first | exact (Kd.V_reads' HO_247001.out).2.2 | (with_reducible refine Kd.C_alloc ?_ _) | (with_reducible refine Kd.C_drewN ?_ _) | (with_reducible refine Kd.C_drew ?_)))
           (case side2 => exact (Kd.V_reads' HO_247001.out).2.1)
           (case side3 => repeat (first | exact (Kd.C_below HR250_2.out HB.out) | (with_reducible refine Kd.C_alloc ?_ _) | (with_reducible refine Kd.C_drewN ?_ _) | (with_reducible refine Kd.C_drew ?_)))
           (case side4 => exact HC250_2.out)
           rintro e w29 ⟨v253, v256, rfl, ho0, ho1, hb⟩
           refine ⟨_, rfl, ?_⟩
           replace HO_247001 := mk_ (Kd.V_below (by (with_reducible repeat (first | apply Kd.V_alloc | apply Kd.V_drewN | apply Kd.V_drew)); exact HO_247001.out) hb)
           have HO254 := mk_ (Kd.V_lower (Kd.V_mono (ok' := fun k_ => (w.heap.size ≤ k_) ∧ some k_ ≠ (u4 : Value).ownBlock ∧ k_ ≠ gb246 ∧ k_ ≠ gb259) ho0 (fun k_ hk_ => ⟨(Nat.le_trans (zr2 (by repeat (first | (with_reducible first | exact HB.out | apply zq7 | apply zq8 | apply zq9 | refine zr1 ?_ GE246.out | refine zr1 ?_ GE259.out) | exact HB.out))) hk_), (Kd.fresh' (Kd.N_lt (by (with_reducible repeat (first | apply Kd.N_alloc | apply Kd.N_drewN | apply Kd.N_drew)); exact HO_4.out)) k_ hk_), (Kd.freshB (g := gb246) (o := .cells #[.int .i64 x247000_1, .slice Ao26 x247001_1.length co26] 35 (0, 0)) (by exact BK246.out) k_ hk_), (Kd.freshB (g := gb259) (o := .cells #[.int .i64 0, .slice none 0 0] 35 (0, 0)) (by exact BK259.out) k_ hk_)⟩)) (zr2 (by repeat (first | (with_reducible first | exact HB.out | apply zq7 | apply zq8 | apply zq9 | refine zr1 ?_ GE246.out | refine zr1 ?_ GE259.out) | exact HB.out))))
           have HO257 := mk_ (Kd.V_lower (Kd.V_mono (ok' := fun k_ => (w.heap.size ≤ k_) ∧ some k_ ≠ (u4 : Value).ownBlock ∧ k_ ≠ gb246 ∧ k_ ≠ gb259) ho1 (fun k_ hk_ => ⟨(Nat.le_trans (zr2 (by repeat (first | (with_reducible first | exact HB.out | apply zq7 | apply zq8 | apply zq9 | refine zr1 ?_ GE246.out | refine zr1 ?_ GE259.out) | exact HB.out))) hk_), (Kd.fresh' (Kd.N_lt (by (with_reducible repeat (first | apply Kd.N_alloc | apply Kd.N_drewN | apply Kd.N_drew)); exact HO_4.out)) k_ hk_), (Kd.freshB (g := gb246) (o := .cells #[.int .i64 x247000_1, .slice Ao26 x247001_1.length co26] 35 (0, 0)) (by exact BK246.out) k_ hk_), (Kd.freshB (g := gb259) (o := .cells #[.int .i64 0, .slice none 0 0] 35 (0, 0)) (by exact BK259.out) k_ hk_)⟩)) (zr2 (by repeat (first | (with_reducible first | exact HB.out | apply zq7 | apply zq8 | apply zq9 | refine zr1 ?_ GE246.out | refine zr1 ?_ GE259.out) | exact HB.out))))
           replace HO_4 := mk_ (Kd.N_below (by (with_reducible repeat (first | apply Kd.N_alloc | apply Kd.N_drewN | apply Kd.N_drew)); exact HO_4.out) hb)
           replace BK246 := mk_ (zq6 (by exact BK246.out) hb)
           replace BK259 := mk_ (zq6 (by exact BK259.out) hb)
           replace HB := mk_ (zr3 (by repeat (first | (with_reducible first | exact HB.out | apply zq7 | apply zq8 | apply zq9 | refine zr1 ?_ GE246.out | refine zr1 ?_ GE259.out) | exact HB.out)) hb)
           (try clear hb)
           (try clear hb2)
           (try clear hk)
           (try clear hi)
           (try clear ho0)
           (try clear ho1)
           refine hK.out _ _ ⟨(zr4 BK246.out 0).trans rfl, (zr4 BK246.out 1).trans rfl, ((HB.out.cell (World.block_lt_of_cell? w _ hw250_0)).trans hw250_0), ((HB.out.cell (World.block_lt_of_cell? w _ hw250_1)).trans hw250_1), ((HB.out.cell (World.block_lt_of_cell? w _ hw250_2)).trans hw250_2)⟩ (fun hHeld => ?_)
           clear hK K
           refine norm_ (a' := ?_) ?_ ?_
           rotate_left
           · show Act.put _ (some 23) _ = _
             simp only [Act.put, zs1, zs2, zs3, i64_w, i32_w]
             rfl
           refine pA 6 (some 17) (bm 14 1151) rfl rfl HT_.out (by kernel_rfl) (fun _ _ _ h => h) (by rfl) (by intro w'; go_simp; with_reducible rfl) (by simp only [Act.put, zs1, zs2, zs3, i64_w, i32_w]; rfl) ?_
           refine pA 7 (some 24) (bm 14 1279) rfl rfl HT_.out (by kernel_rfl) (fun _ _ _ h => h) (by rfl) (by intro w'; go_simp; with_reducible rfl) (by simp only [Act.put, zs1, zs2, zs3, i64_w, i32_w]; rfl) ?_
           refine pA 8 (some 25) (bm 14 1535) rfl rfl HT_.out (by kernel_rfl) (fun _ _ _ h => h) (by rfl) (by intro w'; go_simp; with_reducible rfl) (by simp only [Act.put, zs1, zs2, zs3, i64_w, i32_w]; rfl) ?_
           refine pA 9 (some 26) (bm 14 2047) rfl rfl HT_.out (by kernel_rfl) (fun _ _ _ h => h) (by rfl) (by intro w'; go_simp; with_reducible rfl) (by simp only [Act.put, zs1, zs2, zs3, i64_w, i32_w]; rfl) ?_
           exact norm_ (by simp only [putAll, Act.put, List.setIfInBounds_toArray, List.set_cons_zero, List.set_cons_succ]) (hCont (v253, v256, gb259) _ ⟨hHeld, (by (with_reducible repeat (first | apply Kd.V_alloc | apply Kd.V_drewN | apply Kd.V_drew)); exact HO254.out), (by (with_reducible repeat (first | apply Kd.V_alloc | apply Kd.V_drewN | apply Kd.V_drew)); exact HO257.out), (by (with_reducible repeat (first | apply Kd.V_alloc | apply Kd.V_drewN | apply Kd.V_drew)); exact Kd.V_mono HO_247001.out (fun _ hk => ⟨hk.1.1, ⟨hk.1.2.1, ⟨hk.1.2.2, hk.2⟩⟩⟩)), (by (with_reducible repeat (first | apply Kd.N_alloc | apply Kd.N_drewN | apply Kd.N_drew)); exact Kd.N_mono HO_4.out (fun _ hk => ⟨hk.1.1, ⟨hk.1.2, hk.2⟩⟩)), (by exact BK246.out), (by exact BK259.out), GW259.out, GE259.out, NB246_259.out, NB259_246.out, (by repeat (first | (with_reducible first | exact HB.out | apply zq7 | apply zq8 | apply zq9 | refine zr1 ?_ GE246.out | refine zr1 ?_ GE259.out) | exact HB.out))⟩)
       rintro ⟨v253, v256, gb259⟩ w30 ⟨hS_, h0_, h1_, h2_, h3_, h4_, h5_, h6_, h7_, h8_, h9_, h10_⟩
       have n0_ : Aside0 (Kd.V (Kd.int .u8) 5 w30 w.heap.size (fun k_ => (w.heap.size ≤ k_) ∧ some k_ ≠ (u4 : Value).ownBlock ∧ k_ ≠ gb246 ∧ k_ ≠ gb259) v253 t252) := ⟨h0_⟩
       have n1_ : Aside0 (Kd.V (Kd.int .u8) 5 w30 w.heap.size (fun k_ => (w.heap.size ≤ k_) ∧ some k_ ≠ (u4 : Value).ownBlock ∧ k_ ≠ gb246 ∧ k_ ≠ gb259) v256 t255) := ⟨h1_⟩
       have n2_ : Aside0 (Kd.V (Kd.int .u8) 5 w30 w.heap.size (fun k_ => (w.heap.size ≤ k_) ∧ some k_ ≠ (u4 : Value).ownBlock ∧ k_ ≠ gb246 ∧ k_ ≠ gb259) (.slice Ao26 x247001_1.length co26) x247001_1) := ⟨h2_⟩
       have n3_ : Aside0 (Kd.N (Kd.slice 5 (Kd.int .u8)) 22 w30 w.heap.size (fun k_ => (w.heap.size ≤ k_) ∧ k_ ≠ gb246 ∧ k_ ≠ gb259) u4 x4_1) := ⟨h3_⟩
       have n4_ : Aside0 (w30.heap[gb246]? = some (.cells #[.int .i64 x247000_1, .slice Ao26 x247001_1.length co26] 35 (0, 0))) := ⟨h4_⟩
       have n5_ : Aside0 (w30.heap[gb259]? = some (.cells #[.int .i64 0, .slice none 0 0] 35 (0, 0))) := ⟨h5_⟩
       have n6_ : Aside0 (w.heap.size ≤ gb259) := ⟨h6_⟩
       have n7_ : Aside0 (w.heap.size ≤ gb259) := ⟨h7_⟩
       have n8_ : Aside0 (gb246 ≠ gb259) := ⟨h8_⟩
       have n9_ : Aside0 (gb259 ≠ gb246) := ⟨h9_⟩
       have n10_ : Aside0 (Below w.heap.size w w30) := ⟨h10_⟩
       clear HO_4
       clear HO_247001
       clear BK246
       clear HB
       clear h0_ h1_ h2_ h3_ h4_ h5_ h6_ h7_ h8_ h9_ h10_
       have HO254 := n0_
       have HO257 := n1_
       have HO_247001 := n2_
       have HO_4 := n3_
       have BK246 := n4_
       have BK259 := n5_
       have GW259 := n6_
       have GE259 := n7_
       have NB246_259 := n8_
       have NB259_246 := n9_
       have HB := n10_
       clear n0_ n1_ n2_ n3_ n4_ n5_ n6_ n7_ n8_ n9_ n10_
       have hHeld : w30.cell? ⟨gb246, 0, none⟩ = some (.int .i64 x247000_1) ∧ w30.cell? ⟨gb246, 1, none⟩ = some (.slice Ao26 x247001_1.length co26) ∧ w30.cell? (ad250.add ((x5_1).toNat * 3)) = some (.int .i64 ((rd_T39 l0 x5_1).f0)) ∧ w30.cell? ⟨(ad250.add ((x5_1).toNat * 3)).block, (ad250.add ((x5_1).toNat * 3)).off + 1, none⟩ = some (.int .i64 ((rd_T39 l0 x5_1).f1)) ∧ w30.cell? ⟨(ad250.add ((x5_1).toNat * 3)).block, (ad250.add ((x5_1).toNat * 3)).off + 2, none⟩ = some (.slice A250_2 ((rd_T39 l0 x5_1).f2).length c250_2) := hS_
       obtain ⟨Ao32, co32, eo32⟩ := Kd.V_slice HO254.out
       (first | subst eo32 | (injection eo32 with f1_ f2_ f3_; have f4_ := f1_.symm; have f5_ := f3_.symm; clear f1_ f2_ f3_; subst f4_; subst f5_))
       refine norm_ (a' := ?_) ?_ ?_
       rotate_left
       · simp only [putAll, Act.put, List.setIfInBounds_toArray, List.set_cons_zero, List.set_cons_succ]
         rfl
       refine one_ (i := 11) (N := none) (bm 14 4095) rfl rfl (one_of HT_.out (by kernel_rfl)) (by decide) (fun K hK => ?_)
       have hs31 : w30.cell? ⟨gb259, 0, none⟩ = some (.int .i64 0) := (zr4 BK259.out 0).trans rfl
       have hfs31 := zr5 BK259.out 0
       have hns31_0 := NB246_259.out
       have hms31_0 := NB259_246.out
       have hs33 : w30.cell? ⟨gb259, 1, none⟩ = some (.slice none 0 0) := (zr4 BK259.out 1).trans rfl
       have hfs33 := zr5 BK259.out 1
       have hns33_0 := NB246_259.out
       have hms33_0 := NB259_246.out
       refine skip_ (w1 := ?_) (by rfl) rfl ?_ ?_
       rotate_left
       · go_simp
         rfl
       refine hK.out _ _ ⟨(fr2 NB246_259.out hHeld.1), (fr2 NB246_259.out hHeld.2.1), ((cell_far (p := ⟨gb259, _, none⟩) (by first | exact zm2 (Nat.lt_of_lt_of_le (by have := World.block_lt_of_cell? _ _ hw250_0; first | rwa [add_block] at this | exact this) GW259.out) | (rw [add_block]; exact zm2 (Nat.lt_of_lt_of_le (by have := World.block_lt_of_cell? _ _ hw250_0; first | rwa [add_block] at this | exact this) GW259.out)) | (show (Addr.add _ _).block ≠ _; rw [add_block]; exact zm2 (Nat.lt_of_lt_of_le (by have := World.block_lt_of_cell? _ _ hw250_0; first | rwa [add_block] at this | exact this) GW259.out)) | (dsimp only; exact zm2 (Nat.lt_of_lt_of_le (by have := World.block_lt_of_cell? _ _ hw250_0; first | rwa [add_block] at this | exact this) GW259.out))) _).trans (((cell_far (p := ⟨gb259, _, none⟩) (by first | exact zm2 (Nat.lt_of_lt_of_le (by have := World.block_lt_of_cell? _ _ hw250_0; first | rwa [add_block] at this | exact this) GW259.out) | (rw [add_block]; exact zm2 (Nat.lt_of_lt_of_le (by have := World.block_lt_of_cell? _ _ hw250_0; first | rwa [add_block] at this | exact this) GW259.out)) | (show (Addr.add _ _).block ≠ _; rw [add_block]; exact zm2 (Nat.lt_of_lt_of_le (by have := World.block_lt_of_cell? _ _ hw250_0; first | rwa [add_block] at this | exact this) GW259.out)) | (dsimp only; exact zm2 (Nat.lt_of_lt_of_le (by have := World.block_lt_of_cell? _ _ hw250_0; first | rwa [add_block] at this | exact this) GW259.out))) _).trans (hHeld.2.2.1)))), ((cell_far (p := ⟨gb259, _, none⟩) (by first | exact zm2 (Nat.lt_of_lt_of_le (by have := World.block_lt_of_cell? _ _ hw250_1; first | rwa [add_block] at this | exact this) GW259.out) | (rw [add_block]; exact zm2 (Nat.lt_of_lt_of_le (by have := World.block_lt_of_cell? _ _ hw250_1; first | rwa [add_block] at this | exact this) GW259.out)) | (show (Addr.add _ _).block ≠ _; rw [add_block]; exact zm2 (Nat.lt_of_lt_of_le (by have := World.block_lt_of_cell? _ _ hw250_1; first | rwa [add_block] at this | exact this) GW259.out)) | (dsimp only; exact zm2 (Nat.lt_of_lt_of_le (by have := World.block_lt_of_cell? _ _ hw250_1; first | rwa [add_block] at this | exact this) GW259.out))) _).trans (((cell_far (p := ⟨gb259, _, none⟩) (by first | exact zm2 (Nat.lt_of_lt_of_le (by have := World.block_lt_of_cell? _ _ hw250_1; first | rwa [add_block] at this | exact this) GW259.out) | (rw [add_block]; exact zm2 (Nat.lt_of_lt_of_le (by have := World.block_lt_of_cell? _ _ hw250_1; first | rwa [add_block] at this | exact this) GW259.out)) | (show (Addr.add _ _).block ≠ _; rw [add_block]; exact zm2 (Nat.lt_of_lt_of_le (by have := World.block_lt_of_cell? _ _ hw250_1; first | rwa [add_block] at this | exact this) GW259.out)) | (dsimp only; exact zm2 (Nat.lt_of_lt_of_le (by have := World.block_lt_of_cell? _ _ hw250_1; first | rwa [add_block] at this | exact this) GW259.out))) _).trans (hHeld.2.2.2.1)))), ((cell_far (p := ⟨gb259, _, none⟩) (by first | exact zm2 (Nat.lt_of_lt_of_le (by have := World.block_lt_of_cell? _ _ hw250_2; first | rwa [add_block] at this | exact this) GW259.out) | (rw [add_block]; exact zm2 (Nat.lt_of_lt_of_le (by have := World.block_lt_of_cell? _ _ hw250_2; first | rwa [add_block] at this | exact this) GW259.out)) | (show (Addr.add _ _).block ≠ _; rw [add_block]; exact zm2 (Nat.lt_of_lt_of_le (by have := World.block_lt_of_cell? _ _ hw250_2; first | rwa [add_block] at this | exact this) GW259.out)) | (dsimp only; exact zm2 (Nat.lt_of_lt_of_le (by have := World.block_lt_of_cell? _ _ hw250_2; first | rwa [add_block] at this | exact this) GW259.out))) _).trans (((cell_far (p := ⟨gb259, _, none⟩) (by first | exact zm2 (Nat.lt_of_lt_of_le (by have := World.block_lt_of_cell? _ _ hw250_2; first | rwa [add_block] at this | exact this) GW259.out) | (rw [add_block]; exact zm2 (Nat.lt_of_lt_of_le (by have := World.block_lt_of_cell? _ _ hw250_2; first | rwa [add_block] at this | exact this) GW259.out)) | (show (Addr.add _ _).block ≠ _; rw [add_block]; exact zm2 (Nat.lt_of_lt_of_le (by have := World.block_lt_of_cell? _ _ hw250_2; first | rwa [add_block] at this | exact this) GW259.out)) | (dsimp only; exact zm2 (Nat.lt_of_lt_of_le (by have := World.block_lt_of_cell? _ _ hw250_2; first | rwa [add_block] at this | exact this) GW259.out))) _).trans (hHeld.2.2.2.2))))⟩ (fun hHeld => ?_)
       clear hK K
       refine pA 12 (some 7) (bm 14 8191) rfl rfl HT_.out (by kernel_rfl) (fun _ _ _ h => h) (by rfl) (by intro w'; go_simp; with_reducible rfl) (by simp only [Act.put, zs1, zs2, zs3, i64_w, i32_w]; rfl) ?_
       refine pA 13 (some 8) (bm 14 16383) rfl rfl HT_.out (by kernel_rfl) (fun _ _ _ h => h) (by rfl) (by intro w'; go_simp; with_reducible rfl) (by simp only [Act.put, zs1, zs2, zs3, i64_w, i32_w]; rfl) ?_
       refine done_ (done_of HT_.out (by kernel_rfl)) ?_
       have hnb34 := NB259_246.out
       have hnc34 := NB246_259.out
       obtain ⟨hcz35_0, hcz35_1⟩ := cz2 BK259.out
       obtain ⟨hfz35_0, hfz35_1⟩ := fz2 BK259.out
       obtain ⟨hcz36_0, hcz36_1⟩ := cz2 BK246.out
       obtain ⟨hfz36_0, hfz36_1⟩ := fz2 BK246.out
       try go_wp2
       go_roundg k1
       case measure => have := HK1.out; omega
       case rel => exact ⟨(x4_1), (wrap64 (x5_1 + 1)), (t251), (t252), (.slice Ao32 t252.length co32), (by first | rfl | (simp; done) | (simp [*]; done)), H', ⟨by have := HK1.out; omega⟩, ⟨by (with_reducible repeat (first | apply Kd.N_alloc | apply Kd.N_drewN | apply Kd.N_drew)); exact Kd.N_mono (Kd.N_far (p := ⟨gb246, 1, none⟩) (Kd.N_far (p := ⟨gb246, 0, none⟩) (Kd.N_far (p := ⟨gb259, 1, none⟩) (Kd.N_far (p := ⟨gb259, 0, none⟩) (Kd.N_mono (Kd.N_mono HO_4.out (fun k_ hk => (⟨hk, hk.2.2⟩ : _ ∧ k_ ≠ gb259))) (fun k_ hk => (⟨hk, hk.1.2.1⟩ : _ ∧ k_ ≠ gb246))) (fun _ hk => hk.1.2) (.int .i64 t251)) (fun _ hk => hk.1.2) (.slice Ao32 t252.length co32)) (fun _ hk => hk.2) (.int .i64 t251)) (fun _ hk => hk.2) (.slice Ao32 t252.length co32)) (fun _ hk => ⟨hk.1.1.1, hk.1.1.2.1⟩)⟩, ⟨by (with_reducible repeat (first | apply Kd.V_alloc | apply Kd.V_drewN | apply Kd.V_drew)); exact Kd.V_mono (Kd.V_far (p := ⟨gb246, 1, none⟩) (Kd.V_far (p := ⟨gb246, 0, none⟩) (Kd.V_far (p := ⟨gb259, 1, none⟩) (Kd.V_far (p := ⟨gb259, 0, none⟩) (Kd.V_mono (Kd.V_mono HO254.out (fun k_ hk => (⟨hk, hk.2.2.2⟩ : _ ∧ k_ ≠ gb259))) (fun k_ hk => (⟨hk, hk.1.2.2.1⟩ : _ ∧ k_ ≠ gb246))) (fun _ hk => hk.1.2) (.int .i64 t251)) (fun _ hk => hk.1.2) (.slice Ao32 t252.length co32)) (fun _ hk => hk.2) (.int .i64 t251)) (fun _ hk => hk.2) (.slice Ao32 t252.length co32)) (fun _ hk => ⟨hk.1.1.1, ⟨hk.1.1.2.1, hk.1.1.2.2.1⟩⟩)⟩, ⟨by (with_reducible repeat (first | refine zq1 ?_ _ | refine zq2 ?_ | refine zq3 ?_ _)); apply pu2; (with_reducible repeat (first | refine zq1 ?_ _ | refine zq2 ?_ | refine zq3 ?_ _)); refine fa2 ?_ NB246_259.out; (with_reducible repeat (first | refine zq1 ?_ _ | refine zq2 ?_ | refine zq3 ?_ _)); exact BK246.out⟩, ⟨by repeat (first | (with_reducible first | exact HB.out | apply zq7 | apply zq8 | apply zq9 | refine zr1 ?_ GE246.out | refine zr1 ?_ GE259.out) | exact HB.out)⟩⟩
     rw [if_pos c9] at H
     have c9b0 : (t258 == 2) = true := beq_iff_eq.mpr c9
     have c9b1 : (t258 != 2) = false := bne_eq_false_iff_eq.mpr c9
     clear c9
     by_cases c10 : x4_1.length < 5864062014805
     rotate_left
     · rw [if_neg c10] at H
       exact absurd H (by simp)
     rw [if_pos c10] at H
     have LMc10 := mk_ c10
     clear c10
     obtain ⟨y260, hy260⟩ : ∃ y_ : List (List Int), y_ = (x4_1 ++ [t255]) := ⟨_, rfl⟩
     replace H : (laws_liFeed.l0 k1 l0 y260 (wrap64 (x5_1 + 1)) t251 t252) = some r := by first | (rw [hy260]; with_reducible exact H) | (have H2_ := (Option.bind_some _ _).symm.trans H; rw [hy260]; with_reducible exact H2_) | (have H2_ := (Option.bind_some _ _).symm.trans H; with_reducible exact H2_) | with_reducible exact H | (rw [hy260]; exact H) | exact H
     have Ny260 := mk_ hy260
     clear hy260
     have H' := mk_ H
     clear H
     obtain ⟨Ao11, co11, eo11⟩ := Kd.V_slice HO_247001.out
     subst eo11
     try go_wp2
     replace HO_4 := mk_ (Kd.N_drew HO_4.out)
     replace HO_247001 := mk_ (Kd.V_drew HO_247001.out)
     replace BK246 := mk_ (zq2 BK246.out)
     replace HB := mk_ (zq9 HB.out)
     have p250 : 0 ≤ (x5_1 : Int) := of_decide_eq_true (by first | (with_reducible assumption) | assumption)
     have q250 : x5_1 < (l0.length : Int) := of_decide_eq_true (by first | (with_reducible assumption) | assumption)
     obtain ⟨ad250, A250_2, c250_2, e250, hx250_0, hx250_1, hx250_2, hl250_2, hi250_2⟩ := at_T39 HR0.out x5_1 p250 q250
     have hw250_2 := hx250_2
     have hw250_1 := hx250_1
     have hw250_0 := hx250_0
     cases e250
     replace hx250_0 := (HB.out.cell (World.block_lt_of_cell? w _ hx250_0)).trans hx250_0
     replace hx250_1 := (HB.out.cell (World.block_lt_of_cell? w _ hx250_1)).trans hx250_1
     replace hx250_2 := (HB.out.cell (World.block_lt_of_cell? w _ hx250_2)).trans hx250_2
     have HR250_2 := mk_ hi250_2
     have HC250_2 := mk_ hl250_2
     clear hi250_2 hl250_2
     replace p250 := eq_true p250
     replace q250 := eq_true q250
     refine start_ (n := 14) (S := fun w' => w'.cell? ⟨gb246, 0, none⟩ = some (.int .i64 x247000_1) ∧ w'.cell? ⟨gb246, 1, none⟩ = some (.slice Ao11 x247001_1.length co11) ∧ w'.cell? (ad250.add ((x5_1).toNat * 3)) = some (.int .i64 ((rd_T39 l0 x5_1).f0)) ∧ w'.cell? ⟨(ad250.add ((x5_1).toNat * 3)).block, (ad250.add ((x5_1).toNat * 3)).off + 1, none⟩ = some (.int .i64 ((rd_T39 l0 x5_1).f1)) ∧ w'.cell? ⟨(ad250.add ((x5_1).toNat * 3)).block, (ad250.add ((x5_1).toNat * 3)).off + 2, none⟩ = some (.slice A250_2 ((rd_T39 l0 x5_1).f2).length c250_2)) (ds := []) (bm 14 0) (by kernel_rfl) rfl rfl ⟨(zr4 BK246.out 0).trans rfl, (zr4 BK246.out 1).trans rfl, ((HB.out.cell (World.block_lt_of_cell? w _ hw250_0)).trans hw250_0), ((HB.out.cell (World.block_lt_of_cell? w _ hw250_1)).trans hw250_1), ((HB.out.cell (World.block_lt_of_cell? w _ hw250_2)).trans hw250_2)⟩ (fun hHeld => ?_); refine with_tabW laws_liFeed.tab6 laws_liFeed.bits6 (fun HT_ HW_ => ?_)
     generalize wr.drew = w12 at HO_4 HO_247001 BK246 HB HR250_2 hx250_0 hx250_1 hx250_2 hHeld ⊢
     refine pA 1 (some 19) (bm 14 2) rfl rfl HT_.out (by kernel_rfl) (fun _ _ _ h => h) (by rfl) (by intro w'; go_simp; with_reducible rfl) (by simp only [Act.put, zs1, zs2, zs3, i64_w, i32_w]; rfl) ?_
     refine pA 2 (some 20) (bm 14 6) rfl rfl HT_.out (by kernel_rfl) (fun _ _ _ h => h) (by rfl) (by intro w'; go_simp; with_reducible rfl) (by simp only [Act.put, zs1, zs2, zs3, i64_w, i32_w]; rfl) ?_
     refine pA 3 (some 21) (bm 14 14) rfl rfl HT_.out (by kernel_rfl) (fun _ _ _ h => h) (by rfl) (by intro w'; go_simp; with_reducible rfl) (by simp only [Act.put, zs1, zs2, zs3, i64_w, i32_w]; rfl) ?_
     refine tA 0 (some 18) (bm 14 15) rfl rfl HT_.out HW_.out (by kernel_rfl) (fun _ _ _ h => h) (by rfl) hHeld (by rintro w' ⟨s0, s1, s2, s3, s4⟩; go_simp; with_reducible rfl) (by simp only [Act.put, zs1, zs2, zs3, i64_w, i32_w]; rfl) ?_
     refine tA 4 (some 22) (bm 14 31) rfl rfl HT_.out HW_.out (by kernel_rfl) (fun _ _ _ h => h) (by rfl) hHeld (by rintro w' ⟨s0, s1, s2, s3, s4⟩; go_simp; with_reducible rfl) (by simp only [Act.put, zs1, zs2, zs3, i64_w, i32_w]; rfl) ?_
     refine join_ (σ := Value × Value × Nat) 3 (bm 14 2047) (fun s_ => [(23, .tuple #[.agg #[.int .i64 t251, s_.1], s_.2.1, .int .i64 t258]), (6, .pointer (some ⟨s_.2.2, 0, none⟩)), (17, .tuple #[.agg #[.int .i64 t251, s_.1], s_.2.1, .int .i64 t258]), (24, .agg #[.int .i64 t251, s_.1]), (25, s_.2.1), (26, .int .i64 t258)]) (fun s_ w' => (w'.cell? ⟨gb246, 0, none⟩ = some (.int .i64 x247000_1) ∧ w'.cell? ⟨gb246, 1, none⟩ = some (.slice Ao11 x247001_1.length co11) ∧ w'.cell? (ad250.add ((x5_1).toNat * 3)) = some (.int .i64 ((rd_T39 l0 x5_1).f0)) ∧ w'.cell? ⟨(ad250.add ((x5_1).toNat * 3)).block, (ad250.add ((x5_1).toNat * 3)).off + 1, none⟩ = some (.int .i64 ((rd_T39 l0 x5_1).f1)) ∧ w'.cell? ⟨(ad250.add ((x5_1).toNat * 3)).block, (ad250.add ((x5_1).toNat * 3)).off + 2, none⟩ = some (.slice A250_2 ((rd_T39 l0 x5_1).f2).length c250_2)) ∧ (Kd.V (Kd.int .u8) 5 w' w.heap.size (fun k_ => (w.heap.size ≤ k_) ∧ some k_ ≠ (u4 : Value).ownBlock ∧ k_ ≠ gb246 ∧ k_ ≠ s_.2.2) s_.1 t252) ∧ (Kd.V (Kd.int .u8) 5 w' w.heap.size (fun k_ => (w.heap.size ≤ k_) ∧ some k_ ≠ (u4 : Value).ownBlock ∧ k_ ≠ gb246 ∧ k_ ≠ s_.2.2) s_.2.1 t255) ∧ (Kd.V (Kd.int .u8) 5 w' w.heap.size (fun k_ => (w.heap.size ≤ k_) ∧ some k_ ≠ (u4 : Value).ownBlock ∧ k_ ≠ gb246 ∧ k_ ≠ s_.2.2) (.slice Ao11 x247001_1.length co11) x247001_1) ∧ (Kd.N (Kd.slice 5 (Kd.int .u8)) 22 w' w.heap.size (fun k_ => (w.heap.size ≤ k_) ∧ k_ ≠ gb246 ∧ k_ ≠ s_.2.2) u4 x4_1) ∧ (w'.heap[gb246]? = some (.cells #[.int .i64 x247000_1, .slice Ao11 x247001_1.length co11] 35 (0, 0))) ∧ (w'.heap[s_.2.2]? = some (.cells #[.int .i64 0, .slice none 0 0] 35 (0, 0))) ∧ (w.heap.size ≤ s_.2.2) ∧ (w.heap.size ≤ s_.2.2) ∧ (gb246 ≠ s_.2.2) ∧ (s_.2.2 ≠ gb246) ∧ (Below w.heap.size w w')) ?_ ?_
     rotate_left
     · intro hCont
       refine two_ (i := 5) (j := 10) (Ni := some 23) (Nj := some 6) (bm 14 63) (bm 14 1055) rfl rfl rfl rfl (two_of HT_.out (by kernel_rfl)) (by decide) (by decide) (fun K hK => ?_) (fun K hK => ?_)
       · skip
         refine goes_ Try.func26 (by kernel_rfl) rfl #[.agg #[.int .i64 x247000_1, .slice Ao11 x247001_1.length co11], .agg #[.int .i64 ((rd_T39 l0 x5_1).f0), .int .i64 ((rd_T39 l0 x5_1).f1), .slice A250_2 ((rd_T39 l0 x5_1).f2).length c250_2]] (by rfl) rfl rfl (by (try simp only [List.map_toArray, List.map_cons, List.map_nil]); first | done | rfl | (simp only [List.length_drop, List.length_take]; rfl)) ?_
         with_reducible refine (impl_SegPut.calls k1 x247000_1 _ _ x247001_1 ((rd_T39 l0 x5_1).f0) ((rd_T39 l0 x5_1).f1) _ _ ((rd_T39 l0 x5_1).f2) t251 t252 t255 t258 _ ?side1 ?side2 ?side3 ?side4 A8.out).mono ?_
         (case side1 => repeat (first | exact (Kd.V_reads' HO_247001.out).2.2 | (with_reducible refine Kd.C_alloc ?_ _) | (with_reducible refine Kd.C_drewN ?_ _) | (with_reducible refine Kd.C_drew ?_)))
         (case side2 => exact (Kd.V_reads' HO_247001.out).2.1)
         (case side3 => repeat (first | exact (Kd.C_below HR250_2.out HB.out) | (with_reducible refine Kd.C_alloc ?_ _) | (with_reducible refine Kd.C_drewN ?_ _) | (with_reducible refine Kd.C_drew ?_)))
         (case side4 => exact HC250_2.out)
         rintro e w13 ⟨v253, v256, rfl, ho0, ho1, hb⟩
         refine ⟨_, rfl, ?_⟩
         replace HO_247001 := mk_ (Kd.V_below (by (with_reducible repeat (first | apply Kd.V_alloc | apply Kd.V_drewN | apply Kd.V_drew)); exact HO_247001.out) hb)
         have HO254 := mk_ (Kd.V_lower (Kd.V_mono (ok' := fun k_ => (w.heap.size ≤ k_) ∧ some k_ ≠ (u4 : Value).ownBlock ∧ k_ ≠ gb246) ho0 (fun k_ hk_ => ⟨(Nat.le_trans (zr2 (by repeat (first | (with_reducible first | exact HB.out | apply zq7 | apply zq8 | apply zq9 | refine zr1 ?_ GE246.out) | exact HB.out))) hk_), (Kd.fresh' (Kd.N_lt (by (with_reducible repeat (first | apply Kd.N_alloc | apply Kd.N_drewN | apply Kd.N_drew)); exact HO_4.out)) k_ hk_), (Kd.freshB (g := gb246) (o := .cells #[.int .i64 x247000_1, .slice Ao11 x247001_1.length co11] 35 (0, 0)) (by exact BK246.out) k_ hk_)⟩)) (zr2 (by repeat (first | (with_reducible first | exact HB.out | apply zq7 | apply zq8 | apply zq9 | refine zr1 ?_ GE246.out) | exact HB.out))))
         have HO257 := mk_ (Kd.V_lower (Kd.V_mono (ok' := fun k_ => (w.heap.size ≤ k_) ∧ some k_ ≠ (u4 : Value).ownBlock ∧ k_ ≠ gb246) ho1 (fun k_ hk_ => ⟨(Nat.le_trans (zr2 (by repeat (first | (with_reducible first | exact HB.out | apply zq7 | apply zq8 | apply zq9 | refine zr1 ?_ GE246.out) | exact HB.out))) hk_), (Kd.fresh' (Kd.N_lt (by (with_reducible repeat (first | apply Kd.N_alloc | apply Kd.N_drewN | apply Kd.N_drew)); exact HO_4.out)) k_ hk_), (Kd.freshB (g := gb246) (o := .cells #[.int .i64 x247000_1, .slice Ao11 x247001_1.length co11] 35 (0, 0)) (by exact BK246.out) k_ hk_)⟩)) (zr2 (by repeat (first | (with_reducible first | exact HB.out | apply zq7 | apply zq8 | apply zq9 | refine zr1 ?_ GE246.out) | exact HB.out))))
         replace HO_4 := mk_ (Kd.N_below (by (with_reducible repeat (first | apply Kd.N_alloc | apply Kd.N_drewN | apply Kd.N_drew)); exact HO_4.out) hb)
         replace BK246 := mk_ (zq6 (by exact BK246.out) hb)
         replace HB := mk_ (zr3 (by repeat (first | (with_reducible first | exact HB.out | apply zq7 | apply zq8 | apply zq9 | refine zr1 ?_ GE246.out) | exact HB.out)) hb)
         (try clear hb)
         (try clear hb2)
         (try clear hk)
         (try clear hi)
         (try clear ho0)
         (try clear ho1)
         refine hK.out _ _ ⟨(zr4 BK246.out 0).trans rfl, (zr4 BK246.out 1).trans rfl, ((HB.out.cell (World.block_lt_of_cell? w _ hw250_0)).trans hw250_0), ((HB.out.cell (World.block_lt_of_cell? w _ hw250_1)).trans hw250_1), ((HB.out.cell (World.block_lt_of_cell? w _ hw250_2)).trans hw250_2)⟩ (fun hHeld => ?_)
         clear hK K
         refine norm_ (a' := ?_) ?_ ?_
         rotate_left
         · show Act.put _ (some 23) _ = _
           simp only [Act.put, zs1, zs2, zs3, i64_w, i32_w]
           rfl
         refine pA 6 (some 17) (bm 14 127) rfl rfl HT_.out (by kernel_rfl) (fun _ _ _ h => h) (by rfl) (by intro w'; go_simp; with_reducible rfl) (by simp only [Act.put, zs1, zs2, zs3, i64_w, i32_w]; rfl) ?_
         refine pA 7 (some 24) (bm 14 255) rfl rfl HT_.out (by kernel_rfl) (fun _ _ _ h => h) (by rfl) (by intro w'; go_simp; with_reducible rfl) (by simp only [Act.put, zs1, zs2, zs3, i64_w, i32_w]; rfl) ?_
         refine pA 8 (some 25) (bm 14 511) rfl rfl HT_.out (by kernel_rfl) (fun _ _ _ h => h) (by rfl) (by intro w'; go_simp; with_reducible rfl) (by simp only [Act.put, zs1, zs2, zs3, i64_w, i32_w]; rfl) ?_
         refine pA 9 (some 26) (bm 14 1023) rfl rfl HT_.out (by kernel_rfl) (fun _ _ _ h => h) (by rfl) (by intro w'; go_simp; with_reducible rfl) (by simp only [Act.put, zs1, zs2, zs3, i64_w, i32_w]; rfl) ?_
         refine one_ (i := 10) (N := some 6) (bm 14 2047) rfl rfl (one_of HT_.out (by kernel_rfl)) (by decide) (fun K hK => ?_)
         refine box_step ?hg (N := 6) ?hd (cs := #[.int .i64 0, .slice none 0 0]) (t := 35) ?hr ?_; (case hd => rfl); (case hg => rfl); (case hr => first | (go_simp; done) | (go_simp; rfl))
         intro gb259 hg w14 hbox hb
         replace HO_4 := mk_ (Kd.N_below (Kd.N_elderB (by (with_reducible repeat (first | apply Kd.N_alloc | apply Kd.N_drewN | apply Kd.N_drew)); exact HO_4.out) gb259 (Nat.le_of_eq hg.symm)) hb)
         replace HO_247001 := mk_ (Kd.V_below (Kd.V_elderB (by (with_reducible repeat (first | apply Kd.V_alloc | apply Kd.V_drewN | apply Kd.V_drew)); exact HO_247001.out) gb259 (Nat.le_of_eq hg.symm)) hb)
         replace HO254 := mk_ (Kd.V_below (Kd.V_elderB (by (with_reducible repeat (first | apply Kd.V_alloc | apply Kd.V_drewN | apply Kd.V_drew)); exact HO254.out) gb259 (Nat.le_of_eq hg.symm)) hb)
         replace HO257 := mk_ (Kd.V_below (Kd.V_elderB (by (with_reducible repeat (first | apply Kd.V_alloc | apply Kd.V_drewN | apply Kd.V_drew)); exact HO257.out) gb259 (Nat.le_of_eq hg.symm)) hb)
         have BK259 := mk_ (hbox)
         have GW259 := mk_ ((by rw [hg]; exact (zr2 (by repeat (first | (with_reducible first | exact HB.out | apply zq7 | apply zq8 | apply zq9 | refine zr1 ?_ GE246.out) | exact HB.out))) : w.heap.size ≤ gb259))
         have GE259 := GW259
         replace HB := mk_ (zr3 (by repeat (first | (with_reducible first | exact HB.out | apply zq7 | apply zq8 | apply zq9 | refine zr1 ?_ GE246.out) | exact HB.out)) hb)
         have NB246_259 := mk_ ((by rw [hg]; exact zm2 (zr6 (by exact BK246.out)) : gb246 ≠ gb259))
         have NB259_246 := mk_ NB246_259.out.symm
         replace BK246 := mk_ (zq6 (by exact BK246.out) hb)
         clear hb hbox hg
         refine hK.out _ _ ⟨(zr4 BK246.out 0).trans rfl, (zr4 BK246.out 1).trans rfl, ((HB.out.cell (World.block_lt_of_cell? w _ hw250_0)).trans hw250_0), ((HB.out.cell (World.block_lt_of_cell? w _ hw250_1)).trans hw250_1), ((HB.out.cell (World.block_lt_of_cell? w _ hw250_2)).trans hw250_2)⟩ (fun hHeld => ?_)
         clear hK K
         refine norm_ (a' := ?_) ?_ ?_
         rotate_left
         · show Act.put _ (some 6) _ = _
           simp only [Act.put, zs1, zs2, zs3, i64_w, i32_w]
           rfl
         exact norm_ (by simp only [putAll, Act.put, List.setIfInBounds_toArray, List.set_cons_zero, List.set_cons_succ]) (hCont (v253, v256, gb259) _ ⟨hHeld, (by (with_reducible repeat (first | apply Kd.V_alloc | apply Kd.V_drewN | apply Kd.V_drew)); exact Kd.V_mono HO254.out (fun _ hk => ⟨hk.1.1, ⟨hk.1.2.1, ⟨hk.1.2.2, hk.2⟩⟩⟩)), (by (with_reducible repeat (first | apply Kd.V_alloc | apply Kd.V_drewN | apply Kd.V_drew)); exact Kd.V_mono HO257.out (fun _ hk => ⟨hk.1.1, ⟨hk.1.2.1, ⟨hk.1.2.2, hk.2⟩⟩⟩)), (by (with_reducible repeat (first | apply Kd.V_alloc | apply Kd.V_drewN | apply Kd.V_drew)); exact Kd.V_mono HO_247001.out (fun _ hk => ⟨hk.1.1, ⟨hk.1.2.1, ⟨hk.1.2.2, hk.2⟩⟩⟩)), (by (with_reducible repeat (first | apply Kd.N_alloc | apply Kd.N_drewN | apply Kd.N_drew)); exact Kd.N_mono HO_4.out (fun _ hk => ⟨hk.1.1, ⟨hk.1.2, hk.2⟩⟩)), (by exact BK246.out), (by exact BK259.out), GW259.out, GE259.out, NB246_259.out, NB259_246.out, (by repeat (first | (with_reducible first | exact HB.out | apply zq7 | apply zq8 | apply zq9 | refine zr1 ?_ GE246.out | refine zr1 ?_ GE259.out) | exact HB.out))⟩)
       · skip
         refine box_step ?hg (N := 6) ?hd (cs := #[.int .i64 0, .slice none 0 0]) (t := 35) ?hr ?_; (case hd => rfl); (case hg => rfl); (case hr => first | (go_simp; done) | (go_simp; rfl))
         intro gb259 hg w13 hbox hb
         replace HO_4 := mk_ (Kd.N_below (Kd.N_elderB (by (with_reducible repeat (first | apply Kd.N_alloc | apply Kd.N_drewN | apply Kd.N_drew)); exact HO_4.out) gb259 (Nat.le_of_eq hg.symm)) hb)
         replace HO_247001 := mk_ (Kd.V_below (Kd.V_elderB (by (with_reducible repeat (first | apply Kd.V_alloc | apply Kd.V_drewN | apply Kd.V_drew)); exact HO_247001.out) gb259 (Nat.le_of_eq hg.symm)) hb)
         have BK259 := mk_ (hbox)
         have GW259 := mk_ ((by rw [hg]; exact (zr2 (by repeat (first | (with_reducible first | exact HB.out | apply zq7 | apply zq8 | apply zq9 | refine zr1 ?_ GE246.out) | exact HB.out))) : w.heap.size ≤ gb259))
         have GE259 := GW259
         replace HB := mk_ (zr3 (by repeat (first | (with_reducible first | exact HB.out | apply zq7 | apply zq8 | apply zq9 | refine zr1 ?_ GE246.out) | exact HB.out)) hb)
         have NB246_259 := mk_ ((by rw [hg]; exact zm2 (zr6 (by exact BK246.out)) : gb246 ≠ gb259))
         have NB259_246 := mk_ NB246_259.out.symm
         replace BK246 := mk_ (zq6 (by exact BK246.out) hb)
         clear hb hbox hg
         refine hK.out _ _ ⟨(zr4 BK246.out 0).trans rfl, (zr4 BK246.out 1).trans rfl, ((HB.out.cell (World.block_lt_of_cell? w _ hw250_0)).trans hw250_0), ((HB.out.cell (World.block_lt_of_cell? w _ hw250_1)).trans hw250_1), ((HB.out.cell (World.block_lt_of_cell? w _ hw250_2)).trans hw250_2)⟩ (fun hHeld => ?_)
         clear hK K
         refine norm_ (a' := ?_) ?_ ?_
         rotate_left
         · show Act.put _ (some 6) _ = _
           simp only [Act.put, zs1, zs2, zs3, i64_w, i32_w]
           rfl
         refine one_ (i := 5) (N := some 23) (bm 14 1087) rfl rfl (one_of HT_.out (by kernel_rfl)) (by decide) (fun K hK => ?_)
         refine goes_ Try.func26 (by kernel_rfl) rfl #[.agg #[.int .i64 x247000_1, .slice Ao11 x247001_1.length co11], .agg #[.int .i64 ((rd_T39 l0 x5_1).f0), .int .i64 ((rd_T39 l0 x5_1).f1), .slice A250_2 ((rd_T39 l0 x5_1).f2).length c250_2]] (by rfl) rfl rfl (by (try simp only [List.map_toArray, List.map_cons, List.map_nil]); first | done | rfl | (simp only [List.length_drop, List.length_take]; rfl)) ?_
         with_reducible refine (impl_SegPut.calls k1 x247000_1 _ _ x247001_1 ((rd_T39 l0 x5_1).f0) ((rd_T39 l0 x5_1).f1) _ _ ((rd_T39 l0 x5_1).f2) t251 t252 t255 t258 _ ?side1 ?side2 ?side3 ?side4 A8.out).mono ?_
         (case side1 => repeat (first | exact (Kd.V_reads' HO_247001.out).2.2 | (with_reducible refine Kd.C_alloc ?_ _) | (with_reducible refine Kd.C_drewN ?_ _) | (with_reducible refine Kd.C_drew ?_)))
         (case side2 => exact (Kd.V_reads' HO_247001.out).2.1)
         (case side3 => repeat (first | exact (Kd.C_below HR250_2.out HB.out) | (with_reducible refine Kd.C_alloc ?_ _) | (with_reducible refine Kd.C_drewN ?_ _) | (with_reducible refine Kd.C_drew ?_)))
         (case side4 => exact HC250_2.out)
         rintro e w14 ⟨v253, v256, rfl, ho0, ho1, hb⟩
         refine ⟨_, rfl, ?_⟩
         replace HO_247001 := mk_ (Kd.V_below (by (with_reducible repeat (first | apply Kd.V_alloc | apply Kd.V_drewN | apply Kd.V_drew)); exact HO_247001.out) hb)
         have HO254 := mk_ (Kd.V_lower (Kd.V_mono (ok' := fun k_ => (w.heap.size ≤ k_) ∧ some k_ ≠ (u4 : Value).ownBlock ∧ k_ ≠ gb246 ∧ k_ ≠ gb259) ho0 (fun k_ hk_ => ⟨(Nat.le_trans (zr2 (by repeat (first | (with_reducible first | exact HB.out | apply zq7 | apply zq8 | apply zq9 | refine zr1 ?_ GE246.out | refine zr1 ?_ GE259.out) | exact HB.out))) hk_), (Kd.fresh' (Kd.N_lt (by (with_reducible repeat (first | apply Kd.N_alloc | apply Kd.N_drewN | apply Kd.N_drew)); exact HO_4.out)) k_ hk_), (Kd.freshB (g := gb246) (o := .cells #[.int .i64 x247000_1, .slice Ao11 x247001_1.length co11] 35 (0, 0)) (by exact BK246.out) k_ hk_), (Kd.freshB (g := gb259) (o := .cells #[.int .i64 0, .slice none 0 0] 35 (0, 0)) (by exact BK259.out) k_ hk_)⟩)) (zr2 (by repeat (first | (with_reducible first | exact HB.out | apply zq7 | apply zq8 | apply zq9 | refine zr1 ?_ GE246.out | refine zr1 ?_ GE259.out) | exact HB.out))))
         have HO257 := mk_ (Kd.V_lower (Kd.V_mono (ok' := fun k_ => (w.heap.size ≤ k_) ∧ some k_ ≠ (u4 : Value).ownBlock ∧ k_ ≠ gb246 ∧ k_ ≠ gb259) ho1 (fun k_ hk_ => ⟨(Nat.le_trans (zr2 (by repeat (first | (with_reducible first | exact HB.out | apply zq7 | apply zq8 | apply zq9 | refine zr1 ?_ GE246.out | refine zr1 ?_ GE259.out) | exact HB.out))) hk_), (Kd.fresh' (Kd.N_lt (by (with_reducible repeat (first | apply Kd.N_alloc | apply Kd.N_drewN | apply Kd.N_drew)); exact HO_4.out)) k_ hk_), (Kd.freshB (g := gb246) (o := .cells #[.int .i64 x247000_1, .slice Ao11 x247001_1.length co11] 35 (0, 0)) (by exact BK246.out) k_ hk_), (Kd.freshB (g := gb259) (o := .cells #[.int .i64 0, .slice none 0 0] 35 (0, 0)) (by exact BK259.out) k_ hk_)⟩)) (zr2 (by repeat (first | (with_reducible first | exact HB.out | apply zq7 | apply zq8 | apply zq9 | refine zr1 ?_ GE246.out | refine zr1 ?_ GE259.out) | exact HB.out))))
         replace HO_4 := mk_ (Kd.N_below (by (with_reducible repeat (first | apply Kd.N_alloc | apply Kd.N_drewN | apply Kd.N_drew)); exact HO_4.out) hb)
         replace BK246 := mk_ (zq6 (by exact BK246.out) hb)
         replace BK259 := mk_ (zq6 (by exact BK259.out) hb)
         replace HB := mk_ (zr3 (by repeat (first | (with_reducible first | exact HB.out | apply zq7 | apply zq8 | apply zq9 | refine zr1 ?_ GE246.out | refine zr1 ?_ GE259.out) | exact HB.out)) hb)
         (try clear hb)
         (try clear hb2)
         (try clear hk)
         (try clear hi)
         (try clear ho0)
         (try clear ho1)
         refine hK.out _ _ ⟨(zr4 BK246.out 0).trans rfl, (zr4 BK246.out 1).trans rfl, ((HB.out.cell (World.block_lt_of_cell? w _ hw250_0)).trans hw250_0), ((HB.out.cell (World.block_lt_of_cell? w _ hw250_1)).trans hw250_1), ((HB.out.cell (World.block_lt_of_cell? w _ hw250_2)).trans hw250_2)⟩ (fun hHeld => ?_)
         clear hK K
         refine norm_ (a' := ?_) ?_ ?_
         rotate_left
         · show Act.put _ (some 23) _ = _
           simp only [Act.put, zs1, zs2, zs3, i64_w, i32_w]
           rfl
         refine pA 6 (some 17) (bm 14 1151) rfl rfl HT_.out (by kernel_rfl) (fun _ _ _ h => h) (by rfl) (by intro w'; go_simp; with_reducible rfl) (by simp only [Act.put, zs1, zs2, zs3, i64_w, i32_w]; rfl) ?_
         refine pA 7 (some 24) (bm 14 1279) rfl rfl HT_.out (by kernel_rfl) (fun _ _ _ h => h) (by rfl) (by intro w'; go_simp; with_reducible rfl) (by simp only [Act.put, zs1, zs2, zs3, i64_w, i32_w]; rfl) ?_
         refine pA 8 (some 25) (bm 14 1535) rfl rfl HT_.out (by kernel_rfl) (fun _ _ _ h => h) (by rfl) (by intro w'; go_simp; with_reducible rfl) (by simp only [Act.put, zs1, zs2, zs3, i64_w, i32_w]; rfl) ?_
         refine pA 9 (some 26) (bm 14 2047) rfl rfl HT_.out (by kernel_rfl) (fun _ _ _ h => h) (by rfl) (by intro w'; go_simp; with_reducible rfl) (by simp only [Act.put, zs1, zs2, zs3, i64_w, i32_w]; rfl) ?_
         exact norm_ (by simp only [putAll, Act.put, List.setIfInBounds_toArray, List.set_cons_zero, List.set_cons_succ]) (hCont (v253, v256, gb259) _ ⟨hHeld, (by (with_reducible repeat (first | apply Kd.V_alloc | apply Kd.V_drewN | apply Kd.V_drew)); exact HO254.out), (by (with_reducible repeat (first | apply Kd.V_alloc | apply Kd.V_drewN | apply Kd.V_drew)); exact HO257.out), (by (with_reducible repeat (first | apply Kd.V_alloc | apply Kd.V_drewN | apply Kd.V_drew)); exact Kd.V_mono HO_247001.out (fun _ hk => ⟨hk.1.1, ⟨hk.1.2.1, ⟨hk.1.2.2, hk.2⟩⟩⟩)), (by (with_reducible repeat (first | apply Kd.N_alloc | apply Kd.N_drewN | apply Kd.N_drew)); exact Kd.N_mono HO_4.out (fun _ hk => ⟨hk.1.1, ⟨hk.1.2, hk.2⟩⟩)), (by exact BK246.out), (by exact BK259.out), GW259.out, GE259.out, NB246_259.out, NB259_246.out, (by repeat (first | (with_reducible first | exact HB.out | apply zq7 | apply zq8 | apply zq9 | refine zr1 ?_ GE246.out | refine zr1 ?_ GE259.out) | exact HB.out))⟩)
     rintro ⟨v253, v256, gb259⟩ w15 ⟨hS_, h0_, h1_, h2_, h3_, h4_, h5_, h6_, h7_, h8_, h9_, h10_⟩
     have n0_ : Aside0 (Kd.V (Kd.int .u8) 5 w15 w.heap.size (fun k_ => (w.heap.size ≤ k_) ∧ some k_ ≠ (u4 : Value).ownBlock ∧ k_ ≠ gb246 ∧ k_ ≠ gb259) v253 t252) := ⟨h0_⟩
     have n1_ : Aside0 (Kd.V (Kd.int .u8) 5 w15 w.heap.size (fun k_ => (w.heap.size ≤ k_) ∧ some k_ ≠ (u4 : Value).ownBlock ∧ k_ ≠ gb246 ∧ k_ ≠ gb259) v256 t255) := ⟨h1_⟩
     have n2_ : Aside0 (Kd.V (Kd.int .u8) 5 w15 w.heap.size (fun k_ => (w.heap.size ≤ k_) ∧ some k_ ≠ (u4 : Value).ownBlock ∧ k_ ≠ gb246 ∧ k_ ≠ gb259) (.slice Ao11 x247001_1.length co11) x247001_1) := ⟨h2_⟩
     have n3_ : Aside0 (Kd.N (Kd.slice 5 (Kd.int .u8)) 22 w15 w.heap.size (fun k_ => (w.heap.size ≤ k_) ∧ k_ ≠ gb246 ∧ k_ ≠ gb259) u4 x4_1) := ⟨h3_⟩
     have n4_ : Aside0 (w15.heap[gb246]? = some (.cells #[.int .i64 x247000_1, .slice Ao11 x247001_1.length co11] 35 (0, 0))) := ⟨h4_⟩
     have n5_ : Aside0 (w15.heap[gb259]? = some (.cells #[.int .i64 0, .slice none 0 0] 35 (0, 0))) := ⟨h5_⟩
     have n6_ : Aside0 (w.heap.size ≤ gb259) := ⟨h6_⟩
     have n7_ : Aside0 (w.heap.size ≤ gb259) := ⟨h7_⟩
     have n8_ : Aside0 (gb246 ≠ gb259) := ⟨h8_⟩
     have n9_ : Aside0 (gb259 ≠ gb246) := ⟨h9_⟩
     have n10_ : Aside0 (Below w.heap.size w w15) := ⟨h10_⟩
     clear HO_4
     clear HO_247001
     clear BK246
     clear HB
     clear h0_ h1_ h2_ h3_ h4_ h5_ h6_ h7_ h8_ h9_ h10_
     have HO254 := n0_
     have HO257 := n1_
     have HO_247001 := n2_
     have HO_4 := n3_
     have BK246 := n4_
     have BK259 := n5_
     have GW259 := n6_
     have GE259 := n7_
     have NB246_259 := n8_
     have NB259_246 := n9_
     have HB := n10_
     clear n0_ n1_ n2_ n3_ n4_ n5_ n6_ n7_ n8_ n9_ n10_
     have hHeld : w15.cell? ⟨gb246, 0, none⟩ = some (.int .i64 x247000_1) ∧ w15.cell? ⟨gb246, 1, none⟩ = some (.slice Ao11 x247001_1.length co11) ∧ w15.cell? (ad250.add ((x5_1).toNat * 3)) = some (.int .i64 ((rd_T39 l0 x5_1).f0)) ∧ w15.cell? ⟨(ad250.add ((x5_1).toNat * 3)).block, (ad250.add ((x5_1).toNat * 3)).off + 1, none⟩ = some (.int .i64 ((rd_T39 l0 x5_1).f1)) ∧ w15.cell? ⟨(ad250.add ((x5_1).toNat * 3)).block, (ad250.add ((x5_1).toNat * 3)).off + 2, none⟩ = some (.slice A250_2 ((rd_T39 l0 x5_1).f2).length c250_2) := hS_
     obtain ⟨Ao17, co17, eo17⟩ := Kd.V_slice HO254.out
     (first | subst eo17 | (injection eo17 with f1_ f2_ f3_; have f4_ := f1_.symm; have f5_ := f3_.symm; clear f1_ f2_ f3_; subst f4_; subst f5_))
     refine norm_ (a' := ?_) ?_ ?_
     rotate_left
     · simp only [putAll, Act.put, List.setIfInBounds_toArray, List.set_cons_zero, List.set_cons_succ]
       rfl
     refine one_ (i := 11) (N := none) (bm 14 4095) rfl rfl (one_of HT_.out (by kernel_rfl)) (by decide) (fun K hK => ?_)
     have hs16 : w15.cell? ⟨gb259, 0, none⟩ = some (.int .i64 0) := (zr4 BK259.out 0).trans rfl
     have hfs16 := zr5 BK259.out 0
     have hns16_0 := NB246_259.out
     have hms16_0 := NB259_246.out
     have hs18 : w15.cell? ⟨gb259, 1, none⟩ = some (.slice none 0 0) := (zr4 BK259.out 1).trans rfl
     have hfs18 := zr5 BK259.out 1
     have hns18_0 := NB246_259.out
     have hms18_0 := NB259_246.out
     refine skip_ (w1 := ?_) (by rfl) rfl ?_ ?_
     rotate_left
     · go_simp
       rfl
     refine hK.out _ _ ⟨(fr2 NB246_259.out hHeld.1), (fr2 NB246_259.out hHeld.2.1), ((cell_far (p := ⟨gb259, _, none⟩) (by first | exact zm2 (Nat.lt_of_lt_of_le (by have := World.block_lt_of_cell? _ _ hw250_0; first | rwa [add_block] at this | exact this) GW259.out) | (rw [add_block]; exact zm2 (Nat.lt_of_lt_of_le (by have := World.block_lt_of_cell? _ _ hw250_0; first | rwa [add_block] at this | exact this) GW259.out)) | (show (Addr.add _ _).block ≠ _; rw [add_block]; exact zm2 (Nat.lt_of_lt_of_le (by have := World.block_lt_of_cell? _ _ hw250_0; first | rwa [add_block] at this | exact this) GW259.out)) | (dsimp only; exact zm2 (Nat.lt_of_lt_of_le (by have := World.block_lt_of_cell? _ _ hw250_0; first | rwa [add_block] at this | exact this) GW259.out))) _).trans (((cell_far (p := ⟨gb259, _, none⟩) (by first | exact zm2 (Nat.lt_of_lt_of_le (by have := World.block_lt_of_cell? _ _ hw250_0; first | rwa [add_block] at this | exact this) GW259.out) | (rw [add_block]; exact zm2 (Nat.lt_of_lt_of_le (by have := World.block_lt_of_cell? _ _ hw250_0; first | rwa [add_block] at this | exact this) GW259.out)) | (show (Addr.add _ _).block ≠ _; rw [add_block]; exact zm2 (Nat.lt_of_lt_of_le (by have := World.block_lt_of_cell? _ _ hw250_0; first | rwa [add_block] at this | exact this) GW259.out)) | (dsimp only; exact zm2 (Nat.lt_of_lt_of_le (by have := World.block_lt_of_cell? _ _ hw250_0; first | rwa [add_block] at this | exact this) GW259.out))) _).trans (hHeld.2.2.1)))), ((cell_far (p := ⟨gb259, _, none⟩) (by first | exact zm2 (Nat.lt_of_lt_of_le (by have := World.block_lt_of_cell? _ _ hw250_1; first | rwa [add_block] at this | exact this) GW259.out) | (rw [add_block]; exact zm2 (Nat.lt_of_lt_of_le (by have := World.block_lt_of_cell? _ _ hw250_1; first | rwa [add_block] at this | exact this) GW259.out)) | (show (Addr.add _ _).block ≠ _; rw [add_block]; exact zm2 (Nat.lt_of_lt_of_le (by have := World.block_lt_of_cell? _ _ hw250_1; first | rwa [add_block] at this | exact this) GW259.out)) | (dsimp only; exact zm2 (Nat.lt_of_lt_of_le (by have := World.block_lt_of_cell? _ _ hw250_1; first | rwa [add_block] at this | exact this) GW259.out))) _).trans (((cell_far (p := ⟨gb259, _, none⟩) (by first | exact zm2 (Nat.lt_of_lt_of_le (by have := World.block_lt_of_cell? _ _ hw250_1; first | rwa [add_block] at this | exact this) GW259.out) | (rw [add_block]; exact zm2 (Nat.lt_of_lt_of_le (by have := World.block_lt_of_cell? _ _ hw250_1; first | rwa [add_block] at this | exact this) GW259.out)) | (show (Addr.add _ _).block ≠ _; rw [add_block]; exact zm2 (Nat.lt_of_lt_of_le (by have := World.block_lt_of_cell? _ _ hw250_1; first | rwa [add_block] at this | exact this) GW259.out)) | (dsimp only; exact zm2 (Nat.lt_of_lt_of_le (by have := World.block_lt_of_cell? _ _ hw250_1; first | rwa [add_block] at this | exact this) GW259.out))) _).trans (hHeld.2.2.2.1)))), ((cell_far (p := ⟨gb259, _, none⟩) (by first | exact zm2 (Nat.lt_of_lt_of_le (by have := World.block_lt_of_cell? _ _ hw250_2; first | rwa [add_block] at this | exact this) GW259.out) | (rw [add_block]; exact zm2 (Nat.lt_of_lt_of_le (by have := World.block_lt_of_cell? _ _ hw250_2; first | rwa [add_block] at this | exact this) GW259.out)) | (show (Addr.add _ _).block ≠ _; rw [add_block]; exact zm2 (Nat.lt_of_lt_of_le (by have := World.block_lt_of_cell? _ _ hw250_2; first | rwa [add_block] at this | exact this) GW259.out)) | (dsimp only; exact zm2 (Nat.lt_of_lt_of_le (by have := World.block_lt_of_cell? _ _ hw250_2; first | rwa [add_block] at this | exact this) GW259.out))) _).trans (((cell_far (p := ⟨gb259, _, none⟩) (by first | exact zm2 (Nat.lt_of_lt_of_le (by have := World.block_lt_of_cell? _ _ hw250_2; first | rwa [add_block] at this | exact this) GW259.out) | (rw [add_block]; exact zm2 (Nat.lt_of_lt_of_le (by have := World.block_lt_of_cell? _ _ hw250_2; first | rwa [add_block] at this | exact this) GW259.out)) | (show (Addr.add _ _).block ≠ _; rw [add_block]; exact zm2 (Nat.lt_of_lt_of_le (by have := World.block_lt_of_cell? _ _ hw250_2; first | rwa [add_block] at this | exact this) GW259.out)) | (dsimp only; exact zm2 (Nat.lt_of_lt_of_le (by have := World.block_lt_of_cell? _ _ hw250_2; first | rwa [add_block] at this | exact this) GW259.out))) _).trans (hHeld.2.2.2.2))))⟩ (fun hHeld => ?_)
     clear hK K
     refine pA 12 (some 7) (bm 14 8191) rfl rfl HT_.out (by kernel_rfl) (fun _ _ _ h => h) (by rfl) (by intro w'; go_simp; with_reducible rfl) (by simp only [Act.put, zs1, zs2, zs3, i64_w, i32_w]; rfl) ?_
     refine pA 13 (some 8) (bm 14 16383) rfl rfl HT_.out (by kernel_rfl) (fun _ _ _ h => h) (by rfl) (by intro w'; go_simp; with_reducible rfl) (by simp only [Act.put, zs1, zs2, zs3, i64_w, i32_w]; rfl) ?_
     refine done_ (done_of HT_.out (by kernel_rfl)) ?_
     have n0_ : Aside0 (Kd.N (Kd.slice 5 (Kd.int .u8)) 22 ((w15.setCell ⟨gb259, 0, none⟩ (.int .i64 t251)).setCell ⟨gb259, 1, none⟩ (.slice Ao17 t252.length co17)) w.heap.size (fun k_ => (w.heap.size ≤ k_) ∧ k_ ≠ gb246 ∧ k_ ≠ gb259) u4 x4_1) := ⟨by (with_reducible repeat (first | apply Kd.N_alloc | apply Kd.N_drewN | apply Kd.N_drew)); exact Kd.N_mono (Kd.N_far (p := ⟨gb259, 1, none⟩) (Kd.N_far (p := ⟨gb259, 0, none⟩) (Kd.N_mono HO_4.out (fun k_ hk => (⟨hk, hk.2.2⟩ : _ ∧ k_ ≠ gb259))) (fun _ hk => hk.2) (.int .i64 t251)) (fun _ hk => hk.2) (.slice Ao17 t252.length co17)) (fun _ hk => ⟨hk.1.1, ⟨hk.1.2.1, hk.1.2.2⟩⟩)⟩
     have n1_ : Aside0 (Kd.V (Kd.int .u8) 5 ((w15.setCell ⟨gb259, 0, none⟩ (.int .i64 t251)).setCell ⟨gb259, 1, none⟩ (.slice Ao17 t252.length co17)) w.heap.size (fun k_ => (w.heap.size ≤ k_) ∧ some k_ ≠ (u4 : Value).ownBlock ∧ k_ ≠ gb246 ∧ k_ ≠ gb259) (.slice Ao11 x247001_1.length co11) x247001_1) := ⟨by (with_reducible repeat (first | apply Kd.V_alloc | apply Kd.V_drewN | apply Kd.V_drew)); exact Kd.V_mono (Kd.V_far (p := ⟨gb259, 1, none⟩) (Kd.V_far (p := ⟨gb259, 0, none⟩) (Kd.V_mono HO_247001.out (fun k_ hk => (⟨hk, hk.2.2.2⟩ : _ ∧ k_ ≠ gb259))) (fun _ hk => hk.2) (.int .i64 t251)) (fun _ hk => hk.2) (.slice Ao17 t252.length co17)) (fun _ hk => ⟨hk.1.1, ⟨hk.1.2.1, ⟨hk.1.2.2.1, hk.1.2.2.2⟩⟩⟩)⟩
     have n2_ : Aside0 (Kd.V (Kd.int .u8) 5 ((w15.setCell ⟨gb259, 0, none⟩ (.int .i64 t251)).setCell ⟨gb259, 1, none⟩ (.slice Ao17 t252.length co17)) w.heap.size (fun k_ => (w.heap.size ≤ k_) ∧ some k_ ≠ (u4 : Value).ownBlock ∧ k_ ≠ gb246 ∧ k_ ≠ gb259) (.slice Ao17 t252.length co17) t252) := ⟨by (with_reducible repeat (first | apply Kd.V_alloc | apply Kd.V_drewN | apply Kd.V_drew)); exact Kd.V_mono (Kd.V_far (p := ⟨gb259, 1, none⟩) (Kd.V_far (p := ⟨gb259, 0, none⟩) (Kd.V_mono HO254.out (fun k_ hk => (⟨hk, hk.2.2.2⟩ : _ ∧ k_ ≠ gb259))) (fun _ hk => hk.2) (.int .i64 t251)) (fun _ hk => hk.2) (.slice Ao17 t252.length co17)) (fun _ hk => ⟨hk.1.1, ⟨hk.1.2.1, ⟨hk.1.2.2.1, hk.1.2.2.2⟩⟩⟩)⟩
     have n3_ : Aside0 (Kd.V (Kd.int .u8) 5 ((w15.setCell ⟨gb259, 0, none⟩ (.int .i64 t251)).setCell ⟨gb259, 1, none⟩ (.slice Ao17 t252.length co17)) w.heap.size (fun k_ => (w.heap.size ≤ k_) ∧ some k_ ≠ (u4 : Value).ownBlock ∧ k_ ≠ gb246 ∧ k_ ≠ gb259) v256 t255) := ⟨by (with_reducible repeat (first | apply Kd.V_alloc | apply Kd.V_drewN | apply Kd.V_drew)); exact Kd.V_mono (Kd.V_far (p := ⟨gb259, 1, none⟩) (Kd.V_far (p := ⟨gb259, 0, none⟩) (Kd.V_mono HO257.out (fun k_ hk => (⟨hk, hk.2.2.2⟩ : _ ∧ k_ ≠ gb259))) (fun _ hk => hk.2) (.int .i64 t251)) (fun _ hk => hk.2) (.slice Ao17 t252.length co17)) (fun _ hk => ⟨hk.1.1, ⟨hk.1.2.1, ⟨hk.1.2.2.1, hk.1.2.2.2⟩⟩⟩)⟩
     have n4_ : Aside0 (((w15.setCell ⟨gb259, 0, none⟩ (.int .i64 t251)).setCell ⟨gb259, 1, none⟩ (.slice Ao17 t252.length co17)).heap[gb246]? = some (.cells #[.int .i64 x247000_1, .slice Ao11 x247001_1.length co11] 35 (0, 0))) := ⟨by (with_reducible repeat (first | refine zq1 ?_ _ | refine zq2 ?_ | refine zq3 ?_ _)); refine fa2 ?_ NB246_259.out; (with_reducible repeat (first | refine zq1 ?_ _ | refine zq2 ?_ | refine zq3 ?_ _)); exact BK246.out⟩
     have n5_ : Aside0 (((w15.setCell ⟨gb259, 0, none⟩ (.int .i64 t251)).setCell ⟨gb259, 1, none⟩ (.slice Ao17 t252.length co17)).heap[gb259]? = some (.cells #[.int .i64 t251, .slice Ao17 t252.length co17] 35 (0, 0))) := ⟨by (with_reducible repeat (first | refine zq1 ?_ _ | refine zq2 ?_ | refine zq3 ?_ _)); apply pu2; (with_reducible repeat (first | refine zq1 ?_ _ | refine zq2 ?_ | refine zq3 ?_ _)); exact BK259.out⟩
     have n6_ : Aside0 (Below w.heap.size w ((w15.setCell ⟨gb259, 0, none⟩ (.int .i64 t251)).setCell ⟨gb259, 1, none⟩ (.slice Ao17 t252.length co17))) := ⟨by repeat (first | (with_reducible first | exact HB.out | apply zq7 | apply zq8 | apply zq9 | refine zr1 ?_ GE246.out | refine zr1 ?_ GE259.out) | exact HB.out)⟩
     (try clear HO_4)
     (try clear HO_247001)
     (try clear HO254)
     (try clear HO257)
     (try clear BK246)
     (try clear BK259)
     (try clear HB)
     generalize ((w15.setCell ⟨gb259, 0, none⟩ (.int .i64 t251)).setCell ⟨gb259, 1, none⟩ (.slice Ao17 t252.length co17)) = w19 at n0_ n1_ n2_ n3_ n4_ n5_ n6_ ⊢
     have HO_4 := n0_
     have HO_247001 := n1_
     have HO254 := n2_
     have HO257 := n3_
     have BK246 := n4_
     have BK259 := n5_
     have HB := n6_
     clear n0_ n1_ n2_ n3_ n4_ n5_ n6_
     have hnb20 := NB259_246.out
     have hnc20 := NB246_259.out
     obtain ⟨hcz21_0, hcz21_1⟩ := cz2 BK259.out
     obtain ⟨hfz21_0, hfz21_1⟩ := fz2 BK259.out
     obtain ⟨hcz22_0, hcz22_1⟩ := cz2 BK246.out
     obtain ⟨hfz22_0, hfz22_1⟩ := fz2 BK246.out
     try go_wp2_with (first | ((with_reducible refine gate_store (t := 35) (p := 3) rfl ?_); refine store_event (t := 35) (p := 3) (v := ?vo_w23) (w1 := ((w19.setCell ⟨gb246, 0, none⟩ (.int .i64 t251)).setCell ⟨gb246, 1, none⟩ (.slice Ao17 t252.length co17))) ?hg ?ho ?hn ?hr ?_; (case ho => rfl); (case hg => rfl); (case hn => rfl); (case hr => first | (go_simp; done) | (go_simp; rfl)); intro w23 hw; have n0_ : Aside0 (Kd.N (Kd.slice 5 (Kd.int .u8)) 22 w23 w.heap.size (fun k_ => (w.heap.size ≤ k_) ∧ k_ ≠ gb246 ∧ k_ ≠ gb259) u4 x4_1) := ⟨(by rw [hw]; exact (by (with_reducible repeat (first | apply Kd.N_alloc | apply Kd.N_drewN | apply Kd.N_drew)); exact Kd.N_mono (Kd.N_far (p := ⟨gb246, 1, none⟩) (Kd.N_far (p := ⟨gb246, 0, none⟩) (Kd.N_mono HO_4.out (fun k_ hk => (⟨hk, hk.2.1⟩ : _ ∧ k_ ≠ gb246))) (fun _ hk => hk.2) (.int .i64 t251)) (fun _ hk => hk.2) (.slice Ao17 t252.length co17)) (fun _ hk => ⟨hk.1.1, ⟨hk.1.2.1, hk.1.2.2⟩⟩)))⟩; have n1_ : Aside0 (Kd.V (Kd.int .u8) 5 w23 w.heap.size (fun k_ => (w.heap.size ≤ k_) ∧ some k_ ≠ (u4 : Value).ownBlock ∧ k_ ≠ gb246 ∧ k_ ≠ gb259) (.slice Ao11 x247001_1.length co11) x247001_1) := ⟨(by rw [hw]; exact (by (with_reducible repeat (first | apply Kd.V_alloc | apply Kd.V_drewN | apply Kd.V_drew)); exact Kd.V_mono (Kd.V_far (p := ⟨gb246, 1, none⟩) (Kd.V_far (p := ⟨gb246, 0, none⟩) (Kd.V_mono HO_247001.out (fun k_ hk => (⟨hk, hk.2.2.1⟩ : _ ∧ k_ ≠ gb246))) (fun _ hk => hk.2) (.int .i64 t251)) (fun _ hk => hk.2) (.slice Ao17 t252.length co17)) (fun _ hk => ⟨hk.1.1, ⟨hk.1.2.1, ⟨hk.1.2.2.1, hk.1.2.2.2⟩⟩⟩)))⟩; have n2_ : Aside0 (Kd.V (Kd.int .u8) 5 w23 w.heap.size (fun k_ => (w.heap.size ≤ k_) ∧ some k_ ≠ (u4 : Value).ownBlock ∧ k_ ≠ gb246 ∧ k_ ≠ gb259) (.slice Ao17 t252.length co17) t252) := ⟨(by rw [hw]; exact (by (with_reducible repeat (first | apply Kd.V_alloc | apply Kd.V_drewN | apply Kd.V_drew)); exact Kd.V_mono (Kd.V_far (p := ⟨gb246, 1, none⟩) (Kd.V_far (p := ⟨gb246, 0, none⟩) (Kd.V_mono HO254.out (fun k_ hk => (⟨hk, hk.2.2.1⟩ : _ ∧ k_ ≠ gb246))) (fun _ hk => hk.2) (.int .i64 t251)) (fun _ hk => hk.2) (.slice Ao17 t252.length co17)) (fun _ hk => ⟨hk.1.1, ⟨hk.1.2.1, ⟨hk.1.2.2.1, hk.1.2.2.2⟩⟩⟩)))⟩; have n3_ : Aside0 (Kd.V (Kd.int .u8) 5 w23 w.heap.size (fun k_ => (w.heap.size ≤ k_) ∧ some k_ ≠ (u4 : Value).ownBlock ∧ k_ ≠ gb246 ∧ k_ ≠ gb259) v256 t255) := ⟨(by rw [hw]; exact (by (with_reducible repeat (first | apply Kd.V_alloc | apply Kd.V_drewN | apply Kd.V_drew)); exact Kd.V_mono (Kd.V_far (p := ⟨gb246, 1, none⟩) (Kd.V_far (p := ⟨gb246, 0, none⟩) (Kd.V_mono HO257.out (fun k_ hk => (⟨hk, hk.2.2.1⟩ : _ ∧ k_ ≠ gb246))) (fun _ hk => hk.2) (.int .i64 t251)) (fun _ hk => hk.2) (.slice Ao17 t252.length co17)) (fun _ hk => ⟨hk.1.1, ⟨hk.1.2.1, ⟨hk.1.2.2.1, hk.1.2.2.2⟩⟩⟩)))⟩; have n4_ : Aside0 (w23.heap[gb246]? = some (.cells #[.int .i64 t251, .slice Ao17 t252.length co17] 35 (0, 0))) := ⟨(by rw [hw]; exact (by (with_reducible repeat (first | refine zq1 ?_ _ | refine zq2 ?_ | refine zq3 ?_ _)); apply pu2; (with_reducible repeat (first | refine zq1 ?_ _ | refine zq2 ?_ | refine zq3 ?_ _)); exact BK246.out))⟩; have n5_ : Aside0 (w23.heap[gb259]? = some (.cells #[.int .i64 t251, .slice Ao17 t252.length co17] 35 (0, 0))) := ⟨(by rw [hw]; exact (by (with_reducible repeat (first | refine zq1 ?_ _ | refine zq2 ?_ | refine zq3 ?_ _)); refine fa2 ?_ NB259_246.out; (with_reducible repeat (first | refine zq1 ?_ _ | refine zq2 ?_ | refine zq3 ?_ _)); exact BK259.out))⟩; have n6_ : Aside0 (Below w.heap.size w w23) := ⟨(by rw [hw]; exact (by repeat (first | (with_reducible first | exact HB.out | apply zq7 | apply zq8 | apply zq9 | refine zr1 ?_ GE246.out | refine zr1 ?_ GE259.out) | exact HB.out)))⟩; clear hw; clear HO_4; clear HO_247001; clear HO254; clear HO257; clear BK246; clear BK259; clear HB; have HO_4 := n0_; have HO_247001 := n1_; have HO254 := n2_; have HO257 := n3_; have BK246 := n4_; have BK259 := n5_; have HB := n6_; clear n0_ n1_ n2_ n3_ n4_ n5_ n6_; obtain ⟨Ao25, co25, eo25⟩ := Kd.V_slice HO257.out; subst eo25) | ((with_reducible refine gate_builtin (b := .append) (xs := #[.tmp 30, .tmp 32]) rfl ?_); at_builtin; refine Kd.N_append (Kd.slice 5 (Kd.int .u8)) (w0 := w) w.heap.size rfl (.tmp 30) (.tmp 32) 43 22 (.slice none 0 0) 24 rfl Try.underlying43 info22 rfl (by decide) (by omega) u4 x4_1 t255 [.slice Ao25 t255.length co25] (fun k_ => (w.heap.size ≤ k_) ∧ k_ ≠ gb246 ∧ k_ ≠ gb259) (fun k_ => ((fun k_ => (w.heap.size ≤ k_) ∧ k_ ≠ gb246 ∧ k_ ≠ gb259)) k_ ∧ some k_ ≠ (u4 : Value).ownBlock) rfl rfl ?aP (fun _ hk => hk) ?aF ?aO ?aB ?aS ?aL ?_; (case aP => exact (Kd.FK_slice_mk (Kd.V_reads' (Kd.V_mono (ok' := (fun k_ => ((fun k_ => (w.heap.size ≤ k_) ∧ k_ ≠ gb246 ∧ k_ ≠ gb259)) k_ ∧ some k_ ≠ (u4 : Value).ownBlock)) (HO257.out) (fun k_ hk => ⟨⟨hk.1, ⟨hk.2.2.1, hk.2.2.2⟩⟩, hk.2.1⟩))).2.1 (Kd.V_F (Kd.V_mono (ok' := (fun k_ => ((fun k_ => (w.heap.size ≤ k_) ∧ k_ ≠ gb246 ∧ k_ ≠ gb259)) k_ ∧ some k_ ≠ (u4 : Value).ownBlock)) (HO257.out) (fun k_ hk => ⟨⟨hk.1, ⟨hk.2.2.1, hk.2.2.2⟩⟩, hk.2.1⟩))))); (case aB => exact (by repeat (first | (with_reducible first | exact HB.out | apply zq7 | apply zq8 | apply zq9 | refine zr1 ?_ GE246.out | refine zr1 ?_ GE259.out) | exact HB.out))); (case aF => exact (fun k_ hk => ⟨(Nat.le_trans (zr2 (by repeat (first | (with_reducible first | exact HB.out | apply zq7 | apply zq8 | apply zq9 | refine zr1 ?_ GE246.out | refine zr1 ?_ GE259.out) | exact HB.out))) hk), Kd.freshB (g := gb246) (o := .cells #[.int .i64 t251, .slice Ao17 t252.length co17] 35 (0, 0)) (by exact BK246.out) k_ hk, Kd.freshB (g := gb259) (o := .cells #[.int .i64 t251, .slice Ao17 t252.length co17] 35 (0, 0)) (by exact BK259.out) k_ hk⟩)); (case aO => exact (by (with_reducible repeat (first | apply Kd.N_alloc | apply Kd.N_drewN | apply Kd.N_drew)); exact HO_4.out)); (case aS => exact (zr2 (by repeat (first | (with_reducible first | exact HB.out | apply zq7 | apply zq8 | apply zq9 | refine zr1 ?_ GE246.out | refine zr1 ?_ GE259.out) | exact HB.out)))); (case aL => have := LMc10.out; omega); intro v261 w24 ho hb hg hat; rw [← Ny260.out] at ho; have n0_ := mk_ (Kd.V_afterv (ok := (fun k_ => (w.heap.size ≤ k_) ∧ k_ ≠ gb246 ∧ k_ ≠ gb259)) (by (with_reducible repeat (first | apply Kd.V_alloc | apply Kd.V_drewN | apply Kd.V_drew)); exact Kd.V_mono HO_247001.out (fun _ hk => ⟨⟨hk.1, ⟨hk.2.2.1, hk.2.2.2⟩⟩, hk.2.1⟩)) hg hat); have n1_ := mk_ (blk_grown (g := gb246) (o := .cells #[.int .i64 t251, .slice Ao17 t252.length co17] 35 (0, 0)) (by exact BK246.out) hg (Kd.N_ne HO_4.out BK246.out (by decide))); have n2_ := mk_ (Kd.V_afterv (ok := (fun k_ => (w.heap.size ≤ k_) ∧ k_ ≠ gb246 ∧ k_ ≠ gb259)) (by (with_reducible repeat (first | apply Kd.V_alloc | apply Kd.V_drewN | apply Kd.V_drew)); exact Kd.V_mono HO254.out (fun _ hk => ⟨⟨hk.1, ⟨hk.2.2.1, hk.2.2.2⟩⟩, hk.2.1⟩)) hg hat); have n3_ := mk_ (Kd.V_afterv (ok := (fun k_ => (w.heap.size ≤ k_) ∧ k_ ≠ gb246 ∧ k_ ≠ gb259)) (by (with_reducible repeat (first | apply Kd.V_alloc | apply Kd.V_drewN | apply Kd.V_drew)); exact Kd.V_mono HO257.out (fun _ hk => ⟨⟨hk.1, ⟨hk.2.2.1, hk.2.2.2⟩⟩, hk.2.1⟩)) hg hat); have n4_ := mk_ (blk_grown (g := gb259) (o := .cells #[.int .i64 t251, .slice Ao17 t252.length co17] 35 (0, 0)) (by exact BK259.out) hg (Kd.N_ne HO_4.out BK259.out (by decide))); have n5_ := mk_ (hb); have n6_ := mk_ (ho); clear HO_247001; clear BK246; clear HO254; clear HO257; clear BK259; clear HB; clear HO_4; have HO_247001 := n0_; have BK246 := n1_; have HO254 := n2_; have HO257 := n3_; have BK259 := n4_; have HB := n5_; have HO262 := n6_; clear n0_ n1_ n2_ n3_ n4_ n5_ n6_; clear ho hb hg hat))
     go_roundg k1
     case measure => have := HK1.out; omega
     case rel => exact ⟨(y260), (wrap64 (x5_1 + 1)), (t251), (t252), (.slice Ao17 t252.length co17), (by first | rfl | (simp; done) | (simp [*]; done)), H', ⟨by have := HK1.out; omega⟩, ⟨by (with_reducible repeat (first | apply Kd.N_alloc | apply Kd.N_drewN | apply Kd.N_drew)); exact Kd.N_mono HO262.out (fun _ hk => ⟨hk.1, hk.2.1⟩)⟩, ⟨by (with_reducible repeat (first | apply Kd.V_alloc | apply Kd.V_drewN | apply Kd.V_drew)); exact Kd.V_mono HO254.out (fun _ hk => ⟨hk.1.1, ⟨hk.2, hk.1.2.1⟩⟩)⟩, ⟨by (with_reducible repeat (first | refine zq1 ?_ _ | refine zq2 ?_ | refine zq3 ?_ _)); exact BK246.out⟩, ⟨by repeat (first | (with_reducible first | exact HB.out | apply zq7 | apply zq8 | apply zq9 | refine zr1 ?_ GE246.out | refine zr1 ?_ GE259.out) | exact HB.out)⟩⟩

/-! ### laws_liSdus: function 31 -/
def laws_liSdus.l0 : Nat → List (List Int) → List (List Int) → Int → Option (Bool)
  | 0, _, _, _ => none
  | k + 1, x0, x1, x5 => if x5 < (x0.length : Int) then (if 0 ≤ x5 then (if x5 < (x1.length : Int) then ((laws_liBytes.f k (rd_L2 x0 x5) (rd_L2 x1 x5)).bind fun t265 => (if t265 = true then (laws_liSdus.l0 k x0 x1 (wrap64 (x5 + 1))) else (some false))) else (none)) else (none)) else (some true)
def laws_liSdus.f (k : Nat) (l0 : List (List Int)) (l1 : List (List Int)) : Option (Bool) := if (l0.length : Int) = (l1.length : Int) then (laws_liSdus.l0 k l0 l1 0) else (some false)
theorem laws_liSdus.mono_l : ∀ k, (∀ y0 y1 y2, LeO (laws_liSdus.l0 k y0 y1 y2) (laws_liSdus.l0 (k + 1) y0 y1 y2))
  | 0 => fun _ _ _ r h => by simp [laws_liSdus.l0] at h
  | k + 1 => by
    have ih0 := laws_liSdus.mono_l k
    · intro y0 y1 y2
      unfold laws_liSdus.l0
      repeat' first
      | (with_reducible exact ih0 _ _ _)
      | (with_reducible exact laws_liBytes.mono _ _ _)
      | (with_reducible exact LeO.refl _)
      | (with_reducible exact LeO.none _)
      | (with_reducible refine LeO.ite ?_ ?_)
      | (with_reducible refine LeO.bind ?_ (fun _ => ?_))
      | exact ih0 _ _ _
      | exact laws_liBytes.mono _ _ _
      | exact LeO.none _
      | refine LeO.ite ?_ ?_
      | refine LeO.bind ?_ (fun _ => ?_)
theorem laws_liSdus.mono : ∀ a0 a1 k, LeO (laws_liSdus.f k a0 a1) (laws_liSdus.f (k + 1) a0 a1) := by
 intro a0 a1 k
 have ih0 := laws_liSdus.mono_l k
 unfold laws_liSdus.f
 repeat' first
     | (with_reducible exact ih0 _ _ _)
     | (with_reducible exact laws_liBytes.mono _ _ _)
     | (with_reducible exact LeO.refl _)
     | (with_reducible exact LeO.none _)
     | (with_reducible refine LeO.ite ?_ ?_)
     | (with_reducible refine LeO.bind ?_ (fun _ => ?_))
     | exact ih0 _ _ _
     | exact laws_liBytes.mono _ _ _
     | exact LeO.none _
     | refine LeO.ite ?_ ?_
     | refine LeO.bind ?_ (fun _ => ?_)
set_option maxHeartbeats 60000000 in
set_option maxRecDepth 100000 in
theorem laws_liSdus.calls (k : Nat) (A0 : Option Addr) (c0 : Nat) (l0 : List (List Int)) (A1 : Option Addr) (c1 : Nat) (l1 : List (List Int)) (r : Bool) (w : World) (hr0 : Kd.C (Kd.slice 5 (Kd.int .u8)) w A0 l0.length l0) (hc0 : l0.length ≤ c0) (hr1 : Kd.C (Kd.slice 5 (Kd.int .u8)) w A1 l1.length l1) (hc1 : l1.length ≤ c1) (h : laws_liSdus.f k l0 l1 = some r) :
    Calls Try.prog 31 #[.slice A0 l0.length c0, .slice A1 l1.length c1] w fun e w' => e = .returned (.bool r) ∧ Drawn0 w w' := by
 have HR0 := mk_ hr0
 have HC0 := mk_ hc0
 clear hr0 hc0
 have HR1 := mk_ hr1
 have HC1 := mk_ hc1
 clear hr1 hc1
 have H : (if (l0.length : Int) = (l1.length : Int) then (laws_liSdus.l0 k l0 l1 0) else (some false)) = some r := h
 clear h
 by_cases c3 : (l0.length : Int) = (l1.length : Int)
 rotate_left
 · rw [if_neg c3] at H
   have c3b0 : ((l0.length : Int) == (l1.length : Int)) = false := beq_eq_false_iff_ne.mpr c3
   have c3b1 : ((l0.length : Int) != (l1.length : Int)) = true := bne_iff_ne.mpr c3
   have c3b2 : (l0.length == l1.length) = false := by first | simpa using c3 | (simp at c3 ⊢; omega)
   obtain rfl := Option.some.inj H
   go_enter Try.func31, Try.ntmps31
   go_wp2
   repeat (go_quiet (fail); try go_wp2)
   go_ret
   exact ⟨by first | rfl | (simp; done) | (simp [*]; done), by repeat (first | exact Drawn0.refl _ | apply Drawn0.step)⟩
 rw [if_pos c3] at H
 have c3b0 : ((l0.length : Int) == (l1.length : Int)) = true := beq_iff_eq.mpr c3
 have c3b1 : ((l0.length : Int) != (l1.length : Int)) = false := bne_eq_false_iff_eq.mpr c3
 have c3b2 : (l0.length == l1.length) = true := by first | simpa using c3 | (simp at c3 ⊢; omega)
 clear c3
 have H' := mk_ H
 clear H
 go_enter Try.func31, Try.ntmps31
 go_wp2
 repeat (go_quiet (fail); try go_wp2)
 go_loopg [5] k (fun kq v5 w' => ∃ (x5_1 : Int), v5 = .int .i64 x5_1 ∧ Aside0 (laws_liSdus.l0 kq l0 l1 x5_1 = some r) ∧ Aside0 (kq ≤ k) ∧ Drawn0 w w')
 case atStart => exact ⟨(0), (by first | rfl | (simp; done) | (simp [*]; done)), H', ⟨Nat.le_refl _⟩, by repeat (first | exact Drawn0.refl _ | apply Drawn0.step)⟩
 case round =>
   clear H'
   try clear c1
   try clear p2
   try clear c3
   try clear c3b0
   try clear c3b1
   try clear c3b2
   obtain ⟨x5_1, rfl, HA, HK1, ⟨m1, rfl⟩⟩ := hrel
   cases gk with
   | zero => exact absurd HA.out (by simp [laws_liSdus.l0])
   | succ k1 =>
     have H := HA.out
     clear HA
     simp only [laws_liSdus.l0] at H
     by_cases c4 : x5_1 < (l0.length : Int)
     rotate_left
     · rw [if_neg c4] at H
       have c4b0 : decide (x5_1 < (l0.length : Int)) = false := decide_eq_false c4
       clear c4
       obtain rfl := Option.some.inj H
       go_wp2
       repeat (go_quiet (fail); try go_wp2)
       go_ret
       exact ⟨by first | rfl | (simp; done) | (simp [*]; done), by repeat (first | exact Drawn0.refl _ | apply Drawn0.step)⟩
     rw [if_pos c4] at H
     have c4b0 : decide (x5_1 < (l0.length : Int)) = true := decide_eq_true c4
     clear c4
     by_cases c5 : 0 ≤ x5_1
     rotate_left
     · rw [if_neg c5] at H
       exact absurd H (by simp)
     rw [if_pos c5] at H
     have c5b0 : decide (0 ≤ x5_1) = true := decide_eq_true c5
     clear c5
     by_cases c6 : x5_1 < (l1.length : Int)
     rotate_left
     · rw [if_neg c6] at H
       exact absurd H (by simp)
     rw [if_pos c6] at H
     have c6b0 : decide (x5_1 < (l1.length : Int)) = true := decide_eq_true c6
     clear c6
     replace H := Option.bind_eq_some_iff.mp H
     obtain ⟨t265, A70, H⟩ := H
     try dsimp only at H
     have A7 := mk_ A70
     clear A70
     by_cases c8 : t265 = true
     rotate_left
     · replace c8 := Bool.eq_false_iff.mpr c8
       subst c8
       have H1 : (some false) = some r := by rw [if_neg (show ¬ (false = true) by decide)] at H; exact H
       clear H
       have H := H1
       clear H1
       obtain rfl := Option.some.inj H
       have p263 : 0 ≤ (x5_1 : Int) := of_decide_eq_true (by first | (with_reducible assumption) | assumption)
       have q263 : x5_1 < (l0.length : Int) := of_decide_eq_true (by first | (with_reducible assumption) | assumption)
       obtain ⟨ad263, A263_0, c263_0, e263, hx263_0, hl263_0, hi263_0⟩ := at_L2 HR0.out x5_1 p263 q263
       cases e263
       have HR263_0 := mk_ hi263_0
       have HC263_0 := mk_ hl263_0
       clear hi263_0 hl263_0
       replace p263 := eq_true p263
       replace q263 := eq_true q263
       have p264 : 0 ≤ (x5_1 : Int) := of_decide_eq_true (by first | (with_reducible assumption) | assumption)
       have q264 : x5_1 < (l1.length : Int) := of_decide_eq_true (by first | (with_reducible assumption) | assumption)
       obtain ⟨ad264, A264_0, c264_0, e264, hx264_0, hl264_0, hi264_0⟩ := at_L2 HR1.out x5_1 p264 q264
       cases e264
       have HR264_0 := mk_ hi264_0
       have HC264_0 := mk_ hl264_0
       clear hi264_0 hl264_0
       replace p264 := eq_true p264
       replace q264 := eq_true q264
       go_wp2_with (first | (go_at_call 28; (with_reducible refine (laws_liBytes.calls k1 _ _ (rd_L2 l0 x5_1) _ _ (rd_L2 l1 x5_1) false _ ?side1 ?side2 ?side3 ?side4 A7.out).mono ?_); (case side1 => repeat (first | exact HR263_0.out | (with_reducible refine Kd.C_alloc ?_ _) | (with_reducible refine Kd.C_drewN ?_ _) | (with_reducible refine Kd.C_drew ?_))); (case side2 => exact HC263_0.out); (case side3 => repeat (first | exact HR264_0.out | (with_reducible refine Kd.C_alloc ?_ _) | (with_reducible refine Kd.C_drewN ?_ _) | (with_reducible refine Kd.C_drew ?_))); (case side4 => exact HC264_0.out); rintro e w' ⟨rfl, ⟨nd, rfl⟩⟩; (try first | exact ⟨rfl, _, World.drewN_drewN _ _ _⟩ | exact ⟨rfl, _, Eq.trans (World.drewN_drewN _ _ _) (congrArg (World.drewN _) (Nat.add_assoc _ _ _))⟩)))
       repeat (go_quiet (first | (go_at_call 28; (with_reducible refine (laws_liBytes.calls k1 _ _ (rd_L2 l0 x5_1) _ _ (rd_L2 l1 x5_1) false _ ?side1 ?side2 ?side3 ?side4 A7.out).mono ?_); (case side1 => repeat (first | exact HR263_0.out | (with_reducible refine Kd.C_alloc ?_ _) | (with_reducible refine Kd.C_drewN ?_ _) | (with_reducible refine Kd.C_drew ?_))); (case side2 => exact HC263_0.out); (case side3 => repeat (first | exact HR264_0.out | (with_reducible refine Kd.C_alloc ?_ _) | (with_reducible refine Kd.C_drewN ?_ _) | (with_reducible refine Kd.C_drew ?_))); (case side4 => exact HC264_0.out); rintro e w' ⟨rfl, ⟨nd, rfl⟩⟩; (try first | exact ⟨rfl, _, World.drewN_drewN _ _ _⟩ | exact ⟨rfl, _, Eq.trans (World.drewN_drewN _ _ _) (congrArg (World.drewN _) (Nat.add_assoc _ _ _))⟩))); try go_wp2_with (first | (go_at_call 28; (with_reducible refine (laws_liBytes.calls k1 _ _ (rd_L2 l0 x5_1) _ _ (rd_L2 l1 x5_1) false _ ?side1 ?side2 ?side3 ?side4 A7.out).mono ?_); (case side1 => repeat (first | exact HR263_0.out | (with_reducible refine Kd.C_alloc ?_ _) | (with_reducible refine Kd.C_drewN ?_ _) | (with_reducible refine Kd.C_drew ?_))); (case side2 => exact HC263_0.out); (case side3 => repeat (first | exact HR264_0.out | (with_reducible refine Kd.C_alloc ?_ _) | (with_reducible refine Kd.C_drewN ?_ _) | (with_reducible refine Kd.C_drew ?_))); (case side4 => exact HC264_0.out); rintro e w' ⟨rfl, ⟨nd, rfl⟩⟩; (try first | exact ⟨rfl, _, World.drewN_drewN _ _ _⟩ | exact ⟨rfl, _, Eq.trans (World.drewN_drewN _ _ _) (congrArg (World.drewN _) (Nat.add_assoc _ _ _))⟩))))
       go_ret
       exact ⟨by first | rfl | (simp; done) | (simp [*]; done), by repeat (first | exact Drawn0.refl _ | apply Drawn0.step)⟩
     subst c8
     have H1 : (laws_liSdus.l0 k1 l0 l1 (wrap64 (x5_1 + 1))) = some r := by rw [if_pos rfl] at H; exact H
     clear H
     have H := H1
     clear H1
     have H' := mk_ H
     clear H
     have p263 : 0 ≤ (x5_1 : Int) := of_decide_eq_true (by first | (with_reducible assumption) | assumption)
     have q263 : x5_1 < (l0.length : Int) := of_decide_eq_true (by first | (with_reducible assumption) | assumption)
     obtain ⟨ad263, A263_0, c263_0, e263, hx263_0, hl263_0, hi263_0⟩ := at_L2 HR0.out x5_1 p263 q263
     cases e263
     have HR263_0 := mk_ hi263_0
     have HC263_0 := mk_ hl263_0
     clear hi263_0 hl263_0
     replace p263 := eq_true p263
     replace q263 := eq_true q263
     have p264 : 0 ≤ (x5_1 : Int) := of_decide_eq_true (by first | (with_reducible assumption) | assumption)
     have q264 : x5_1 < (l1.length : Int) := of_decide_eq_true (by first | (with_reducible assumption) | assumption)
     obtain ⟨ad264, A264_0, c264_0, e264, hx264_0, hl264_0, hi264_0⟩ := at_L2 HR1.out x5_1 p264 q264
     cases e264
     have HR264_0 := mk_ hi264_0
     have HC264_0 := mk_ hl264_0
     clear hi264_0 hl264_0
     replace p264 := eq_true p264
     replace q264 := eq_true q264
     go_wp2_with (first | (go_at_call 28; (with_reducible refine (laws_liBytes.calls k1 _ _ (rd_L2 l0 x5_1) _ _ (rd_L2 l1 x5_1) true _ ?side1 ?side2 ?side3 ?side4 A7.out).mono ?_); (case side1 => repeat (first | exact HR263_0.out | (with_reducible refine Kd.C_alloc ?_ _) | (with_reducible refine Kd.C_drewN ?_ _) | (with_reducible refine Kd.C_drew ?_))); (case side2 => exact HC263_0.out); (case side3 => repeat (first | exact HR264_0.out | (with_reducible refine Kd.C_alloc ?_ _) | (with_reducible refine Kd.C_drewN ?_ _) | (with_reducible refine Kd.C_drew ?_))); (case side4 => exact HC264_0.out); rintro e w' ⟨rfl, ⟨nd, rfl⟩⟩; (try first | exact ⟨rfl, _, World.drewN_drewN _ _ _⟩ | exact ⟨rfl, _, Eq.trans (World.drewN_drewN _ _ _) (congrArg (World.drewN _) (Nat.add_assoc _ _ _))⟩)))
     repeat (go_quiet (first | (go_at_call 28; (with_reducible refine (laws_liBytes.calls k1 _ _ (rd_L2 l0 x5_1) _ _ (rd_L2 l1 x5_1) true _ ?side1 ?side2 ?side3 ?side4 A7.out).mono ?_); (case side1 => repeat (first | exact HR263_0.out | (with_reducible refine Kd.C_alloc ?_ _) | (with_reducible refine Kd.C_drewN ?_ _) | (with_reducible refine Kd.C_drew ?_))); (case side2 => exact HC263_0.out); (case side3 => repeat (first | exact HR264_0.out | (with_reducible refine Kd.C_alloc ?_ _) | (with_reducible refine Kd.C_drewN ?_ _) | (with_reducible refine Kd.C_drew ?_))); (case side4 => exact HC264_0.out); rintro e w' ⟨rfl, ⟨nd, rfl⟩⟩; (try first | exact ⟨rfl, _, World.drewN_drewN _ _ _⟩ | exact ⟨rfl, _, Eq.trans (World.drewN_drewN _ _ _) (congrArg (World.drewN _) (Nat.add_assoc _ _ _))⟩))); try go_wp2_with (first | (go_at_call 28; (with_reducible refine (laws_liBytes.calls k1 _ _ (rd_L2 l0 x5_1) _ _ (rd_L2 l1 x5_1) true _ ?side1 ?side2 ?side3 ?side4 A7.out).mono ?_); (case side1 => repeat (first | exact HR263_0.out | (with_reducible refine Kd.C_alloc ?_ _) | (with_reducible refine Kd.C_drewN ?_ _) | (with_reducible refine Kd.C_drew ?_))); (case side2 => exact HC263_0.out); (case side3 => repeat (first | exact HR264_0.out | (with_reducible refine Kd.C_alloc ?_ _) | (with_reducible refine Kd.C_drewN ?_ _) | (with_reducible refine Kd.C_drew ?_))); (case side4 => exact HC264_0.out); rintro e w' ⟨rfl, ⟨nd, rfl⟩⟩; (try first | exact ⟨rfl, _, World.drewN_drewN _ _ _⟩ | exact ⟨rfl, _, Eq.trans (World.drewN_drewN _ _ _) (congrArg (World.drewN _) (Nat.add_assoc _ _ _))⟩))))
     go_roundg k1
     case measure => have := HK1.out; omega
     case rel => exact ⟨(wrap64 (x5_1 + 1)), (by first | rfl | (simp; done) | (simp [*]; done)), H', ⟨by have := HK1.out; omega⟩, by repeat (first | exact Drawn0.refl _ | apply Drawn0.step)⟩

end Go.Proofs.Yteknaofnageihaa.QFnSegTwo
