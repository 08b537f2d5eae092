-- Written by a program of this session, a turned copy of the print (not by print.sh itself). Lean checks it.
import Derived.Test.YteknaofnageihaaQFnSegCutx0
import Derived.Test.YteknaofnageihaaQFnSegCutx2
namespace Go.Proofs.Yteknaofnageihaa.QFnSegCut
open Go.RowKit Go.Proofs.YteknaofnageihaaW.PrintWords Go.Proofs.YteknaofnageihaaW.PrintLast Go.Proofs.YteknaofnageihaaW.PrintMore Go.Proofs.YteknaofnageihaaLoc
attribute [local go_sem] max2_int min2_int max_two min_two max_three min_three max_four min_four   -- for this text's walks alone
set_option linter.unusedVariables false
set_option linter.unusedSimpArgs false

/-! ### spec_DrawSegCut: function 23 -/
def spec_DrawSegCut.f (k : Nat) (l0 : List Int) : Option (List Int × Int) := (spec_l20Open.f l0).bind fun bt188 => ((spec_l20Bytes.f k bt188.1 bt188.2 26).bind fun bt191 => ((spec_l20Rd_pick.f k bt188.1 bt191.2 8).bind fun bt195 => ((some (([wrap64 (1 + bt195.1), 0, 9] : List Int) : List Int)).bind fun y197 => ((some (([0, 0, 0, 0, 1, 2] : List Int) : List Int)).bind fun y200 => ((spec_l20Rd_pick.f k bt188.1 bt195.2 6).bind fun bt203 => (if 0 ≤ bt203.1 then (if bt203.1 < (y200.length : Int) then (if 0 ≤ (rd y200 bt203.1) then (if (rd y200 bt203.1) < (y197.length : Int) then (some (bt191.1, rd y197 (rd y200 bt203.1))) else (none)) else (none)) else (none)) else (none)))))))
theorem spec_DrawSegCut.mono : ∀ a0 k, LeO (spec_DrawSegCut.f k a0) (spec_DrawSegCut.f (k + 1) a0) := by
 intro a0 k
 unfold spec_DrawSegCut.f
 repeat' first
     | (with_reducible exact spec_l20Bytes.mono _ _ _ _)
     | (with_reducible exact spec_l20Rd_pick.mono _ _ _ _)
     | (with_reducible exact LeO.refl _)
     | (with_reducible exact LeO.none _)
     | (with_reducible refine LeO.ite ?_ ?_)
     | (with_reducible refine LeO.bind ?_ (fun _ => ?_))
     | exact spec_l20Bytes.mono _ _ _ _
     | exact spec_l20Rd_pick.mono _ _ _ _
     | exact LeO.none _
     | refine LeO.ite ?_ ?_
     | refine LeO.bind ?_ (fun _ => ?_)
def spec_DrawSegCut.T2 : Bool × List (List Nat × List Nat) := (true, [([], []), ([0], [0]), ([], []), ([2, 1], [2]), ([3], [3]), ([4], [4]), ([], []), ([], []), ([7, 3], [7]), ([6, 8], [6, 8]), ([9], [9]), ([5, 10], [5, 10]), ([11], [11]), ([1, 8, 0, 1], [1]), ([12, 13, 0, 1, 2, 3, 4, 5, 6, 7, 8, 9, 10, 11, 12, 13], [12])])
def spec_DrawSegCut.B2 : List Nat := [0, 1, 0, 7, 15, 31, 0, 0, 143, 463, 975, 2047, 4095, 399, 16383]
theorem spec_DrawSegCut.tab2 : rtab .any (opsOf Try.f23 2) = spec_DrawSegCut.T2 := by kernel_rfl
theorem spec_DrawSegCut.bits2 : waitsOk spec_DrawSegCut.T2.2 spec_DrawSegCut.B2 = true := by kernel_rfl
set_option maxHeartbeats 60000000 in
set_option maxRecDepth 100000 in
theorem spec_DrawSegCut.calls (k : Nat) (A0 : Option Addr) (c0 : Nat) (l0 : List Int) (r1 : List Int) (r2 : Int) (w : World) (hr0 : Kd.C (Kd.int .u8) w A0 l0.length l0) (hc0 : l0.length ≤ c0) (h : spec_DrawSegCut.f k l0 = some (r1, r2)) :
    Calls Try.prog 23 #[.slice A0 l0.length c0] w fun e w' => ∃ v0_ : Value, e = .returned (.tuple #[v0_, .int .i64 r2]) ∧ Kd.R (Kd.int .u8) 5 w' w.heap.size (fun _ => True) v0_ r1 ∧ Below w.heap.size w w' := by
 have HR0 := mk_ hr0
 have HC0 := mk_ hc0
 clear hr0 hc0
 have HB := mk_ (Below.refl w.heap.size w)
 have H : ((spec_l20Open.f l0).bind fun bt188 => ((spec_l20Bytes.f k bt188.1 bt188.2 26).bind fun bt191 => ((spec_l20Rd_pick.f k bt188.1 bt191.2 8).bind fun bt195 => ((some (([wrap64 (1 + bt195.1), 0, 9] : List Int) : List Int)).bind fun y197 => ((some (([0, 0, 0, 0, 1, 2] : List Int) : List Int)).bind fun y200 => ((spec_l20Rd_pick.f k bt188.1 bt195.2 6).bind fun bt203 => (if 0 ≤ bt203.1 then (if bt203.1 < (y200.length : Int) then (if 0 ≤ (rd y200 bt203.1) then (if (rd y200 bt203.1) < (y197.length : Int) then (some (bt191.1, rd y197 (rd y200 bt203.1))) else (none)) else (none)) else (none)) else (none)))))))) = some (r1, r2) := h
 clear h
 replace H := Option.bind_eq_some_iff.mp H
 obtain ⟨⟨t188, t189⟩, A20, H⟩ := H
 try dsimp only at H
 have A2 := mk_ A20
 clear A20
 replace H := Option.bind_eq_some_iff.mp H
 obtain ⟨⟨t191, t194⟩, A30, H⟩ := H
 try dsimp only at H
 have A3 := mk_ A30
 clear A30
 replace H := Option.bind_eq_some_iff.mp H
 obtain ⟨⟨t195, t196⟩, A40, H⟩ := H
 try dsimp only at H
 have A4 := mk_ A40
 clear A40
 obtain ⟨y197, hy197⟩ : ∃ y_ : List Int, y_ = (([wrap64 (1 + t195), 0, 9] : List Int)) := ⟨_, rfl⟩
 replace H : ((some (([0, 0, 0, 0, 1, 2] : List Int) : List Int)).bind fun y200 => ((spec_l20Rd_pick.f k t188 t196 6).bind fun bt203 => (if 0 ≤ bt203.1 then (if bt203.1 < (y200.length : Int) then (if 0 ≤ (rd y200 bt203.1) then (if (rd y200 bt203.1) < (y197.length : Int) then (some (t191, rd y197 (rd y200 bt203.1))) else (none)) else (none)) else (none)) else (none)))) = some (r1, r2) := by first | (rw [hy197]; with_reducible exact H) | (have H2_ := (Option.bind_some _ _).symm.trans H; rw [hy197]; with_reducible exact H2_) | (have H2_ := (Option.bind_some _ _).symm.trans H; with_reducible exact H2_) | with_reducible exact H | (rw [hy197]; exact H) | exact H
 have Ny197 := mk_ hy197
 clear hy197
 obtain ⟨y200, hy200⟩ : ∃ y_ : List Int, y_ = (([0, 0, 0, 0, 1, 2] : List Int)) := ⟨_, rfl⟩
 replace H : ((spec_l20Rd_pick.f k t188 t196 6).bind fun bt203 => (if 0 ≤ bt203.1 then (if bt203.1 < (y200.length : Int) then (if 0 ≤ (rd y200 bt203.1) then (if (rd y200 bt203.1) < (y197.length : Int) then (some (t191, rd y197 (rd y200 bt203.1))) else (none)) else (none)) else (none)) else (none))) = some (r1, r2) := by first | (rw [hy200]; with_reducible exact H) | (have H2_ := (Option.bind_some _ _).symm.trans H; rw [hy200]; with_reducible exact H2_) | (have H2_ := (Option.bind_some _ _).symm.trans H; with_reducible exact H2_) | with_reducible exact H | (rw [hy200]; exact H) | exact H
 have Ny200 := mk_ hy200
 clear hy200
 replace H := Option.bind_eq_some_iff.mp H
 obtain ⟨⟨t203, t204⟩, A50, H⟩ := H
 try dsimp only at H
 have A5 := mk_ A50
 clear A50
 by_cases c6 : 0 ≤ t203
 rotate_left
 · rw [if_neg c6] at H
   exact absurd H (by simp)
 rw [if_pos c6] at H
 have c6b0 : decide (0 ≤ t203) = true := decide_eq_true c6
 clear c6
 by_cases c7 : t203 < (y200.length : Int)
 rotate_left
 · rw [if_neg c7] at H
   exact absurd H (by simp)
 rw [if_pos c7] at H
 have c7b0 : decide (t203 < (y200.length : Int)) = true := decide_eq_true c7
 clear c7
 by_cases c8 : 0 ≤ (rd y200 t203)
 rotate_left
 · rw [if_neg c8] at H
   exact absurd H (by simp)
 rw [if_pos c8] at H
 have c8b0 : decide (0 ≤ (rd y200 t203)) = true := decide_eq_true c8
 clear c8
 by_cases c9 : (rd y200 t203) < (y197.length : Int)
 rotate_left
 · rw [if_neg c9] at H
   exact absurd H (by simp)
 rw [if_pos c9] at H
 have c9b0 : decide ((rd y200 t203) < (y197.length : Int)) = true := decide_eq_true c9
 clear c9
 simp only [Option.some.injEq, Prod.mk.injEq] at H
 obtain ⟨rfl, rfl⟩ := H
 go_enter Try.func23, Try.ntmps23
 try go_wp2_with (first | ((with_reducible refine gate_callee (f := 68) rfl ?_); refine goesL_ (some 6) rfl rfl Try.func68 (by kernel_rfl) rfl #[.slice A0 l0.length c0] rfl (by (try simp only [List.map_toArray, List.map_cons, List.map_nil]); first | done | rfl | (simp only [List.length_drop, List.length_take]; rfl)) ?_; (with_reducible refine (spec_l20Open.calls _ _ l0 t188 t189 w _ ?side1 ?side2 ?side3 A2.out).mono ?_); (case side1 => repeat (first | (with_reducible first | exact HB.out | apply zq7 | apply zq8 | apply zq9) | exact HB.out)); (case side2 => exact HR0.out); (case side3 => exact HC0.out); rintro e w10 ⟨g190, rfl, hi, hb, hb2⟩; refine ⟨_, rfl, ?_⟩; replace HB := mk_ (hb); have HI190 := mk_ (hi); (try clear hb); (try clear hb2); (try clear hk); (try clear hi)))
 have pi205 : (0 ≤ (t203 : Int)) = True := eq_true (of_decide_eq_true (by first | (with_reducible assumption) | assumption))
 have qi205 : (t203 < (y200.length : Int)) = True := eq_true (of_decide_eq_true (by first | (with_reducible assumption) | assumption))
 have pi206 : (0 ≤ ((rd y200 t203) : Int)) = True := eq_true (of_decide_eq_true (by first | (with_reducible assumption) | assumption))
 have qi206 : ((rd y200 t203) < (y197.length : Int)) = True := eq_true (of_decide_eq_true (by first | (with_reducible assumption) | assumption))
 replace HI190 := mk_ (IsS113.drew HI190.out)
 replace HB := mk_ (zq9 HB.out)
 refine start_ (n := 15) (S := fun w' => True) (ds := []) (bm 15 0) (by kernel_rfl) rfl rfl trivial (fun hHeld => ?_); refine with_tabW spec_DrawSegCut.tab2 spec_DrawSegCut.bits2 (fun HT_ HW_ => ?_)
 generalize w10.drew = w11 at HI190 HB hHeld ⊢
 refine pA 0 (some 7) (bm 15 1) rfl rfl HT_.out (by kernel_rfl) (fun _ _ _ h => h) (by rfl) (by intro w'; go_simp; with_reducible rfl) (by simp only [Act.put, zs1, zs2, zs3, i64_w, i32_w]; rfl) ?_
 refine pA 2 (some 9) (bm 15 5) rfl rfl HT_.out (by kernel_rfl) (fun _ _ _ h => h) (by rfl) (by intro w'; go_simp; with_reducible rfl) (by simp only [Act.put, zs1, zs2, zs3, i64_w, i32_w]; rfl) ?_
 refine pA 7 (some 14) (bm 15 133) rfl rfl HT_.out (by kernel_rfl) (fun _ _ _ h => h) (by rfl) (by intro w'; go_simp; with_reducible rfl) (by simp only [Act.put, zs1, zs2, zs3, i64_w, i32_w]; rfl) ?_
 refine inv_at [1, 3, 4, 5, 6, 8, 9, 10, 11, 12, 13, 14] (fun a0_ b a w' => ∃ (v192 : Value) (v198 : Value) (adz_v198 : Addr) (v201 : Value) (adz_v201 : Addr) (m9_ : Value) (m11_ : Value) (m13_ : Value), a = putSel a0_ b [(1, 8, v192), (3, 10, .int .i64 t195), (4, 11, .int .i64 (wrap64 (1 + t195))), (5, 12, v198), (6, 13, v201), (8, 15, .int .i64 t203), (9, 16, m9_), (10, 17, .int .i64 (rd y200 t203)), (11, 18, m11_), (12, 19, .int .i64 (rd y197 (rd y200 t203))), (13, 2, m13_), (14, 3, .int .i64 (rd y197 (rd y200 t203)))] ∧ (b 1 = false → IsS113 w w' g190 t188 t189) ∧ (Below w.heap.size w w') ∧ (b 1 = true → Kd.R (Kd.int .u8) 5 w' w.heap.size (fun _ => True) v192 t191) ∧ (b 1 = true → b 3 = false → IsS113 w w' g190 t188 t194) ∧ (b 3 = true → b 8 = false → IsS113 w w' g190 t188 t196) ∧ (b 5 = true → Kd.R (Kd.int .i64) 3 w' w.heap.size (fun _ => True) v198 y197) ∧ (b 5 = true → ∃ c_, (v198 : Value) = .slice (some adz_v198) y197.length c_) ∧ (b 6 = true → Kd.R (Kd.int .i64) 3 w' w.heap.size (fun _ => True) v201 y200) ∧ (b 6 = true → ∃ c_, (v201 : Value) = .slice (some adz_v201) y200.length c_) ∧ (b 8 = true → IsS113 w w' g190 t188 t204) ∧ (b 9 = true → (m9_ : Value) = .pointer (some (adz_v201.add (t203).toNat))) ∧ (b 11 = true → (m11_ : Value) = .pointer (some (adz_v198.add ((rd y200 t203)).toNat))) ∧ (b 13 = true → (m13_ : Value) = v192)) HT_.out HW_.out (by kernel_rfl) (by kernel_rfl) ?_ ?_ ?_
 · exact ⟨.bool false, .bool false, ⟨0, 0, none⟩, .bool false, ⟨0, 0, none⟩, .bool false, .bool false, .bool false, by simp only [putSel, Bool.false_eq_true, if_false], fun _ => HI190.out, HB.out, fun h_ => absurd h_ (by decide), fun h_ => absurd h_ (by decide), fun h_ => absurd h_ (by decide), fun h_ => absurd h_ (by decide), fun h_ => absurd h_ (by decide), fun h_ => absurd h_ (by decide), fun h_ => absurd h_ (by decide), fun h_ => absurd h_ (by decide), fun h_ => absurd h_ (by decide), fun h_ => absurd h_ (by decide), fun h_ => absurd h_ (by decide)⟩
 · skip
   clear HB HI190
   refine steps_cons ?_ ?_
   · rintro b a w' ⟨v192, v198, adz_v198, v201, adz_v201, m9_, m11_, m13_, ha, Q_HI190, Q_HB, Q_HO193, Q_HI190_e1, Q_HI190_e3, Q_HO199, Q_HA_HO199, Q_HO202, Q_HA_HO202, Q_HI190_e8, Q_X9_, Q_X11_, Q_X13_⟩ hb_ hon hoff
     refine ⟨_, rfl, fun K hK => ?_⟩
     have e7 : a.tmps[7]? = some (.pointer (some ⟨g190, 0, none⟩)) := by rw [ha]; exact (putSel_off rfl).trans rfl
     replace ha := mk_ ha
     have HI190 := mk_ (Q_HI190 hb_)
     have HB := mk_ Q_HB
     refine goes_ Try.func69 (by kernel_rfl) rfl #[.pointer (some ⟨g190, 0, none⟩), .int .i64 26] (by rfl) rfl rfl (by first | (simp only [List.map_toArray, List.map_cons, List.map_nil, Act.eval, Array.getD_eq_getD_getElem?, Option.getD_some, e7]; done) | (simp only [List.map_toArray, List.map_cons, List.map_nil, Act.eval, Array.getD_eq_getD_getElem?, Option.getD_some, e7]; rfl)) ?_
     with_reducible refine (spec_l20Bytes.calls k g190 t188 t189 26 t191 t194 w _ ?side1 ?side2 A3.out).mono ?_
     (case side1 => repeat (first | (with_reducible first | exact HI190.out | apply IsS113.alloc | apply IsS113.drewN | apply IsS113.drew | apply IsS113.set_1) | exact HI190.out))
     (case side2 => repeat (first | (with_reducible first | exact HB.out | apply zq7 | apply zq8 | apply zq9 | refine zr1 ?_ (IsS113.ge HI190.out)) | exact HB.out))
     rintro e w12 ⟨v192, rfl, ho0, hi, hb, hk⟩
     refine ⟨_, rfl, ?_⟩
     have n0_ := mk_ (Kd.R_lower ho0 (zr2 (by repeat (first | (with_reducible first | exact HB.out | apply zq7 | apply zq8 | apply zq9 | refine zr1 ?_ (IsS113.ge HI190.out)) | exact HB.out))))
     have n1_ := mk_ (hb)
     have n2_ := mk_ (hi)
     have z_HO202 := fun (h0_ : b 6 = true) => (show Kd.R (Kd.int .i64) 3 w12 w.heap.size (fun _ => True) v201 y200 from by first | exact (Kd.R_mono (Kd.R_keep (IsS113.apart (show IsS113 w _ g190 t188 t189 from by repeat (first | (with_reducible first | exact HI190.out | apply IsS113.alloc | apply IsS113.drewN | apply IsS113.drew | apply IsS113.set_1) | exact HI190.out)) (by (with_reducible repeat (first | apply Kd.R_alloc | apply Kd.R_drewN | apply Kd.R_drew)); exact (Q_HO202 h0_)) (by decide)) hk (fun _ h => h.2)) (fun _ h => h.1)) | exact Kd.R_mono (Kd.R_mono (Kd.R_keep (IsS113.apart (show IsS113 w _ g190 t188 t189 from by repeat (first | (with_reducible first | exact HI190.out | apply IsS113.alloc | apply IsS113.drewN | apply IsS113.drew | apply IsS113.set_1) | exact HI190.out)) (by (with_reducible repeat (first | apply Kd.R_alloc | apply Kd.R_drewN | apply Kd.R_drew)); exact (Q_HO202 h0_)) (by decide)) hk (fun _ h => h.2)) (fun _ h => h.1)) (fun _ h_ => by first | trivial | exact h_ | exact h_.1))
     clear HB
     clear HI190
     have HO193 := n0_
     have HB := n1_
     have HI190 := n2_
     clear n0_ n1_ n2_
     (try clear hb)
     (try clear hb2)
     (try clear hk)
     (try clear hi)
     (try clear ho0)
     refine hK.out _ _ ⟨v192, v198, adz_v198, v201, adz_v201, m9_, m11_, m13_, (by rw [ha.out]; exact putSel_upk 0 hb_ rfl rfl rfl), fun h0_ => absurd ((up_self b 1).symm.trans h0_) (by decide), (by repeat (first | (with_reducible first | exact HB.out | apply zq7 | apply zq8 | apply zq9 | refine zr1 ?_ (IsS113.ge HI190.out)) | exact HB.out)), fun _ => (by (with_reducible repeat (first | apply Kd.R_alloc | apply Kd.R_drewN | apply Kd.R_drew)); exact HO193.out), fun _ _ => (by repeat (first | (with_reducible first | exact HI190.out | apply IsS113.alloc | apply IsS113.drewN | apply IsS113.drew | apply IsS113.set_1) | exact HI190.out)), fun h0_ _ => absurd ((hoff 3 (by kernel_rfl)).symm.trans h0_) (by decide), fun h0_ => absurd ((hoff 5 (by kernel_rfl)).symm.trans h0_) (by decide), fun h0_ => absurd ((hoff 5 (by kernel_rfl)).symm.trans h0_) (by decide), z_HO202, Q_HA_HO202, fun h0_ => absurd ((hoff 8 (by kernel_rfl)).symm.trans h0_) (by decide), fun h0_ => absurd ((hoff 9 (by kernel_rfl)).symm.trans h0_) (by decide), fun h0_ => absurd ((hoff 11 (by kernel_rfl)).symm.trans h0_) (by decide), fun h0_ => absurd ((hoff 13 (by kernel_rfl)).symm.trans h0_) (by decide)⟩
   refine steps_cons ?_ ?_
   · rintro b a w' ⟨v192, v198, adz_v198, v201, adz_v201, m9_, m11_, m13_, ha, Q_HI190, Q_HB, Q_HO193, Q_HI190_e1, Q_HI190_e3, Q_HO199, Q_HA_HO199, Q_HO202, Q_HA_HO202, Q_HI190_e8, Q_X9_, Q_X11_, Q_X13_⟩ hb_ hon hoff
     refine ⟨_, rfl, fun K hK => ?_⟩
     have e9 : a.tmps[9]? = some (.pointer (some ⟨g190, 0, none⟩)) := by rw [ha]; exact (putSel_off rfl).trans rfl
     replace ha := mk_ ha
     have HB := mk_ Q_HB
     have HO193 := mk_ (Q_HO193 (hon 1 (by kernel_rfl)))
     have HI190 := mk_ (Q_HI190_e1 (hon 1 (by kernel_rfl)) hb_)
     refine goes_ Try.func70 (by kernel_rfl) rfl #[.pointer (some ⟨g190, 0, none⟩), .int .i64 8] (by rfl) rfl rfl (by first | (simp only [List.map_toArray, List.map_cons, List.map_nil, Act.eval, Array.getD_eq_getD_getElem?, Option.getD_some, e9]; done) | (simp only [List.map_toArray, List.map_cons, List.map_nil, Act.eval, Array.getD_eq_getD_getElem?, Option.getD_some, e9]; rfl)) ?_
     with_reducible refine (spec_l20Rd_pick.calls k g190 t188 t194 8 t195 t196 w _ ?side1 ?side2 A4.out).mono ?_
     (case side1 => repeat (first | (with_reducible first | exact HI190.out | apply IsS113.alloc | apply IsS113.drewN | apply IsS113.drew | apply IsS113.set_1) | exact HI190.out))
     (case side2 => repeat (first | (with_reducible first | exact HB.out | apply zq7 | apply zq8 | apply zq9 | refine zr1 ?_ (IsS113.ge HI190.out)) | exact HB.out))
     rintro e w14 ⟨rfl, hi, hb, hk⟩
     refine ⟨_, rfl, ?_⟩
     have n0_ := mk_ (Kd.R_mono (Kd.R_keep (IsS113.apart (show IsS113 w _ g190 t188 t194 from by repeat (first | (with_reducible first | exact HI190.out | apply IsS113.alloc | apply IsS113.drewN | apply IsS113.drew | apply IsS113.set_1) | exact HI190.out)) (by (with_reducible repeat (first | apply Kd.R_alloc | apply Kd.R_drewN | apply Kd.R_drew)); exact HO193.out) (by decide)) hk (fun _ h => h.2)) (fun _ h => h.1))
     have n1_ := mk_ (hb)
     have n2_ := mk_ (hi)
     have z_HO202 := fun (h0_ : b 6 = true) => (show Kd.R (Kd.int .i64) 3 w14 w.heap.size (fun _ => True) v201 y200 from by first | exact (Kd.R_mono (Kd.R_keep (IsS113.apart (show IsS113 w _ g190 t188 t194 from by repeat (first | (with_reducible first | exact HI190.out | apply IsS113.alloc | apply IsS113.drewN | apply IsS113.drew | apply IsS113.set_1) | exact HI190.out)) (by (with_reducible repeat (first | apply Kd.R_alloc | apply Kd.R_drewN | apply Kd.R_drew)); exact (Q_HO202 h0_)) (by decide)) hk (fun _ h => h.2)) (fun _ h => h.1)) | exact Kd.R_mono (Kd.R_mono (Kd.R_keep (IsS113.apart (show IsS113 w _ g190 t188 t194 from by repeat (first | (with_reducible first | exact HI190.out | apply IsS113.alloc | apply IsS113.drewN | apply IsS113.drew | apply IsS113.set_1) | exact HI190.out)) (by (with_reducible repeat (first | apply Kd.R_alloc | apply Kd.R_drewN | apply Kd.R_drew)); exact (Q_HO202 h0_)) (by decide)) hk (fun _ h => h.2)) (fun _ h => h.1)) (fun _ h_ => by first | trivial | exact h_ | exact h_.1))
     clear HO193
     clear HB
     clear HI190
     have HO193 := n0_
     have HB := n1_
     have HI190 := n2_
     clear n0_ n1_ n2_
     (try clear hb)
     (try clear hb2)
     (try clear hk)
     (try clear hi)
     refine hK.out _ _ ⟨v192, v198, adz_v198, v201, adz_v201, m9_, m11_, m13_, (by rw [ha.out]; exact putSel_upk 1 hb_ rfl rfl rfl), fun h0_ => absurd ((hon 1 (by kernel_rfl)).symm.trans h0_) (by decide), (by repeat (first | (with_reducible first | exact HB.out | apply zq7 | apply zq8 | apply zq9 | refine zr1 ?_ (IsS113.ge HI190.out)) | exact HB.out)), fun _ => (by (with_reducible repeat (first | apply Kd.R_alloc | apply Kd.R_drewN | apply Kd.R_drew)); exact HO193.out), fun _ h1_ => absurd ((up_self b 3).symm.trans h1_) (by decide), fun _ _ => (by repeat (first | (with_reducible first | exact HI190.out | apply IsS113.alloc | apply IsS113.drewN | apply IsS113.drew | apply IsS113.set_1) | exact HI190.out)), fun h0_ => absurd ((hoff 5 (by kernel_rfl)).symm.trans h0_) (by decide), fun h0_ => absurd ((hoff 5 (by kernel_rfl)).symm.trans h0_) (by decide), z_HO202, Q_HA_HO202, fun h0_ => absurd ((hoff 8 (by kernel_rfl)).symm.trans h0_) (by decide), fun h0_ => absurd ((hoff 9 (by kernel_rfl)).symm.trans h0_) (by decide), fun h0_ => absurd ((hoff 11 (by kernel_rfl)).symm.trans h0_) (by decide), fun h0_ => absurd ((hoff 13 (by kernel_rfl)).symm.trans h0_) (by decide)⟩
   refine steps_cons ?_ ?_
   · rintro b a w' ⟨v192, v198, adz_v198, v201, adz_v201, m9_, m11_, m13_, ha, Q_HI190, Q_HB, Q_HO193, Q_HI190_e1, Q_HI190_e3, Q_HO199, Q_HA_HO199, Q_HO202, Q_HA_HO202, Q_HI190_e8, Q_X9_, Q_X11_, Q_X13_⟩ hb_ hon hoff
     refine ⟨_, rfl, fun K hK => ?_⟩
     have e10 : a.tmps[10]? = some (.int .i64 t195) := by rw [ha]; exact putSel_on (e := (3, 10, .int .i64 t195)) 1 rfl rfl (hon 3 (by kernel_rfl)) rfl
     replace ha := mk_ ha
     have HB := mk_ Q_HB
     have HO193 := mk_ (Q_HO193 (hon 1 (by kernel_rfl)))
     refine value_ (w1 := w') (v := .int .i64 (wrap64 (1 + t195))) (by rfl) rfl ?_ ?_
     · go_simp
       (try simp only [i64_w])
       try rfl
     refine hK.out _ _ ⟨v192, v198, adz_v198, v201, adz_v201, m9_, m11_, m13_, (by rw [ha.out]; exact putSel_upk 2 hb_ rfl rfl rfl), fun h0_ => absurd ((hon 1 (by kernel_rfl)).symm.trans h0_) (by decide), Q_HB, Q_HO193, fun _ h1_ => absurd ((hon 3 (by kernel_rfl)).symm.trans h1_) (by decide), Q_HI190_e3, fun h0_ => absurd ((hoff 5 (by kernel_rfl)).symm.trans h0_) (by decide), fun h0_ => absurd ((hoff 5 (by kernel_rfl)).symm.trans h0_) (by decide), Q_HO202, Q_HA_HO202, Q_HI190_e8, Q_X9_, fun h0_ => absurd ((hoff 11 (by kernel_rfl)).symm.trans h0_) (by decide), Q_X13_⟩
   refine steps_cons ?_ ?_
   · rintro b a w' ⟨v192, v198, adz_v198, v201, adz_v201, m9_, m11_, m13_, ha, Q_HI190, Q_HB, Q_HO193, Q_HI190_e1, Q_HI190_e3, Q_HO199, Q_HA_HO199, Q_HO202, Q_HA_HO202, Q_HI190_e8, Q_X9_, Q_X11_, Q_X13_⟩ hb_ hon hoff
     refine ⟨_, rfl, fun K hK => ?_⟩
     have e11 : a.tmps[11]? = some (.int .i64 (wrap64 (1 + t195))) := by rw [ha]; exact putSel_on (e := (4, 11, .int .i64 (wrap64 (1 + t195)))) 2 rfl rfl (hon 4 (by kernel_rfl)) rfl
     replace ha := mk_ ha
     have HB := mk_ Q_HB
     have HO193 := mk_ (Q_HO193 (hon 1 (by kernel_rfl)))
     refine Kd.R_lit_step (Kd.int .i64) _ 3 ?hg (N := 12) ?hd (xs := ([wrap64 (1 + t195), 0, 9] : List Int)) (inner := [.int .i64 (wrap64 (1 + t195)), .int .i64 0, .int .i64 9]) (ok := fun _ => True) (okp := fun _ => True) ?hr ?hp (fun _ hk => hk) trivial (Below.refl _ _) (Nat.le_refl _) (by simp) ?_; (case hd => rfl); (case hg => rfl); (case hr => first | (go_simp; done) | (go_simp; rfl)); (case hp => exact (Reps.one (show Kd.M (Kd.int .i64) _ _ _ (wrap64 (1 + t195)) [.int .i64 (wrap64 (1 + t195))] from rfl) (Reps.one (show Kd.M (Kd.int .i64) _ _ _ 0 [.int .i64 0] from rfl) (Reps.one (show Kd.M (Kd.int .i64) _ _ _ 9 [.int .i64 9] from rfl) (Reps.none _ _)))))
     intro v198 w15 ho16 hb hg_ hnew_
     clear hg_ hnew_
     (first | rw [← Ny197.out] at ho16 | (simp only [Int.reduceToNat] at ho16; rw [← Ny197.out] at ho16))
     have n0_ := mk_ (Kd.R_below (by (with_reducible repeat (first | apply Kd.R_alloc | apply Kd.R_drewN | apply Kd.R_drew)); exact HO193.out) hb)
     have n1_ := mk_ (Kd.R_lower ho16 (zr2 (by repeat (first | (with_reducible first | exact HB.out | apply zq7 | apply zq8 | apply zq9) | exact HB.out))))
     have n3_ := mk_ (zr3 (by repeat (first | (with_reducible first | exact HB.out | apply zq7 | apply zq8 | apply zq9) | exact HB.out)) hb)
     have z_HI190_e3 := fun (h0_ : b 3 = true) (h1_ : b 8 = false) => (show IsS113 w w15 g190 t188 t196 from by first | exact (IsS113.below (by repeat (first | (with_reducible first | exact (Q_HI190_e3 h0_ h1_) | apply IsS113.alloc | apply IsS113.drewN | apply IsS113.drew | apply IsS113.set_1) | exact (Q_HI190_e3 h0_ h1_))) hb))
     have z_HO202 := fun (h0_ : b 6 = true) => (show Kd.R (Kd.int .i64) 3 w15 w.heap.size (fun _ => True) v201 y200 from by first | exact (Kd.R_elder' (by (with_reducible repeat (first | apply Kd.R_alloc | apply Kd.R_drewN | apply Kd.R_drew)); exact (Q_HO202 h0_)) (Kd.R_base ho16) hb) | exact Kd.R_mono (Kd.R_elder' (by (with_reducible repeat (first | apply Kd.R_alloc | apply Kd.R_drewN | apply Kd.R_drew)); exact (Q_HO202 h0_)) (Kd.R_base ho16) hb) (fun _ h_ => by first | trivial | exact h_ | exact h_.1))
     have z_HI190_e8 := fun (h0_ : b 8 = true) => (show IsS113 w w15 g190 t188 t204 from by first | exact (IsS113.below (by repeat (first | (with_reducible first | exact (Q_HI190_e8 h0_) | apply IsS113.alloc | apply IsS113.drewN | apply IsS113.drew | apply IsS113.set_1) | exact (Q_HI190_e8 h0_))) hb))
     clear HO193
     clear HB
     have HO193 := n0_
     have HO199 := n1_
     have HB := n3_
     clear n0_ n1_ n3_
     clear hb ho16
     obtain ⟨Ao17, co17, eo17⟩ := Kd.R_slice HO199.out
     subst eo17
     obtain ⟨ado17, fo17, _⟩ := Kd.at_int (Kd.R_reads' HO199.out).2.2 0 (by decide) (by rw [Ny197.out]; simp)
     cases fo17
     refine hK.out _ _ ⟨v192, .slice (some ado17) y197.length co17, ado17, v201, adz_v201, m9_, m11_, m13_, (by rw [ha.out]; exact putSel_upk 3 hb_ rfl rfl rfl), fun h0_ => absurd ((hon 1 (by kernel_rfl)).symm.trans h0_) (by decide), (by repeat (first | (with_reducible first | exact HB.out | apply zq7 | apply zq8 | apply zq9) | exact HB.out)), fun _ => (by (with_reducible repeat (first | apply Kd.R_alloc | apply Kd.R_drewN | apply Kd.R_drew)); exact HO193.out), fun _ h1_ => absurd ((hon 3 (by kernel_rfl)).symm.trans h1_) (by decide), z_HI190_e3, fun _ => (by (with_reducible repeat (first | apply Kd.R_alloc | apply Kd.R_drewN | apply Kd.R_drew)); exact HO199.out), fun _ => ⟨_, rfl⟩, z_HO202, Q_HA_HO202, z_HI190_e8, Q_X9_, fun h0_ => absurd ((hoff 11 (by kernel_rfl)).symm.trans h0_) (by decide), Q_X13_⟩
   refine steps_cons ?_ ?_
   · rintro b a w' ⟨v192, v198, adz_v198, v201, adz_v201, m9_, m11_, m13_, ha, Q_HI190, Q_HB, Q_HO193, Q_HI190_e1, Q_HI190_e3, Q_HO199, Q_HA_HO199, Q_HO202, Q_HA_HO202, Q_HI190_e8, Q_X9_, Q_X11_, Q_X13_⟩ hb_ hon hoff
     refine ⟨_, rfl, fun K hK => ?_⟩
     replace ha := mk_ ha
     have HB := mk_ Q_HB
     refine Kd.R_lit_step (Kd.int .i64) _ 3 ?hg (N := 13) ?hd (xs := ([0, 0, 0, 0, 1, 2] : List Int)) (inner := [.int .i64 0, .int .i64 0, .int .i64 0, .int .i64 0, .int .i64 1, .int .i64 2]) (ok := fun _ => True) (okp := fun _ => True) ?hr ?hp (fun _ hk => hk) trivial (Below.refl _ _) (Nat.le_refl _) (by simp) ?_; (case hd => rfl); (case hg => rfl); (case hr => first | (go_simp; done) | (go_simp; rfl)); (case hp => exact (Reps.one (show Kd.M (Kd.int .i64) _ _ _ 0 [.int .i64 0] from rfl) (Reps.one (show Kd.M (Kd.int .i64) _ _ _ 0 [.int .i64 0] from rfl) (Reps.one (show Kd.M (Kd.int .i64) _ _ _ 0 [.int .i64 0] from rfl) (Reps.one (show Kd.M (Kd.int .i64) _ _ _ 0 [.int .i64 0] from rfl) (Reps.one (show Kd.M (Kd.int .i64) _ _ _ 1 [.int .i64 1] from rfl) (Reps.one (show Kd.M (Kd.int .i64) _ _ _ 2 [.int .i64 2] from rfl) (Reps.none _ _))))))))
     intro v201 w12 ho13 hb hg_ hnew_
     clear hg_ hnew_
     (first | rw [← Ny200.out] at ho13 | (simp only [Int.reduceToNat] at ho13; rw [← Ny200.out] at ho13))
     have n0_ := mk_ (Kd.R_lower ho13 (zr2 (by repeat (first | (with_reducible first | exact HB.out | apply zq7 | apply zq8 | apply zq9) | exact HB.out))))
     have n2_ := mk_ (zr3 (by repeat (first | (with_reducible first | exact HB.out | apply zq7 | apply zq8 | apply zq9) | exact HB.out)) hb)
     have z_HI190 := fun (h0_ : b 1 = false) => (show IsS113 w w12 g190 t188 t189 from by first | exact (IsS113.below (by repeat (first | (with_reducible first | exact (Q_HI190 h0_) | apply IsS113.alloc | apply IsS113.drewN | apply IsS113.drew | apply IsS113.set_1) | exact (Q_HI190 h0_))) hb))
     have z_HO193 := fun (h0_ : b 1 = true) => (show Kd.R (Kd.int .u8) 5 w12 w.heap.size (fun _ => True) v192 t191 from by first | exact (Kd.R_below (by (with_reducible repeat (first | apply Kd.R_alloc | apply Kd.R_drewN | apply Kd.R_drew)); exact (Q_HO193 h0_)) hb) | exact Kd.R_mono (Kd.R_below (by (with_reducible repeat (first | apply Kd.R_alloc | apply Kd.R_drewN | apply Kd.R_drew)); exact (Q_HO193 h0_)) hb) (fun _ h_ => by first | trivial | exact h_ | exact h_.1))
     have z_HI190_e1 := fun (h0_ : b 1 = true) (h1_ : b 3 = false) => (show IsS113 w w12 g190 t188 t194 from by first | exact (IsS113.below (by repeat (first | (with_reducible first | exact (Q_HI190_e1 h0_ h1_) | apply IsS113.alloc | apply IsS113.drewN | apply IsS113.drew | apply IsS113.set_1) | exact (Q_HI190_e1 h0_ h1_))) hb))
     have z_HI190_e3 := fun (h0_ : b 3 = true) (h1_ : b 8 = false) => (show IsS113 w w12 g190 t188 t196 from by first | exact (IsS113.below (by repeat (first | (with_reducible first | exact (Q_HI190_e3 h0_ h1_) | apply IsS113.alloc | apply IsS113.drewN | apply IsS113.drew | apply IsS113.set_1) | exact (Q_HI190_e3 h0_ h1_))) hb))
     have z_HO199 := fun (h0_ : b 5 = true) => (show Kd.R (Kd.int .i64) 3 w12 w.heap.size (fun _ => True) v198 y197 from by first | exact (Kd.R_elder' (by (with_reducible repeat (first | apply Kd.R_alloc | apply Kd.R_drewN | apply Kd.R_drew)); exact (Q_HO199 h0_)) (Kd.R_base ho13) hb) | exact Kd.R_mono (Kd.R_elder' (by (with_reducible repeat (first | apply Kd.R_alloc | apply Kd.R_drewN | apply Kd.R_drew)); exact (Q_HO199 h0_)) (Kd.R_base ho13) hb) (fun _ h_ => by first | trivial | exact h_ | exact h_.1))
     have z_HI190_e8 := fun (h0_ : b 8 = true) => (show IsS113 w w12 g190 t188 t204 from by first | exact (IsS113.below (by repeat (first | (with_reducible first | exact (Q_HI190_e8 h0_) | apply IsS113.alloc | apply IsS113.drewN | apply IsS113.drew | apply IsS113.set_1) | exact (Q_HI190_e8 h0_))) hb))
     clear HB
     have HO202 := n0_
     have HB := n2_
     clear n0_ n2_
     clear hb ho13
     obtain ⟨Ao14, co14, eo14⟩ := Kd.R_slice HO202.out
     subst eo14
     obtain ⟨ado14, fo14, _⟩ := Kd.at_int (Kd.R_reads' HO202.out).2.2 0 (by decide) (by rw [Ny200.out]; simp)
     cases fo14
     refine hK.out _ _ ⟨v192, v198, adz_v198, .slice (some ado14) y200.length co14, ado14, m9_, m11_, m13_, (by rw [ha.out]; exact putSel_upk 4 hb_ rfl rfl rfl), z_HI190, (by repeat (first | (with_reducible first | exact HB.out | apply zq7 | apply zq8 | apply zq9) | exact HB.out)), z_HO193, z_HI190_e1, z_HI190_e3, z_HO199, Q_HA_HO199, fun _ => (by (with_reducible repeat (first | apply Kd.R_alloc | apply Kd.R_drewN | apply Kd.R_drew)); exact HO202.out), fun _ => ⟨_, rfl⟩, z_HI190_e8, fun h0_ => absurd ((hoff 9 (by kernel_rfl)).symm.trans h0_) (by decide), fun h0_ => absurd ((hoff 11 (by kernel_rfl)).symm.trans h0_) (by decide), Q_X13_⟩
   refine steps_cons ?_ ?_
   · rintro b a w' ⟨v192, v198, adz_v198, v201, adz_v201, m9_, m11_, m13_, ha, Q_HI190, Q_HB, Q_HO193, Q_HI190_e1, Q_HI190_e3, Q_HO199, Q_HA_HO199, Q_HO202, Q_HA_HO202, Q_HI190_e8, Q_X9_, Q_X11_, Q_X13_⟩ hb_ hon hoff
     refine ⟨_, rfl, fun K hK => ?_⟩
     have e14 : a.tmps[14]? = some (.pointer (some ⟨g190, 0, none⟩)) := by rw [ha]; exact (putSel_off rfl).trans rfl
     replace ha := mk_ ha
     have HB := mk_ Q_HB
     have HO193 := mk_ (Q_HO193 (hon 1 (by kernel_rfl)))
     have HI190 := mk_ (Q_HI190_e3 (hon 3 (by kernel_rfl)) hb_)
     refine goes_ Try.func70 (by kernel_rfl) rfl #[.pointer (some ⟨g190, 0, none⟩), .int .i64 6] (by rfl) rfl rfl (by first | (simp only [List.map_toArray, List.map_cons, List.map_nil, Act.eval, Array.getD_eq_getD_getElem?, Option.getD_some, e14]; done) | (simp only [List.map_toArray, List.map_cons, List.map_nil, Act.eval, Array.getD_eq_getD_getElem?, Option.getD_some, e14]; rfl)) ?_
     with_reducible refine (spec_l20Rd_pick.calls k g190 t188 t196 6 t203 t204 w _ ?side1 ?side2 A5.out).mono ?_
     (case side1 => repeat (first | (with_reducible first | exact HI190.out | apply IsS113.alloc | apply IsS113.drewN | apply IsS113.drew | apply IsS113.set_1) | exact HI190.out))
     (case side2 => repeat (first | (with_reducible first | exact HB.out | apply zq7 | apply zq8 | apply zq9 | refine zr1 ?_ (IsS113.ge HI190.out)) | exact HB.out))
     rintro e w15 ⟨rfl, hi, hb, hk⟩
     refine ⟨_, rfl, ?_⟩
     have n0_ := mk_ (Kd.R_mono (Kd.R_keep (IsS113.apart (show IsS113 w _ g190 t188 t196 from by repeat (first | (with_reducible first | exact HI190.out | apply IsS113.alloc | apply IsS113.drewN | apply IsS113.drew | apply IsS113.set_1) | exact HI190.out)) (by (with_reducible repeat (first | apply Kd.R_alloc | apply Kd.R_drewN | apply Kd.R_drew)); exact HO193.out) (by decide)) hk (fun _ h => h.2)) (fun _ h => h.1))
     have n1_ := mk_ (hb)
     have n2_ := mk_ (hi)
     have z_HO199 := fun (h0_ : b 5 = true) => (show Kd.R (Kd.int .i64) 3 w15 w.heap.size (fun _ => True) v198 y197 from by first | exact (Kd.R_mono (Kd.R_keep (IsS113.apart (show IsS113 w _ g190 t188 t196 from by repeat (first | (with_reducible first | exact HI190.out | apply IsS113.alloc | apply IsS113.drewN | apply IsS113.drew | apply IsS113.set_1) | exact HI190.out)) (by (with_reducible repeat (first | apply Kd.R_alloc | apply Kd.R_drewN | apply Kd.R_drew)); exact (Q_HO199 h0_)) (by decide)) hk (fun _ h => h.2)) (fun _ h => h.1)) | exact Kd.R_mono (Kd.R_mono (Kd.R_keep (IsS113.apart (show IsS113 w _ g190 t188 t196 from by repeat (first | (with_reducible first | exact HI190.out | apply IsS113.alloc | apply IsS113.drewN | apply IsS113.drew | apply IsS113.set_1) | exact HI190.out)) (by (with_reducible repeat (first | apply Kd.R_alloc | apply Kd.R_drewN | apply Kd.R_drew)); exact (Q_HO199 h0_)) (by decide)) hk (fun _ h => h.2)) (fun _ h => h.1)) (fun _ h_ => by first | trivial | exact h_ | exact h_.1))
     have z_HO202 := fun (h0_ : b 6 = true) => (show Kd.R (Kd.int .i64) 3 w15 w.heap.size (fun _ => True) v201 y200 from by first | exact (Kd.R_mono (Kd.R_keep (IsS113.apart (show IsS113 w _ g190 t188 t196 from by repeat (first | (with_reducible first | exact HI190.out | apply IsS113.alloc | apply IsS113.drewN | apply IsS113.drew | apply IsS113.set_1) | exact HI190.out)) (by (with_reducible repeat (first | apply Kd.R_alloc | apply Kd.R_drewN | apply Kd.R_drew)); exact (Q_HO202 h0_)) (by decide)) hk (fun _ h => h.2)) (fun _ h => h.1)) | exact Kd.R_mono (Kd.R_mono (Kd.R_keep (IsS113.apart (show IsS113 w _ g190 t188 t196 from by repeat (first | (with_reducible first | exact HI190.out | apply IsS113.alloc | apply IsS113.drewN | apply IsS113.drew | apply IsS113.set_1) | exact HI190.out)) (by (with_reducible repeat (first | apply Kd.R_alloc | apply Kd.R_drewN | apply Kd.R_drew)); exact (Q_HO202 h0_)) (by decide)) hk (fun _ h => h.2)) (fun _ h => h.1)) (fun _ h_ => by first | trivial | exact h_ | exact h_.1))
     clear HO193
     clear HB
     clear HI190
     have HO193 := n0_
     have HB := n1_
     have HI190 := n2_
     clear n0_ n1_ n2_
     (try clear hb)
     (try clear hb2)
     (try clear hk)
     (try clear hi)
     refine hK.out _ _ ⟨v192, v198, adz_v198, v201, adz_v201, m9_, m11_, m13_, (by rw [ha.out]; exact putSel_upk 5 hb_ rfl rfl rfl), fun h0_ => absurd ((hon 1 (by kernel_rfl)).symm.trans h0_) (by decide), (by repeat (first | (with_reducible first | exact HB.out | apply zq7 | apply zq8 | apply zq9 | refine zr1 ?_ (IsS113.ge HI190.out)) | exact HB.out)), fun _ => (by (with_reducible repeat (first | apply Kd.R_alloc | apply Kd.R_drewN | apply Kd.R_drew)); exact HO193.out), fun _ h1_ => absurd ((hon 3 (by kernel_rfl)).symm.trans h1_) (by decide), fun _ h1_ => absurd ((up_self b 8).symm.trans h1_) (by decide), z_HO199, Q_HA_HO199, z_HO202, Q_HA_HO202, fun _ => (by repeat (first | (with_reducible first | exact HI190.out | apply IsS113.alloc | apply IsS113.drewN | apply IsS113.drew | apply IsS113.set_1) | exact HI190.out)), fun h0_ => absurd ((hoff 9 (by kernel_rfl)).symm.trans h0_) (by decide), fun h0_ => absurd ((hoff 11 (by kernel_rfl)).symm.trans h0_) (by decide), fun h0_ => absurd ((hoff 13 (by kernel_rfl)).symm.trans h0_) (by decide)⟩
   refine steps_cons ?_ ?_
   · rintro b a w' ⟨v192, v198, adz_v198, v201, adz_v201, m9_, m11_, m13_, ha, Q_HI190, Q_HB, Q_HO193, Q_HI190_e1, Q_HI190_e3, Q_HO199, Q_HA_HO199, Q_HO202, Q_HA_HO202, Q_HI190_e8, Q_X9_, Q_X11_, Q_X13_⟩ hb_ hon hoff
     refine ⟨_, rfl, fun K hK => ?_⟩
     have e13 : a.tmps[13]? = some (v201) := by rw [ha]; exact putSel_on (e := (6, 13, v201)) 4 rfl rfl (hon 6 (by kernel_rfl)) rfl
     have e15 : a.tmps[15]? = some (.int .i64 t203) := by rw [ha]; exact putSel_on (e := (8, 15, .int .i64 t203)) 5 rfl rfl (hon 8 (by kernel_rfl)) rfl
     replace ha := mk_ ha
     have HB := mk_ Q_HB
     have HO193 := mk_ (Q_HO193 (hon 1 (by kernel_rfl)))
     have HO202 := mk_ (Q_HO202 (hon 6 (by kernel_rfl)))
     have HA_HO202 := mk_ (Q_HA_HO202 (hon 6 (by kernel_rfl)))
     have HI190 := mk_ (Q_HI190_e8 (hon 8 (by kernel_rfl)))
     obtain ⟨c_, hv_⟩ := HA_HO202.out
     rw [hv_] at e13
     refine value_ (w1 := w') (v := .pointer (some (adz_v201.add (t203).toNat))) (by rfl) rfl ?_ ?_
     · go_simp
       (try simp only [i64_w])
       try rfl
     refine hK.out _ _ ⟨v192, v198, adz_v198, v201, adz_v201, (.pointer (some (adz_v201.add (t203).toNat))), m11_, m13_, (by rw [ha.out]; exact putSel_upk 6 hb_ rfl rfl rfl), fun h0_ => absurd ((hon 1 (by kernel_rfl)).symm.trans h0_) (by decide), Q_HB, Q_HO193, fun _ h1_ => absurd ((hon 3 (by kernel_rfl)).symm.trans h1_) (by decide), fun _ h1_ => absurd ((hon 8 (by kernel_rfl)).symm.trans h1_) (by decide), Q_HO199, Q_HA_HO199, Q_HO202, Q_HA_HO202, Q_HI190_e8, fun _ => rfl, fun h0_ => absurd ((hoff 11 (by kernel_rfl)).symm.trans h0_) (by decide), Q_X13_⟩
   refine steps_cons ?_ ?_
   · rintro b a w' ⟨v192, v198, adz_v198, v201, adz_v201, m9_, m11_, m13_, ha, Q_HI190, Q_HB, Q_HO193, Q_HI190_e1, Q_HI190_e3, Q_HO199, Q_HA_HO199, Q_HO202, Q_HA_HO202, Q_HI190_e8, Q_X9_, Q_X11_, Q_X13_⟩ hb_ hon hoff
     refine ⟨_, rfl, fun K hK => ?_⟩
     have e16 : a.tmps[16]? = some (m9_) := by rw [ha]; exact putSel_on (e := (9, 16, m9_)) 6 rfl rfl (hon 9 (by kernel_rfl)) rfl
     rw [Q_X9_ (hon 9 (by kernel_rfl))] at e16
     replace ha := mk_ ha
     have HB := mk_ Q_HB
     have HO193 := mk_ (Q_HO193 (hon 1 (by kernel_rfl)))
     have HO202 := mk_ (Q_HO202 (hon 6 (by kernel_rfl)))
     have HA_HO202 := mk_ (Q_HA_HO202 (hon 6 (by kernel_rfl)))
     have HI190 := mk_ (Q_HI190_e8 (hon 8 (by kernel_rfl)))
     obtain ⟨c_, hv_⟩ := HA_HO202.out
     have hF_ := HO202.out
     rw [hv_] at hF_
     obtain ⟨ad_, ea_, hx_⟩ := Kd.at_int (Kd.R_reads' hF_).2.2 t203 (of_eq_true pi205) (of_eq_true qi205)
     cases ea_
     refine value_ (w1 := w') (v := .int .i64 (rd y200 t203)) (by rfl) rfl ?_ ?_
     · go_simp
       (try simp only [i64_w])
       try rfl
     refine hK.out _ _ ⟨v192, v198, adz_v198, v201, adz_v201, m9_, m11_, m13_, (by rw [ha.out]; exact putSel_upk 7 hb_ rfl rfl rfl), fun h0_ => absurd ((hon 1 (by kernel_rfl)).symm.trans h0_) (by decide), Q_HB, Q_HO193, fun _ h1_ => absurd ((hon 3 (by kernel_rfl)).symm.trans h1_) (by decide), fun _ h1_ => absurd ((hon 8 (by kernel_rfl)).symm.trans h1_) (by decide), Q_HO199, Q_HA_HO199, Q_HO202, Q_HA_HO202, Q_HI190_e8, Q_X9_, fun h0_ => absurd ((hoff 11 (by kernel_rfl)).symm.trans h0_) (by decide), Q_X13_⟩
   refine steps_cons ?_ ?_
   · rintro b a w' ⟨v192, v198, adz_v198, v201, adz_v201, m9_, m11_, m13_, ha, Q_HI190, Q_HB, Q_HO193, Q_HI190_e1, Q_HI190_e3, Q_HO199, Q_HA_HO199, Q_HO202, Q_HA_HO202, Q_HI190_e8, Q_X9_, Q_X11_, Q_X13_⟩ hb_ hon hoff
     refine ⟨_, rfl, fun K hK => ?_⟩
     have e12 : a.tmps[12]? = some (v198) := by rw [ha]; exact putSel_on (e := (5, 12, v198)) 3 rfl rfl (hon 5 (by kernel_rfl)) rfl
     have e17 : a.tmps[17]? = some (.int .i64 (rd y200 t203)) := by rw [ha]; exact putSel_on (e := (10, 17, .int .i64 (rd y200 t203))) 7 rfl rfl (hon 10 (by kernel_rfl)) rfl
     replace ha := mk_ ha
     have HB := mk_ Q_HB
     have HO193 := mk_ (Q_HO193 (hon 1 (by kernel_rfl)))
     have HO199 := mk_ (Q_HO199 (hon 5 (by kernel_rfl)))
     have HA_HO199 := mk_ (Q_HA_HO199 (hon 5 (by kernel_rfl)))
     have HO202 := mk_ (Q_HO202 (hon 6 (by kernel_rfl)))
     have HA_HO202 := mk_ (Q_HA_HO202 (hon 6 (by kernel_rfl)))
     have HI190 := mk_ (Q_HI190_e8 (hon 8 (by kernel_rfl)))
     obtain ⟨c_, hv_⟩ := HA_HO199.out
     rw [hv_] at e12
     refine value_ (w1 := w') (v := .pointer (some (adz_v198.add ((rd y200 t203)).toNat))) (by rfl) rfl ?_ ?_
     · go_simp
       (try simp only [i64_w])
       try rfl
     refine hK.out _ _ ⟨v192, v198, adz_v198, v201, adz_v201, m9_, (.pointer (some (adz_v198.add ((rd y200 t203)).toNat))), m13_, (by rw [ha.out]; exact putSel_upk 8 hb_ rfl rfl rfl), fun h0_ => absurd ((hon 1 (by kernel_rfl)).symm.trans h0_) (by decide), Q_HB, Q_HO193, fun _ h1_ => absurd ((hon 3 (by kernel_rfl)).symm.trans h1_) (by decide), fun _ h1_ => absurd ((hon 8 (by kernel_rfl)).symm.trans h1_) (by decide), Q_HO199, Q_HA_HO199, Q_HO202, Q_HA_HO202, Q_HI190_e8, Q_X9_, fun _ => rfl, Q_X13_⟩
   refine steps_cons ?_ ?_
   · rintro b a w' ⟨v192, v198, adz_v198, v201, adz_v201, m9_, m11_, m13_, ha, Q_HI190, Q_HB, Q_HO193, Q_HI190_e1, Q_HI190_e3, Q_HO199, Q_HA_HO199, Q_HO202, Q_HA_HO202, Q_HI190_e8, Q_X9_, Q_X11_, Q_X13_⟩ hb_ hon hoff
     refine ⟨_, rfl, fun K hK => ?_⟩
     have e18 : a.tmps[18]? = some (m11_) := by rw [ha]; exact putSel_on (e := (11, 18, m11_)) 8 rfl rfl (hon 11 (by kernel_rfl)) rfl
     rw [Q_X11_ (hon 11 (by kernel_rfl))] at e18
     replace ha := mk_ ha
     have HB := mk_ Q_HB
     have HO193 := mk_ (Q_HO193 (hon 1 (by kernel_rfl)))
     have HO199 := mk_ (Q_HO199 (hon 5 (by kernel_rfl)))
     have HA_HO199 := mk_ (Q_HA_HO199 (hon 5 (by kernel_rfl)))
     have HO202 := mk_ (Q_HO202 (hon 6 (by kernel_rfl)))
     have HA_HO202 := mk_ (Q_HA_HO202 (hon 6 (by kernel_rfl)))
     have HI190 := mk_ (Q_HI190_e8 (hon 8 (by kernel_rfl)))
     obtain ⟨c_, hv_⟩ := HA_HO199.out
     have hF_ := HO199.out
     rw [hv_] at hF_
     obtain ⟨ad_, ea_, hx_⟩ := Kd.at_int (Kd.R_reads' hF_).2.2 (rd y200 t203) (of_eq_true pi206) (of_eq_true qi206)
     cases ea_
     refine value_ (w1 := w') (v := .int .i64 (rd y197 (rd y200 t203))) (by rfl) rfl ?_ ?_
     · go_simp
       (try simp only [i64_w])
       try rfl
     refine hK.out _ _ ⟨v192, v198, adz_v198, v201, adz_v201, m9_, m11_, m13_, (by rw [ha.out]; exact putSel_upk 9 hb_ rfl rfl rfl), fun h0_ => absurd ((hon 1 (by kernel_rfl)).symm.trans h0_) (by decide), Q_HB, Q_HO193, fun _ h1_ => absurd ((hon 3 (by kernel_rfl)).symm.trans h1_) (by decide), fun _ h1_ => absurd ((hon 8 (by kernel_rfl)).symm.trans h1_) (by decide), Q_HO199, Q_HA_HO199, Q_HO202, Q_HA_HO202, Q_HI190_e8, Q_X9_, Q_X11_, Q_X13_⟩
   refine steps_cons ?_ ?_
   · rintro b a w' ⟨v192, v198, adz_v198, v201, adz_v201, m9_, m11_, m13_, ha, Q_HI190, Q_HB, Q_HO193, Q_HI190_e1, Q_HI190_e3, Q_HO199, Q_HA_HO199, Q_HO202, Q_HA_HO202, Q_HI190_e8, Q_X9_, Q_X11_, Q_X13_⟩ hb_ hon hoff
     refine ⟨_, rfl, fun K hK => ?_⟩
     have e8 : a.tmps[8]? = some (v192) := by rw [ha]; exact putSel_on (e := (1, 8, v192)) 0 rfl rfl (hon 1 (by kernel_rfl)) rfl
     replace ha := mk_ ha
     have HB := mk_ Q_HB
     have HO193 := mk_ (Q_HO193 (hon 1 (by kernel_rfl)))
     have HI190 := mk_ (Q_HI190_e8 (hon 8 (by kernel_rfl)))
     refine value_ (w1 := w') (v := v192) (by rfl) rfl ?_ ?_
     · go_simp
       (try simp only [i64_w])
       try rfl
     refine hK.out _ _ ⟨v192, v198, adz_v198, v201, adz_v201, m9_, m11_, (v192), (by rw [ha.out]; exact putSel_upk 10 hb_ rfl rfl rfl), fun h0_ => absurd ((hon 1 (by kernel_rfl)).symm.trans h0_) (by decide), Q_HB, Q_HO193, fun _ h1_ => absurd ((hon 3 (by kernel_rfl)).symm.trans h1_) (by decide), fun _ h1_ => absurd ((hon 8 (by kernel_rfl)).symm.trans h1_) (by decide), Q_HO199, Q_HA_HO199, Q_HO202, Q_HA_HO202, Q_HI190_e8, Q_X9_, Q_X11_, fun _ => rfl⟩
   refine steps_cons ?_ ?_
   · rintro b a w' ⟨v192, v198, adz_v198, v201, adz_v201, m9_, m11_, m13_, ha, Q_HI190, Q_HB, Q_HO193, Q_HI190_e1, Q_HI190_e3, Q_HO199, Q_HA_HO199, Q_HO202, Q_HA_HO202, Q_HI190_e8, Q_X9_, Q_X11_, Q_X13_⟩ hb_ hon hoff
     refine ⟨_, rfl, fun K hK => ?_⟩
     have e19 : a.tmps[19]? = some (.int .i64 (rd y197 (rd y200 t203))) := by rw [ha]; exact putSel_on (e := (12, 19, .int .i64 (rd y197 (rd y200 t203)))) 9 rfl rfl (hon 12 (by kernel_rfl)) rfl
     replace ha := mk_ ha
     have HB := mk_ Q_HB
     have HO193 := mk_ (Q_HO193 (hon 1 (by kernel_rfl)))
     have HO199 := mk_ (Q_HO199 (hon 5 (by kernel_rfl)))
     have HA_HO199 := mk_ (Q_HA_HO199 (hon 5 (by kernel_rfl)))
     have HO202 := mk_ (Q_HO202 (hon 6 (by kernel_rfl)))
     have HA_HO202 := mk_ (Q_HA_HO202 (hon 6 (by kernel_rfl)))
     have HI190 := mk_ (Q_HI190_e8 (hon 8 (by kernel_rfl)))
     refine value_ (w1 := w') (v := .int .i64 (rd y197 (rd y200 t203))) (by rfl) rfl ?_ ?_
     · go_simp
       (try simp only [i64_w])
       try rfl
     refine hK.out _ _ ⟨v192, v198, adz_v198, v201, adz_v201, m9_, m11_, m13_, (by rw [ha.out]; exact putSel_upk 11 hb_ rfl rfl rfl), fun h0_ => absurd ((hon 1 (by kernel_rfl)).symm.trans h0_) (by decide), Q_HB, Q_HO193, fun _ h1_ => absurd ((hon 3 (by kernel_rfl)).symm.trans h1_) (by decide), fun _ h1_ => absurd ((hon 8 (by kernel_rfl)).symm.trans h1_) (by decide), Q_HO199, Q_HA_HO199, Q_HO202, Q_HA_HO202, Q_HI190_e8, Q_X9_, Q_X11_, Q_X13_⟩
   exact steps_nil
 rintro b a w21 hall ⟨v192, v198, adz_v198, v201, adz_v201, m9_, m11_, m13_, ha, Q_HI190, Q_HB, Q_HO193, Q_HI190_e1, Q_HI190_e3, Q_HO199, Q_HA_HO199, Q_HO202, Q_HA_HO202, Q_HI190_e8, Q_X9_, Q_X11_, Q_X13_⟩
 clear HB HI190
 have hb1_ := hall 1 (by kernel_rfl)
 have hb3_ := hall 3 (by kernel_rfl)
 have hb4_ := hall 4 (by kernel_rfl)
 have hb5_ := hall 5 (by kernel_rfl)
 have hb6_ := hall 6 (by kernel_rfl)
 have hb8_ := hall 8 (by kernel_rfl)
 have hb9_ := hall 9 (by kernel_rfl)
 have hb10_ := hall 10 (by kernel_rfl)
 have hb11_ := hall 11 (by kernel_rfl)
 have hb12_ := hall 12 (by kernel_rfl)
 have hb13_ := hall 13 (by kernel_rfl)
 have hb14_ := hall 14 (by kernel_rfl)
 subst ha
 obtain rfl := Q_X9_ hb9_
 obtain rfl := Q_X11_ hb11_
 obtain rfl := Q_X13_ hb13_
 simp only [putSel, hb1_, hb3_, hb4_, hb5_, hb6_, hb8_, hb9_, hb10_, hb11_, hb12_, hb13_, hb14_, if_true, Act.put, List.setIfInBounds_toArray, List.set_cons_zero, List.set_cons_succ]
 clear Q_HI190
 have HB := mk_ Q_HB
 clear Q_HB
 have HO193 := mk_ (Q_HO193 hb1_)
 clear Q_HO193
 clear Q_HI190_e1
 clear Q_HI190_e3
 have HO199 := mk_ (Q_HO199 hb5_)
 clear Q_HO199
 have HA_HO199 := mk_ (Q_HA_HO199 hb5_)
 clear Q_HA_HO199
 have HO202 := mk_ (Q_HO202 hb6_)
 clear Q_HO202
 have HA_HO202 := mk_ (Q_HA_HO202 hb6_)
 clear Q_HA_HO202
 have HI190 := mk_ (Q_HI190_e8 hb8_)
 clear Q_HI190_e8
 clear hall hb1_ hb3_ hb4_ hb5_ hb6_ hb8_ hb9_ hb10_ hb11_ hb12_ hb13_ hb14_
 obtain ⟨co22, eo22⟩ := HA_HO199.out
 clear HA_HO199
 subst eo22
 obtain ⟨co23, eo23⟩ := HA_HO202.out
 clear HA_HO202
 subst eo23
 try go_wp2
 go_ret2
 exact ⟨_, by first | rfl | (simp [errW_none, errW_some] <;> rfl) | (simp [*, errW_none, errW_some] <;> rfl), by (with_reducible repeat (first | apply Kd.R_alloc | apply Kd.R_drewN | apply Kd.R_drew)); exact HO193.out, by repeat (first | (with_reducible first | exact HB.out | apply zq7 | apply zq8 | apply zq9 | refine zr1 ?_ (IsS113.ge HI190.out)) | exact HB.out)⟩

/-! ### laws_liBytes: function 28 -/
def laws_liBytes.l0 : Nat → List Int → List Int → Int → Option (Bool)
  | 0, _, _, _ => none
  | k + 1, x0, x1, x5 => if x5 < (x0.length : Int) then (if 0 ≤ x5 then (if x5 < (x1.length : Int) then (if (rd x0 x5) = (rd x1 x5) then (laws_liBytes.l0 k x0 x1 (wrap64 (x5 + 1))) else (some false)) else (none)) else (none)) else (some true)
def laws_liBytes.f (k : Nat) (l0 : List Int) (l1 : List Int) : Option (Bool) := if (l0.length : Int) = (l1.length : Int) then (laws_liBytes.l0 k l0 l1 0) else (some false)
theorem laws_liBytes.mono_l : ∀ k, (∀ y0 y1 y2, LeO (laws_liBytes.l0 k y0 y1 y2) (laws_liBytes.l0 (k + 1) y0 y1 y2))
  | 0 => fun _ _ _ r h => by simp [laws_liBytes.l0] at h
  | k + 1 => by
    have ih0 := laws_liBytes.mono_l k
    · intro y0 y1 y2
      unfold laws_liBytes.l0
      repeat' first
      | (with_reducible exact ih0 _ _ _)
      | (with_reducible exact LeO.refl _)
      | (with_reducible exact LeO.none _)
      | (with_reducible refine LeO.ite ?_ ?_)
      | (with_reducible refine LeO.bind ?_ (fun _ => ?_))
      | exact ih0 _ _ _
      | exact LeO.none _
      | refine LeO.ite ?_ ?_
      | refine LeO.bind ?_ (fun _ => ?_)
theorem laws_liBytes.mono : ∀ a0 a1 k, LeO (laws_liBytes.f k a0 a1) (laws_liBytes.f (k + 1) a0 a1) := by
 intro a0 a1 k
 have ih0 := laws_liBytes.mono_l k
 unfold laws_liBytes.f
 repeat' first
     | (with_reducible exact ih0 _ _ _)
     | (with_reducible exact LeO.refl _)
     | (with_reducible exact LeO.none _)
     | (with_reducible refine LeO.ite ?_ ?_)
     | (with_reducible refine LeO.bind ?_ (fun _ => ?_))
     | exact ih0 _ _ _
     | exact LeO.none _
     | refine LeO.ite ?_ ?_
     | refine LeO.bind ?_ (fun _ => ?_)
set_option maxHeartbeats 60000000 in
set_option maxRecDepth 100000 in
theorem laws_liBytes.calls (k : Nat) (A0 : Option Addr) (c0 : Nat) (l0 : List Int) (A1 : Option Addr) (c1 : Nat) (l1 : List Int) (r : Bool) (w : World) (hr0 : Kd.C (Kd.int .u8) w A0 l0.length l0) (hc0 : l0.length ≤ c0) (hr1 : Kd.C (Kd.int .u8) w A1 l1.length l1) (hc1 : l1.length ≤ c1) (h : laws_liBytes.f k l0 l1 = some r) :
    Calls Try.prog 28 #[.slice A0 l0.length c0, .slice A1 l1.length c1] w fun e w' => e = .returned (.bool r) ∧ Drawn0 w w' := by
 have HR0 := mk_ hr0
 have HC0 := mk_ hc0
 clear hr0 hc0
 have HR1 := mk_ hr1
 have HC1 := mk_ hc1
 clear hr1 hc1
 have H : (if (l0.length : Int) = (l1.length : Int) then (laws_liBytes.l0 k l0 l1 0) else (some false)) = some r := h
 clear h
 by_cases c3 : (l0.length : Int) = (l1.length : Int)
 rotate_left
 · rw [if_neg c3] at H
   have c3b0 : ((l0.length : Int) == (l1.length : Int)) = false := beq_eq_false_iff_ne.mpr c3
   have c3b1 : ((l0.length : Int) != (l1.length : Int)) = true := bne_iff_ne.mpr c3
   have c3b2 : (l0.length == l1.length) = false := by first | simpa using c3 | (simp at c3 ⊢; omega)
   obtain rfl := Option.some.inj H
   go_enter Try.func28, Try.ntmps28
   go_wp2
   repeat (go_quiet (fail); try go_wp2)
   go_ret
   exact ⟨by first | rfl | (simp; done) | (simp [*]; done), by repeat (first | exact Drawn0.refl _ | apply Drawn0.step)⟩
 rw [if_pos c3] at H
 have c3b0 : ((l0.length : Int) == (l1.length : Int)) = true := beq_iff_eq.mpr c3
 have c3b1 : ((l0.length : Int) != (l1.length : Int)) = false := bne_eq_false_iff_eq.mpr c3
 have c3b2 : (l0.length == l1.length) = true := by first | simpa using c3 | (simp at c3 ⊢; omega)
 clear c3
 have H' := mk_ H
 clear H
 go_enter Try.func28, Try.ntmps28
 go_wp2
 repeat (go_quiet (fail); try go_wp2)
 go_loopg [5] k (fun kq v5 w' => ∃ (x5_1 : Int), v5 = .int .i64 x5_1 ∧ Aside0 (laws_liBytes.l0 kq l0 l1 x5_1 = some r) ∧ Aside0 (kq ≤ k) ∧ Drawn0 w w')
 case atStart => exact ⟨(0), (by first | rfl | (simp; done) | (simp [*]; done)), H', ⟨Nat.le_refl _⟩, by repeat (first | exact Drawn0.refl _ | apply Drawn0.step)⟩
 case round =>
   clear H'
   try clear c1
   try clear c2
   try clear p2
   try clear c3
   try clear c3b0
   try clear c3b1
   try clear c3b2
   obtain ⟨x5_1, rfl, HA, HK1, ⟨m1, rfl⟩⟩ := hrel
   cases gk with
   | zero => exact absurd HA.out (by simp [laws_liBytes.l0])
   | succ k1 =>
     have H := HA.out
     clear HA
     simp only [laws_liBytes.l0] at H
     by_cases c4 : x5_1 < (l0.length : Int)
     rotate_left
     · rw [if_neg c4] at H
       have c4b0 : decide (x5_1 < (l0.length : Int)) = false := decide_eq_false c4
       clear c4
       obtain rfl := Option.some.inj H
       go_wp2
       repeat (go_quiet (fail); try go_wp2)
       go_ret
       exact ⟨by first | rfl | (simp; done) | (simp [*]; done), by repeat (first | exact Drawn0.refl _ | apply Drawn0.step)⟩
     rw [if_pos c4] at H
     have c4b0 : decide (x5_1 < (l0.length : Int)) = true := decide_eq_true c4
     clear c4
     by_cases c5 : 0 ≤ x5_1
     rotate_left
     · rw [if_neg c5] at H
       exact absurd H (by simp)
     rw [if_pos c5] at H
     have c5b0 : decide (0 ≤ x5_1) = true := decide_eq_true c5
     clear c5
     by_cases c6 : x5_1 < (l1.length : Int)
     rotate_left
     · rw [if_neg c6] at H
       exact absurd H (by simp)
     rw [if_pos c6] at H
     have c6b0 : decide (x5_1 < (l1.length : Int)) = true := decide_eq_true c6
     clear c6
     by_cases c7 : (rd l0 x5_1) = (rd l1 x5_1)
     rotate_left
     · rw [if_neg c7] at H
       have c7b0 : ((rd l0 x5_1) == (rd l1 x5_1)) = false := beq_eq_false_iff_ne.mpr c7
       have c7b1 : ((rd l0 x5_1) != (rd l1 x5_1)) = true := bne_iff_ne.mpr c7
       obtain rfl := Option.some.inj H
       have p207 : 0 ≤ (x5_1 : Int) := of_decide_eq_true (by first | (with_reducible assumption) | assumption)
       have q207 : x5_1 < (l0.length : Int) := of_decide_eq_true (by first | (with_reducible assumption) | assumption)
       obtain ⟨ad207, e207, hx207_0⟩ := Kd.at_int HR0.out x5_1 p207 q207
       cases e207
       replace p207 := eq_true p207
       replace q207 := eq_true q207
       have p208 : 0 ≤ (x5_1 : Int) := of_decide_eq_true (by first | (with_reducible assumption) | assumption)
       have q208 : x5_1 < (l1.length : Int) := of_decide_eq_true (by first | (with_reducible assumption) | assumption)
       obtain ⟨ad208, e208, hx208_0⟩ := Kd.at_int HR1.out x5_1 p208 q208
       cases e208
       replace p208 := eq_true p208
       replace q208 := eq_true q208
       go_wp2
       repeat (go_quiet (fail); try go_wp2)
       go_ret
       exact ⟨by first | rfl | (simp; done) | (simp [*]; done), by repeat (first | exact Drawn0.refl _ | apply Drawn0.step)⟩
     rw [if_pos c7] at H
     have c7b0 : ((rd l0 x5_1) == (rd l1 x5_1)) = true := beq_iff_eq.mpr c7
     have c7b1 : ((rd l0 x5_1) != (rd l1 x5_1)) = false := bne_eq_false_iff_eq.mpr c7
     clear c7
     have H' := mk_ H
     clear H
     have p207 : 0 ≤ (x5_1 : Int) := of_decide_eq_true (by first | (with_reducible assumption) | assumption)
     have q207 : x5_1 < (l0.length : Int) := of_decide_eq_true (by first | (with_reducible assumption) | assumption)
     obtain ⟨ad207, e207, hx207_0⟩ := Kd.at_int HR0.out x5_1 p207 q207
     cases e207
     replace p207 := eq_true p207
     replace q207 := eq_true q207
     have p208 : 0 ≤ (x5_1 : Int) := of_decide_eq_true (by first | (with_reducible assumption) | assumption)
     have q208 : x5_1 < (l1.length : Int) := of_decide_eq_true (by first | (with_reducible assumption) | assumption)
     obtain ⟨ad208, e208, hx208_0⟩ := Kd.at_int HR1.out x5_1 p208 q208
     cases e208
     replace p208 := eq_true p208
     replace q208 := eq_true q208
     go_wp2
     repeat (go_quiet (fail); try go_wp2)
     go_roundg k1
     case measure => have := HK1.out; omega
     case rel => exact ⟨(wrap64 (x5_1 + 1)), (by first | rfl | (simp; done) | (simp [*]; done)), H', ⟨by have := HK1.out; omega⟩, by repeat (first | exact Drawn0.refl _ | apply Drawn0.step)⟩

/-! ### laws_liPart: function 71 -/
def laws_liPart.f (k : Nat) (a0_0 : Int) (a0_1 : Int) (l0_2 : List Int) (a1_0 : Int) (a1_1 : Int) (l1_2 : List Int) : Option (Bool) := if a0_0 = a1_0 then (if a0_1 = a1_1 then ((laws_liBytes.f k l0_2 l1_2).bind fun t211 => (some t211)) else (some false)) else (some false)
theorem laws_liPart.mono : ∀ a0 a1 a2 a3 a4 a5 k, LeO (laws_liPart.f k a0 a1 a2 a3 a4 a5) (laws_liPart.f (k + 1) a0 a1 a2 a3 a4 a5) := by
 intro a0 a1 a2 a3 a4 a5 k
 unfold laws_liPart.f
 repeat' first
     | (with_reducible exact laws_liBytes.mono _ _ _)
     | (with_reducible exact LeO.refl _)
     | (with_reducible exact LeO.none _)
     | (with_reducible refine LeO.ite ?_ ?_)
     | (with_reducible refine LeO.bind ?_ (fun _ => ?_))
     | exact laws_liBytes.mono _ _ _
     | exact LeO.none _
     | refine LeO.ite ?_ ?_
     | refine LeO.bind ?_ (fun _ => ?_)
set_option maxHeartbeats 60000000 in
set_option maxRecDepth 100000 in
theorem laws_liPart.calls (k : Nat) (a0_0 : Int) (a0_1 : Int) (A0_2 : Option Addr) (c0_2 : Nat) (l0_2 : List Int) (a1_0 : Int) (a1_1 : Int) (A1_2 : Option Addr) (c1_2 : Nat) (l1_2 : List Int) (r : Bool) (w : World) (hr0_2 : Kd.C (Kd.int .u8) w A0_2 l0_2.length l0_2) (hc0_2 : l0_2.length ≤ c0_2) (hr1_2 : Kd.C (Kd.int .u8) w A1_2 l1_2.length l1_2) (hc1_2 : l1_2.length ≤ c1_2) (h : laws_liPart.f k a0_0 a0_1 l0_2 a1_0 a1_1 l1_2 = some r) :
    Calls Try.prog 71 #[.agg #[.int .i64 a0_0, .int .i64 a0_1, .slice A0_2 l0_2.length c0_2], .agg #[.int .i64 a1_0, .int .i64 a1_1, .slice A1_2 l1_2.length c1_2]] w fun e w' => e = .returned (.bool r) ∧ Below w.heap.size w w' := by
 have hu39 := Try.underlying39
 have HR0_2 := mk_ hr0_2
 have HC0_2 := mk_ hc0_2
 clear hr0_2 hc0_2
 have HR1_2 := mk_ hr1_2
 have HC1_2 := mk_ hc1_2
 clear hr1_2 hc1_2
 have HB := mk_ (Below.refl w.heap.size w)
 have H : (if a0_0 = a1_0 then (if a0_1 = a1_1 then ((laws_liBytes.f k l0_2 l1_2).bind fun t211 => (some t211)) else (some false)) else (some false)) = some r := h
 clear h
 by_cases c3 : a0_0 = a1_0
 rotate_left
 · rw [if_neg c3] at H
   have c3b0 : (a0_0 == a1_0) = false := beq_eq_false_iff_ne.mpr c3
   have c3b1 : (a0_0 != a1_0) = true := bne_iff_ne.mpr c3
   obtain rfl := Option.some.inj H
   go_enter Try.func71, Try.ntmps71
   go_wp2_with (first | ((with_reducible refine gate_dst (N := 2) rfl ?_); refine box_event ?hg (N := 2) ?hd (cs := #[.int .i64 a0_0, .int .i64 a0_1, .slice A0_2 l0_2.length c0_2]) (t := 39) ?hr ?_; (case hd => rfl); (case hg => rfl); (case hr => first | (go_simp; done) | (go_simp; rfl)); intro gb209 hg w16 hbox hb; have BK209 := mk_ (hbox); have GW209 := mk_ ((by rw [hg]; exact (zr2 (by repeat (first | (with_reducible first | exact HB.out | apply zq7 | apply zq8 | apply zq9) | exact HB.out))) : w.heap.size ≤ gb209)); have GE209 := GW209; replace HB := mk_ (zr3 (by repeat (first | (with_reducible first | exact HB.out | apply zq7 | apply zq8 | apply zq9) | exact HB.out)) hb); clear hb hbox hg) | ((with_reducible refine gate_dst (N := 3) rfl ?_); refine box_event ?hg (N := 3) ?hd (cs := #[.int .i64 a1_0, .int .i64 a1_1, .slice A1_2 l1_2.length c1_2]) (t := 39) ?hr ?_; (case hd => rfl); (case hg => rfl); (case hr => first | (go_simp; done) | (go_simp; rfl)); intro gb210 hg w17 hbox hb; have BK210 := mk_ (hbox); have GW210 := mk_ ((by rw [hg]; exact (zr2 (by repeat (first | (with_reducible first | exact HB.out | apply zq7 | apply zq8 | apply zq9 | refine zr1 ?_ GE209.out) | exact HB.out))) : w.heap.size ≤ gb210)); have GE210 := GW210; replace HB := mk_ (zr3 (by repeat (first | (with_reducible first | exact HB.out | apply zq7 | apply zq8 | apply zq9 | refine zr1 ?_ GE209.out) | exact HB.out)) hb); have NB209_210 := mk_ ((by rw [hg]; exact zm2 (zr6 (by exact BK209.out)) : gb209 ≠ gb210)); replace BK209 := mk_ (zq6 (by exact BK209.out) hb); have NB210_209 := mk_ NB209_210.out.symm; clear hb hbox hg; have hnb18 := NB209_210.out; have hnc18 := NB210_209.out; obtain ⟨hcz19_0, hcz19_1, hcz19_2⟩ := cz3 BK209.out; obtain ⟨hfz19_0, hfz19_1, hfz19_2⟩ := fz3 BK209.out; obtain ⟨hcz20_0, hcz20_1, hcz20_2⟩ := cz3 BK210.out; obtain ⟨hfz20_0, hfz20_1, hfz20_2⟩ := fz3 BK210.out))
   go_ret
   exact ⟨by first | rfl | (simp [errW_none, errW_some] <;> rfl) | (simp [*, errW_none, errW_some] <;> rfl), by repeat (first | (with_reducible first | exact HB.out | apply zq7 | apply zq8 | apply zq9 | refine zr1 ?_ GE209.out | refine zr1 ?_ GE210.out) | exact HB.out)⟩
 rw [if_pos c3] at H
 have c3b0 : (a0_0 == a1_0) = true := beq_iff_eq.mpr c3
 have c3b1 : (a0_0 != a1_0) = false := bne_eq_false_iff_eq.mpr c3
 clear c3
 by_cases c4 : a0_1 = a1_1
 rotate_left
 · rw [if_neg c4] at H
   have c4b0 : (a0_1 == a1_1) = false := beq_eq_false_iff_ne.mpr c4
   have c4b1 : (a0_1 != a1_1) = true := bne_iff_ne.mpr c4
   obtain rfl := Option.some.inj H
   go_enter Try.func71, Try.ntmps71
   go_wp2_with (first | ((with_reducible refine gate_dst (N := 2) rfl ?_); refine box_event ?hg (N := 2) ?hd (cs := #[.int .i64 a0_0, .int .i64 a0_1, .slice A0_2 l0_2.length c0_2]) (t := 39) ?hr ?_; (case hd => rfl); (case hg => rfl); (case hr => first | (go_simp; done) | (go_simp; rfl)); intro gb209 hg w11 hbox hb; have BK209 := mk_ (hbox); have GW209 := mk_ ((by rw [hg]; exact (zr2 (by repeat (first | (with_reducible first | exact HB.out | apply zq7 | apply zq8 | apply zq9) | exact HB.out))) : w.heap.size ≤ gb209)); have GE209 := GW209; replace HB := mk_ (zr3 (by repeat (first | (with_reducible first | exact HB.out | apply zq7 | apply zq8 | apply zq9) | exact HB.out)) hb); clear hb hbox hg) | ((with_reducible refine gate_dst (N := 3) rfl ?_); refine box_event ?hg (N := 3) ?hd (cs := #[.int .i64 a1_0, .int .i64 a1_1, .slice A1_2 l1_2.length c1_2]) (t := 39) ?hr ?_; (case hd => rfl); (case hg => rfl); (case hr => first | (go_simp; done) | (go_simp; rfl)); intro gb210 hg w12 hbox hb; have BK210 := mk_ (hbox); have GW210 := mk_ ((by rw [hg]; exact (zr2 (by repeat (first | (with_reducible first | exact HB.out | apply zq7 | apply zq8 | apply zq9 | refine zr1 ?_ GE209.out) | exact HB.out))) : w.heap.size ≤ gb210)); have GE210 := GW210; replace HB := mk_ (zr3 (by repeat (first | (with_reducible first | exact HB.out | apply zq7 | apply zq8 | apply zq9 | refine zr1 ?_ GE209.out) | exact HB.out)) hb); have NB209_210 := mk_ ((by rw [hg]; exact zm2 (zr6 (by exact BK209.out)) : gb209 ≠ gb210)); replace BK209 := mk_ (zq6 (by exact BK209.out) hb); have NB210_209 := mk_ NB209_210.out.symm; clear hb hbox hg; have hnb13 := NB209_210.out; have hnc13 := NB210_209.out; obtain ⟨hcz14_0, hcz14_1, hcz14_2⟩ := cz3 BK209.out; obtain ⟨hfz14_0, hfz14_1, hfz14_2⟩ := fz3 BK209.out; obtain ⟨hcz15_0, hcz15_1, hcz15_2⟩ := cz3 BK210.out; obtain ⟨hfz15_0, hfz15_1, hfz15_2⟩ := fz3 BK210.out))
   go_ret
   exact ⟨by first | rfl | (simp [errW_none, errW_some] <;> rfl) | (simp [*, errW_none, errW_some] <;> rfl), by repeat (first | (with_reducible first | exact HB.out | apply zq7 | apply zq8 | apply zq9 | refine zr1 ?_ GE209.out | refine zr1 ?_ GE210.out) | exact HB.out)⟩
 rw [if_pos c4] at H
 have c4b0 : (a0_1 == a1_1) = true := beq_iff_eq.mpr c4
 have c4b1 : (a0_1 != a1_1) = false := bne_eq_false_iff_eq.mpr c4
 clear c4
 replace H := Option.bind_eq_some_iff.mp H
 obtain ⟨t211, A50, H⟩ := H
 try dsimp only at H
 have A5 := mk_ A50
 clear A50
 obtain rfl := Option.some.inj H
 go_enter Try.func71, Try.ntmps71
 go_wp2_with (first | (go_at_call 28; (with_reducible refine (laws_liBytes.calls k _ _ l0_2 _ _ l1_2 t211 _ ?side1 ?side2 ?side3 ?side4 A5.out).mono ?_); (case side1 => repeat (first | exact (Kd.C_below HR0_2.out HB.out) | (with_reducible refine Kd.C_alloc ?_ _) | (with_reducible refine Kd.C_drewN ?_ _) | (with_reducible refine Kd.C_drew ?_))); (case side2 => exact HC0_2.out); (case side3 => repeat (first | exact (Kd.C_below HR1_2.out HB.out) | (with_reducible refine Kd.C_alloc ?_ _) | (with_reducible refine Kd.C_drewN ?_ _) | (with_reducible refine Kd.C_drew ?_))); (case side4 => exact HC1_2.out); rintro e w' ⟨rfl, ⟨nd, rfl⟩⟩) | ((with_reducible refine gate_dst (N := 2) rfl ?_); refine box_event ?hg (N := 2) ?hd (cs := #[.int .i64 a0_0, .int .i64 a0_1, .slice A0_2 l0_2.length c0_2]) (t := 39) ?hr ?_; (case hd => rfl); (case hg => rfl); (case hr => first | (go_simp; done) | (go_simp; rfl)); intro gb209 hg w6 hbox hb; have BK209 := mk_ (hbox); have GW209 := mk_ ((by rw [hg]; exact (zr2 (by repeat (first | (with_reducible first | exact HB.out | apply zq7 | apply zq8 | apply zq9) | exact HB.out))) : w.heap.size ≤ gb209)); have GE209 := GW209; replace HB := mk_ (zr3 (by repeat (first | (with_reducible first | exact HB.out | apply zq7 | apply zq8 | apply zq9) | exact HB.out)) hb); clear hb hbox hg) | ((with_reducible refine gate_dst (N := 3) rfl ?_); refine box_event ?hg (N := 3) ?hd (cs := #[.int .i64 a1_0, .int .i64 a1_1, .slice A1_2 l1_2.length c1_2]) (t := 39) ?hr ?_; (case hd => rfl); (case hg => rfl); (case hr => first | (go_simp; done) | (go_simp; rfl)); intro gb210 hg w7 hbox hb; have BK210 := mk_ (hbox); have GW210 := mk_ ((by rw [hg]; exact (zr2 (by repeat (first | (with_reducible first | exact HB.out | apply zq7 | apply zq8 | apply zq9 | refine zr1 ?_ GE209.out) | exact HB.out))) : w.heap.size ≤ gb210)); have GE210 := GW210; replace HB := mk_ (zr3 (by repeat (first | (with_reducible first | exact HB.out | apply zq7 | apply zq8 | apply zq9 | refine zr1 ?_ GE209.out) | exact HB.out)) hb); have NB209_210 := mk_ ((by rw [hg]; exact zm2 (zr6 (by exact BK209.out)) : gb209 ≠ gb210)); replace BK209 := mk_ (zq6 (by exact BK209.out) hb); have NB210_209 := mk_ NB209_210.out.symm; clear hb hbox hg; have hnb8 := NB209_210.out; have hnc8 := NB210_209.out; obtain ⟨hcz9_0, hcz9_1, hcz9_2⟩ := cz3 BK209.out; obtain ⟨hfz9_0, hfz9_1, hfz9_2⟩ := fz3 BK209.out; obtain ⟨hcz10_0, hcz10_1, hcz10_2⟩ := cz3 BK210.out; obtain ⟨hfz10_0, hfz10_1, hfz10_2⟩ := fz3 BK210.out))
 go_ret
 exact ⟨by first | rfl | (simp [errW_none, errW_some] <;> rfl) | (simp [*, errW_none, errW_some] <;> rfl), by repeat (first | (with_reducible first | exact HB.out | apply zq7 | apply zq8 | apply zq9 | refine zr1 ?_ GE209.out | refine zr1 ?_ GE210.out) | exact HB.out)⟩

end Go.Proofs.Yteknaofnageihaa.QFnSegCut
