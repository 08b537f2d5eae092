-- Written by a program of this session, a turned copy of the print (not by print.sh itself). Lean checks it.
import Derived.Test.YteknaofnageihaaQFnExactSegCutx0
import Derived.Test.YteknaofnageihaaQFnExactSegCutx4
import Derived.Test.YteknaofnageihaaQFnExactSegCutx5
import Derived.Test.YteknaofnageihaaQFnExactSegCutx6
namespace Go.Proofs.Yteknaofnageihaa.QFnExactSegCut
open Go.RowKit Go.Proofs.YteknaofnageihaaW.PrintWords Go.Proofs.YteknaofnageihaaW.PrintLast Go.Proofs.YteknaofnageihaaW.PrintMore Go.Proofs.YteknaofnageihaaLoc
attribute [local go_sem] max2_int min2_int max_two min_two max_three min_three max_four min_four   -- for this text's walks alone
set_option linter.unusedVariables false
set_option linter.unusedSimpArgs false

/-! ### impl_SegCut: function 17 -/
mutual
def impl_SegCut.j0 : Nat → List Int → Int → Int → Bool → Option ((List (S39)))
  | 0, _, _, _, _ => none
  | k + 1, x0, x1, x5, x17 => if x17 = true then (some ([] : List (S39))) else (if x5 ≤ x1 then ((impl_clone_byte.f x0).bind fun t146 => (some (([(⟨0, x5, t146⟩ : S39)] : List (S39))))) else (impl_SegCut.l0 k x0 x1 x5 ([] : List (S39)) 0))
def impl_SegCut.l0 : Nat → List Int → Int → Int → List (S39) → Int → Option ((List (S39)))
  | 0, _, _, _, _, _ => none
  | k + 1, x0, x1, x5, x6, x7 => if x7 < x5 then (if 0 ≤ x7 then (if x7 ≤ (mn x5 (wrap64 (x7 + x1))) then (if (mn x5 (wrap64 (x7 + x1))) ≤ (x0.length : Int) then ((impl_clone_byte.f ((x0.take ((mn x5 (wrap64 (x7 + x1))) : Int).toNat).drop (x7 : Int).toNat)).bind fun t156 => (if x7 = 0 then (if x6.length < 3518437208883 then (impl_SegCut.l0 k x0 x1 x5 (x6 ++ [(⟨1, x5, t156⟩ : S39)]) (wrap64 (x7 + x1))) else (none)) else (if (wrap64 (x7 + x1)) ≥ x5 then (if x6.length < 3518437208883 then (impl_SegCut.l0 k x0 x1 x5 (x6 ++ [(⟨3, 0, t156⟩ : S39)]) (wrap64 (x7 + x1))) else (none)) else (if x6.length < 3518437208883 then (impl_SegCut.l0 k x0 x1 x5 (x6 ++ [(⟨2, 0, t156⟩ : S39)]) (wrap64 (x7 + x1))) else (none))))) else (none)) else (none)) else (none)) else ((impl_SegPart.f x6).bind fun t152 => (some t152))
end
def impl_SegCut.f (k : Nat) (l0 : List Int) (a1 : Int) : Option ((List (S39))) := if (l0.length : Int) > 24 then (impl_SegCut.j0 k l0 a1 (l0.length : Int) true) else ((impl_in.f a1 1 8).bind fun t145 => (impl_SegCut.j0 k l0 a1 (l0.length : Int) (!t145)))
theorem impl_SegCut.mono_l : ∀ k, (∀ y0 y1 y2 y3, LeO (impl_SegCut.j0 k y0 y1 y2 y3) (impl_SegCut.j0 (k + 1) y0 y1 y2 y3)) ∧ (∀ y0 y1 y2 y3 y4, LeO (impl_SegCut.l0 k y0 y1 y2 y3 y4) (impl_SegCut.l0 (k + 1) y0 y1 y2 y3 y4))
  | 0 => ⟨fun _ _ _ _ r h => by simp [impl_SegCut.j0] at h, fun _ _ _ _ _ r h => by simp [impl_SegCut.l0] at h⟩
  | k + 1 => by
    obtain ⟨ih0, ih1⟩ := impl_SegCut.mono_l k
    refine ⟨?_, ?_⟩
    · intro y0 y1 y2 y3
      unfold impl_SegCut.j0
      repeat' first
      | (with_reducible exact ih0 _ _ _ _)
      | (with_reducible exact ih1 _ _ _ _ _)
      | (with_reducible exact LeO.refl _)
      | (with_reducible exact LeO.none _)
      | (with_reducible refine LeO.ite ?_ ?_)
      | (with_reducible refine LeO.bind ?_ (fun _ => ?_))
      | exact ih0 _ _ _ _
      | exact ih1 _ _ _ _ _
      | exact LeO.none _
      | refine LeO.ite ?_ ?_
      | refine LeO.bind ?_ (fun _ => ?_)
    · intro y0 y1 y2 y3 y4
      unfold impl_SegCut.l0
      repeat' first
      | (with_reducible exact ih0 _ _ _ _)
      | (with_reducible exact ih1 _ _ _ _ _)
      | (with_reducible exact LeO.refl _)
      | (with_reducible exact LeO.none _)
      | (with_reducible refine LeO.ite ?_ ?_)
      | (with_reducible refine LeO.bind ?_ (fun _ => ?_))
      | exact ih0 _ _ _ _
      | exact ih1 _ _ _ _ _
      | exact LeO.none _
      | refine LeO.ite ?_ ?_
      | refine LeO.bind ?_ (fun _ => ?_)
theorem impl_SegCut.mono : ∀ a0 a1 k, LeO (impl_SegCut.f k a0 a1) (impl_SegCut.f (k + 1) a0 a1) := by
 intro a0 a1 k
 obtain ⟨ih0, ih1⟩ := impl_SegCut.mono_l k
 unfold impl_SegCut.f
 repeat' first
     | (with_reducible exact ih0 _ _ _ _)
     | (with_reducible exact ih1 _ _ _ _ _)
     | (with_reducible exact LeO.refl _)
     | (with_reducible exact LeO.none _)
     | (with_reducible refine LeO.ite ?_ ?_)
     | (with_reducible refine LeO.bind ?_ (fun _ => ?_))
     | exact ih0 _ _ _ _
     | exact ih1 _ _ _ _ _
     | exact LeO.none _
     | refine LeO.ite ?_ ?_
     | refine LeO.bind ?_ (fun _ => ?_)
set_option maxHeartbeats 60000000 in
set_option maxRecDepth 100000 in
theorem impl_SegCut.calls (k : Nat) (A0 : Option Addr) (c0 : Nat) (l0 : List Int) (a1 : Int) (r : List (S39)) (w : World) (hr0 : Kd.C (Kd.int .u8) w A0 l0.length l0) (hc0 : l0.length ≤ c0) (h : impl_SegCut.f k l0 a1 = some r) :
    Calls Try.prog 17 #[.slice A0 l0.length c0, .int .i64 a1] w fun e w' => ∃ v0_ : Value, e = .returned (v0_) ∧ C39 w' w.heap.size (fun k_ => (w.heap.size ≤ k_)) v0_ r ∧ Below w.heap.size w w' := by
  have hu39 := Try.underlying39
  have HR0 := mk_ hr0
  have HC0 := mk_ hc0
  clear hr0 hc0
  have HB := mk_ (Below.refl w.heap.size w)
  have H : (if (l0.length : Int) > 24 then (impl_SegCut.j0 k l0 a1 (l0.length : Int) true) else ((impl_in.f a1 1 8).bind fun t145 => (impl_SegCut.j0 k l0 a1 (l0.length : Int) (!t145)))) = some r := h
  clear h
  have HC3 := mk_ H
  clear H
  go_enter Try.func17, Try.ntmps17
  go_upto_region 2 with (fail)
  go_cut [17] (fun v17 wc => ∃ (kq : Nat) (x17_2 : Bool), v17 = .bool x17_2 ∧ Aside0 (impl_SegCut.j0 kq l0 a1 (l0.length : Int) x17_2 = some r) ∧ Aside0 (kq ≤ k) ∧ Aside0 (Below w.heap.size w wc))
  case first =>
    have H := HC3.out
    clear HC3
    by_cases c4 : (l0.length : Int) > 24
    · rw [if_pos c4] at H
      have c4b0 : decide (24 < (l0.length : Int)) = true := decide_eq_true c4
      have c4b1 : decide (24 < l0.length) = true := decide_eq_true (by omega)
      clear c4
      (first | rw [c4b0] | (simp only [i64_w, i32_w]; rw [c4b0]) | skip)
      have H' := mk_ H
      clear H
      go_wp2
      go_meet
      case rel => exact ⟨_, (true), (by first | rfl | (simp; done) | (simp [*]; done)), H', ⟨by first | omega | exact Nat.le_refl _⟩, ⟨by repeat (first | (with_reducible first | exact HB.out | apply zq7 | apply zq8 | apply zq9) | exact HB.out)⟩⟩
    · rw [if_neg c4] at H
      have c4b0 : decide (24 < (l0.length : Int)) = false := decide_eq_false c4
      have c4b1 : decide (24 < l0.length) = false := decide_eq_false (by omega)
      clear c4
      (first | rw [c4b0] | (simp only [i64_w, i32_w]; rw [c4b0]) | skip)
      replace H := Option.bind_eq_some_iff.mp H
      obtain ⟨t145, A50, H⟩ := H
      try dsimp only at H
      have A5 := mk_ A50
      clear A50
      have H' := mk_ H
      clear H
      go_wp2_with (first | (go_at_call 65; (with_reducible refine (impl_in.calls a1 1 8 t145 _ A5.out).mono ?_); rintro e w' ⟨rfl, ⟨nd, rfl⟩⟩))
      go_meet
      case rel => exact ⟨_, (!t145), (by first | rfl | (simp; done) | (simp [*]; done)), H', ⟨by first | omega | exact Nat.le_refl _⟩, ⟨by repeat (first | (with_reducible first | exact HB.out | apply zq7 | apply zq8 | apply zq9) | exact HB.out)⟩⟩
  case rest =>
    clear HC3
    try clear c1
    try clear p2
    try clear c4
    try clear c4b0
    try clear c4b1
    obtain ⟨kq, x17_2, rfl, HA, HJ2, HB⟩ := hcut
    cases kq with
    | zero => exact absurd HA.out (by simp [impl_SegCut.j0])
    | succ kj2 =>
      have H := HA.out
      clear HA
      simp only [impl_SegCut.j0] at H
      by_cases c6 : x17_2 = true
      · subst c6
        have H1 : (some ([] : List (S39))) = some r := by rw [if_pos rfl] at H; exact H
        clear H
        have H := H1
        clear H1
        obtain rfl := Option.some.inj H
        go_wp2
        go_ret
        exact ⟨_, by first | rfl | (simp [errW_none, errW_some] <;> rfl) | (simp [*, errW_none, errW_some] <;> rfl), PN_PC (PN_nil _ _ _ _ _ _ _), by repeat (first | (with_reducible first | exact HB.out | apply zq7 | apply zq8 | apply zq9) | exact HB.out)⟩
      · replace c6 := Bool.eq_false_iff.mpr c6
        subst c6
        have H1 : (if (l0.length : Int) ≤ a1 then ((impl_clone_byte.f l0).bind fun t146 => (some (([(⟨0, (l0.length : Int), t146⟩ : S39)] : List (S39))))) else (impl_SegCut.l0 kj2 l0 a1 (l0.length : Int) ([] : List (S39)) 0)) = some r := by rw [if_neg (show ¬ (false = true) by decide)] at H; exact H
        clear H
        have H := H1
        clear H1
        by_cases c7 : (l0.length : Int) ≤ a1
        · rw [if_pos c7] at H
          have c7b0 : decide ((l0.length : Int) ≤ a1) = true := decide_eq_true c7
          clear c7
          replace H := Option.bind_eq_some_iff.mp H
          obtain ⟨t146, A80, H⟩ := H
          try dsimp only at H
          have A8 := mk_ A80
          clear A80
          obtain ⟨y149, hy149⟩ : ∃ y_ : List (S39), y_ = (([(⟨0, (l0.length : Int), t146⟩ : S39)] : List (S39))) := ⟨_, rfl⟩
          replace H : (some y149) = some r := by first | (rw [hy149]; with_reducible exact H) | (have H2_ := (Option.bind_some _ _).symm.trans H; rw [hy149]; with_reducible exact H2_) | (have H2_ := (Option.bind_some _ _).symm.trans H; with_reducible exact H2_) | with_reducible exact H | (rw [hy149]; exact H) | exact H
          have Ny149 := mk_ hy149
          clear hy149
          obtain rfl := Option.some.inj H
          go_wp2_with (first | ((with_reducible refine gate_callee (f := 66) rfl ?_); refine goesL_ (some 23) rfl rfl Try.func66 (by kernel_rfl) rfl #[.slice A0 l0.length c0] rfl (by (try simp only [List.map_toArray, List.map_cons, List.map_nil]); first | done | rfl | (simp only [List.length_drop, List.length_take]; rfl)) ?_; (with_reducible refine (impl_clone_byte.calls _ _ l0 t146 _ ?side1 ?side2 A8.out).mono ?_); (case side1 => repeat (first | exact (Kd.C_below HR0.out HB.out) | (with_reducible refine Kd.C_alloc ?_ _) | (with_reducible refine Kd.C_drewN ?_ _) | (with_reducible refine Kd.C_drew ?_))); (case side2 => exact HC0.out); rintro e w9 ⟨v147, rfl, ho0, hb⟩; refine ⟨_, rfl, ?_⟩; have HO148 := mk_ (RR_lower (RR_newM (M := fun k_ => (w.heap.size ≤ k_)) ho0 (zr2 (by repeat (first | (with_reducible first | exact HB.out | apply zq7 | apply zq8 | apply zq9) | exact HB.out))) (fun k_ h_ => h_)) (zr2 (by repeat (first | (with_reducible first | exact HB.out | apply zq7 | apply zq8 | apply zq9) | exact HB.out)))); replace HB := mk_ (zr3 (by repeat (first | (with_reducible first | exact HB.out | apply zq7 | apply zq8 | apply zq9) | exact HB.out)) hb); (try clear hb); (try clear hb2); (try clear hk); (try clear hi); (try clear ho0); obtain ⟨Ao10, co10, eo10⟩ := RR_slice HO148.out; subst eo10) | ((with_reducible refine gate_dst (N := 25) rfl ?_); refine PN_lit (enc := enc39) (dat := fun x : S39 => x.f2) (sz := 3) (u := .slice Ao10 t146.length co10) w.heap.size 39 ?hg (N' := 25) ?hd (p := (⟨0, (l0.length : Int), t146⟩ : S39)) (inner := [.int .i64 0, .int .i64 (l0.length : Int), .slice Ao10 t146.length co10]) (ok := (fun k_ => (w.heap.size ≤ k_))) (okp := (fun k_ => (w.heap.size ≤ k_))) ?hr rfl ⟨rfl, rfl, by intro q hq; simp only [List.mem_cons, List.not_mem_nil, or_false] at hq; rcases hq with rfl | rfl | rfl <;> rfl⟩ ?hp (fun _ hk => hk) ((show ∀ k_, w9.heap.size ≤ k_ → (fun k_ => (w.heap.size ≤ k_)) k_ from fun k_ hk => (Nat.le_trans (zr2 (by repeat (first | (with_reducible first | exact HB.out | apply zq7 | apply zq8 | apply zq9) | exact HB.out))) hk)) _ (Nat.le_refl _)) (Below.refl _ _) (zr2 (by repeat (first | (with_reducible first | exact HB.out | apply zq7 | apply zq8 | apply zq9) | exact HB.out))) ?_; (case hd => rfl); (case hg => rfl); (case hr => first | (go_simp; done) | (go_simp; rfl)); (case hp => exact ((RR_mono (ok' := (fun k_ => (w.heap.size ≤ k_))) (HO148.out) (fun k_ hk => hk.1)))); intro v150 w11 ho12 hb hg_ hnew_; clear hg_ hnew_; (first | rw [← Ny149.out] at ho12 | (simp only [Int.reduceToNat] at ho12; rw [← Ny149.out] at ho12)); have n0_ := mk_ ho12; have n1_ := mk_ (Below.trans (by repeat (first | (with_reducible first | exact HB.out | apply zq7 | apply zq8 | apply zq9) | exact HB.out)) hb); clear HB; clear HO148; have HO151 := n0_; have HB := n1_; clear n0_ n1_; clear hb ho12))
          go_ret
          exact ⟨_, by first | rfl | (simp [errW_none, errW_some] <;> rfl) | (simp [*, errW_none, errW_some] <;> rfl), PN_PC (by (with_reducible repeat (first | apply PN_alloc | apply PN_drewN | apply PN_drew)); exact HO151.out), by repeat (first | (with_reducible first | exact HB.out | apply zq7 | apply zq8 | apply zq9) | exact HB.out)⟩
        · rw [if_neg c7] at H
          have c7b0 : decide ((l0.length : Int) ≤ a1) = false := decide_eq_false c7
          clear c7
          have H' := mk_ H
          clear H
          go_wp2
          go_loopg [6, 7] kj2 (fun kq v6 v7 w' => ∃ (x6_2 : List (S39)) (x7_2 : Int), v7 = .int .i64 x7_2 ∧ Aside0 (impl_SegCut.l0 kq l0 a1 (l0.length : Int) x6_2 x7_2 = some r) ∧ Aside0 (kq ≤ kj2) ∧ Aside0 (P39 w' w.heap.size (fun k_ => (w.heap.size ≤ k_)) v6 x6_2) ∧ Aside0 (Below w.heap.size w w'))
          case atStart => exact ⟨(([] : List (S39))), (0), (by first | rfl | (simp; done) | (simp [*]; done)), H', ⟨Nat.le_refl _⟩, ⟨by first | exact Kd.S_nil _ _ _ _ _ | exact PN_nil _ _ _ _ _ _ _ | exact Kd.V_nil _ _ _ _ _ | exact Kd.Q_nil _ _ _ _ _ | exact RR_nil _ _ _ _ _⟩, ⟨by repeat (first | (with_reducible first | exact HB.out | apply zq7 | apply zq8 | apply zq9) | exact HB.out)⟩⟩
          case round =>
            clear H'
            try clear c1
            try clear p2
            try clear c3
            try clear c4
            try clear c4b0
            try clear c4b1
            try clear c6
            try clear c7
            try clear c7b0
            try clear p2
            obtain ⟨x6_2, x7_2, rfl, HA, HK2, HO_6, HB⟩ := hrel
            cases gk with
            | zero => exact absurd HA.out (by simp [impl_SegCut.l0])
            | succ k2 =>
              have H := HA.out
              clear HA
              simp only [impl_SegCut.l0] at H
              by_cases c13 : x7_2 < (l0.length : Int)
              · rw [if_pos c13] at H
                have c13b0 : decide (x7_2 < (l0.length : Int)) = true := decide_eq_true c13
                clear c13
                obtain ⟨ji14, hji14⟩ : ∃ j_ : Int, (mn (l0.length : Int) (wrap64 (x7_2 + a1))) = j_ := ⟨_, rfl⟩
                replace H : (if 0 ≤ x7_2 then (if x7_2 ≤ (ji14) then (if (ji14) ≤ (l0.length : Int) then ((impl_clone_byte.f ((l0.take ((ji14) : Int).toNat).drop (x7_2 : Int).toNat)).bind fun t156 => (if x7_2 = 0 then (if x6_2.length < 3518437208883 then (impl_SegCut.l0 k2 l0 a1 (l0.length : Int) (x6_2 ++ [(⟨1, (l0.length : Int), t156⟩ : S39)]) (wrap64 (x7_2 + a1))) else (none)) else (if (wrap64 (x7_2 + a1)) ≥ (l0.length : Int) then (if x6_2.length < 3518437208883 then (impl_SegCut.l0 k2 l0 a1 (l0.length : Int) (x6_2 ++ [(⟨3, 0, t156⟩ : S39)]) (wrap64 (x7_2 + a1))) else (none)) else (if x6_2.length < 3518437208883 then (impl_SegCut.l0 k2 l0 a1 (l0.length : Int) (x6_2 ++ [(⟨2, 0, t156⟩ : S39)]) (wrap64 (x7_2 + a1))) else (none))))) else (none)) else (none)) else (none)) = some r := by first | (rw [hji14] at H; exact H) | (simp only [hji14] at H ⊢; exact H)
                have hji14_ : (if (wrap64 (x7_2 + a1)) < (l0.length : Int) then (wrap64 (x7_2 + a1)) else (l0.length : Int)) = ji14 := hji14
                by_cases c15 : 0 ≤ x7_2
                · rw [if_pos c15] at H
                  have c15b0 := eq_true c15
                  have c15b1 : decide (0 ≤ x7_2) = true := decide_eq_true c15
                  clear c15
                  by_cases c16 : x7_2 ≤ (ji14)
                  · rw [if_pos c16] at H
                    have c16b0 := eq_true c16
                    have c16b1 : decide (x7_2 ≤ (ji14)) = true := decide_eq_true c16
                    clear c16
                    by_cases c17 : (ji14) ≤ (l0.length : Int)
                    · rw [if_pos c17] at H
                      have c17b0 := eq_true c17
                      have c17b1 : decide ((ji14) ≤ (l0.length : Int)) = true := decide_eq_true c17
                      clear c17
                      replace H := Option.bind_eq_some_iff.mp H
                      obtain ⟨t156, A180, H⟩ := H
                      try dsimp only at H
                      have A18 := mk_ A180
                      clear A180
                      by_cases c19 : x7_2 = 0
                      · rw [if_pos c19] at H
                        have c19b0 : (x7_2 == 0) = true := beq_iff_eq.mpr c19
                        have c19b1 : (x7_2 != 0) = false := bne_eq_false_iff_eq.mpr c19
                        clear c19
                        by_cases c20 : x6_2.length < 3518437208883
                        · rw [if_pos c20] at H
                          have LMc20 := mk_ c20
                          clear c20
                          obtain ⟨y160, hy160⟩ : ∃ y_ : List (S39), y_ = (x6_2 ++ [(⟨1, (l0.length : Int), t156⟩ : S39)]) := ⟨_, rfl⟩
                          replace H : (impl_SegCut.l0 k2 l0 a1 (l0.length : Int) y160 (wrap64 (x7_2 + a1))) = some r := by first | (rw [hy160]; with_reducible exact H) | (have H2_ := (Option.bind_some _ _).symm.trans H; rw [hy160]; with_reducible exact H2_) | (have H2_ := (Option.bind_some _ _).symm.trans H; with_reducible exact H2_) | with_reducible exact H | (rw [hy160]; exact H) | exact H
                          have Ny160 := mk_ hy160
                          clear hy160
                          have H' := mk_ H
                          clear H
                          obtain ⟨i021, hi021, _, hsz21, _⟩ := info_parts info5
                          obtain ⟨A21, hcut21, hA21, hC21⟩ := print_mid_of (P := Try.prog) (Value.int .u8) 0 22 5 .i64 .i64 Try.underlying22 hi021 hsz21 A0 c0 l0 x7_2 (ji14) (of_decide_eq_true (by first | (with_reducible assumption) | assumption)) (by first | omega | exact of_decide_eq_true (by first | (with_reducible assumption) | assumption)) (of_decide_eq_true (by first | (with_reducible assumption) | assumption)) HC0.out
                          have HR155 := mk_ (Kd.C_of_reads (h1 := fun _ => rfl) (hA21 _ (Kd.reads_of_C HR0.out)))
                          have HC155 := mk_ hC21
                          clear hA21 hC21 hi021 hsz21
                          go_wp2_with (first | ((with_reducible refine gate_callee (f := 66) rfl ?_); refine goesL_ (some 40) rfl rfl Try.func66 (by kernel_rfl) rfl #[.slice A21 ((l0.take ((ji14) : Int).toNat).drop (x7_2 : Int).toNat).length (c0 - x7_2.toNat)] rfl (by (try simp only [List.map_toArray, List.map_cons, List.map_nil]); first | done | (rw [show ((l0.take ((ji14) : Int).toNat).drop (x7_2 : Int).toNat).length = ((ji14).toNat - x7_2.toNat) from (by rw [List.length_drop, List.length_take]; have h_ : ((ji14) : Int) ≤ (l0.length : Int) := of_decide_eq_true (by first | (with_reducible assumption) | assumption); omega)] <;> rfl) | (simp only [hji14]; rfl) | rfl | (simp only [List.length_drop, List.length_take]; rfl)) ?_; (with_reducible refine (impl_clone_byte.calls _ _ ((l0.take ((ji14) : Int).toNat).drop (x7_2 : Int).toNat) t156 _ ?side1 ?side2 A18.out).mono ?_); (case side1 => repeat (first | exact (Kd.C_below HR155.out HB.out) | (with_reducible refine Kd.C_alloc ?_ _) | (with_reducible refine Kd.C_drewN ?_ _) | (with_reducible refine Kd.C_drew ?_))); (case side2 => exact HC155.out); rintro e w22 ⟨v157, rfl, ho0, hb⟩; refine ⟨_, rfl, ?_⟩; replace HO_6 := mk_ (PN_elder' (by (with_reducible repeat (first | apply PN_alloc | apply PN_drewN | apply PN_drew)); exact HO_6.out) (RR_base ho0) hb); have HO158 := mk_ (RR_lower (RR_newM (M := fun k_ => (w.heap.size ≤ k_)) ho0 (zr2 (by repeat (first | (with_reducible first | exact HB.out | apply zq7 | apply zq8 | apply zq9) | exact HB.out))) (fun k_ h_ => h_)) (zr2 (by repeat (first | (with_reducible first | exact HB.out | apply zq7 | apply zq8 | apply zq9) | exact HB.out)))); replace HB := mk_ (zr3 (by repeat (first | (with_reducible first | exact HB.out | apply zq7 | apply zq8 | apply zq9) | exact HB.out)) hb); (try clear hb); (try clear hb2); (try clear hk); (try clear hi); (try clear ho0); obtain ⟨Ao23, co23, eo23⟩ := RR_slice HO158.out; subst eo23) | ((with_reducible refine gate_dst (N := 8) rfl ?_); refine box_event ?hg (N := 8) ?hd (cs := #[.int .i64 0, .int .i64 0, .slice none 0 0]) (t := 39) ?hr ?_; (case hd => rfl); (case hg => rfl); (case hr => first | (go_simp; done) | (go_simp; rfl)); intro gb159 hg w24 hbox hb; replace HO_6 := mk_ (PN_below (PN_elderB (by (with_reducible repeat (first | apply PN_alloc | apply PN_drewN | apply PN_drew)); exact HO_6.out) gb159 (Nat.le_of_eq hg.symm)) hb); replace HO158 := mk_ (RR_below (by (with_reducible repeat (first | apply RR_alloc | apply RR_drewN | apply RR_drew)); exact HO158.out) hb); have BK159 := mk_ (hbox); have GW159 := mk_ ((by rw [hg]; exact (zr2 (by repeat (first | (with_reducible first | exact HB.out | apply zq7 | apply zq8 | apply zq9) | exact HB.out))) : w.heap.size ≤ gb159)); have GE159 := GW159; replace HB := mk_ (zr3 (by repeat (first | (with_reducible first | exact HB.out | apply zq7 | apply zq8 | apply zq9) | exact HB.out)) hb); clear hb hbox hg; obtain ⟨hcz25_0, hcz25_1, hcz25_2⟩ := cz3 BK159.out; obtain ⟨hfz25_0, hfz25_1, hfz25_2⟩ := fz3 BK159.out) | ((with_reducible refine gate_store (t := 39) (p := 8) rfl ?_); refine store_event (t := 39) (p := 8) (v := ?vo_w26) (w1 := (((w24.setCell ⟨gb159, 0, none⟩ (.int .i64 2)).setCell ⟨gb159, 1, none⟩ (.int .i64 0)).setCell ⟨gb159, 2, none⟩ (.slice Ao23 t156.length co23))) ?hg ?ho ?hn ?hr ?_; (case ho => rfl); (case hg => rfl); (case hn => rfl); (case hr => first | (go_simp; done) | (go_simp; rfl)); intro w26 hw; have n0_ : Aside0 (P39 w26 w.heap.size (fun k_ => (w.heap.size ≤ k_) ∧ some k_ ≠ (.slice Ao23 t156.length co23 : Value).ownBlock ∧ k_ ≠ gb159) u6 x6_2) := ⟨(by rw [hw]; exact (by (with_reducible repeat (first | apply PN_alloc | apply PN_drewN | apply PN_drew)); exact PN_mono (PN_far (p := ⟨gb159, 2, none⟩) (PN_far (p := ⟨gb159, 1, none⟩) (PN_far (p := ⟨gb159, 0, none⟩) (PN_mono HO_6.out (fun k_ hk => (⟨hk, hk.2⟩ : _ ∧ k_ ≠ gb159))) (fun _ hk => hk.2) (.int .i64 2)) (fun _ hk => hk.2) (.int .i64 0)) (fun _ hk => hk.2) (.slice Ao23 t156.length co23)) (fun _ hk => ⟨hk.1.1.1, ⟨hk.1.1.2, hk.1.2⟩⟩)))⟩; have n1_ : Aside0 (RR (Kd.int .u8) 5 w26 w.heap.size (fun k_ => (w.heap.size ≤ k_)) (.slice Ao23 t156.length co23) t156) := ⟨(by rw [hw]; exact (by (with_reducible repeat (first | apply RR_alloc | apply RR_drewN | apply RR_drew)); exact RR_mono (RR_far (p := ⟨gb159, 2, none⟩) (RR_far (p := ⟨gb159, 1, none⟩) (RR_far (p := ⟨gb159, 0, none⟩) (RR_types HO158.out BK159.out (by decide)) (fun _ hk => hk.2) (.int .i64 2)) (fun _ hk => hk.2) (.int .i64 0)) (fun _ hk => hk.2) (.slice Ao23 t156.length co23)) (fun _ hk => hk.1.1)))⟩; have n2_ : Aside0 (w26.heap[gb159]? = some (.cells #[.int .i64 2, .int .i64 0, .slice Ao23 t156.length co23] 39 (0, 0))) := ⟨(by rw [hw]; exact (by (with_reducible repeat (first | refine zq1 ?_ _ | refine zq2 ?_ | refine zq3 ?_ _)); apply pu3; (with_reducible repeat (first | refine zq1 ?_ _ | refine zq2 ?_ | refine zq3 ?_ _)); exact BK159.out))⟩; have n3_ : Aside0 (Below w.heap.size w w26) := ⟨(by rw [hw]; exact (by repeat (first | (with_reducible first | exact HB.out | apply zq7 | apply zq8 | apply zq9 | refine zr1 ?_ GE159.out) | exact HB.out)))⟩; clear hw; clear HO_6; clear HO158; clear BK159; clear HB; have HO_6 := n0_; have HO158 := n1_; have BK159 := n2_; have HB := n3_; clear n0_ n1_ n2_ n3_; obtain ⟨hcz27_0, hcz27_1, hcz27_2⟩ := cz3 BK159.out; obtain ⟨hfz27_0, hfz27_1, hfz27_2⟩ := fz3 BK159.out) | ((with_reducible refine gate_store (t := 3) (p := 46) rfl ?_); refine store_event (t := 3) (p := 46) (v := ?vo_w28) (w1 := (w26.setCell ⟨gb159, 0, none⟩ (.int .i64 1))) ?hg ?ho ?hn ?hr ?_; (case ho => rfl); (case hg => rfl); (case hn => rfl); (case hr => first | (go_simp; done) | (go_simp; rfl)); intro w28 hw; have n0_ : Aside0 (P39 w28 w.heap.size (fun k_ => (w.heap.size ≤ k_) ∧ some k_ ≠ (.slice Ao23 t156.length co23 : Value).ownBlock ∧ k_ ≠ gb159) u6 x6_2) := ⟨(by rw [hw]; exact (by (with_reducible repeat (first | apply PN_alloc | apply PN_drewN | apply PN_drew)); exact PN_mono (PN_far (p := ⟨gb159, 0, none⟩) (PN_mono HO_6.out (fun k_ hk => (⟨hk, hk.2.2⟩ : _ ∧ k_ ≠ gb159))) (fun _ hk => hk.2) (.int .i64 1)) (fun _ hk => ⟨hk.1.1, ⟨hk.1.2.1, hk.1.2.2⟩⟩)))⟩; have n1_ : Aside0 (RR (Kd.int .u8) 5 w28 w.heap.size (fun k_ => (w.heap.size ≤ k_)) (.slice Ao23 t156.length co23) t156) := ⟨(by rw [hw]; exact (by (with_reducible repeat (first | apply RR_alloc | apply RR_drewN | apply RR_drew)); exact RR_mono (RR_far (p := ⟨gb159, 0, none⟩) (RR_types HO158.out BK159.out (by decide)) (fun _ hk => hk.2) (.int .i64 1)) (fun _ hk => hk.1)))⟩; have n2_ : Aside0 (w28.heap[gb159]? = some (.cells #[.int .i64 1, .int .i64 0, .slice Ao23 t156.length co23] 39 (0, 0))) := ⟨(by rw [hw]; exact (by (with_reducible repeat (first | refine zq1 ?_ _ | refine zq2 ?_ | refine zq3 ?_ _)); refine zq4 (cs := #[.int .i64 2, .int .i64 0, .slice Ao23 t156.length co23]) ?_ 0 _ rfl; (with_reducible repeat (first | refine zq1 ?_ _ | refine zq2 ?_ | refine zq3 ?_ _)); exact BK159.out))⟩; have n3_ : Aside0 (Below w.heap.size w w28) := ⟨(by rw [hw]; exact (by repeat (first | (with_reducible first | exact HB.out | apply zq7 | apply zq8 | apply zq9 | refine zr1 ?_ GE159.out) | exact HB.out)))⟩; clear hw; clear HO_6; clear HO158; clear BK159; clear HB; have HO_6 := n0_; have HO158 := n1_; have BK159 := n2_; have HB := n3_; clear n0_ n1_ n2_ n3_; obtain ⟨hcz29_0, hcz29_1, hcz29_2⟩ := cz3 BK159.out; obtain ⟨hfz29_0, hfz29_1, hfz29_2⟩ := fz3 BK159.out) | ((with_reducible refine gate_store (t := 3) (p := 47) rfl ?_); refine store_event (t := 3) (p := 47) (v := ?vo_w30) (w1 := (w28.setCell ⟨gb159, 1, none⟩ (.int .i64 (l0.length : Int)))) ?hg ?ho ?hn ?hr ?_; (case ho => rfl); (case hg => rfl); (case hn => rfl); (case hr => first | (go_simp; done) | (go_simp; rfl)); intro w30 hw; have n0_ : Aside0 (P39 w30 w.heap.size (fun k_ => (w.heap.size ≤ k_) ∧ some k_ ≠ (.slice Ao23 t156.length co23 : Value).ownBlock ∧ k_ ≠ gb159) u6 x6_2) := ⟨(by rw [hw]; exact (by (with_reducible repeat (first | apply PN_alloc | apply PN_drewN | apply PN_drew)); exact PN_mono (PN_far (p := ⟨gb159, 1, none⟩) (PN_mono HO_6.out (fun k_ hk => (⟨hk, hk.2.2⟩ : _ ∧ k_ ≠ gb159))) (fun _ hk => hk.2) (.int .i64 (l0.length : Int))) (fun _ hk => ⟨hk.1.1, ⟨hk.1.2.1, hk.1.2.2⟩⟩)))⟩; have n1_ : Aside0 (RR (Kd.int .u8) 5 w30 w.heap.size (fun k_ => (w.heap.size ≤ k_)) (.slice Ao23 t156.length co23) t156) := ⟨(by rw [hw]; exact (by (with_reducible repeat (first | apply RR_alloc | apply RR_drewN | apply RR_drew)); exact RR_mono (RR_far (p := ⟨gb159, 1, none⟩) (RR_types HO158.out BK159.out (by decide)) (fun _ hk => hk.2) (.int .i64 (l0.length : Int))) (fun _ hk => hk.1)))⟩; have n2_ : Aside0 (w30.heap[gb159]? = some (.cells #[.int .i64 1, .int .i64 (l0.length : Int), .slice Ao23 t156.length co23] 39 (0, 0))) := ⟨(by rw [hw]; exact (by (with_reducible repeat (first | refine zq1 ?_ _ | refine zq2 ?_ | refine zq3 ?_ _)); refine zq4 (cs := #[.int .i64 1, .int .i64 0, .slice Ao23 t156.length co23]) ?_ 1 _ rfl; (with_reducible repeat (first | refine zq1 ?_ _ | refine zq2 ?_ | refine zq3 ?_ _)); exact BK159.out))⟩; have n3_ : Aside0 (Below w.heap.size w w30) := ⟨(by rw [hw]; exact (by repeat (first | (with_reducible first | exact HB.out | apply zq7 | apply zq8 | apply zq9 | refine zr1 ?_ GE159.out) | exact HB.out)))⟩; clear hw; clear HO_6; clear HO158; clear BK159; clear HB; have HO_6 := n0_; have HO158 := n1_; have BK159 := n2_; have HB := n3_; clear n0_ n1_ n2_ n3_; obtain ⟨hcz31_0, hcz31_1, hcz31_2⟩ := cz3 BK159.out; obtain ⟨hfz31_0, hfz31_1, hfz31_2⟩ := fz3 BK159.out) | ((with_reducible refine gate_builtin (b := .append) (xs := #[.tmp 55, .tmp 57]) rfl ?_); at_builtin; refine PN_append (enc := enc39) (dat := fun x : S39 => x.f2) (sz := 3) (u := .slice Ao23 t156.length co23) (w0 := w) w.heap.size rfl (.tmp 55) (.tmp 57) 23 39 (.agg #[(.int .i64 0), (.int .i64 0), (.slice none 0 0)]) 40 rfl Try.underlying23 info39 rfl (by decide) (by omega) u6 x6_2 (⟨1, (l0.length : Int), t156⟩ : S39) [.int .i64 1, .int .i64 (l0.length : Int), .slice Ao23 t156.length co23] (fun k_ => (w.heap.size ≤ k_) ∧ k_ ≠ gb159) (fun k_ => ((fun k_ => (w.heap.size ≤ k_) ∧ k_ ≠ gb159)) k_ ∧ some k_ ≠ (u6 : Value).ownBlock) rfl rfl ?aP (fun _ hk => hk) ?aF rfl ⟨rfl, rfl, by intro q hq; simp only [List.mem_cons, List.not_mem_nil, or_false] at hq; rcases hq with rfl | rfl | rfl <;> rfl⟩ ?aO ?aB ?aS ?aL ?_; (case aP => exact (RR_mono (ok' := (fun k_ => ((fun k_ => (w.heap.size ≤ k_) ∧ k_ ≠ gb159)) k_ ∧ some k_ ≠ (u6 : Value).ownBlock)) (RR_types (RR_apart' (HO158.out) (PN_typed HO_6.out) (by decide)) BK159.out (by decide)) (fun k_ hk => ⟨⟨hk.1.1, hk.2⟩, hk.1.2⟩))); (case aB => exact (by repeat (first | (with_reducible first | exact HB.out | apply zq7 | apply zq8 | apply zq9 | refine zr1 ?_ GE159.out) | exact HB.out))); (case aF => exact (fun k_ hk => ⟨(Nat.le_trans (zr2 (by repeat (first | (with_reducible first | exact HB.out | apply zq7 | apply zq8 | apply zq9 | refine zr1 ?_ GE159.out) | exact HB.out))) hk), Kd.freshB (g := gb159) (o := .cells #[.int .i64 1, .int .i64 (l0.length : Int), .slice Ao23 t156.length co23] 39 (0, 0)) (by exact BK159.out) k_ hk⟩)); (case aO => exact (by (with_reducible repeat (first | apply PN_alloc | apply PN_drewN | apply PN_drew)); exact PN_mono HO_6.out (fun _ hk => ⟨⟨hk.1, hk.2.2⟩, hk.2.1⟩))); (case aS => exact (zr2 (by repeat (first | (with_reducible first | exact HB.out | apply zq7 | apply zq8 | apply zq9 | refine zr1 ?_ GE159.out) | exact HB.out)))); (case aL => have := LMc20.out; omega); intro v161 w32 ho hb hg hat; rw [← Ny160.out] at ho; have n0_ := mk_ (blk_grown (g := gb159) (o := .cells #[.int .i64 1, .int .i64 (l0.length : Int), .slice Ao23 t156.length co23] 39 (0, 0)) (by exact BK159.out) hg (PN_away HO_6.out (fun _ hk => hk.2.2))); have n1_ := mk_ (hb); have n2_ := mk_ (ho); clear BK159; clear HB; clear HO_6; clear HO158; have BK159 := n0_; have HB := n1_; have HO162 := n2_; clear n0_ n1_ n2_; clear ho hb hg hat))
                          go_roundg k2
                          case measure => have := HJ2.out; have := HK2.out; omega
                          case rel => exact ⟨(y160), (wrap64 (x7_2 + a1)), (by first | rfl | (simp; done) | (simp [*]; done)), H', ⟨by have := HJ2.out; have := HK2.out; omega⟩, ⟨by (with_reducible repeat (first | apply PN_alloc | apply PN_drewN | apply PN_drew)); exact PN_mono HO162.out (fun _ hk => hk.1)⟩, ⟨by repeat (first | (with_reducible first | exact HB.out | apply zq7 | apply zq8 | apply zq9 | refine zr1 ?_ GE159.out) | exact HB.out)⟩⟩
                        · rw [if_neg c20] at H
                          exact absurd H (by simp)
                      · rw [if_neg c19] at H
                        have c19b0 : (x7_2 == 0) = false := beq_eq_false_iff_ne.mpr c19
                        have c19b1 : (x7_2 != 0) = true := bne_iff_ne.mpr c19
                        by_cases c33 : (wrap64 (x7_2 + a1)) ≥ (l0.length : Int)
                        · rw [if_pos c33] at H
                          have c33b0 : decide ((l0.length : Int) ≤ (wrap64 (x7_2 + a1))) = true := decide_eq_true c33
                          clear c33
                          by_cases c34 : x6_2.length < 3518437208883
                          · rw [if_pos c34] at H
                            have LMc34 := mk_ c34
                            clear c34
                            obtain ⟨y163, hy163⟩ : ∃ y_ : List (S39), y_ = (x6_2 ++ [(⟨3, 0, t156⟩ : S39)]) := ⟨_, rfl⟩
                            replace H : (impl_SegCut.l0 k2 l0 a1 (l0.length : Int) y163 (wrap64 (x7_2 + a1))) = some r := by first | (rw [hy163]; with_reducible exact H) | (have H2_ := (Option.bind_some _ _).symm.trans H; rw [hy163]; with_reducible exact H2_) | (have H2_ := (Option.bind_some _ _).symm.trans H; with_reducible exact H2_) | with_reducible exact H | (rw [hy163]; exact H) | exact H
                            have Ny163 := mk_ hy163
                            clear hy163
                            have H' := mk_ H
                            clear H
                            obtain ⟨i035, hi035, _, hsz35, _⟩ := info_parts info5
                            obtain ⟨A35, hcut35, hA35, hC35⟩ := print_mid_of (P := Try.prog) (Value.int .u8) 0 22 5 .i64 .i64 Try.underlying22 hi035 hsz35 A0 c0 l0 x7_2 (ji14) (of_decide_eq_true (by first | (with_reducible assumption) | assumption)) (by first | omega | exact of_decide_eq_true (by first | (with_reducible assumption) | assumption)) (of_decide_eq_true (by first | (with_reducible assumption) | assumption)) HC0.out
                            have HR155 := mk_ (Kd.C_of_reads (h1 := fun _ => rfl) (hA35 _ (Kd.reads_of_C HR0.out)))
                            have HC155 := mk_ hC35
                            clear hA35 hC35 hi035 hsz35
                            go_wp2_with (first | ((with_reducible refine gate_callee (f := 66) rfl ?_); refine goesL_ (some 40) rfl rfl Try.func66 (by kernel_rfl) rfl #[.slice A35 ((l0.take ((ji14) : Int).toNat).drop (x7_2 : Int).toNat).length (c0 - x7_2.toNat)] rfl (by (try simp only [List.map_toArray, List.map_cons, List.map_nil]); first | done | (rw [show ((l0.take ((ji14) : Int).toNat).drop (x7_2 : Int).toNat).length = ((ji14).toNat - x7_2.toNat) from (by rw [List.length_drop, List.length_take]; have h_ : ((ji14) : Int) ≤ (l0.length : Int) := of_decide_eq_true (by first | (with_reducible assumption) | assumption); omega)] <;> rfl) | (simp only [hji14]; rfl) | rfl | (simp only [List.length_drop, List.length_take]; rfl)) ?_; (with_reducible refine (impl_clone_byte.calls _ _ ((l0.take ((ji14) : Int).toNat).drop (x7_2 : Int).toNat) t156 _ ?side1 ?side2 A18.out).mono ?_); (case side1 => repeat (first | exact (Kd.C_below HR155.out HB.out) | (with_reducible refine Kd.C_alloc ?_ _) | (with_reducible refine Kd.C_drewN ?_ _) | (with_reducible refine Kd.C_drew ?_))); (case side2 => exact HC155.out); rintro e w36 ⟨v157, rfl, ho0, hb⟩; refine ⟨_, rfl, ?_⟩; replace HO_6 := mk_ (PN_elder' (by (with_reducible repeat (first | apply PN_alloc | apply PN_drewN | apply PN_drew)); exact HO_6.out) (RR_base ho0) hb); have HO158 := mk_ (RR_lower (RR_newM (M := fun k_ => (w.heap.size ≤ k_)) ho0 (zr2 (by repeat (first | (with_reducible first | exact HB.out | apply zq7 | apply zq8 | apply zq9) | exact HB.out))) (fun k_ h_ => h_)) (zr2 (by repeat (first | (with_reducible first | exact HB.out | apply zq7 | apply zq8 | apply zq9) | exact HB.out)))); replace HB := mk_ (zr3 (by repeat (first | (with_reducible first | exact HB.out | apply zq7 | apply zq8 | apply zq9) | exact HB.out)) hb); (try clear hb); (try clear hb2); (try clear hk); (try clear hi); (try clear ho0); obtain ⟨Ao37, co37, eo37⟩ := RR_slice HO158.out; subst eo37) | ((with_reducible refine gate_dst (N := 8) rfl ?_); refine box_event ?hg (N := 8) ?hd (cs := #[.int .i64 0, .int .i64 0, .slice none 0 0]) (t := 39) ?hr ?_; (case hd => rfl); (case hg => rfl); (case hr => first | (go_simp; done) | (go_simp; rfl)); intro gb159 hg w38 hbox hb; replace HO_6 := mk_ (PN_below (PN_elderB (by (with_reducible repeat (first | apply PN_alloc | apply PN_drewN | apply PN_drew)); exact HO_6.out) gb159 (Nat.le_of_eq hg.symm)) hb); replace HO158 := mk_ (RR_below (by (with_reducible repeat (first | apply RR_alloc | apply RR_drewN | apply RR_drew)); exact HO158.out) hb); have BK159 := mk_ (hbox); have GW159 := mk_ ((by rw [hg]; exact (zr2 (by repeat (first | (with_reducible first | exact HB.out | apply zq7 | apply zq8 | apply zq9) | exact HB.out))) : w.heap.size ≤ gb159)); have GE159 := GW159; replace HB := mk_ (zr3 (by repeat (first | (with_reducible first | exact HB.out | apply zq7 | apply zq8 | apply zq9) | exact HB.out)) hb); clear hb hbox hg; obtain ⟨hcz39_0, hcz39_1, hcz39_2⟩ := cz3 BK159.out; obtain ⟨hfz39_0, hfz39_1, hfz39_2⟩ := fz3 BK159.out) | ((with_reducible refine gate_store (t := 39) (p := 8) rfl ?_); refine store_event (t := 39) (p := 8) (v := ?vo_w40) (w1 := (((w38.setCell ⟨gb159, 0, none⟩ (.int .i64 2)).setCell ⟨gb159, 1, none⟩ (.int .i64 0)).setCell ⟨gb159, 2, none⟩ (.slice Ao37 t156.length co37))) ?hg ?ho ?hn ?hr ?_; (case ho => rfl); (case hg => rfl); (case hn => rfl); (case hr => first | (go_simp; done) | (go_simp; rfl)); intro w40 hw; have n0_ : Aside0 (P39 w40 w.heap.size (fun k_ => (w.heap.size ≤ k_) ∧ some k_ ≠ (.slice Ao37 t156.length co37 : Value).ownBlock ∧ k_ ≠ gb159) u6 x6_2) := ⟨(by rw [hw]; exact (by (with_reducible repeat (first | apply PN_alloc | apply PN_drewN | apply PN_drew)); exact PN_mono (PN_far (p := ⟨gb159, 2, none⟩) (PN_far (p := ⟨gb159, 1, none⟩) (PN_far (p := ⟨gb159, 0, none⟩) (PN_mono HO_6.out (fun k_ hk => (⟨hk, hk.2⟩ : _ ∧ k_ ≠ gb159))) (fun _ hk => hk.2) (.int .i64 2)) (fun _ hk => hk.2) (.int .i64 0)) (fun _ hk => hk.2) (.slice Ao37 t156.length co37)) (fun _ hk => ⟨hk.1.1.1, ⟨hk.1.1.2, hk.1.2⟩⟩)))⟩; have n1_ : Aside0 (RR (Kd.int .u8) 5 w40 w.heap.size (fun k_ => (w.heap.size ≤ k_)) (.slice Ao37 t156.length co37) t156) := ⟨(by rw [hw]; exact (by (with_reducible repeat (first | apply RR_alloc | apply RR_drewN | apply RR_drew)); exact RR_mono (RR_far (p := ⟨gb159, 2, none⟩) (RR_far (p := ⟨gb159, 1, none⟩) (RR_far (p := ⟨gb159, 0, none⟩) (RR_types HO158.out BK159.out (by decide)) (fun _ hk => hk.2) (.int .i64 2)) (fun _ hk => hk.2) (.int .i64 0)) (fun _ hk => hk.2) (.slice Ao37 t156.length co37)) (fun _ hk => hk.1.1)))⟩; have n2_ : Aside0 (w40.heap[gb159]? = some (.cells #[.int .i64 2, .int .i64 0, .slice Ao37 t156.length co37] 39 (0, 0))) := ⟨(by rw [hw]; exact (by (with_reducible repeat (first | refine zq1 ?_ _ | refine zq2 ?_ | refine zq3 ?_ _)); apply pu3; (with_reducible repeat (first | refine zq1 ?_ _ | refine zq2 ?_ | refine zq3 ?_ _)); exact BK159.out))⟩; have n3_ : Aside0 (Below w.heap.size w w40) := ⟨(by rw [hw]; exact (by repeat (first | (with_reducible first | exact HB.out | apply zq7 | apply zq8 | apply zq9 | refine zr1 ?_ GE159.out) | exact HB.out)))⟩; clear hw; clear HO_6; clear HO158; clear BK159; clear HB; have HO_6 := n0_; have HO158 := n1_; have BK159 := n2_; have HB := n3_; clear n0_ n1_ n2_ n3_; obtain ⟨hcz41_0, hcz41_1, hcz41_2⟩ := cz3 BK159.out; obtain ⟨hfz41_0, hfz41_1, hfz41_2⟩ := fz3 BK159.out) | ((with_reducible refine gate_store (t := 3) (p := 54) rfl ?_); refine store_event (t := 3) (p := 54) (v := ?vo_w42) (w1 := (w40.setCell ⟨gb159, 0, none⟩ (.int .i64 3))) ?hg ?ho ?hn ?hr ?_; (case ho => rfl); (case hg => rfl); (case hn => rfl); (case hr => first | (go_simp; done) | (go_simp; rfl)); intro w42 hw; have n0_ : Aside0 (P39 w42 w.heap.size (fun k_ => (w.heap.size ≤ k_) ∧ some k_ ≠ (.slice Ao37 t156.length co37 : Value).ownBlock ∧ k_ ≠ gb159) u6 x6_2) := ⟨(by rw [hw]; exact (by (with_reducible repeat (first | apply PN_alloc | apply PN_drewN | apply PN_drew)); exact PN_mono (PN_far (p := ⟨gb159, 0, none⟩) (PN_mono HO_6.out (fun k_ hk => (⟨hk, hk.2.2⟩ : _ ∧ k_ ≠ gb159))) (fun _ hk => hk.2) (.int .i64 3)) (fun _ hk => ⟨hk.1.1, ⟨hk.1.2.1, hk.1.2.2⟩⟩)))⟩; have n1_ : Aside0 (RR (Kd.int .u8) 5 w42 w.heap.size (fun k_ => (w.heap.size ≤ k_)) (.slice Ao37 t156.length co37) t156) := ⟨(by rw [hw]; exact (by (with_reducible repeat (first | apply RR_alloc | apply RR_drewN | apply RR_drew)); exact RR_mono (RR_far (p := ⟨gb159, 0, none⟩) (RR_types HO158.out BK159.out (by decide)) (fun _ hk => hk.2) (.int .i64 3)) (fun _ hk => hk.1)))⟩; have n2_ : Aside0 (w42.heap[gb159]? = some (.cells #[.int .i64 3, .int .i64 0, .slice Ao37 t156.length co37] 39 (0, 0))) := ⟨(by rw [hw]; exact (by (with_reducible repeat (first | refine zq1 ?_ _ | refine zq2 ?_ | refine zq3 ?_ _)); refine zq4 (cs := #[.int .i64 2, .int .i64 0, .slice Ao37 t156.length co37]) ?_ 0 _ rfl; (with_reducible repeat (first | refine zq1 ?_ _ | refine zq2 ?_ | refine zq3 ?_ _)); exact BK159.out))⟩; have n3_ : Aside0 (Below w.heap.size w w42) := ⟨(by rw [hw]; exact (by repeat (first | (with_reducible first | exact HB.out | apply zq7 | apply zq8 | apply zq9 | refine zr1 ?_ GE159.out) | exact HB.out)))⟩; clear hw; clear HO_6; clear HO158; clear BK159; clear HB; have HO_6 := n0_; have HO158 := n1_; have BK159 := n2_; have HB := n3_; clear n0_ n1_ n2_ n3_; obtain ⟨hcz43_0, hcz43_1, hcz43_2⟩ := cz3 BK159.out; obtain ⟨hfz43_0, hfz43_1, hfz43_2⟩ := fz3 BK159.out) | ((with_reducible refine gate_builtin (b := .append) (xs := #[.tmp 55, .tmp 57]) rfl ?_); at_builtin; refine PN_append (enc := enc39) (dat := fun x : S39 => x.f2) (sz := 3) (u := .slice Ao37 t156.length co37) (w0 := w) w.heap.size rfl (.tmp 55) (.tmp 57) 23 39 (.agg #[(.int .i64 0), (.int .i64 0), (.slice none 0 0)]) 40 rfl Try.underlying23 info39 rfl (by decide) (by omega) u6 x6_2 (⟨3, 0, t156⟩ : S39) [.int .i64 3, .int .i64 0, .slice Ao37 t156.length co37] (fun k_ => (w.heap.size ≤ k_) ∧ k_ ≠ gb159) (fun k_ => ((fun k_ => (w.heap.size ≤ k_) ∧ k_ ≠ gb159)) k_ ∧ some k_ ≠ (u6 : Value).ownBlock) rfl rfl ?aP (fun _ hk => hk) ?aF rfl ⟨rfl, rfl, by intro q hq; simp only [List.mem_cons, List.not_mem_nil, or_false] at hq; rcases hq with rfl | rfl | rfl <;> rfl⟩ ?aO ?aB ?aS ?aL ?_; (case aP => exact (RR_mono (ok' := (fun k_ => ((fun k_ => (w.heap.size ≤ k_) ∧ k_ ≠ gb159)) k_ ∧ some k_ ≠ (u6 : Value).ownBlock)) (RR_types (RR_apart' (HO158.out) (PN_typed HO_6.out) (by decide)) BK159.out (by decide)) (fun k_ hk => ⟨⟨hk.1.1, hk.2⟩, hk.1.2⟩))); (case aB => exact (by repeat (first | (with_reducible first | exact HB.out | apply zq7 | apply zq8 | apply zq9 | refine zr1 ?_ GE159.out) | exact HB.out))); (case aF => exact (fun k_ hk => ⟨(Nat.le_trans (zr2 (by repeat (first | (with_reducible first | exact HB.out | apply zq7 | apply zq8 | apply zq9 | refine zr1 ?_ GE159.out) | exact HB.out))) hk), Kd.freshB (g := gb159) (o := .cells #[.int .i64 3, .int .i64 0, .slice Ao37 t156.length co37] 39 (0, 0)) (by exact BK159.out) k_ hk⟩)); (case aO => exact (by (with_reducible repeat (first | apply PN_alloc | apply PN_drewN | apply PN_drew)); exact PN_mono HO_6.out (fun _ hk => ⟨⟨hk.1, hk.2.2⟩, hk.2.1⟩))); (case aS => exact (zr2 (by repeat (first | (with_reducible first | exact HB.out | apply zq7 | apply zq8 | apply zq9 | refine zr1 ?_ GE159.out) | exact HB.out)))); (case aL => have := LMc34.out; omega); intro v164 w44 ho hb hg hat; rw [← Ny163.out] at ho; have n0_ := mk_ (blk_grown (g := gb159) (o := .cells #[.int .i64 3, .int .i64 0, .slice Ao37 t156.length co37] 39 (0, 0)) (by exact BK159.out) hg (PN_away HO_6.out (fun _ hk => hk.2.2))); have n1_ := mk_ (hb); have n2_ := mk_ (ho); clear BK159; clear HB; clear HO_6; clear HO158; have BK159 := n0_; have HB := n1_; have HO165 := n2_; clear n0_ n1_ n2_; clear ho hb hg hat))
                            go_roundg k2
                            case measure => have := HJ2.out; have := HK2.out; omega
                            case rel => exact ⟨(y163), (wrap64 (x7_2 + a1)), (by first | rfl | (simp; done) | (simp [*]; done)), H', ⟨by have := HJ2.out; have := HK2.out; omega⟩, ⟨by (with_reducible repeat (first | apply PN_alloc | apply PN_drewN | apply PN_drew)); exact PN_mono HO165.out (fun _ hk => hk.1)⟩, ⟨by repeat (first | (with_reducible first | exact HB.out | apply zq7 | apply zq8 | apply zq9 | refine zr1 ?_ GE159.out) | exact HB.out)⟩⟩
                          · rw [if_neg c34] at H
                            exact absurd H (by simp)
                        · rw [if_neg c33] at H
                          have c33b0 : decide ((l0.length : Int) ≤ (wrap64 (x7_2 + a1))) = false := decide_eq_false c33
                          clear c33
                          by_cases c45 : x6_2.length < 3518437208883
                          · rw [if_pos c45] at H
                            have LMc45 := mk_ c45
                            clear c45
                            obtain ⟨y166, hy166⟩ : ∃ y_ : List (S39), y_ = (x6_2 ++ [(⟨2, 0, t156⟩ : S39)]) := ⟨_, rfl⟩
                            replace H : (impl_SegCut.l0 k2 l0 a1 (l0.length : Int) y166 (wrap64 (x7_2 + a1))) = some r := by first | (rw [hy166]; with_reducible exact H) | (have H2_ := (Option.bind_some _ _).symm.trans H; rw [hy166]; with_reducible exact H2_) | (have H2_ := (Option.bind_some _ _).symm.trans H; with_reducible exact H2_) | with_reducible exact H | (rw [hy166]; exact H) | exact H
                            have Ny166 := mk_ hy166
                            clear hy166
                            have H' := mk_ H
                            clear H
                            obtain ⟨i046, hi046, _, hsz46, _⟩ := info_parts info5
                            obtain ⟨A46, hcut46, hA46, hC46⟩ := print_mid_of (P := Try.prog) (Value.int .u8) 0 22 5 .i64 .i64 Try.underlying22 hi046 hsz46 A0 c0 l0 x7_2 (ji14) (of_decide_eq_true (by first | (with_reducible assumption) | assumption)) (by first | omega | exact of_decide_eq_true (by first | (with_reducible assumption) | assumption)) (of_decide_eq_true (by first | (with_reducible assumption) | assumption)) HC0.out
                            have HR155 := mk_ (Kd.C_of_reads (h1 := fun _ => rfl) (hA46 _ (Kd.reads_of_C HR0.out)))
                            have HC155 := mk_ hC46
                            clear hA46 hC46 hi046 hsz46
                            go_wp2_with (first | ((with_reducible refine gate_callee (f := 66) rfl ?_); refine goesL_ (some 40) rfl rfl Try.func66 (by kernel_rfl) rfl #[.slice A46 ((l0.take ((ji14) : Int).toNat).drop (x7_2 : Int).toNat).length (c0 - x7_2.toNat)] rfl (by (try simp only [List.map_toArray, List.map_cons, List.map_nil]); first | done | (rw [show ((l0.take ((ji14) : Int).toNat).drop (x7_2 : Int).toNat).length = ((ji14).toNat - x7_2.toNat) from (by rw [List.length_drop, List.length_take]; have h_ : ((ji14) : Int) ≤ (l0.length : Int) := of_decide_eq_true (by first | (with_reducible assumption) | assumption); omega)] <;> rfl) | (simp only [hji14]; rfl) | rfl | (simp only [List.length_drop, List.length_take]; rfl)) ?_; (with_reducible refine (impl_clone_byte.calls _ _ ((l0.take ((ji14) : Int).toNat).drop (x7_2 : Int).toNat) t156 _ ?side1 ?side2 A18.out).mono ?_); (case side1 => repeat (first | exact (Kd.C_below HR155.out HB.out) | (with_reducible refine Kd.C_alloc ?_ _) | (with_reducible refine Kd.C_drewN ?_ _) | (with_reducible refine Kd.C_drew ?_))); (case side2 => exact HC155.out); rintro e w47 ⟨v157, rfl, ho0, hb⟩; refine ⟨_, rfl, ?_⟩; replace HO_6 := mk_ (PN_elder' (by (with_reducible repeat (first | apply PN_alloc | apply PN_drewN | apply PN_drew)); exact HO_6.out) (RR_base ho0) hb); have HO158 := mk_ (RR_lower (RR_newM (M := fun k_ => (w.heap.size ≤ k_)) ho0 (zr2 (by repeat (first | (with_reducible first | exact HB.out | apply zq7 | apply zq8 | apply zq9) | exact HB.out))) (fun k_ h_ => h_)) (zr2 (by repeat (first | (with_reducible first | exact HB.out | apply zq7 | apply zq8 | apply zq9) | exact HB.out)))); replace HB := mk_ (zr3 (by repeat (first | (with_reducible first | exact HB.out | apply zq7 | apply zq8 | apply zq9) | exact HB.out)) hb); (try clear hb); (try clear hb2); (try clear hk); (try clear hi); (try clear ho0); obtain ⟨Ao48, co48, eo48⟩ := RR_slice HO158.out; subst eo48) | ((with_reducible refine gate_dst (N := 8) rfl ?_); refine box_event ?hg (N := 8) ?hd (cs := #[.int .i64 0, .int .i64 0, .slice none 0 0]) (t := 39) ?hr ?_; (case hd => rfl); (case hg => rfl); (case hr => first | (go_simp; done) | (go_simp; rfl)); intro gb159 hg w49 hbox hb; replace HO_6 := mk_ (PN_below (PN_elderB (by (with_reducible repeat (first | apply PN_alloc | apply PN_drewN | apply PN_drew)); exact HO_6.out) gb159 (Nat.le_of_eq hg.symm)) hb); replace HO158 := mk_ (RR_below (by (with_reducible repeat (first | apply RR_alloc | apply RR_drewN | apply RR_drew)); exact HO158.out) hb); have BK159 := mk_ (hbox); have GW159 := mk_ ((by rw [hg]; exact (zr2 (by repeat (first | (with_reducible first | exact HB.out | apply zq7 | apply zq8 | apply zq9) | exact HB.out))) : w.heap.size ≤ gb159)); have GE159 := GW159; replace HB := mk_ (zr3 (by repeat (first | (with_reducible first | exact HB.out | apply zq7 | apply zq8 | apply zq9) | exact HB.out)) hb); clear hb hbox hg; obtain ⟨hcz50_0, hcz50_1, hcz50_2⟩ := cz3 BK159.out; obtain ⟨hfz50_0, hfz50_1, hfz50_2⟩ := fz3 BK159.out) | ((with_reducible refine gate_store (t := 39) (p := 8) rfl ?_); refine store_event (t := 39) (p := 8) (v := ?vo_w51) (w1 := (((w49.setCell ⟨gb159, 0, none⟩ (.int .i64 2)).setCell ⟨gb159, 1, none⟩ (.int .i64 0)).setCell ⟨gb159, 2, none⟩ (.slice Ao48 t156.length co48))) ?hg ?ho ?hn ?hr ?_; (case ho => rfl); (case hg => rfl); (case hn => rfl); (case hr => first | (go_simp; done) | (go_simp; rfl)); intro w51 hw; have n0_ : Aside0 (P39 w51 w.heap.size (fun k_ => (w.heap.size ≤ k_) ∧ some k_ ≠ (.slice Ao48 t156.length co48 : Value).ownBlock ∧ k_ ≠ gb159) u6 x6_2) := ⟨(by rw [hw]; exact (by (with_reducible repeat (first | apply PN_alloc | apply PN_drewN | apply PN_drew)); exact PN_mono (PN_far (p := ⟨gb159, 2, none⟩) (PN_far (p := ⟨gb159, 1, none⟩) (PN_far (p := ⟨gb159, 0, none⟩) (PN_mono HO_6.out (fun k_ hk => (⟨hk, hk.2⟩ : _ ∧ k_ ≠ gb159))) (fun _ hk => hk.2) (.int .i64 2)) (fun _ hk => hk.2) (.int .i64 0)) (fun _ hk => hk.2) (.slice Ao48 t156.length co48)) (fun _ hk => ⟨hk.1.1.1, ⟨hk.1.1.2, hk.1.2⟩⟩)))⟩; have n1_ : Aside0 (RR (Kd.int .u8) 5 w51 w.heap.size (fun k_ => (w.heap.size ≤ k_)) (.slice Ao48 t156.length co48) t156) := ⟨(by rw [hw]; exact (by (with_reducible repeat (first | apply RR_alloc | apply RR_drewN | apply RR_drew)); exact RR_mono (RR_far (p := ⟨gb159, 2, none⟩) (RR_far (p := ⟨gb159, 1, none⟩) (RR_far (p := ⟨gb159, 0, none⟩) (RR_types HO158.out BK159.out (by decide)) (fun _ hk => hk.2) (.int .i64 2)) (fun _ hk => hk.2) (.int .i64 0)) (fun _ hk => hk.2) (.slice Ao48 t156.length co48)) (fun _ hk => hk.1.1)))⟩; have n2_ : Aside0 (w51.heap[gb159]? = some (.cells #[.int .i64 2, .int .i64 0, .slice Ao48 t156.length co48] 39 (0, 0))) := ⟨(by rw [hw]; exact (by (with_reducible repeat (first | refine zq1 ?_ _ | refine zq2 ?_ | refine zq3 ?_ _)); apply pu3; (with_reducible repeat (first | refine zq1 ?_ _ | refine zq2 ?_ | refine zq3 ?_ _)); exact BK159.out))⟩; have n3_ : Aside0 (Below w.heap.size w w51) := ⟨(by rw [hw]; exact (by repeat (first | (with_reducible first | exact HB.out | apply zq7 | apply zq8 | apply zq9 | refine zr1 ?_ GE159.out) | exact HB.out)))⟩; clear hw; clear HO_6; clear HO158; clear BK159; clear HB; have HO_6 := n0_; have HO158 := n1_; have BK159 := n2_; have HB := n3_; clear n0_ n1_ n2_ n3_; obtain ⟨hcz52_0, hcz52_1, hcz52_2⟩ := cz3 BK159.out; obtain ⟨hfz52_0, hfz52_1, hfz52_2⟩ := fz3 BK159.out) | ((with_reducible refine gate_builtin (b := .append) (xs := #[.tmp 55, .tmp 57]) rfl ?_); at_builtin; refine PN_append (enc := enc39) (dat := fun x : S39 => x.f2) (sz := 3) (u := .slice Ao48 t156.length co48) (w0 := w) w.heap.size rfl (.tmp 55) (.tmp 57) 23 39 (.agg #[(.int .i64 0), (.int .i64 0), (.slice none 0 0)]) 40 rfl Try.underlying23 info39 rfl (by decide) (by omega) u6 x6_2 (⟨2, 0, t156⟩ : S39) [.int .i64 2, .int .i64 0, .slice Ao48 t156.length co48] (fun k_ => (w.heap.size ≤ k_) ∧ k_ ≠ gb159) (fun k_ => ((fun k_ => (w.heap.size ≤ k_) ∧ k_ ≠ gb159)) k_ ∧ some k_ ≠ (u6 : Value).ownBlock) rfl rfl ?aP (fun _ hk => hk) ?aF rfl ⟨rfl, rfl, by intro q hq; simp only [List.mem_cons, List.not_mem_nil, or_false] at hq; rcases hq with rfl | rfl | rfl <;> rfl⟩ ?aO ?aB ?aS ?aL ?_; (case aP => exact (RR_mono (ok' := (fun k_ => ((fun k_ => (w.heap.size ≤ k_) ∧ k_ ≠ gb159)) k_ ∧ some k_ ≠ (u6 : Value).ownBlock)) (RR_types (RR_apart' (HO158.out) (PN_typed HO_6.out) (by decide)) BK159.out (by decide)) (fun k_ hk => ⟨⟨hk.1.1, hk.2⟩, hk.1.2⟩))); (case aB => exact (by repeat (first | (with_reducible first | exact HB.out | apply zq7 | apply zq8 | apply zq9 | refine zr1 ?_ GE159.out) | exact HB.out))); (case aF => exact (fun k_ hk => ⟨(Nat.le_trans (zr2 (by repeat (first | (with_reducible first | exact HB.out | apply zq7 | apply zq8 | apply zq9 | refine zr1 ?_ GE159.out) | exact HB.out))) hk), Kd.freshB (g := gb159) (o := .cells #[.int .i64 2, .int .i64 0, .slice Ao48 t156.length co48] 39 (0, 0)) (by exact BK159.out) k_ hk⟩)); (case aO => exact (by (with_reducible repeat (first | apply PN_alloc | apply PN_drewN | apply PN_drew)); exact PN_mono HO_6.out (fun _ hk => ⟨⟨hk.1, hk.2.2⟩, hk.2.1⟩))); (case aS => exact (zr2 (by repeat (first | (with_reducible first | exact HB.out | apply zq7 | apply zq8 | apply zq9 | refine zr1 ?_ GE159.out) | exact HB.out)))); (case aL => have := LMc45.out; omega); intro v167 w53 ho hb hg hat; rw [← Ny166.out] at ho; have n0_ := mk_ (blk_grown (g := gb159) (o := .cells #[.int .i64 2, .int .i64 0, .slice Ao48 t156.length co48] 39 (0, 0)) (by exact BK159.out) hg (PN_away HO_6.out (fun _ hk => hk.2.2))); have n1_ := mk_ (hb); have n2_ := mk_ (ho); clear BK159; clear HB; clear HO_6; clear HO158; have BK159 := n0_; have HB := n1_; have HO168 := n2_; clear n0_ n1_ n2_; clear ho hb hg hat))
                            go_roundg k2
                            case measure => have := HJ2.out; have := HK2.out; omega
                            case rel => exact ⟨(y166), (wrap64 (x7_2 + a1)), (by first | rfl | (simp; done) | (simp [*]; done)), H', ⟨by have := HJ2.out; have := HK2.out; omega⟩, ⟨by (with_reducible repeat (first | apply PN_alloc | apply PN_drewN | apply PN_drew)); exact PN_mono HO168.out (fun _ hk => hk.1)⟩, ⟨by repeat (first | (with_reducible first | exact HB.out | apply zq7 | apply zq8 | apply zq9 | refine zr1 ?_ GE159.out) | exact HB.out)⟩⟩
                          · rw [if_neg c45] at H
                            exact absurd H (by simp)
                    · rw [if_neg c17] at H
                      exact absurd H (by simp)
                  · rw [if_neg c16] at H
                    exact absurd H (by simp)
                · rw [if_neg c15] at H
                  exact absurd H (by simp)
              · rw [if_neg c13] at H
                have c13b0 : decide (x7_2 < (l0.length : Int)) = false := decide_eq_false c13
                clear c13
                replace H := Option.bind_eq_some_iff.mp H
                obtain ⟨t152, A540, H⟩ := H
                try dsimp only at H
                have A54 := mk_ A540
                clear A540
                obtain rfl := Option.some.inj H
                obtain ⟨Ao55, co55, eo55⟩ := PN_slice HO_6.out
                subst eo55
                go_wp2_with (first | ((with_reducible refine gate_callee (f := 67) rfl ?_); refine goesL_ (some 60) rfl rfl Try.func67 (by kernel_rfl) rfl #[.slice Ao55 x6_2.length co55] rfl (by (try simp only [List.map_toArray, List.map_cons, List.map_nil]); first | done | rfl | (simp only [List.length_drop, List.length_take]; rfl)) ?_; (with_reducible refine (impl_SegPart.callsP _ _ w.heap.size (fun k_ => w.heap.size ≤ k_) x6_2 t152 _ ?side1 ?side2 A54.out).mono ?_); (case side1 => exact (zr2 (by repeat (first | (with_reducible first | exact HB.out | apply zq7 | apply zq8 | apply zq9) | exact HB.out)))); (case side2 => exact (by (with_reducible repeat (first | apply PN_alloc | apply PN_drewN | apply PN_drew)); exact HO_6.out)); rintro e w56 ⟨v153, rfl, ho0, hb⟩; refine ⟨_, rfl, ?_⟩; have HO154 := mk_ (PC_mono (ok' := fun k_ => w.heap.size ≤ k_) ho0 (fun k_ hk_ => hk_.elim id (fun hk_ => Nat.le_trans (zr2 (by repeat (first | (with_reducible first | exact HB.out | apply zq7 | apply zq8 | apply zq9) | exact HB.out))) hk_))); replace HB := mk_ (zr3 (by repeat (first | (with_reducible first | exact HB.out | apply zq7 | apply zq8 | apply zq9) | exact HB.out)) hb); (try clear hb); (try clear hb2); (try clear hk); (try clear hi); (try clear ho0)))
                go_ret
                exact ⟨_, by first | rfl | (simp [errW_none, errW_some] <;> rfl) | (simp [*, errW_none, errW_some] <;> rfl), HO154.out, by repeat (first | (with_reducible first | exact HB.out | apply zq7 | apply zq8 | apply zq9) | exact HB.out)⟩

end Go.Proofs.Yteknaofnageihaa.QFnExactSegCut
