-- The walk of laws.liNeg, by hand.
import Derived.Test.YtoigmeiollfklaaNegDo
namespace Go.Proofs.Ytoigmeiollfklaa.NegDo
open Go.RowKit Go.Proofs.YtoigmeiollfklaaW.PrintWords Go.Proofs.YtoigmeiollfklaaW.PrintLast Go.Proofs.YtoigmeiollfklaaW.PrintMore Go.Proofs.YtoigmeiollfklaaLoc Go.Proofs.Ytoigmeiollfklaa.QFnNegSame Go.Proofs.Ytoigmeiollfklaa.Pure
attribute [local go_sem] max2_int min2_int max_two min_two max_three min_three max_four min_four   -- for this text's walks alone
set_option linter.unusedVariables false
set_option linter.unusedSimpArgs false
theorem len_doo0 (s : Sy) (w : Int) : (doo0 s w).p.length + (doo0 s w).q.length ≤ s.p.length + s.q.length + 1 := by
  unfold doo0
  by_cases hw : w < 2
  · rw [if_pos hw]
    split
    · simp; omega
    · omega
  · rw [if_neg hw]
    cases e : s.p with
    | nil => simp only [e, List.length_nil]; omega
    | cons m l =>
      simp only
      by_cases h4 : w = 4
      · rw [if_pos h4]; simp only [List.length_cons]; omega
      · rw [if_neg h4]
        by_cases h5 : w = 5
        · rw [if_pos h5]; simp; omega
        · rw [if_neg h5]
          simp only
          split
          · simp; omega
          · simp; omega
theorem len_doo (s : Sy) (who w : Int) : (doo s who w).p.length + (doo s who w).q.length ≤ s.p.length + s.q.length + 1 := by
  unfold doo
  split
  · exact len_doo0 s w
  · have := len_doo0 (sw s) w
    unfold sw at this ⊢
    simp only at this ⊢
    omega
theorem negDo_calls (w0 : World) (gs gn : Nat) (who : Int) (hw : who = 0 ∨ who = 1) (s : Sy) (vp vq : Value) (what : Int) (w : World) (h : LR 6 32 w0 w [(gn, [vp, vq], 67), (gs, nvs s.x ++ nvs s.y, 30)] vp vq (msl s.p) (msl s.q)) (hl : s.p.length + s.q.length ≤ 1000000) :
    Calls Try.prog 37 #[.slice (some ⟨gs, 0, none⟩) 2 2, .slice (some ⟨gn, 0, none⟩) 2 2, .int .i64 who, .int .i64 what] w (DoPost0 w0 gs gn (doo s who what)) := by
  rcases hw with rfl | rfl
  · have e : doo s 0 what = doo0 s what := by unfold doo; rw [if_pos rfl]
    rw [e]
    exact negDo0 w0 gs gn s.x s.y s.p s.q vp vq what w h hl
  · have e : doo s 1 what = sw (doo0 (sw s) what) := by unfold doo; rw [if_neg (by omega)]
    rw [e]
    refine (negDo1 w0 gs gn s.y s.x s.q s.p vq vp what w h.swap (by omega)).mono ?_
    rintro e w' ⟨vp', vq', h1, h2⟩
    exact ⟨vq', vp', h1, h2.swap⟩
def LiPost (w : World) (s : Sy) : Ending → World → Prop := fun e w' => ∃ (gs gn : Nat) (vp vq : Value), e = .returned (.tuple #[.agg (nvs s.x).toArray, .agg (nvs s.y).toArray, .slice (some ⟨gn, 0, none⟩) 2 2]) ∧ LR 6 32 w w' [(gn, [vp, vq], 67), (gs, nvs s.x ++ nvs s.y, 30)] vp vq (msl s.p) (msl s.q)
theorem mkLi {w w' : World} {s : Sy} {e : Ending} {gs gn : Nat} {vp vq : Value} (h : e = .returned (.tuple #[.agg (nvs s.x).toArray, .agg (nvs s.y).toArray, .slice (some ⟨gn, 0, none⟩) 2 2])) (h2 : LR 6 32 w w' [(gn, [vp, vq], 67), (gs, nvs s.x ++ nvs s.y, 30)] vp vq (msl s.p) (msl s.q)) : LiPost w s e w' := ⟨gs, gn, vp, vq, h, h2⟩
def nl.T1 : Bool × List (List Nat × List Nat) := (true, [([], []), ([0], [0]), ([], []), ([2, 1], [2]), ([1, 3], [1, 3]), ([4, 3, 0, 1, 2, 3, 4], [4])])
def nl.B1 : List Nat := [0, 1, 0, 7, 15, 31]
theorem nl.tab1 : rtab .any (opsOf Try.f36 1) = nl.T1 := by kernel_rfl
theorem nl.bits1 : waitsOk nl.T1.2 nl.B1 = true := by kernel_rfl
def nl.T8 : Bool × List (List Nat × List Nat) := (true, [([], []), ([0], [0]), ([1], [1]), ([], []), ([3], [3]), ([4], [4]), ([], []), ([2, 0, 1, 2], [2]), ([5, 7, 0, 1, 2, 3, 4, 5, 7], [5]), ([6, 8, 0, 1, 2, 3, 4, 5, 6, 7, 8], [6])])
def nl.B8 : List Nat := [0, 1, 3, 0, 8, 24, 0, 7, 191, 511]
theorem nl.tab8 : rtab .any (opsOf Try.f36 8) = nl.T8 := by kernel_rfl
theorem nl.bits8 : waitsOk nl.T8.2 nl.B8 = true := by kernel_rfl
set_option maxHeartbeats 60000000 in
set_option maxRecDepth 100000 in
theorem liNeg_calls (a0 a1 a2 a3 a4 b0 b1 b2 b3 b4 : Int) (A0 : Option Addr) (c0 : Nat) (l : List Int) (w : World) (ha : cok a0 a1 a2 a3 a4 = true) (hb : cok b0 b1 b2 b3 b4 = true) (hr : Kd.C (Kd.int .i64) w A0 l.length l) (hc0 : l.length ≤ c0) (hv : ∀ v ∈ l, 0 ≤ v ∧ v ≤ 11) (hlen : l.length ≤ 1000) :
    Calls Try.prog 36 #[.agg #[.int .i64 a0, .int .i64 a1, .int .i64 a2, .int .i64 a3, .int .i64 a4], .agg #[.int .i64 b0, .int .i64 b1, .int .i64 b2, .int .i64 b3, .int .i64 b4], .slice A0 l.length c0] w (LiPost w (playF l (begS ⟨a0, a1, a2, a3, a4⟩ ⟨b0, b1, b2, b3, b4⟩))) := by
  have HL := mk_ (Lok.start w)
  have A1 := mk_ (new_val ha)
  have A2 := mk_ (new_val hb)
  have HR := mk_ hr
  have HV := mk_ hv
  have HC := mk_ hc0
  have HN := mk_ hlen
  clear hr hc0 hv hlen ha hb
  obtain ⟨sf, hsf⟩ : ∃ s, s = playF l (begS ⟨a0, a1, a2, a3, a4⟩ ⟨b0, b1, b2, b3, b4⟩) := ⟨_, rfl⟩
  rw [← hsf]
  have HF := mk_ hsf
  clear hsf
  go_enter Try.func36, Try.ntmps36
  go_upto_region 1 with (first | ((with_reducible refine gate_dst (N := 3) rfl ?_); refine loc_box rfl rfl (by first | (go_simp; done) | (go_simp; rfl)) HL.out ?_; intro gb3 w_ HL_; replace HL := mk_ HL_; clear HL_) | ((with_reducible refine gate_dst (N := 4) rfl ?_); refine loc_box rfl rfl (by first | (go_simp; done) | (go_simp; rfl)) HL.out ?_; intro gb4 w_ HL_; replace HL := mk_ HL_; clear HL_) | ((with_reducible refine gate_dst (N := 6) rfl ?_); refine loc_alloc rfl rfl za30 HL.out ?_; intro gb6 w_ HL_; replace HL := mk_ HL_; clear HL_) | ((with_reducible refine gate_dst (N := 7) rfl ?_); refine loc_alloc rfl rfl za30 HL.out ?_; intro gb7 w_ HL_; replace HL := mk_ HL_; clear HL_))
  refine start_ (n := 6) (S := fun w' => Lok w w' [(gb7, [.int .i64 0, .int .i64 0, .int .i64 0, .int .i64 0, .int .i64 0, .int .i64 0, .int .i64 0, .int .i64 0, .int .i64 0, .int .i64 0, .int .i64 0, .int .i64 0, .int .i64 0, .int .i64 0, .int .i64 0, .int .i64 0, .int .i64 0, .int .i64 0, .int .i64 0, .int .i64 0, .bool false], 30), (gb6, [.int .i64 0, .int .i64 0, .int .i64 0, .int .i64 0, .int .i64 0, .int .i64 0, .int .i64 0, .int .i64 0, .int .i64 0, .int .i64 0, .int .i64 0, .int .i64 0, .int .i64 0, .int .i64 0, .int .i64 0, .int .i64 0, .int .i64 0, .int .i64 0, .int .i64 0, .int .i64 0, .bool false], 30), (gb4, [.int .i64 b0, .int .i64 b1, .int .i64 b2, .int .i64 b3, .int .i64 b4], 28), (gb3, [.int .i64 a0, .int .i64 a1, .int .i64 a2, .int .i64 a3, .int .i64 a4], 28)]) (ds := []) (YtoigmeiollfklaaLoc.bm 6 0) (by kernel_rfl) rfl rfl HL.out.drew (fun hHeld => ?_)
  refine with_tabW nl.tab1 nl.bits1 (fun HT_ HW_ => ?_)
  clear HL
  revert hHeld
  generalize World.drew _ = w8
  intro hHeld
  refine tA 0 (some 13) (YtoigmeiollfklaaLoc.bm 6 1) rfl rfl HT_.out HW_.out (by kernel_rfl) (fun _ _ _ h => h) (by rfl) hHeld (fun w' hS => loc_load_run (n := 5) (by kernel_rfl) rfl rfl (by kernel_rfl) hS (by with_reducible repeat (first | exact Sel.done | apply Sel.take | apply Sel.skip | apply Get.here | apply Get.next))) (by simp only [Act.put, zs1, zs2, zs3, i64_w, i32_w]; rfl) ?_
  refine tA 2 (some 15) (YtoigmeiollfklaaLoc.bm 6 5) rfl rfl HT_.out HW_.out (by kernel_rfl) (fun _ _ _ h => h) (by rfl) hHeld (fun w' hS => loc_load_run (n := 5) (by kernel_rfl) rfl rfl (by kernel_rfl) hS (by with_reducible repeat (first | exact Sel.done | apply Sel.take | apply Sel.skip | apply Get.here | apply Get.next))) (by simp only [Act.put, zs1, zs2, zs3, i64_w, i32_w]; rfl) ?_
  refine one_ (i := 1) (N := some 14) (YtoigmeiollfklaaLoc.bm 6 7) rfl rfl (one_of HT_.out (by kernel_rfl)) (by decide) (fun K hK => ?_)
  refine goes_ Try.func28 (by kernel_rfl) rfl #[.agg #[.int .i64 a0, .int .i64 a1, .int .i64 a2, .int .i64 a3, .int .i64 a4]] (by rfl) rfl rfl (by (try simp only [List.map_toArray, List.map_cons, List.map_nil]); first | done | rfl) ?_
  refine (impl_NegNew.calls a0 a1 a2 a3 a4 a0 a1 a2 a3 a4 a0 a1 a2 a3 a4 0 0 0 0 0 0 0 0 0 0 false _ A1.out).mono ?_
  rintro e w9 ⟨rfl, hb_⟩
  refine ⟨_, rfl, ?_⟩
  refine hK.out _ _ (hHeld.call hb_) (fun hHeld => ?_)
  clear hK K
  refine norm_ (a' := ?_) ?_ ?_
  rotate_left
  · show Act.put _ (some 14) _ = _
    simp only [Act.put, zs1, zs2, zs3, i64_w, i32_w]
    rfl
  refine one_ (i := 3) (N := some 16) (YtoigmeiollfklaaLoc.bm 6 15) rfl rfl (one_of HT_.out (by kernel_rfl)) (by decide) (fun K hK => ?_)
  refine goes_ Try.func28 (by kernel_rfl) rfl #[.agg #[.int .i64 b0, .int .i64 b1, .int .i64 b2, .int .i64 b3, .int .i64 b4]] (by rfl) rfl rfl (by (try simp only [List.map_toArray, List.map_cons, List.map_nil]); first | done | rfl) ?_
  refine (impl_NegNew.calls b0 b1 b2 b3 b4 b0 b1 b2 b3 b4 b0 b1 b2 b3 b4 0 0 0 0 0 0 0 0 0 0 false _ A2.out).mono ?_
  rintro e wB ⟨rfl, hb_⟩
  refine ⟨_, rfl, ?_⟩
  refine hK.out _ _ (hHeld.call hb_) (fun hHeld => ?_)
  clear hK K
  refine norm_ (a' := ?_) ?_ ?_
  rotate_left
  · show Act.put _ (some 16) _ = _
    simp only [Act.put, zs1, zs2, zs3, i64_w, i32_w]
    rfl
  have HB := mk_ hHeld
  refine one_ (i := 4) (N := some 17) (YtoigmeiollfklaaLoc.bm 6 31) rfl rfl (one_of HT_.out (by kernel_rfl)) (by decide) (fun K hK => ?_)
  refine value_ (w1 := wB.alloc (.cells ((.int .i64 a0 :: .int .i64 a1 :: .int .i64 a2 :: .int .i64 a3 :: .int .i64 a4 :: .int .i64 a0 :: .int .i64 a1 :: .int .i64 a2 :: .int .i64 a3 :: .int .i64 a4 :: .int .i64 0 :: .int .i64 0 :: .int .i64 0 :: .int .i64 0 :: .int .i64 0 :: .int .i64 0 :: .int .i64 0 :: .int .i64 0 :: .int .i64 0 :: .int .i64 0 :: .bool false :: .int .i64 b0 :: .int .i64 b1 :: .int .i64 b2 :: .int .i64 b3 :: .int .i64 b4 :: .int .i64 b0 :: .int .i64 b1 :: .int .i64 b2 :: .int .i64 b3 :: .int .i64 b4 :: .int .i64 0 :: .int .i64 0 :: .int .i64 0 :: .int .i64 0 :: .int .i64 0 :: .int .i64 0 :: .int .i64 0 :: .int .i64 0 :: .int .i64 0 :: .int .i64 0 :: .bool false :: [])).toArray 30)) (v := .slice (some ⟨wB.heap.size, 0, none⟩) 2 2) (by rfl) rfl ?_ ?_
  · first | (go_simp; done) | (go_simp; rfl)
  have HL := mk_ ((Lok.start wB).new (.int .i64 a0 :: .int .i64 a1 :: .int .i64 a2 :: .int .i64 a3 :: .int .i64 a4 :: .int .i64 a0 :: .int .i64 a1 :: .int .i64 a2 :: .int .i64 a3 :: .int .i64 a4 :: .int .i64 0 :: .int .i64 0 :: .int .i64 0 :: .int .i64 0 :: .int .i64 0 :: .int .i64 0 :: .int .i64 0 :: .int .i64 0 :: .int .i64 0 :: .int .i64 0 :: .bool false :: .int .i64 b0 :: .int .i64 b1 :: .int .i64 b2 :: .int .i64 b3 :: .int .i64 b4 :: .int .i64 b0 :: .int .i64 b1 :: .int .i64 b2 :: .int .i64 b3 :: .int .i64 b4 :: .int .i64 0 :: .int .i64 0 :: .int .i64 0 :: .int .i64 0 :: .int .i64 0 :: .int .i64 0 :: .int .i64 0 :: .int .i64 0 :: .int .i64 0 :: .int .i64 0 :: .bool false :: []) 30)
  refine hK.out _ _ (HB.out.call (below_alloc (Below.refl _ _) _)) (fun hHeld => ?_)
  clear hK K
  refine norm_ (a' := ?_) ?_ ?_
  rotate_left
  · show Act.put _ (some 17) _ = _
    simp only [Act.put, zs1, zs2, zs3, i64_w, i32_w]
    rfl
  refine pA 5 (some 9) (YtoigmeiollfklaaLoc.bm 6 63) rfl rfl HT_.out (by kernel_rfl) (fun _ _ _ h => h) (by rfl) (by intro w'; go_simp; with_reducible rfl) (by simp only [Act.put, zs1, zs2, zs3, i64_w, i32_w]; rfl) ?_
  refine done_ (done_of HT_.out (by kernel_rfl)) ?_
  clear hHeld HT_ HW_ A1 A2
  revert HL
  generalize wB.heap.size = gs
  generalize wB.alloc _ = w10
  intro HL
  go_wp2_with (first | ((with_reducible refine gate_dst (N := 18) rfl ?_); refine l0_lit (sz := 6) (e := 32) rfl rfl (by first | (go_simp; done) | (go_simp; rfl)) HL.out ?_; intro A18 c18 w_ HL_; replace HL := mk_ HL_; clear HL_) | ((with_reducible refine gate_dst (N := 19) rfl ?_); refine l1_lit rfl rfl (by first | (go_simp; done) | (go_simp; rfl)) HL.out ?_; intro A19 c19 w_ HL_; replace HL := mk_ HL_; clear HL_) | ((with_reducible refine gate_dst (N := 20) rfl ?_); refine lr_slice (n := 2) (t := 67) (cs := [.slice A18 0 c18, .slice A19 0 c19]) rfl (by first | (go_simp; done) | (go_simp; rfl)) HL.out ?_; intro gn w_ HL_; replace HL := mk_ HL_; clear HL_))
  go_loopg [9, 10, 11] l.length (fun kq v9 v10 v11 wr => v9 = .slice (some ⟨gs, 0, none⟩) 2 2 ∧ v10 = .slice (some ⟨gn, 0, none⟩) 2 2 ∧ ∃ (j : Nat) (s : Sy) (vp vq : Value), v11 = .int .i64 (j : Int) ∧ Aside0 (kq + j = l.length) ∧ Aside0 (sf = playF (l.drop j) s) ∧ Aside0 (s.p.length + s.q.length ≤ j) ∧ Aside0 (LR 6 32 wB wr [(gn, [vp, vq], 67), (gs, nvs s.x ++ nvs s.y, 30)] vp vq (msl s.p) (msl s.q)))
  case atStart => exact ⟨rfl, rfl, 0, begS ⟨a0, a1, a2, a3, a4⟩ ⟨b0, b1, b2, b3, b4⟩, _, _, rfl, ⟨by omega⟩, ⟨HF.out⟩, ⟨by simp [begS]⟩, ⟨HL.out⟩⟩
  case round =>
    clear HL HF
    obtain ⟨rfl, rfl, j, s, vp, vq, rfl, HK, HF, HQ, HL⟩ := hrel
    have HD : Below w.heap.size w wr := by
      have h1 := HB.out.bel
      have h2 := HL.out.lok.bel
      exact ⟨h2.os.trans h1.os, h2.tape.trans h1.tape, h2.output.trans h1.output, Nat.le_trans h1.size h2.size, fun k hk => (h2.block k (Nat.lt_of_lt_of_le hk h1.size)).trans (h1.block k hk)⟩
    by_cases c4 : (j : Int) < (l.length : Int)
    · have c4b : decide ((j : Int) < (l.length : Int)) = true := decide_eq_true c4
      obtain ⟨ad, hA, hcell⟩ := (Kd.reads_of_C (d := (0 : Int)) (h1 := fun _ => rfl) (Kd.C_below HR.out HD)).at_ (j : Int) (by omega) c4
      obtain ⟨v, hv⟩ : ∃ v, v = rdOf (0 : Int) l (j : Int) := ⟨_, rfl⟩
      rw [← hv, Int.toNat_natCast] at hcell
      have hj : j < l.length := by omega
      have hv2 : l[j]? = some v := by rw [hv]; unfold rdOf; rw [Int.toNat_natCast, List.getD_eq_getElem?_getD, List.getElem?_eq_getElem hj]; rfl
      have hd : l.drop j = v :: l.drop (j + 1) := by
        rw [List.drop_eq_getElem_cons hj]
        congr 1
        rw [List.getElem?_eq_getElem hj] at hv2
        exact Option.some.inj hv2
      have hvr := HV.out v (List.mem_of_getElem? hv2)
      have HP := mk_ (show sf = playF (l.drop (j + 1)) (doo s (v % 2) (v / 2)) by rw [HF.out, hd]; rfl)
      have HW := mk_ (show v % 2 = 0 ∨ v % 2 = 1 by omega)
      have HL2 := mk_ (len_doo s (v % 2) (v / 2))
      have HV2 := mk_ hvr
      have p1 : (0 : Int) ≤ (j : Int) := by omega
      clear hv hv2 hd hvr HF HD hj
      replace p1 := eq_true p1
      replace c4 := eq_true c4
      cases hA
      have HE1 := mk_ (show v.tmod 2 = v % 2 from Int.tmod_eq_emod_of_nonneg HV2.out.1)
      have HE2 := mk_ (show wrap64 (v.tdiv 2) = v / 2 by rw [Int.tdiv_eq_ediv_of_nonneg HV2.out.1]; exact wrap64_id (by have := HV2.out; omega) (by have := HV2.out; omega))
      have HJ := mk_ (show wrap64 ((j : Int) + 1) = ((j + 1 : Nat) : Int) by rw [wrap64_id (by omega) (by have := HN.out; have := of_eq_true c4; omega)]; omega)
      go_wp2_with (first | (go_at_call 37; rw [HE1.out, HE2.out]; refine (negDo_calls wB gs gn (v % 2) HW.out s vp vq (v / 2) _ HL.out (by have := HQ.out; have := HN.out; have := of_eq_true c4; omega)).mono ?_; rintro e w_ ⟨vp', vq', rfl, HL_⟩; replace HL := mk_ HL_; clear HL_))
      go_roundg (gk - 1)
      case measure => have := HK.out; have := of_eq_true c4; omega
      case rel => exact ⟨rfl, rfl, j + 1, doo s (v % 2) (v / 2), vp', vq', by rw [← HJ.out], ⟨by have := HK.out; have := of_eq_true c4; omega⟩, ⟨HP.out⟩, ⟨by have := HL2.out; have := HQ.out; omega⟩, ⟨HL.out⟩⟩
    · have c4b : decide ((j : Int) < (l.length : Int)) = false := decide_eq_false c4
      have c4c : decide (j < l.length) = false := decide_eq_false (by omega)
      have c4d : (j < l.length) = False := eq_false (by omega)
      have HS := mk_ (show sf = s by rw [HF.out, List.drop_eq_nil_of_le (by omega)]; rfl)
      have HX := mk_ (HL.out.join HB.out)
      clear HF HD HL c4
      obtain ⟨sx, sy, sp, sq⟩ := s
      obtain ⟨⟨x0, x1, x2, x3, x4⟩, ⟨x5, x6, x7, x8, x9⟩, ⟨x10, x11, x12, x13, x14⟩, ⟨x15, x16, x17, x18, x19⟩, x20⟩ := sx
      obtain ⟨⟨y0, y1, y2, y3, y4⟩, ⟨y5, y6, y7, y8, y9⟩, ⟨y10, y11, y12, y13, y14⟩, ⟨y15, y16, y17, y18, y19⟩, y20⟩ := sy
      have HL := mk_ (show LR 6 32 w wr ([(gn, [vp, vq], 67), (gs, (.int .i64 x0 :: .int .i64 x1 :: .int .i64 x2 :: .int .i64 x3 :: .int .i64 x4 :: .int .i64 x5 :: .int .i64 x6 :: .int .i64 x7 :: .int .i64 x8 :: .int .i64 x9 :: .int .i64 x10 :: .int .i64 x11 :: .int .i64 x12 :: .int .i64 x13 :: .int .i64 x14 :: .int .i64 x15 :: .int .i64 x16 :: .int .i64 x17 :: .int .i64 x18 :: .int .i64 x19 :: .bool x20 :: .int .i64 y0 :: .int .i64 y1 :: .int .i64 y2 :: .int .i64 y3 :: .int .i64 y4 :: .int .i64 y5 :: .int .i64 y6 :: .int .i64 y7 :: .int .i64 y8 :: .int .i64 y9 :: .int .i64 y10 :: .int .i64 y11 :: .int .i64 y12 :: .int .i64 y13 :: .int .i64 y14 :: .int .i64 y15 :: .int .i64 y16 :: .int .i64 y17 :: .int .i64 y18 :: .int .i64 y19 :: .bool y20 :: []), 30)] ++ [(gb7, [.int .i64 0, .int .i64 0, .int .i64 0, .int .i64 0, .int .i64 0, .int .i64 0, .int .i64 0, .int .i64 0, .int .i64 0, .int .i64 0, .int .i64 0, .int .i64 0, .int .i64 0, .int .i64 0, .int .i64 0, .int .i64 0, .int .i64 0, .int .i64 0, .int .i64 0, .int .i64 0, .bool false], 30), (gb6, [.int .i64 0, .int .i64 0, .int .i64 0, .int .i64 0, .int .i64 0, .int .i64 0, .int .i64 0, .int .i64 0, .int .i64 0, .int .i64 0, .int .i64 0, .int .i64 0, .int .i64 0, .int .i64 0, .int .i64 0, .int .i64 0, .int .i64 0, .int .i64 0, .int .i64 0, .int .i64 0, .bool false], 30), (gb4, [.int .i64 b0, .int .i64 b1, .int .i64 b2, .int .i64 b3, .int .i64 b4], 28), (gb3, [.int .i64 a0, .int .i64 a1, .int .i64 a2, .int .i64 a3, .int .i64 a4], 28)]) vp vq (msl sp) (msl sq) from HX.out)
      clear HX
      have HH := mk_ (Lok.hd (A := [(gn, [vp, vq], 67), (gs, (.int .i64 x0 :: .int .i64 x1 :: .int .i64 x2 :: .int .i64 x3 :: .int .i64 x4 :: .int .i64 x5 :: .int .i64 x6 :: .int .i64 x7 :: .int .i64 x8 :: .int .i64 x9 :: .int .i64 x10 :: .int .i64 x11 :: .int .i64 x12 :: .int .i64 x13 :: .int .i64 x14 :: .int .i64 x15 :: .int .i64 x16 :: .int .i64 x17 :: .int .i64 x18 :: .int .i64 x19 :: .bool x20 :: .int .i64 y0 :: .int .i64 y1 :: .int .i64 y2 :: .int .i64 y3 :: .int .i64 y4 :: .int .i64 y5 :: .int .i64 y6 :: .int .i64 y7 :: .int .i64 y8 :: .int .i64 y9 :: .int .i64 y10 :: .int .i64 y11 :: .int .i64 y12 :: .int .i64 y13 :: .int .i64 y14 :: .int .i64 y15 :: .int .i64 y16 :: .int .i64 y17 :: .int .i64 y18 :: .int .i64 y19 :: .bool y20 :: []), 30)]) HL.out.lok)
      go_upto_region 8 with fail
      refine start_ (n := 10) (S := fun w' => Lok w w' [(gn, [vp, vq], 67), (gs, (.int .i64 x0 :: .int .i64 x1 :: .int .i64 x2 :: .int .i64 x3 :: .int .i64 x4 :: .int .i64 x5 :: .int .i64 x6 :: .int .i64 x7 :: .int .i64 x8 :: .int .i64 x9 :: .int .i64 x10 :: .int .i64 x11 :: .int .i64 x12 :: .int .i64 x13 :: .int .i64 x14 :: .int .i64 x15 :: .int .i64 x16 :: .int .i64 x17 :: .int .i64 x18 :: .int .i64 x19 :: .bool x20 :: .int .i64 y0 :: .int .i64 y1 :: .int .i64 y2 :: .int .i64 y3 :: .int .i64 y4 :: .int .i64 y5 :: .int .i64 y6 :: .int .i64 y7 :: .int .i64 y8 :: .int .i64 y9 :: .int .i64 y10 :: .int .i64 y11 :: .int .i64 y12 :: .int .i64 y13 :: .int .i64 y14 :: .int .i64 y15 :: .int .i64 y16 :: .int .i64 y17 :: .int .i64 y18 :: .int .i64 y19 :: .bool y20 :: []), 30)]) (ds := []) (YtoigmeiollfklaaLoc.bm 10 0) (by kernel_rfl) rfl rfl HH.out.drew (fun hHeld => ?_)
      refine with_tabW nl.tab8 nl.bits8 (fun HT_ HW_ => ?_)
      have HD := mk_ (HL.out.drew)
      clear HL HH
      revert HD
      revert hHeld
      generalize World.drew _ = w8
      intro hHeld HD
      refine pA 0 (some 44) (YtoigmeiollfklaaLoc.bm 10 1) rfl rfl HT_.out (by kernel_rfl) (fun _ _ _ h => h) (by rfl) (by intro w'; go_simp; with_reducible rfl) (by simp only [Act.put, zs1, zs2, zs3, i64_w, i32_w]; rfl) ?_
      refine pA 1 (some 45) (YtoigmeiollfklaaLoc.bm 10 3) rfl rfl HT_.out (by kernel_rfl) (fun _ _ _ h => h) (by rfl) (by intro w'; go_simp; with_reducible rfl) (by simp only [Act.put, zs1, zs2, zs3, i64_w, i32_w]; rfl) ?_
      refine pA 3 (some 47) (YtoigmeiollfklaaLoc.bm 10 11) rfl rfl HT_.out (by kernel_rfl) (fun _ _ _ h => h) (by rfl) (by intro w'; go_simp; with_reducible rfl) (by simp only [Act.put, zs1, zs2, zs3, i64_w, i32_w]; rfl) ?_
      refine pA 4 (some 48) (YtoigmeiollfklaaLoc.bm 10 27) rfl rfl HT_.out (by kernel_rfl) (fun _ _ _ h => h) (by rfl) (by intro w'; go_simp; with_reducible rfl) (by simp only [Act.put, zs1, zs2, zs3, i64_w, i32_w]; rfl) ?_
      refine pA 6 (some 50) (YtoigmeiollfklaaLoc.bm 10 91) rfl rfl HT_.out (by kernel_rfl) (fun _ _ _ h => h) (by rfl) (by intro w'; go_simp; with_reducible rfl) (by simp only [Act.put, zs1, zs2, zs3, i64_w, i32_w]; rfl) ?_
      refine tA 2 (some 46) (YtoigmeiollfklaaLoc.bm 10 95) rfl rfl HT_.out HW_.out (by kernel_rfl) (fun _ _ _ h => h) (by rfl) hHeld (fun w' hS => loc_load_run (n := 21) (by kernel_rfl) rfl rfl (by kernel_rfl) hS (by with_reducible repeat (first | exact Sel.done | apply Sel.take | apply Sel.skip | apply Get.here | apply Get.next))) (by simp only [Act.put, zs1, zs2, zs3, i64_w, i32_w]; rfl) ?_
      refine tA 5 (some 49) (YtoigmeiollfklaaLoc.bm 10 127) rfl rfl HT_.out HW_.out (by kernel_rfl) (fun _ _ _ h => h) (by rfl) hHeld (fun w' hS => loc_load_run (n := 21) (by kernel_rfl) rfl rfl (by kernel_rfl) hS (by with_reducible repeat (first | exact Sel.done | apply Sel.take | apply Sel.skip | apply Get.here | apply Get.next))) (by simp only [Act.put, zs1, zs2, zs3, i64_w, i32_w]; rfl) ?_
      refine one_ (i := 7) (N := none) (YtoigmeiollfklaaLoc.bm 10 255) rfl rfl (one_of HT_.out (by kernel_rfl)) (by decide) (fun K hK => ?_)
      have HE := mk_ (LR.upd (H' := [(gn, [vp, vq], 67), (gs, (.int .i64 x0 :: .int .i64 x1 :: .int .i64 x2 :: .int .i64 x3 :: .int .i64 x4 :: .int .i64 x5 :: .int .i64 x6 :: .int .i64 x7 :: .int .i64 x8 :: .int .i64 x9 :: .int .i64 x10 :: .int .i64 x11 :: .int .i64 x12 :: .int .i64 x13 :: .int .i64 x14 :: .int .i64 x15 :: .int .i64 x16 :: .int .i64 x17 :: .int .i64 x18 :: .int .i64 x19 :: .bool x20 :: .int .i64 y0 :: .int .i64 y1 :: .int .i64 y2 :: .int .i64 y3 :: .int .i64 y4 :: .int .i64 y5 :: .int .i64 y6 :: .int .i64 y7 :: .int .i64 y8 :: .int .i64 y9 :: .int .i64 y10 :: .int .i64 y11 :: .int .i64 y12 :: .int .i64 y13 :: .int .i64 y14 :: .int .i64 y15 :: .int .i64 y16 :: .int .i64 y17 :: .int .i64 y18 :: .int .i64 y19 :: .bool y20 :: []), 30), (gb7, [.int .i64 0, .int .i64 0, .int .i64 0, .int .i64 0, .int .i64 0, .int .i64 0, .int .i64 0, .int .i64 0, .int .i64 0, .int .i64 0, .int .i64 0, .int .i64 0, .int .i64 0, .int .i64 0, .int .i64 0, .int .i64 0, .int .i64 0, .int .i64 0, .int .i64 0, .int .i64 0, .bool false], 30), (gb6, [.int .i64 x0, .int .i64 x1, .int .i64 x2, .int .i64 x3, .int .i64 x4, .int .i64 x5, .int .i64 x6, .int .i64 x7, .int .i64 x8, .int .i64 x9, .int .i64 x10, .int .i64 x11, .int .i64 x12, .int .i64 x13, .int .i64 x14, .int .i64 x15, .int .i64 x16, .int .i64 x17, .int .i64 x18, .int .i64 x19, .bool x20], 30), (gb4, [.int .i64 b0, .int .i64 b1, .int .i64 b2, .int .i64 b3, .int .i64 b4], 28), (gb3, [.int .i64 a0, .int .i64 a1, .int .i64 a2, .int .i64 a3, .int .i64 a4], 28)]) (g := gb6) (k := 0) (vs := [.int .i64 x0, .int .i64 x1, .int .i64 x2, .int .i64 x3, .int .i64 x4, .int .i64 x5, .int .i64 x6, .int .i64 x7, .int .i64 x8, .int .i64 x9, .int .i64 x10, .int .i64 x11, .int .i64 x12, .int .i64 x13, .int .i64 x14, .int .i64 x15, .int .i64 x16, .int .i64 x17, .int .i64 x18, .int .i64 x19, .bool x20]) (show LR 6 32 w _ [(gn, [vp, vq], 67), (gs, (.int .i64 x0 :: .int .i64 x1 :: .int .i64 x2 :: .int .i64 x3 :: .int .i64 x4 :: .int .i64 x5 :: .int .i64 x6 :: .int .i64 x7 :: .int .i64 x8 :: .int .i64 x9 :: .int .i64 x10 :: .int .i64 x11 :: .int .i64 x12 :: .int .i64 x13 :: .int .i64 x14 :: .int .i64 x15 :: .int .i64 x16 :: .int .i64 x17 :: .int .i64 x18 :: .int .i64 x19 :: .bool x20 :: .int .i64 y0 :: .int .i64 y1 :: .int .i64 y2 :: .int .i64 y3 :: .int .i64 y4 :: .int .i64 y5 :: .int .i64 y6 :: .int .i64 y7 :: .int .i64 y8 :: .int .i64 y9 :: .int .i64 y10 :: .int .i64 y11 :: .int .i64 y12 :: .int .i64 y13 :: .int .i64 y14 :: .int .i64 y15 :: .int .i64 y16 :: .int .i64 y17 :: .int .i64 y18 :: .int .i64 y19 :: .bool y20 :: []), 30), (gb7, [.int .i64 0, .int .i64 0, .int .i64 0, .int .i64 0, .int .i64 0, .int .i64 0, .int .i64 0, .int .i64 0, .int .i64 0, .int .i64 0, .int .i64 0, .int .i64 0, .int .i64 0, .int .i64 0, .int .i64 0, .int .i64 0, .int .i64 0, .int .i64 0, .int .i64 0, .int .i64 0, .bool false], 30), (gb6, [.int .i64 0, .int .i64 0, .int .i64 0, .int .i64 0, .int .i64 0, .int .i64 0, .int .i64 0, .int .i64 0, .int .i64 0, .int .i64 0, .int .i64 0, .int .i64 0, .int .i64 0, .int .i64 0, .int .i64 0, .int .i64 0, .int .i64 0, .int .i64 0, .int .i64 0, .int .i64 0, .bool false], 30), (gb4, [.int .i64 b0, .int .i64 b1, .int .i64 b2, .int .i64 b3, .int .i64 b4], 28), (gb3, [.int .i64 a0, .int .i64 a1, .int .i64 a2, .int .i64 a3, .int .i64 a4], 28)] vp vq (msl sp) (msl sq) from HD.out) (by with_reducible repeat (first | exact Spl.done | apply Spl.put | apply Spl.skip | apply Upd.here | apply Upd.next)))
      refine skip_ (by rfl) rfl (loc_store_run (vs := [.int .i64 x0, .int .i64 x1, .int .i64 x2, .int .i64 x3, .int .i64 x4, .int .i64 x5, .int .i64 x6, .int .i64 x7, .int .i64 x8, .int .i64 x9, .int .i64 x10, .int .i64 x11, .int .i64 x12, .int .i64 x13, .int .i64 x14, .int .i64 x15, .int .i64 x16, .int .i64 x17, .int .i64 x18, .int .i64 x19, .bool x20]) rfl rfl rfl (by kernel_rfl) (by kernel_rfl) (show LR 6 32 w _ [(gn, [vp, vq], 67), (gs, (.int .i64 x0 :: .int .i64 x1 :: .int .i64 x2 :: .int .i64 x3 :: .int .i64 x4 :: .int .i64 x5 :: .int .i64 x6 :: .int .i64 x7 :: .int .i64 x8 :: .int .i64 x9 :: .int .i64 x10 :: .int .i64 x11 :: .int .i64 x12 :: .int .i64 x13 :: .int .i64 x14 :: .int .i64 x15 :: .int .i64 x16 :: .int .i64 x17 :: .int .i64 x18 :: .int .i64 x19 :: .bool x20 :: .int .i64 y0 :: .int .i64 y1 :: .int .i64 y2 :: .int .i64 y3 :: .int .i64 y4 :: .int .i64 y5 :: .int .i64 y6 :: .int .i64 y7 :: .int .i64 y8 :: .int .i64 y9 :: .int .i64 y10 :: .int .i64 y11 :: .int .i64 y12 :: .int .i64 y13 :: .int .i64 y14 :: .int .i64 y15 :: .int .i64 y16 :: .int .i64 y17 :: .int .i64 y18 :: .int .i64 y19 :: .bool y20 :: []), 30), (gb7, [.int .i64 0, .int .i64 0, .int .i64 0, .int .i64 0, .int .i64 0, .int .i64 0, .int .i64 0, .int .i64 0, .int .i64 0, .int .i64 0, .int .i64 0, .int .i64 0, .int .i64 0, .int .i64 0, .int .i64 0, .int .i64 0, .int .i64 0, .int .i64 0, .int .i64 0, .int .i64 0, .bool false], 30), (gb6, [.int .i64 0, .int .i64 0, .int .i64 0, .int .i64 0, .int .i64 0, .int .i64 0, .int .i64 0, .int .i64 0, .int .i64 0, .int .i64 0, .int .i64 0, .int .i64 0, .int .i64 0, .int .i64 0, .int .i64 0, .int .i64 0, .int .i64 0, .int .i64 0, .int .i64 0, .int .i64 0, .bool false], 30), (gb4, [.int .i64 b0, .int .i64 b1, .int .i64 b2, .int .i64 b3, .int .i64 b4], 28), (gb3, [.int .i64 a0, .int .i64 a1, .int .i64 a2, .int .i64 a3, .int .i64 a4], 28)] vp vq (msl sp) (msl sq) from HD.out).lok (by with_reducible repeat (first | exact Spl.done | apply Spl.put | apply Spl.skip | apply Upd.here | apply Upd.next))) ?_
      refine hK.out _ _ (Lok.hd (A := [(gn, [vp, vq], 67), (gs, (.int .i64 x0 :: .int .i64 x1 :: .int .i64 x2 :: .int .i64 x3 :: .int .i64 x4 :: .int .i64 x5 :: .int .i64 x6 :: .int .i64 x7 :: .int .i64 x8 :: .int .i64 x9 :: .int .i64 x10 :: .int .i64 x11 :: .int .i64 x12 :: .int .i64 x13 :: .int .i64 x14 :: .int .i64 x15 :: .int .i64 x16 :: .int .i64 x17 :: .int .i64 x18 :: .int .i64 x19 :: .bool x20 :: .int .i64 y0 :: .int .i64 y1 :: .int .i64 y2 :: .int .i64 y3 :: .int .i64 y4 :: .int .i64 y5 :: .int .i64 y6 :: .int .i64 y7 :: .int .i64 y8 :: .int .i64 y9 :: .int .i64 y10 :: .int .i64 y11 :: .int .i64 y12 :: .int .i64 y13 :: .int .i64 y14 :: .int .i64 y15 :: .int .i64 y16 :: .int .i64 y17 :: .int .i64 y18 :: .int .i64 y19 :: .bool y20 :: []), 30)]) (show LR 6 32 w _ ([(gn, [vp, vq], 67), (gs, (.int .i64 x0 :: .int .i64 x1 :: .int .i64 x2 :: .int .i64 x3 :: .int .i64 x4 :: .int .i64 x5 :: .int .i64 x6 :: .int .i64 x7 :: .int .i64 x8 :: .int .i64 x9 :: .int .i64 x10 :: .int .i64 x11 :: .int .i64 x12 :: .int .i64 x13 :: .int .i64 x14 :: .int .i64 x15 :: .int .i64 x16 :: .int .i64 x17 :: .int .i64 x18 :: .int .i64 x19 :: .bool x20 :: .int .i64 y0 :: .int .i64 y1 :: .int .i64 y2 :: .int .i64 y3 :: .int .i64 y4 :: .int .i64 y5 :: .int .i64 y6 :: .int .i64 y7 :: .int .i64 y8 :: .int .i64 y9 :: .int .i64 y10 :: .int .i64 y11 :: .int .i64 y12 :: .int .i64 y13 :: .int .i64 y14 :: .int .i64 y15 :: .int .i64 y16 :: .int .i64 y17 :: .int .i64 y18 :: .int .i64 y19 :: .bool y20 :: []), 30)] ++ [(gb7, [.int .i64 0, .int .i64 0, .int .i64 0, .int .i64 0, .int .i64 0, .int .i64 0, .int .i64 0, .int .i64 0, .int .i64 0, .int .i64 0, .int .i64 0, .int .i64 0, .int .i64 0, .int .i64 0, .int .i64 0, .int .i64 0, .int .i64 0, .int .i64 0, .int .i64 0, .int .i64 0, .bool false], 30), (gb6, [.int .i64 x0, .int .i64 x1, .int .i64 x2, .int .i64 x3, .int .i64 x4, .int .i64 x5, .int .i64 x6, .int .i64 x7, .int .i64 x8, .int .i64 x9, .int .i64 x10, .int .i64 x11, .int .i64 x12, .int .i64 x13, .int .i64 x14, .int .i64 x15, .int .i64 x16, .int .i64 x17, .int .i64 x18, .int .i64 x19, .bool x20], 30), (gb4, [.int .i64 b0, .int .i64 b1, .int .i64 b2, .int .i64 b3, .int .i64 b4], 28), (gb3, [.int .i64 a0, .int .i64 a1, .int .i64 a2, .int .i64 a3, .int .i64 a4], 28)]) vp vq (msl sp) (msl sq) from HE.out).lok) (fun hHeld => ?_)
      clear hK K HD
      revert HE
      revert hHeld
      generalize World.setCells _ _ _ _ = w11
      intro hHeld HD
      refine one_ (i := 8) (N := none) (YtoigmeiollfklaaLoc.bm 10 511) rfl rfl (one_of HT_.out (by kernel_rfl)) (by decide) (fun K hK => ?_)
      have HE := mk_ (LR.upd (H' := [(gn, [vp, vq], 67), (gs, (.int .i64 x0 :: .int .i64 x1 :: .int .i64 x2 :: .int .i64 x3 :: .int .i64 x4 :: .int .i64 x5 :: .int .i64 x6 :: .int .i64 x7 :: .int .i64 x8 :: .int .i64 x9 :: .int .i64 x10 :: .int .i64 x11 :: .int .i64 x12 :: .int .i64 x13 :: .int .i64 x14 :: .int .i64 x15 :: .int .i64 x16 :: .int .i64 x17 :: .int .i64 x18 :: .int .i64 x19 :: .bool x20 :: .int .i64 y0 :: .int .i64 y1 :: .int .i64 y2 :: .int .i64 y3 :: .int .i64 y4 :: .int .i64 y5 :: .int .i64 y6 :: .int .i64 y7 :: .int .i64 y8 :: .int .i64 y9 :: .int .i64 y10 :: .int .i64 y11 :: .int .i64 y12 :: .int .i64 y13 :: .int .i64 y14 :: .int .i64 y15 :: .int .i64 y16 :: .int .i64 y17 :: .int .i64 y18 :: .int .i64 y19 :: .bool y20 :: []), 30), (gb7, [.int .i64 y0, .int .i64 y1, .int .i64 y2, .int .i64 y3, .int .i64 y4, .int .i64 y5, .int .i64 y6, .int .i64 y7, .int .i64 y8, .int .i64 y9, .int .i64 y10, .int .i64 y11, .int .i64 y12, .int .i64 y13, .int .i64 y14, .int .i64 y15, .int .i64 y16, .int .i64 y17, .int .i64 y18, .int .i64 y19, .bool y20], 30), (gb6, [.int .i64 x0, .int .i64 x1, .int .i64 x2, .int .i64 x3, .int .i64 x4, .int .i64 x5, .int .i64 x6, .int .i64 x7, .int .i64 x8, .int .i64 x9, .int .i64 x10, .int .i64 x11, .int .i64 x12, .int .i64 x13, .int .i64 x14, .int .i64 x15, .int .i64 x16, .int .i64 x17, .int .i64 x18, .int .i64 x19, .bool x20], 30), (gb4, [.int .i64 b0, .int .i64 b1, .int .i64 b2, .int .i64 b3, .int .i64 b4], 28), (gb3, [.int .i64 a0, .int .i64 a1, .int .i64 a2, .int .i64 a3, .int .i64 a4], 28)]) (g := gb7) (k := 0) (vs := [.int .i64 y0, .int .i64 y1, .int .i64 y2, .int .i64 y3, .int .i64 y4, .int .i64 y5, .int .i64 y6, .int .i64 y7, .int .i64 y8, .int .i64 y9, .int .i64 y10, .int .i64 y11, .int .i64 y12, .int .i64 y13, .int .i64 y14, .int .i64 y15, .int .i64 y16, .int .i64 y17, .int .i64 y18, .int .i64 y19, .bool y20]) (show LR 6 32 w _ [(gn, [vp, vq], 67), (gs, (.int .i64 x0 :: .int .i64 x1 :: .int .i64 x2 :: .int .i64 x3 :: .int .i64 x4 :: .int .i64 x5 :: .int .i64 x6 :: .int .i64 x7 :: .int .i64 x8 :: .int .i64 x9 :: .int .i64 x10 :: .int .i64 x11 :: .int .i64 x12 :: .int .i64 x13 :: .int .i64 x14 :: .int .i64 x15 :: .int .i64 x16 :: .int .i64 x17 :: .int .i64 x18 :: .int .i64 x19 :: .bool x20 :: .int .i64 y0 :: .int .i64 y1 :: .int .i64 y2 :: .int .i64 y3 :: .int .i64 y4 :: .int .i64 y5 :: .int .i64 y6 :: .int .i64 y7 :: .int .i64 y8 :: .int .i64 y9 :: .int .i64 y10 :: .int .i64 y11 :: .int .i64 y12 :: .int .i64 y13 :: .int .i64 y14 :: .int .i64 y15 :: .int .i64 y16 :: .int .i64 y17 :: .int .i64 y18 :: .int .i64 y19 :: .bool y20 :: []), 30), (gb7, [.int .i64 0, .int .i64 0, .int .i64 0, .int .i64 0, .int .i64 0, .int .i64 0, .int .i64 0, .int .i64 0, .int .i64 0, .int .i64 0, .int .i64 0, .int .i64 0, .int .i64 0, .int .i64 0, .int .i64 0, .int .i64 0, .int .i64 0, .int .i64 0, .int .i64 0, .int .i64 0, .bool false], 30), (gb6, [.int .i64 x0, .int .i64 x1, .int .i64 x2, .int .i64 x3, .int .i64 x4, .int .i64 x5, .int .i64 x6, .int .i64 x7, .int .i64 x8, .int .i64 x9, .int .i64 x10, .int .i64 x11, .int .i64 x12, .int .i64 x13, .int .i64 x14, .int .i64 x15, .int .i64 x16, .int .i64 x17, .int .i64 x18, .int .i64 x19, .bool x20], 30), (gb4, [.int .i64 b0, .int .i64 b1, .int .i64 b2, .int .i64 b3, .int .i64 b4], 28), (gb3, [.int .i64 a0, .int .i64 a1, .int .i64 a2, .int .i64 a3, .int .i64 a4], 28)] vp vq (msl sp) (msl sq) from HD.out) (by with_reducible repeat (first | exact Spl.done | apply Spl.put | apply Spl.skip | apply Upd.here | apply Upd.next)))
      refine skip_ (by rfl) rfl (loc_store_run (vs := [.int .i64 y0, .int .i64 y1, .int .i64 y2, .int .i64 y3, .int .i64 y4, .int .i64 y5, .int .i64 y6, .int .i64 y7, .int .i64 y8, .int .i64 y9, .int .i64 y10, .int .i64 y11, .int .i64 y12, .int .i64 y13, .int .i64 y14, .int .i64 y15, .int .i64 y16, .int .i64 y17, .int .i64 y18, .int .i64 y19, .bool y20]) rfl rfl rfl (by kernel_rfl) (by kernel_rfl) (show LR 6 32 w _ [(gn, [vp, vq], 67), (gs, (.int .i64 x0 :: .int .i64 x1 :: .int .i64 x2 :: .int .i64 x3 :: .int .i64 x4 :: .int .i64 x5 :: .int .i64 x6 :: .int .i64 x7 :: .int .i64 x8 :: .int .i64 x9 :: .int .i64 x10 :: .int .i64 x11 :: .int .i64 x12 :: .int .i64 x13 :: .int .i64 x14 :: .int .i64 x15 :: .int .i64 x16 :: .int .i64 x17 :: .int .i64 x18 :: .int .i64 x19 :: .bool x20 :: .int .i64 y0 :: .int .i64 y1 :: .int .i64 y2 :: .int .i64 y3 :: .int .i64 y4 :: .int .i64 y5 :: .int .i64 y6 :: .int .i64 y7 :: .int .i64 y8 :: .int .i64 y9 :: .int .i64 y10 :: .int .i64 y11 :: .int .i64 y12 :: .int .i64 y13 :: .int .i64 y14 :: .int .i64 y15 :: .int .i64 y16 :: .int .i64 y17 :: .int .i64 y18 :: .int .i64 y19 :: .bool y20 :: []), 30), (gb7, [.int .i64 0, .int .i64 0, .int .i64 0, .int .i64 0, .int .i64 0, .int .i64 0, .int .i64 0, .int .i64 0, .int .i64 0, .int .i64 0, .int .i64 0, .int .i64 0, .int .i64 0, .int .i64 0, .int .i64 0, .int .i64 0, .int .i64 0, .int .i64 0, .int .i64 0, .int .i64 0, .bool false], 30), (gb6, [.int .i64 x0, .int .i64 x1, .int .i64 x2, .int .i64 x3, .int .i64 x4, .int .i64 x5, .int .i64 x6, .int .i64 x7, .int .i64 x8, .int .i64 x9, .int .i64 x10, .int .i64 x11, .int .i64 x12, .int .i64 x13, .int .i64 x14, .int .i64 x15, .int .i64 x16, .int .i64 x17, .int .i64 x18, .int .i64 x19, .bool x20], 30), (gb4, [.int .i64 b0, .int .i64 b1, .int .i64 b2, .int .i64 b3, .int .i64 b4], 28), (gb3, [.int .i64 a0, .int .i64 a1, .int .i64 a2, .int .i64 a3, .int .i64 a4], 28)] vp vq (msl sp) (msl sq) from HD.out).lok (by with_reducible repeat (first | exact Spl.done | apply Spl.put | apply Spl.skip | apply Upd.here | apply Upd.next))) ?_
      refine hK.out _ _ (Lok.hd (A := [(gn, [vp, vq], 67), (gs, (.int .i64 x0 :: .int .i64 x1 :: .int .i64 x2 :: .int .i64 x3 :: .int .i64 x4 :: .int .i64 x5 :: .int .i64 x6 :: .int .i64 x7 :: .int .i64 x8 :: .int .i64 x9 :: .int .i64 x10 :: .int .i64 x11 :: .int .i64 x12 :: .int .i64 x13 :: .int .i64 x14 :: .int .i64 x15 :: .int .i64 x16 :: .int .i64 x17 :: .int .i64 x18 :: .int .i64 x19 :: .bool x20 :: .int .i64 y0 :: .int .i64 y1 :: .int .i64 y2 :: .int .i64 y3 :: .int .i64 y4 :: .int .i64 y5 :: .int .i64 y6 :: .int .i64 y7 :: .int .i64 y8 :: .int .i64 y9 :: .int .i64 y10 :: .int .i64 y11 :: .int .i64 y12 :: .int .i64 y13 :: .int .i64 y14 :: .int .i64 y15 :: .int .i64 y16 :: .int .i64 y17 :: .int .i64 y18 :: .int .i64 y19 :: .bool y20 :: []), 30)]) (show LR 6 32 w _ ([(gn, [vp, vq], 67), (gs, (.int .i64 x0 :: .int .i64 x1 :: .int .i64 x2 :: .int .i64 x3 :: .int .i64 x4 :: .int .i64 x5 :: .int .i64 x6 :: .int .i64 x7 :: .int .i64 x8 :: .int .i64 x9 :: .int .i64 x10 :: .int .i64 x11 :: .int .i64 x12 :: .int .i64 x13 :: .int .i64 x14 :: .int .i64 x15 :: .int .i64 x16 :: .int .i64 x17 :: .int .i64 x18 :: .int .i64 x19 :: .bool x20 :: .int .i64 y0 :: .int .i64 y1 :: .int .i64 y2 :: .int .i64 y3 :: .int .i64 y4 :: .int .i64 y5 :: .int .i64 y6 :: .int .i64 y7 :: .int .i64 y8 :: .int .i64 y9 :: .int .i64 y10 :: .int .i64 y11 :: .int .i64 y12 :: .int .i64 y13 :: .int .i64 y14 :: .int .i64 y15 :: .int .i64 y16 :: .int .i64 y17 :: .int .i64 y18 :: .int .i64 y19 :: .bool y20 :: []), 30)] ++ [(gb7, [.int .i64 y0, .int .i64 y1, .int .i64 y2, .int .i64 y3, .int .i64 y4, .int .i64 y5, .int .i64 y6, .int .i64 y7, .int .i64 y8, .int .i64 y9, .int .i64 y10, .int .i64 y11, .int .i64 y12, .int .i64 y13, .int .i64 y14, .int .i64 y15, .int .i64 y16, .int .i64 y17, .int .i64 y18, .int .i64 y19, .bool y20], 30), (gb6, [.int .i64 x0, .int .i64 x1, .int .i64 x2, .int .i64 x3, .int .i64 x4, .int .i64 x5, .int .i64 x6, .int .i64 x7, .int .i64 x8, .int .i64 x9, .int .i64 x10, .int .i64 x11, .int .i64 x12, .int .i64 x13, .int .i64 x14, .int .i64 x15, .int .i64 x16, .int .i64 x17, .int .i64 x18, .int .i64 x19, .bool x20], 30), (gb4, [.int .i64 b0, .int .i64 b1, .int .i64 b2, .int .i64 b3, .int .i64 b4], 28), (gb3, [.int .i64 a0, .int .i64 a1, .int .i64 a2, .int .i64 a3, .int .i64 a4], 28)]) vp vq (msl sp) (msl sq) from HE.out).lok) (fun hHeld => ?_)
      clear hK K HD
      revert HE
      revert hHeld
      generalize World.setCells _ _ _ _ = w11
      intro hHeld HD
      refine pA 9 (some 8) (YtoigmeiollfklaaLoc.bm 10 1023) rfl rfl HT_.out (by kernel_rfl) (fun _ _ _ h => h) (by rfl) (by intro w'; go_simp; with_reducible rfl) (by simp only [Act.put, zs1, zs2, zs3, i64_w, i32_w]; rfl) ?_
      refine done_ (done_of HT_.out (by kernel_rfl)) ?_
      clear hHeld HT_ HW_
      have HL := HD
      clear HD
      go_wp2
      refine bodyPost_ret (results_list (rs := [.cell 6 30, .cell 7 30, .tmp 8]) rfl (by simp) (.cell _ 30 _ (0, 0) _ rfl (HL.out.lok.blk (by with_reducible repeat (first | exact Has.here | apply Has.next))) Try.underlying30 rfl (by kernel_rfl) (.cell _ 30 _ (0, 0) _ rfl (HL.out.lok.blk (by with_reducible repeat (first | exact Has.here | apply Has.next))) Try.underlying30 rfl (by kernel_rfl) (.tmp .nil)))) rfl ?_
      rw [HS.out]
      exact mkLi (by first | rfl | (simp [errW_none, errW_some] <;> rfl)) (LR.hd (A := [(gn, [vp, vq], 67), (gs, (.int .i64 x0 :: .int .i64 x1 :: .int .i64 x2 :: .int .i64 x3 :: .int .i64 x4 :: .int .i64 x5 :: .int .i64 x6 :: .int .i64 x7 :: .int .i64 x8 :: .int .i64 x9 :: .int .i64 x10 :: .int .i64 x11 :: .int .i64 x12 :: .int .i64 x13 :: .int .i64 x14 :: .int .i64 x15 :: .int .i64 x16 :: .int .i64 x17 :: .int .i64 x18 :: .int .i64 x19 :: .bool x20 :: .int .i64 y0 :: .int .i64 y1 :: .int .i64 y2 :: .int .i64 y3 :: .int .i64 y4 :: .int .i64 y5 :: .int .i64 y6 :: .int .i64 y7 :: .int .i64 y8 :: .int .i64 y9 :: .int .i64 y10 :: .int .i64 y11 :: .int .i64 y12 :: .int .i64 y13 :: .int .i64 y14 :: .int .i64 y15 :: .int .i64 y16 :: .int .i64 y17 :: .int .i64 y18 :: .int .i64 y19 :: .bool y20 :: []), 30)]) HL.out)
end Go.Proofs.Ytoigmeiollfklaa.NegDo

