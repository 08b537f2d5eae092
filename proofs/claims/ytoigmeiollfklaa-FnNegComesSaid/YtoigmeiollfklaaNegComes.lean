-- The walk of laws.FnNegComes, by hand.
import Derived.Test.YtoigmeiollfklaaNegLi
namespace Go.Proofs.Ytoigmeiollfklaa.NegDo
open Go.RowKit Go.Proofs.YtoigmeiollfklaaW.PrintWords Go.Proofs.YtoigmeiollfklaaW.PrintLast Go.Proofs.YtoigmeiollfklaaW.PrintMore Go.Proofs.YtoigmeiollfklaaLoc Go.Proofs.Ytoigmeiollfklaa.QFnNegSame Go.Proofs.Ytoigmeiollfklaa.Pure
attribute [local go_sem] max2_int min2_int max_two min_two max_three min_three max_four min_four   -- for this text's walks alone
attribute [local go_sem high] eqA28
set_option linter.unusedVariables false
set_option linter.unusedSimpArgs false
def mid : Nat → Sy → Sy
  | 0, s => phase (phase s 0) 1
  | 1, s => phase s 1
  | _, s => s
theorem mid_step {i : Nat} (h : i < 2) (s : Sy) : mid i s = mid (i + 1) (phase s (i : Int)) := by
  rcases Nat.lt_or_ge i 1 with h1 | h1
  · have : i = 0 := by omega
    subst this; rfl
  · have : i = 1 := by omega
    subst this; rfl
theorem mid_end {i : Nat} (h : ¬ i < 2) (h2 : i ≤ 2) (s : Sy) : mid i s = s := by
  have : i = 2 := by omega
  subst this; rfl
theorem rounds_step {j : Nat} (h : j < 6) (s : Sy) : rounds (6 - j) s = rounds (6 - (j + 1)) (mid 0 s) := by
  rw [show 6 - j = (6 - (j + 1)) + 1 by omega]; rfl
theorem run_step {n : Nat} (h : n < 400) (s : Sy) (h2 : 0 < s.p.length + s.q.length) : run (400 - n) n s = run (400 - (n + 1)) (n + 1) (doo s ((n % 2 : Nat) : Int) 3) := by
  rw [show 400 - n = (400 - (n + 1)) + 1 by omega]
  unfold run
  rw [if_pos h2]
  by_cases h3 : n + 1 < 400
  · rw [show 400 - (n + 1) = (400 - (n + 1) - 1) + 1 by omega]; rfl
  · rw [show 400 - (n + 1) = 0 by omega]; rfl
theorem run_stop (f n : Nat) (s : Sy) (h2 : ¬ 0 < s.p.length + s.q.length) : run f n s = s := by
  cases f with
  | zero => rfl
  | succ f => unfold run; rw [if_neg h2]
abbrev Net (wC wr : World) (gs gn : Nat) (s : Sy) (vp vq : Value) : Prop := LR 6 32 wC wr [(gn, [vp, vq], 67), (gs, nvs s.x ++ nvs s.y, 30)] vp vq (msl s.p) (msl s.q)
theorem net_forms {wC wr : World} {gs gn : Nat} {s : Sy} {vp vq : Value} (h : Net wC wr gs gn s vp vq) : ∃ Av cv Aw cw, vp = .slice Av s.p.length cv ∧ vq = .slice Aw s.q.length cw := by
  obtain ⟨Av, cv, h1⟩ := Kd.R_slice h.rp
  obtain ⟨Aw, cw, h2⟩ := Kd.R_slice h.rq
  rw [msl_len] at h1 h2
  exact ⟨Av, cv, Aw, cw, h1, h2⟩
theorem LR.pick2 {w0 w : World} {H : List Blk} {vp vq : Value} {p q : List (List Value)} {b1 b2 : Blk} (h : LR 6 32 w0 w H vp vq p q) (h1 : b1 ∈ H) (h2 : b2 ∈ H) (ht : b1.2.2 ≠ b2.2.2) : LR 6 32 w0 w [b1, b2] vp vq p q := by
  have sub : ∀ b ∈ [b1, b2], b ∈ H := fun b hb => by
    rcases List.mem_cons.1 hb with rfl | hb
    · exact h1
    · rw [List.mem_singleton.1 hb]; exact h2
  refine ⟨⟨h.lok.bel, fun b hb => h.lok.all b (sub b hb), ?_⟩, h.rp, h.rq, h.ne, fun b hb => h.hp b (sub b hb), fun b hb => h.hq b (sub b hb)⟩
  simp only [List.map_cons, List.map_nil, List.nodup_cons, List.mem_singleton, List.not_mem_nil, not_false_eq_true, List.nodup_nil, and_true]
  intro e
  have e1 := (h.lok.all b1 h1).1
  have e2 := (h.lok.all b2 h2).1
  rw [e, e2] at e1
  injection e1 with e1
  injection e1 with _ e1
  exact ht e1.symm
def worldOf {w0 w : World} {H : List Blk} (_ : Aside0 (Lok w0 w H)) : World := w
theorem play_len : ∀ (l : List Int) (s : Sy), (playF l s).p.length + (playF l s).q.length ≤ s.p.length + s.q.length + l.length
  | [], s => by simp [playF]
  | v :: r, s => by
    have h1 := play_len r (doo s (v % 2) (v / 2))
    have h2 := len_doo s (v % 2) (v / 2)
    unfold playF
    rw [List.length_cons]
    omega
def nc.T14 : Bool × List (List Nat × List Nat) := (true, [([], []), ([0], [0]), ([1], [1]), ([2], [2]), ([3, 2], [2, 3]), ([4, 2], [2, 4]), ([5, 2], [2, 5]), ([2], [2]), ([7, 2], [2, 7]), ([8, 2], [2, 8]), ([9, 2], [2, 9]), ([6, 10, 2], [2, 6, 10]), ([11, 2], [2, 11]), ([2, 12], [2, 12])])
def nc.B14 : List Nat := [0, 1, 3, 7, 15, 31, 63, 7, 135, 391, 903, 2047, 4095, 8191]
theorem nc.tab14 : rtab .any (opsOf Try.f10 14) = nc.T14 := by kernel_rfl
theorem nc.bits14 : waitsOk nc.T14.2 nc.B14 = true := by kernel_rfl
set_option maxHeartbeats 60000000 in
set_option maxRecDepth 100000 in
theorem comes_calls (A0 : Option Addr) (c0 : Nat) (l0 : List Int) (w : World) (hr : Kd.C (Kd.int .u8) w A0 l0.length l0) (hc : l0.length ≤ c0) (hw : ∀ x ∈ l0, (Lit.int .u8 x).wf = true) :
    Calls Try.prog 10 #[.slice A0 l0.length c0] w fun e w' => e = .returned (.bool true) ∧ Below w.heap.size w w' := by
  have hr0 := mk_ hr
  have hc0 := mk_ hc
  clear hr hc
  by_cases c3 : (l0.length : Int) > 1048576
  · have c3b0 : decide (1048576 < (l0.length : Int)) = true := decide_eq_true c3
    have c3b1 : decide (1048576 < l0.length) = true := decide_eq_true (by omega)
    have HB := mk_ (Below.refl w.heap.size w)
    clear c3
    go_enter Try.func10, Try.ntmps10
    go_wp2
    go_ret
    exact ⟨by first | rfl | (simp [errW_none, errW_some] <;> rfl), by repeat (first | (with_reducible first | exact HB.out | apply zq7 | apply zq8 | apply zq9) | exact HB.out)⟩
  have c3b0 : decide (1048576 < (l0.length : Int)) = false := decide_eq_false c3
  have c3b1 : decide (1048576 < l0.length) = false := decide_eq_false (by omega)
  clear c3
  obtain ⟨⟨a0, a1, a2, a3, a4, b0, b1, b2, b3, b4, play⟩, hev, hp⟩ := drawPlay_ok l0 hw
  obtain ⟨k, hk⟩ := hev.rounds
  have HK := mk_ hk
  have PA := mk_ (show cok a0 a1 a2 a3 a4 = true from hp.1)
  have PB := mk_ (show cok b0 b1 b2 b3 b4 = true from hp.2.1)
  have PN := mk_ (show play.length ≤ 1000 from Nat.le_trans (show play.length ≤ 49 from hp.2.2.1) (by decide))
  have PV := mk_ (show ∀ v ∈ play, 0 ≤ v ∧ v ≤ 11 from hp.2.2.2)
  have S := comes_play (a := ⟨a0, a1, a2, a3, a4⟩) (b := ⟨b0, b1, b2, b3, b4⟩) hp.1 hp.2.1 play hp.2.2.1
  have L0 := play_len play (begS ⟨a0, a1, a2, a3, a4⟩ ⟨b0, b1, b2, b3, b4⟩)
  obtain ⟨⟨x_, y_, p_, q_⟩, hs⟩ : ∃ s, s = playF play (begS ⟨a0, a1, a2, a3, a4⟩ ⟨b0, b1, b2, b3, b4⟩) := ⟨_, rfl⟩
  rw [← hs] at S L0
  have HLn := mk_ (show p_.length + q_.length ≤ 100 by have h9 := hp.2.2.1; simp only at h9; simp only [begS, List.length_nil] at L0; omega)
  clear L0
  obtain ⟨⟨x0, x1, x2, x3, x4⟩, ⟨x5, x6, x7, x8, x9⟩, ⟨x10, x11, x12, x13, x14⟩, ⟨x15, x16, x17, x18, x19⟩, x20⟩ := x_
  obtain ⟨⟨y0, y1, y2, y3, y4⟩, ⟨y5, y6, y7, y8, y9⟩, ⟨y10, y11, y12, y13, y14⟩, ⟨y15, y16, y17, y18, y19⟩, y20⟩ := y_
  have HS := mk_ hs
  clear hs hk hp hev hw
  obtain ⟨sF, hsF⟩ : ∃ z, z = rounds 6 ⟨⟨⟨x0, x1, x2, x3, x4⟩, ⟨x5, x6, x7, x8, x9⟩, ⟨x10, x11, x12, x13, x14⟩, ⟨x15, x16, x17, x18, x19⟩, x20⟩, ⟨⟨y0, y1, y2, y3, y4⟩, ⟨y5, y6, y7, y8, y9⟩, ⟨y10, y11, y12, y13, y14⟩, ⟨y15, y16, y17, y18, y19⟩, y20⟩, p_, q_⟩ := ⟨_, rfl⟩
  rw [← hsF] at S
  have HF := mk_ (show rounds (6 - 0) ⟨⟨⟨x0, x1, x2, x3, x4⟩, ⟨x5, x6, x7, x8, x9⟩, ⟨x10, x11, x12, x13, x14⟩, ⟨x15, x16, x17, x18, x19⟩, x20⟩, ⟨⟨y0, y1, y2, y3, y4⟩, ⟨y5, y6, y7, y8, y9⟩, ⟨y10, y11, y12, y13, y14⟩, ⟨y15, y16, y17, y18, y19⟩, y20⟩, p_, q_⟩ = sF from hsF.symm)
  have HZ := mk_ S
  clear hsF S
  go_enter Try.func10, Try.ntmps10
  go_wp2_with (first | ((with_reducible refine gate_gd rfl ?_); first | ((with_reducible refine gd_on rfl ?_ ?_); rfl; dsimp only) | ((with_reducible refine gd_off rfl ?_ ?_); rfl)) | ((with_reducible refine gate_dst (N := 22) rfl ?_); (with_reducible refine gate_callee (f := 35) rfl ?_); refine goesL_ (some 22) rfl rfl Try.func35 (by kernel_rfl) rfl #[.slice A0 l0.length c0] rfl (by (try simp only [List.map_toArray, List.map_cons, List.map_nil]); first | done | rfl) ?_; (with_reducible refine (spec_DrawNegPlay.calls k A0 c0 l0 a0 a1 a2 a3 a4 b0 b1 b2 b3 b4 play w hr0.out hc0.out HK.out).mono ?_); rintro e wd ⟨vpl, rfl, hR_, hb_⟩; obtain ⟨Ap, cp, hvpl⟩ := Kd.R_slice hR_; subst hvpl; refine ⟨_, rfl, ?_⟩; have HB := mk_ hb_; have HR := mk_ hR_; have HL := mk_ (Lok.start wd); clear hb_ hR_) | ((with_reducible refine gate_dst (N := 30) rfl ?_); (with_reducible refine gate_callee (f := 36) rfl ?_); refine goesL_ (some 30) rfl rfl Try.func36 (by kernel_rfl) rfl #[.agg #[.int .i64 a0, .int .i64 a1, .int .i64 a2, .int .i64 a3, .int .i64 a4], .agg #[.int .i64 b0, .int .i64 b1, .int .i64 b2, .int .i64 b3, .int .i64 b4], .slice Ap play.length cp] rfl (by (try simp only [List.map_toArray, List.map_cons, List.map_nil]); first | done | rfl) ?_; (with_reducible refine (liNeg_calls a0 a1 a2 a3 a4 b0 b1 b2 b3 b4 Ap cp play _ PA.out PB.out (Kd.C_below (Kd.R_reads' HR.out).2.2 HL.out.bel) (Kd.R_reads' HR.out).2.1 PV.out PN.out).mono ?_); rintro e w_ ⟨gs, gn, vp, vq, he_, hl_⟩; rw [← HS.out] at he_ hl_; obtain rfl : e = .returned (.tuple #[.agg #[.int .i64 x0, .int .i64 x1, .int .i64 x2, .int .i64 x3, .int .i64 x4, .int .i64 x5, .int .i64 x6, .int .i64 x7, .int .i64 x8, .int .i64 x9, .int .i64 x10, .int .i64 x11, .int .i64 x12, .int .i64 x13, .int .i64 x14, .int .i64 x15, .int .i64 x16, .int .i64 x17, .int .i64 x18, .int .i64 x19, .bool x20], .agg #[.int .i64 y0, .int .i64 y1, .int .i64 y2, .int .i64 y3, .int .i64 y4, .int .i64 y5, .int .i64 y6, .int .i64 y7, .int .i64 y8, .int .i64 y9, .int .i64 y10, .int .i64 y11, .int .i64 y12, .int .i64 y13, .int .i64 y14, .int .i64 y15, .int .i64 y16, .int .i64 y17, .int .i64 y18, .int .i64 y19, .bool y20], .slice (some ⟨gn, 0, none⟩) 2 2]) := he_; refine ⟨_, rfl, ?_⟩; have HA := HL; clear HL; have HL := mk_ hl_; clear hl_ HR) | ((with_reducible refine gate_dst (N := 36) rfl ?_); refine lr_slice (n := 2) (t := 30) (cs := (.int .i64 x0 :: .int .i64 x1 :: .int .i64 x2 :: .int .i64 x3 :: .int .i64 x4 :: .int .i64 x5 :: .int .i64 x6 :: .int .i64 x7 :: .int .i64 x8 :: .int .i64 x9 :: .int .i64 x10 :: .int .i64 x11 :: .int .i64 x12 :: .int .i64 x13 :: .int .i64 x14 :: .int .i64 x15 :: .int .i64 x16 :: .int .i64 x17 :: .int .i64 x18 :: .int .i64 x19 :: .bool x20 :: .int .i64 y0 :: .int .i64 y1 :: .int .i64 y2 :: .int .i64 y3 :: .int .i64 y4 :: .int .i64 y5 :: .int .i64 y6 :: .int .i64 y7 :: .int .i64 y8 :: .int .i64 y9 :: .int .i64 y10 :: .int .i64 y11 :: .int .i64 y12 :: .int .i64 y13 :: .int .i64 y14 :: .int .i64 y15 :: .int .i64 y16 :: .int .i64 y17 :: .int .i64 y18 :: .int .i64 y19 :: .bool y20 :: [])) rfl (by first | (go_simp; done) | (go_simp; rfl)) HL.out ?_; intro gs2 w_ HL_; replace HL := mk_ HL_; clear HL_) | ((with_reducible refine gate_dst (N := 3) rfl ?_); refine loc_alloc rfl rfl za28 HL.out ?_; intro gb3 w_ HL_; replace HL := mk_ HL_; clear HL_) | ((with_reducible refine gate_dst (N := 4) rfl ?_); refine loc_alloc rfl rfl za28 HL.out ?_; intro gb4 w_ HL_; replace HL := mk_ HL_; clear HL_) | ((with_reducible refine gate_dst (N := 6) rfl ?_); refine lr_alloc rfl rfl za30 HL.out ?_; intro gb6 w_ HL_; replace HL := mk_ HL_; clear HL_) | ((with_reducible refine gate_dst (N := 7) rfl ?_); refine lr_alloc rfl rfl za30 HL.out ?_; intro gb7 w_ HL_; replace HL := mk_ HL_; clear HL_) | ((with_reducible refine gate_ld0 (t := 28) rfl ?_); refine loc_load (n := 5) rfl rfl (by kernel_rfl) rfl (by kernel_rfl) HL.out (by with_reducible repeat (first | exact Sel.done | apply Sel.take | apply Sel.skip | apply Get.here | apply Get.next)) ?_) | ((with_reducible refine gate_ld0 (t := 30) rfl ?_); refine loc_load (n := 21) rfl rfl (by kernel_rfl) rfl (by kernel_rfl) HL.out.lok (by with_reducible repeat (first | exact Sel.done | apply Sel.take | apply Sel.skip | apply Get.here | apply Get.next)) ?_) | ((with_reducible refine gate_st0 (t := 28) rfl ?_); refine loc_store rfl rfl rfl (by first | (go_simp; done) | (go_simp; rfl)) (by kernel_rfl) (by kernel_rfl) HL.out (by with_reducible repeat (first | exact Spl.done | apply Spl.put | apply Spl.skip | apply Upd.here | apply Upd.next)) ?_; intro w_ HL_; replace HL := mk_ HL_; clear HL_) | ((with_reducible refine gate_st0 (t := 30) rfl ?_); refine lr_store rfl rfl rfl (by first | (go_simp; done) | (go_simp; rfl)) (by kernel_rfl) (by kernel_rfl) HL.out (by with_reducible repeat (first | exact Spl.done | apply Spl.put | apply Spl.skip | apply Upd.here | apply Upd.next)) ?_; intro w_ HL_; replace HL := mk_ HL_; clear HL_))
  obtain ⟨wC, hwC⟩ : ∃ z, z = worldOf HA := ⟨_, rfl⟩
  simp only [worldOf] at hwC
  subst hwC
  have HL2 := mk_ (LR.pick2 (b1 := (gn, [vp, vq], 67)) (b2 := (gs2, (.int .i64 x0 :: .int .i64 x1 :: .int .i64 x2 :: .int .i64 x3 :: .int .i64 x4 :: .int .i64 x5 :: .int .i64 x6 :: .int .i64 x7 :: .int .i64 x8 :: .int .i64 x9 :: .int .i64 x10 :: .int .i64 x11 :: .int .i64 x12 :: .int .i64 x13 :: .int .i64 x14 :: .int .i64 x15 :: .int .i64 x16 :: .int .i64 x17 :: .int .i64 x18 :: .int .i64 x19 :: .bool x20 :: .int .i64 y0 :: .int .i64 y1 :: .int .i64 y2 :: .int .i64 y3 :: .int .i64 y4 :: .int .i64 y5 :: .int .i64 y6 :: .int .i64 y7 :: .int .i64 y8 :: .int .i64 y9 :: .int .i64 y10 :: .int .i64 y11 :: .int .i64 y12 :: .int .i64 y13 :: .int .i64 y14 :: .int .i64 y15 :: .int .i64 y16 :: .int .i64 y17 :: .int .i64 y18 :: .int .i64 y19 :: .bool y20 :: []), 30)) HL.out (by simp) (by simp) (by simp))
  clear HL
  go_loopg [8, 9, 10] 6 (fun kq v8 v9 v10 wr => v8 = .slice (some ⟨gn, 0, none⟩) 2 2 ∧ v9 = .slice (some ⟨gs2, 0, none⟩) 2 2 ∧ ∃ (j : Nat) (s : Sy) (vp vq : Value), v10 = .int .i64 (j : Int) ∧ Aside0 (kq + j = 6) ∧ Aside0 (rounds (6 - j) s = sF) ∧ Aside0 (s.p.length + s.q.length ≤ 100 + 1000 * j) ∧ Aside0 (Net wC wr gs2 gn s vp vq))
  case atStart => exact ⟨rfl, rfl, 0, ⟨⟨⟨x0, x1, x2, x3, x4⟩, ⟨x5, x6, x7, x8, x9⟩, ⟨x10, x11, x12, x13, x14⟩, ⟨x15, x16, x17, x18, x19⟩, x20⟩, ⟨⟨y0, y1, y2, y3, y4⟩, ⟨y5, y6, y7, y8, y9⟩, ⟨y10, y11, y12, y13, y14⟩, ⟨y15, y16, y17, y18, y19⟩, y20⟩, p_, q_⟩, _, _, rfl, ⟨by omega⟩, ⟨HF.out⟩, ⟨HLn.out⟩, ⟨HL2.out⟩⟩
  case round =>
    clear HL2 HF HLn
    obtain ⟨rfl, rfl, j1, s1, vp, vq, rfl, HK1, HF, HQ, HL⟩ := hrel
    obtain ⟨g1, hg1⟩ : ∃ g, g = gk := ⟨gk, rfl⟩
    subst hg1
    by_cases c1 : j1 < 6
    · have C1 := mk_ c1
      have c1a : (j1 < 6) = True := eq_true c1
      have c1b : decide (j1 < 6) = true := decide_eq_true c1
      have c1c : decide ((j1 : Int) < 6) = true := decide_eq_true (by omega)
      clear c1
      have HM := mk_ ((rounds_step C1.out s1).symm.trans HF.out)
      clear HF
      go_wp2
      go_loopg [8, 9, 11] 2 (fun kq v8 v9 v11 wr => v8 = .slice (some ⟨gn, 0, none⟩) 2 2 ∧ v9 = .slice (some ⟨gs2, 0, none⟩) 2 2 ∧ ∃ (j : Nat) (s : Sy) (vp vq : Value), v11 = .int .i64 (j : Int) ∧ Aside0 (kq + j = 2) ∧ Aside0 (mid j s = mid 0 s1) ∧ Aside0 (s.p.length + s.q.length ≤ 100 + 1000 * j1 + 450 * j) ∧ Aside0 (Net wC wr gs2 gn s vp vq))
      case atStart => exact ⟨rfl, rfl, 0, s1, _, _, rfl, ⟨by omega⟩, ⟨rfl⟩, ⟨by have := HQ.out; omega⟩, ⟨HL.out⟩⟩
      case round =>
        clear HQ HL
        obtain ⟨rfl, rfl, j2, s2, vp, vq, rfl, HK2, HF, HQ, HL⟩ := hrel
        obtain ⟨g2, hg2⟩ : ∃ g, g = gk := ⟨gk, rfl⟩
        subst hg2
        by_cases c2 : j2 < 2
        · have C2 := mk_ c2
          have c2a : (j2 < 2) = True := eq_true c2
          have c2b : decide (j2 < 2) = true := decide_eq_true c2
          have c2c : decide ((j2 : Int) < 2) = true := decide_eq_true (by omega)
          clear c2
          have HM2 := mk_ ((mid_step C2.out s2).symm.trans HF.out)
          have HQ2 := mk_ (show (doo s2 (j2 : Int) 0).p.length + (doo s2 (j2 : Int) 0).q.length ≤ 100 + 1000 * j1 + 450 * j2 + 1 + 0 by have := len_doo s2 (j2 : Int) 0; have := HQ.out; omega)
          clear HF
          go_wp2_with (first | (go_at_call 37; refine (negDo_calls _ gs2 gn (j2 : Int) (by have := C2.out; omega) s2 vp vq 0 _ HL.out (by have := HQ.out; have := C1.out; have := C2.out; omega)).mono ?_; rintro e w_ ⟨vp', vq', rfl, HL_⟩; replace HL := mk_ HL_; clear HL_))
          go_loopg [8, 9, 12] 400 (fun kq v8 v9 v12 wr => v8 = .slice (some ⟨gn, 0, none⟩) 2 2 ∧ v9 = .slice (some ⟨gs2, 0, none⟩) 2 2 ∧ ∃ (j : Nat) (s : Sy) (vp vq : Value), v12 = .int .i64 (j : Int) ∧ Aside0 (kq + j = 400) ∧ Aside0 (run (400 - j) j s = phase s2 (j2 : Int)) ∧ Aside0 (s.p.length + s.q.length ≤ 100 + 1000 * j1 + 450 * j2 + 1 + j) ∧ Aside0 (Net wC wr gs2 gn s vp vq))
          case atStart => exact ⟨rfl, rfl, 0, doo s2 (j2 : Int) 0, _, _, rfl, ⟨by omega⟩, ⟨rfl⟩, ⟨HQ2.out⟩, ⟨HL.out⟩⟩
          case round =>
            clear HQ HQ2 HL
            obtain ⟨rfl, rfl, j3, s3, vp, vq, rfl, HK3, HF, HQ, HL⟩ := hrel
            obtain ⟨g3, hg3⟩ : ∃ g, g = gk := ⟨gk, rfl⟩
            subst hg3
            obtain ⟨Av, cv, Aw, cw, hv1, hv2⟩ := net_forms HL.out
            subst hv1 hv2
            by_cases c4 : j3 < 400
            · have C4 := mk_ c4
              have N4p := mk_ c4
              clear c4
              have TOT := mk_ (show wrap64 ((s3.p.length : Int) + (s3.q.length : Int)) = (s3.p.length : Int) + (s3.q.length : Int) by have := HQ.out; have := C1.out; have := C2.out; have := C4.out; exact wrap64_id (by omega) (by omega))
              by_cases c5 : 0 < s3.p.length + s3.q.length
              · have HM3 := mk_ ((run_step C4.out s3 c5).symm.trans HF.out)
                have HJ := mk_ (show wrap64 ((j3 : Int) + 1) = ((j3 + 1 : Nat) : Int) by have := C4.out; rw [wrap64_id (by omega) (by omega)]; omega)
                have HT := mk_ (show ((j3 : Int)).tmod 2 = ((j3 % 2 : Nat) : Int) by rw [Int.tmod_eq_emod_of_nonneg (by omega)]; omega)
                have HQ3 := mk_ (len_doo s3 ((j3 % 2 : Nat) : Int) 3)
                have TTp := mk_ c5
                clear c5 HF
                go_upto_region 14 with fail
                refine start_ (n := 14) (S := fun w' => Lok wC w' [(gn, [.slice Av s3.p.length cv, .slice Aw s3.q.length cw], 67), (gs2, nvs s3.x ++ nvs s3.y, 30)]) (ds := []) (YtoigmeiollfklaaLoc.bm 14 0) (by kernel_rfl) rfl rfl HL.out.lok.drew (fun hHeld => ?_)
                refine with_tabW nc.tab14 nc.bits14 (fun HT_ HW_ => ?_)
                have HD := mk_ (HL.out.drew)
                clear HL
                revert HD
                revert hHeld
                generalize World.drew _ = w8
                intro hHeld HD
                refine pA 0 (some 52) (YtoigmeiollfklaaLoc.bm 14 1) rfl rfl HT_.out (by kernel_rfl) (fun _ _ _ h => h) (by rfl) (by intro w'; go_simp; with_reducible rfl) (by simp only [Act.put, zs1, zs2, zs3, i64_w, i32_w]; rfl) ?_
                refine pA (v := .bool true) 1 (some 53) (YtoigmeiollfklaaLoc.bm 14 3) rfl rfl HT_.out (by kernel_rfl) (fun _ _ _ h => h) (by rfl) (by intro w'; go_simp; have h9 := N4p.out; omega) (by simp only [Act.put, zs1, zs2, zs3, i64_w, i32_w]; rfl) ?_
                refine pA 2 (some 54) (YtoigmeiollfklaaLoc.bm 14 7) rfl rfl HT_.out (by kernel_rfl) (fun _ _ _ h => h) (by rfl) (by intro w'; go_simp; with_reducible rfl) (by simp only [Act.put, zs1, zs2, zs3, i64_w, i32_w]; rfl) ?_
                refine pA 3 (some 55) (YtoigmeiollfklaaLoc.bm 14 15) rfl rfl HT_.out (by kernel_rfl) (fun _ _ _ h => h) (by rfl) (by intro w'; go_simp; with_reducible rfl) (by simp only [Act.put, zs1, zs2, zs3, i64_w, i32_w]; rfl) ?_
                refine pA 4 (some 56) (YtoigmeiollfklaaLoc.bm 14 31) rfl rfl HT_.out (by kernel_rfl) (fun _ _ _ h => h) (by rfl) (by intro w'; go_simp; with_reducible rfl) (by simp only [Act.put, zs1, zs2, zs3, i64_w, i32_w]; rfl) ?_
                refine tA 5 (some 57) (YtoigmeiollfklaaLoc.bm 14 63) rfl rfl HT_.out HW_.out (by kernel_rfl) (fun _ _ _ h => h) (by rfl) hHeld (fun w' hS => loc_load1_run (by kernel_rfl) rfl rfl hS (by with_reducible repeat (first | exact Sel.done | apply Sel.take | apply Sel.skip | apply Get.here | apply Get.next))) (by simp only [Act.put, zs1, zs2, zs3, i64_w, i32_w]; rfl) ?_
                refine pA 6 (some 58) (YtoigmeiollfklaaLoc.bm 14 127) rfl rfl HT_.out (by kernel_rfl) (fun _ _ _ h => h) (by rfl) (by intro w'; go_simp; with_reducible rfl) (by simp only [Act.put, zs1, zs2, zs3, i64_w, i32_w]; rfl) ?_
                refine pA 7 (some 59) (YtoigmeiollfklaaLoc.bm 14 255) rfl rfl HT_.out (by kernel_rfl) (fun _ _ _ h => h) (by rfl) (by intro w'; go_simp; with_reducible rfl) (by simp only [Act.put, zs1, zs2, zs3, i64_w, i32_w]; rfl) ?_
                refine pA 8 (some 60) (YtoigmeiollfklaaLoc.bm 14 511) rfl rfl HT_.out (by kernel_rfl) (fun _ _ _ h => h) (by rfl) (by intro w'; go_simp; with_reducible rfl) (by simp only [Act.put, zs1, zs2, zs3, i64_w, i32_w]; rfl) ?_
                refine tA 9 (some 61) (YtoigmeiollfklaaLoc.bm 14 1023) rfl rfl HT_.out HW_.out (by kernel_rfl) (fun _ _ _ h => h) (by rfl) hHeld (fun w' hS => loc_load1_run (by kernel_rfl) rfl rfl hS (by with_reducible repeat (first | exact Sel.done | apply Sel.take | apply Sel.skip | apply Get.here | apply Get.next))) (by simp only [Act.put, zs1, zs2, zs3, i64_w, i32_w]; rfl) ?_
                refine pA 10 (some 62) (YtoigmeiollfklaaLoc.bm 14 2047) rfl rfl HT_.out (by kernel_rfl) (fun _ _ _ h => h) (by rfl) (by intro w'; go_simp; with_reducible rfl) (by simp only [Act.put, zs1, zs2, zs3, i64_w, i32_w]; rfl) ?_
                refine pA (v := .int .i64 ((s3.p.length : Int) + (s3.q.length : Int))) 11 (some 63) (YtoigmeiollfklaaLoc.bm 14 4095) rfl rfl HT_.out (by kernel_rfl) (fun _ _ _ h => h) (by rfl) (by intro w'; first | (go_simp; simp only [i64_w, TOT.out]; rfl) | (go_simp; simp only [i64_w, TOT.out])) (by simp only [Act.put, zs1, zs2, zs3, i64_w, i32_w]; rfl) ?_
                refine pA (v := .bool true) 12 (some 64) (YtoigmeiollfklaaLoc.bm 14 8191) rfl rfl HT_.out (by kernel_rfl) (fun _ _ _ h => h) (by rfl) (by intro w'; go_simp; have h9 := TTp.out; omega) (by simp only [Act.put, zs1, zs2, zs3, i64_w, i32_w]; rfl) ?_
                refine pA 13 (some 65) (YtoigmeiollfklaaLoc.bm 14 16383) rfl rfl HT_.out (by kernel_rfl) (fun _ _ _ h => h) (by rfl) (by intro w'; go_simp; with_reducible rfl) (by simp only [Act.put, zs1, zs2, zs3, i64_w, i32_w]; rfl) ?_
                refine done_ (done_of HT_.out (by kernel_rfl)) ?_
                clear hHeld HT_ HW_
                have HL := HD
                clear HD
                go_wp2_with (first | (go_at_call 37; (first | rw [HT.out] | rw [show ((j3 : Int) % 2) = ((j3 % 2 : Nat) : Int) from by omega]); refine (negDo_calls _ gs2 gn ((j3 % 2 : Nat) : Int) (by omega) s3 _ _ 3 _ HL.out (by have := HQ.out; have := C1.out; have := C2.out; have := C4.out; omega)).mono ?_; rintro e w_ ⟨vp', vq', rfl, HL_⟩; replace HL := mk_ HL_; clear HL_))
                go_roundg (g3 - 1)
                case measure => have := HK3.out; have := C4.out; omega
                case rel => exact ⟨rfl, rfl, j3 + 1, doo s3 ((j3 % 2 : Nat) : Int) 3, _, _, by rw [← HJ.out], ⟨by have := HK3.out; have := C4.out; omega⟩, ⟨HM3.out⟩, ⟨by have := HQ.out; have := HQ3.out; omega⟩, ⟨HL.out⟩⟩
              · have HM3 := mk_ ((run_stop (400 - j3) j3 s3 c5).symm.trans HF.out)
                have TTp := mk_ c5
                have HJ := mk_ (show wrap64 ((j2 : Int) + 1) = ((j2 + 1 : Nat) : Int) by have := C2.out; rw [wrap64_id (by omega) (by omega)]; omega)
                have C5 := mk_ c5
                clear c5 HF
                go_upto_region 14 with fail
                refine start_ (n := 14) (S := fun w' => Lok wC w' [(gn, [.slice Av s3.p.length cv, .slice Aw s3.q.length cw], 67), (gs2, nvs s3.x ++ nvs s3.y, 30)]) (ds := []) (YtoigmeiollfklaaLoc.bm 14 0) (by kernel_rfl) rfl rfl HL.out.lok.drew (fun hHeld => ?_)
                refine with_tabW nc.tab14 nc.bits14 (fun HT_ HW_ => ?_)
                have HD := mk_ (HL.out.drew)
                clear HL
                revert HD
                revert hHeld
                generalize World.drew _ = w8
                intro hHeld HD
                refine pA 0 (some 52) (YtoigmeiollfklaaLoc.bm 14 1) rfl rfl HT_.out (by kernel_rfl) (fun _ _ _ h => h) (by rfl) (by intro w'; go_simp; with_reducible rfl) (by simp only [Act.put, zs1, zs2, zs3, i64_w, i32_w]; rfl) ?_
                refine pA (v := .bool true) 1 (some 53) (YtoigmeiollfklaaLoc.bm 14 3) rfl rfl HT_.out (by kernel_rfl) (fun _ _ _ h => h) (by rfl) (by intro w'; go_simp; have h9 := N4p.out; omega) (by simp only [Act.put, zs1, zs2, zs3, i64_w, i32_w]; rfl) ?_
                refine pA 2 (some 54) (YtoigmeiollfklaaLoc.bm 14 7) rfl rfl HT_.out (by kernel_rfl) (fun _ _ _ h => h) (by rfl) (by intro w'; go_simp; with_reducible rfl) (by simp only [Act.put, zs1, zs2, zs3, i64_w, i32_w]; rfl) ?_
                refine pA 3 (some 55) (YtoigmeiollfklaaLoc.bm 14 15) rfl rfl HT_.out (by kernel_rfl) (fun _ _ _ h => h) (by rfl) (by intro w'; go_simp; with_reducible rfl) (by simp only [Act.put, zs1, zs2, zs3, i64_w, i32_w]; rfl) ?_
                refine pA 4 (some 56) (YtoigmeiollfklaaLoc.bm 14 31) rfl rfl HT_.out (by kernel_rfl) (fun _ _ _ h => h) (by rfl) (by intro w'; go_simp; with_reducible rfl) (by simp only [Act.put, zs1, zs2, zs3, i64_w, i32_w]; rfl) ?_
                refine tA 5 (some 57) (YtoigmeiollfklaaLoc.bm 14 63) rfl rfl HT_.out HW_.out (by kernel_rfl) (fun _ _ _ h => h) (by rfl) hHeld (fun w' hS => loc_load1_run (by kernel_rfl) rfl rfl hS (by with_reducible repeat (first | exact Sel.done | apply Sel.take | apply Sel.skip | apply Get.here | apply Get.next))) (by simp only [Act.put, zs1, zs2, zs3, i64_w, i32_w]; rfl) ?_
                refine pA 6 (some 58) (YtoigmeiollfklaaLoc.bm 14 127) rfl rfl HT_.out (by kernel_rfl) (fun _ _ _ h => h) (by rfl) (by intro w'; go_simp; with_reducible rfl) (by simp only [Act.put, zs1, zs2, zs3, i64_w, i32_w]; rfl) ?_
                refine pA 7 (some 59) (YtoigmeiollfklaaLoc.bm 14 255) rfl rfl HT_.out (by kernel_rfl) (fun _ _ _ h => h) (by rfl) (by intro w'; go_simp; with_reducible rfl) (by simp only [Act.put, zs1, zs2, zs3, i64_w, i32_w]; rfl) ?_
                refine pA 8 (some 60) (YtoigmeiollfklaaLoc.bm 14 511) rfl rfl HT_.out (by kernel_rfl) (fun _ _ _ h => h) (by rfl) (by intro w'; go_simp; with_reducible rfl) (by simp only [Act.put, zs1, zs2, zs3, i64_w, i32_w]; rfl) ?_
                refine tA 9 (some 61) (YtoigmeiollfklaaLoc.bm 14 1023) rfl rfl HT_.out HW_.out (by kernel_rfl) (fun _ _ _ h => h) (by rfl) hHeld (fun w' hS => loc_load1_run (by kernel_rfl) rfl rfl hS (by with_reducible repeat (first | exact Sel.done | apply Sel.take | apply Sel.skip | apply Get.here | apply Get.next))) (by simp only [Act.put, zs1, zs2, zs3, i64_w, i32_w]; rfl) ?_
                refine pA 10 (some 62) (YtoigmeiollfklaaLoc.bm 14 2047) rfl rfl HT_.out (by kernel_rfl) (fun _ _ _ h => h) (by rfl) (by intro w'; go_simp; with_reducible rfl) (by simp only [Act.put, zs1, zs2, zs3, i64_w, i32_w]; rfl) ?_
                refine pA (v := .int .i64 ((s3.p.length : Int) + (s3.q.length : Int))) 11 (some 63) (YtoigmeiollfklaaLoc.bm 14 4095) rfl rfl HT_.out (by kernel_rfl) (fun _ _ _ h => h) (by rfl) (by intro w'; first | (go_simp; simp only [i64_w, TOT.out]; rfl) | (go_simp; simp only [i64_w, TOT.out])) (by simp only [Act.put, zs1, zs2, zs3, i64_w, i32_w]; rfl) ?_
                refine pA (v := .bool false) 12 (some 64) (YtoigmeiollfklaaLoc.bm 14 8191) rfl rfl HT_.out (by kernel_rfl) (fun _ _ _ h => h) (by rfl) (by intro w'; go_simp; have h9 := TTp.out; omega) (by simp only [Act.put, zs1, zs2, zs3, i64_w, i32_w]; rfl) ?_
                refine pA 13 (some 65) (YtoigmeiollfklaaLoc.bm 14 16383) rfl rfl HT_.out (by kernel_rfl) (fun _ _ _ h => h) (by rfl) (by intro w'; go_simp; with_reducible rfl) (by simp only [Act.put, zs1, zs2, zs3, i64_w, i32_w]; rfl) ?_
                refine done_ (done_of HT_.out (by kernel_rfl)) ?_
                clear hHeld HT_ HW_
                have HL := HD
                clear HD
                go_wp2
                go_roundg (g2 - 1)
                case measure => have := HK2.out; have := C2.out; omega
                case rel => exact ⟨rfl, rfl, j2 + 1, s3, _, _, by rw [← HJ.out], ⟨by have := HK2.out; have := C2.out; omega⟩, ⟨by rw [HM3.out]; exact HM2.out⟩, ⟨by have := C5.out; omega⟩, ⟨HL.out⟩⟩
            · have J4 : j3 = 400 := by have := HK3.out; omega
              have HM3 := mk_ (show s3 = phase s2 (j2 : Int) by rw [← HF.out, J4]; rfl)
              have N4p := mk_ c4
              have HJ := mk_ (show wrap64 ((j2 : Int) + 1) = ((j2 + 1 : Nat) : Int) by have := C2.out; rw [wrap64_id (by omega) (by omega)]; omega)
              have J4' := mk_ J4
              clear c4 HF J4
              go_upto_region 14 with fail
              refine start_ (n := 14) (S := fun w' => Lok wC w' [(gn, [.slice Av s3.p.length cv, .slice Aw s3.q.length cw], 67), (gs2, nvs s3.x ++ nvs s3.y, 30)]) (ds := []) (YtoigmeiollfklaaLoc.bm 14 0) (by kernel_rfl) rfl rfl HL.out.lok.drew (fun hHeld => ?_)
              refine with_tabW nc.tab14 nc.bits14 (fun HT_ HW_ => ?_)
              have HD := mk_ (HL.out.drew)
              clear HL
              revert HD
              revert hHeld
              generalize World.drew _ = w8
              intro hHeld HD
              refine pA 0 (some 52) (YtoigmeiollfklaaLoc.bm 14 1) rfl rfl HT_.out (by kernel_rfl) (fun _ _ _ h => h) (by rfl) (by intro w'; go_simp; with_reducible rfl) (by simp only [Act.put, zs1, zs2, zs3, i64_w, i32_w]; rfl) ?_
              refine pA (v := .bool false) 1 (some 53) (YtoigmeiollfklaaLoc.bm 14 3) rfl rfl HT_.out (by kernel_rfl) (fun _ _ _ h => h) (by rfl) (by intro w'; go_simp; have h9 := N4p.out; omega) (by simp only [Act.put, zs1, zs2, zs3, i64_w, i32_w]; rfl) ?_
              refine pA 2 (some 54) (YtoigmeiollfklaaLoc.bm 14 7) rfl rfl HT_.out (by kernel_rfl) (fun _ _ _ h => h) (by rfl) (by intro w'; go_simp; with_reducible rfl) (by simp only [Act.put, zs1, zs2, zs3, i64_w, i32_w]; rfl) ?_
              refine pB 3 (some 55) (YtoigmeiollfklaaLoc.bm 14 15) rfl rfl HT_.out (by kernel_rfl) (fun _ _ _ h => h) (by rfl) (by simp only [Act.put, zs1, zs2, zs3, i64_w, i32_w]; rfl) ?_
              refine pB 4 (some 56) (YtoigmeiollfklaaLoc.bm 14 31) rfl rfl HT_.out (by kernel_rfl) (fun _ _ _ h => h) (by rfl) (by simp only [Act.put, zs1, zs2, zs3, i64_w, i32_w]; rfl) ?_
              refine pB 5 (some 57) (YtoigmeiollfklaaLoc.bm 14 63) rfl rfl HT_.out (by kernel_rfl) (fun _ _ _ h => h) (by rfl) (by simp only [Act.put, zs1, zs2, zs3, i64_w, i32_w]; rfl) ?_
              refine pB 6 (some 58) (YtoigmeiollfklaaLoc.bm 14 127) rfl rfl HT_.out (by kernel_rfl) (fun _ _ _ h => h) (by rfl) (by simp only [Act.put, zs1, zs2, zs3, i64_w, i32_w]; rfl) ?_
              refine pB 7 (some 59) (YtoigmeiollfklaaLoc.bm 14 255) rfl rfl HT_.out (by kernel_rfl) (fun _ _ _ h => h) (by rfl) (by simp only [Act.put, zs1, zs2, zs3, i64_w, i32_w]; rfl) ?_
              refine pB 8 (some 60) (YtoigmeiollfklaaLoc.bm 14 511) rfl rfl HT_.out (by kernel_rfl) (fun _ _ _ h => h) (by rfl) (by simp only [Act.put, zs1, zs2, zs3, i64_w, i32_w]; rfl) ?_
              refine pB 9 (some 61) (YtoigmeiollfklaaLoc.bm 14 1023) rfl rfl HT_.out (by kernel_rfl) (fun _ _ _ h => h) (by rfl) (by simp only [Act.put, zs1, zs2, zs3, i64_w, i32_w]; rfl) ?_
              refine pB 10 (some 62) (YtoigmeiollfklaaLoc.bm 14 2047) rfl rfl HT_.out (by kernel_rfl) (fun _ _ _ h => h) (by rfl) (by simp only [Act.put, zs1, zs2, zs3, i64_w, i32_w]; rfl) ?_
              refine pB 11 (some 63) (YtoigmeiollfklaaLoc.bm 14 4095) rfl rfl HT_.out (by kernel_rfl) (fun _ _ _ h => h) (by rfl) (by simp only [Act.put, zs1, zs2, zs3, i64_w, i32_w]; rfl) ?_
              refine pB 12 (some 64) (YtoigmeiollfklaaLoc.bm 14 8191) rfl rfl HT_.out (by kernel_rfl) (fun _ _ _ h => h) (by rfl) (by simp only [Act.put, zs1, zs2, zs3, i64_w, i32_w]; rfl) ?_
              refine pA 13 (some 65) (YtoigmeiollfklaaLoc.bm 14 16383) rfl rfl HT_.out (by kernel_rfl) (fun _ _ _ h => h) (by rfl) (by intro w'; go_simp; with_reducible rfl) (by simp only [Act.put, zs1, zs2, zs3, i64_w, i32_w]; rfl) ?_
              refine done_ (done_of HT_.out (by kernel_rfl)) ?_
              clear hHeld HT_ HW_
              have HL := HD
              clear HD
              go_wp2
              go_roundg (g2 - 1)
              case measure => have := HK2.out; have := C2.out; omega
              case rel => exact ⟨rfl, rfl, j2 + 1, s3, _, _, by rw [← HJ.out], ⟨by have := HK2.out; have := C2.out; omega⟩, ⟨by rw [HM3.out]; exact HM2.out⟩, ⟨by have := HQ.out; have := J4'.out; omega⟩, ⟨HL.out⟩⟩
        · have J2 : j2 = 2 := by have := HK2.out; omega
          have c2a : (j2 < 2) = False := eq_false c2
          have c2b : decide (j2 < 2) = false := decide_eq_false c2
          have c2c : decide ((j2 : Int) < 2) = false := decide_eq_false (by omega)
          have HJ := mk_ (show wrap64 ((j1 : Int) + 1) = ((j1 + 1 : Nat) : Int) by have := C1.out; rw [wrap64_id (by omega) (by omega)]; omega)
          have HM3 := mk_ (show s2 = mid 0 s1 by rw [← HF.out]; exact (mid_end c2 (by omega) s2).symm)
          have J2' := mk_ J2
          clear c2 HF J2
          go_wp2
          go_roundg (g1 - 1)
          case measure => have := HK1.out; have := C1.out; omega
          case rel => exact ⟨rfl, rfl, j1 + 1, s2, _, _, by rw [← HJ.out], ⟨by have := HK1.out; have := C1.out; omega⟩, ⟨by rw [HM3.out]; exact HM.out⟩, ⟨by have := HQ.out; have := J2'.out; omega⟩, ⟨HL.out⟩⟩
    · have J1 : j1 = 6 := by have := HK1.out; omega
      have c1a : (j1 < 6) = False := eq_false c1
      have c1b : decide (j1 < 6) = false := decide_eq_false c1
      have c1c : decide ((j1 : Int) < 6) = false := decide_eq_false (by omega)
      have HM := show s1 = sF by rw [← HF.out, J1]; rfl
      clear c1 HF HQ HK1 J1
      subst HM
      have HX := mk_ (HL.out.join HA.out)
      clear HL HA
      obtain ⟨x_, y_, sp, sq⟩ := s1
      obtain ⟨⟨u0, u1, u2, u3, u4⟩, ⟨u5, u6, u7, u8, u9⟩, ⟨u10, u11, u12, u13, u14⟩, ⟨u15, u16, u17, u18, u19⟩, u20⟩ := x_
      obtain ⟨⟨v0, v1, v2, v3, v4⟩, ⟨v5, v6, v7, v8, v9⟩, ⟨v10, v11, v12, v13, v14⟩, ⟨v15, v16, v17, v18, v19⟩, v20⟩ := y_
      have HL := mk_ (show LR 6 32 wd wr [(gn, [vp, vq], 67), (gs2, (.int .i64 u0 :: .int .i64 u1 :: .int .i64 u2 :: .int .i64 u3 :: .int .i64 u4 :: .int .i64 u5 :: .int .i64 u6 :: .int .i64 u7 :: .int .i64 u8 :: .int .i64 u9 :: .int .i64 u10 :: .int .i64 u11 :: .int .i64 u12 :: .int .i64 u13 :: .int .i64 u14 :: .int .i64 u15 :: .int .i64 u16 :: .int .i64 u17 :: .int .i64 u18 :: .int .i64 u19 :: .bool u20 :: .int .i64 v0 :: .int .i64 v1 :: .int .i64 v2 :: .int .i64 v3 :: .int .i64 v4 :: .int .i64 v5 :: .int .i64 v6 :: .int .i64 v7 :: .int .i64 v8 :: .int .i64 v9 :: .int .i64 v10 :: .int .i64 v11 :: .int .i64 v12 :: .int .i64 v13 :: .int .i64 v14 :: .int .i64 v15 :: .int .i64 v16 :: .int .i64 v17 :: .int .i64 v18 :: .int .i64 v19 :: .bool v20 :: []), 30), (gb4, [.int .i64 b0, .int .i64 b1, .int .i64 b2, .int .i64 b3, .int .i64 b4], 28), (gb3, [.int .i64 a0, .int .i64 a1, .int .i64 a2, .int .i64 a3, .int .i64 a4], 28)] vp vq (msl sp) (msl sq) from HX.out)
      clear HX
      rcases HZ.out with ⟨z1, z2, z3⟩ | ⟨z1, z2, z3, z4⟩
      · obtain ⟨⟨r0, r1, r2, r3, r4, rt⟩, e1⟩ : ∃ r, r = doneV ⟨⟨u0, u1, u2, u3, u4⟩, ⟨u5, u6, u7, u8, u9⟩, ⟨u10, u11, u12, u13, u14⟩, ⟨u15, u16, u17, u18, u19⟩, u20⟩ := ⟨_, rfl⟩
        obtain ⟨⟨t0, t1, t2, t3, t4, tt⟩, f1⟩ : ∃ r, r = doneV ⟨⟨v0, v1, v2, v3, v4⟩, ⟨v5, v6, v7, v8, v9⟩, ⟨v10, v11, v12, v13, v14⟩, ⟨v15, v16, v17, v18, v19⟩, v20⟩ := ⟨_, rfl⟩
        simp only at z2 z3
        rw [← e1] at z2
        rw [← f1] at z3
        simp only at z1 z2 z3
        subst z2 z3 z1
        have HD1 := mk_ (show impl_NegDone.f u0 u1 u2 u3 u4 u5 u6 u7 u8 u9 u10 u11 u12 u13 u14 u15 u16 u17 u18 u19 u20 = some (r0, r1, r2, r3, r4, true) from by rw [e1]; exact done_f ⟨⟨u0, u1, u2, u3, u4⟩, ⟨u5, u6, u7, u8, u9⟩, ⟨u10, u11, u12, u13, u14⟩, ⟨u15, u16, u17, u18, u19⟩, u20⟩)
        have HD2 := mk_ (show impl_NegDone.f v0 v1 v2 v3 v4 v5 v6 v7 v8 v9 v10 v11 v12 v13 v14 v15 v16 v17 v18 v19 v20 = some (t0, t1, t2, t3, t4, true) from by rw [f1]; exact done_f ⟨⟨v0, v1, v2, v3, v4⟩, ⟨v5, v6, v7, v8, v9⟩, ⟨v10, v11, v12, v13, v14⟩, ⟨v15, v16, v17, v18, v19⟩, v20⟩)
        clear e1 f1 HZ
        go_wp2_with (first | ((with_reducible refine gate_gd rfl ?_); first | ((with_reducible refine gd_on rfl ?_ ?_); rfl; dsimp only) | ((with_reducible refine gd_off rfl ?_ ?_); rfl)) | ((with_reducible refine gate_dst (N := 80) rfl ?_); (with_reducible refine gate_callee (f := 23) rfl ?_); refine goesL_ (some 80) rfl rfl Try.func23 (by kernel_rfl) rfl #[.agg #[.int .i64 u0, .int .i64 u1, .int .i64 u2, .int .i64 u3, .int .i64 u4, .int .i64 u5, .int .i64 u6, .int .i64 u7, .int .i64 u8, .int .i64 u9, .int .i64 u10, .int .i64 u11, .int .i64 u12, .int .i64 u13, .int .i64 u14, .int .i64 u15, .int .i64 u16, .int .i64 u17, .int .i64 u18, .int .i64 u19, .bool u20]] rfl (by (try simp only [List.map_toArray, List.map_cons, List.map_nil]); first | done | rfl) ?_; (with_reducible refine (impl_NegDone.calls u0 u1 u2 u3 u4 u5 u6 u7 u8 u9 u10 u11 u12 u13 u14 u15 u16 u17 u18 u19 u20 r0 r1 r2 r3 r4 true _ HD1.out).mono ?_); rintro e w_ ⟨rfl, hb_⟩; refine ⟨_, rfl, ?_⟩; replace HL := mk_ (HL.out.call hb_); clear hb_) | ((with_reducible refine gate_dst (N := 87) rfl ?_); (with_reducible refine gate_callee (f := 23) rfl ?_); refine goesL_ (some 87) rfl rfl Try.func23 (by kernel_rfl) rfl #[.agg #[.int .i64 v0, .int .i64 v1, .int .i64 v2, .int .i64 v3, .int .i64 v4, .int .i64 v5, .int .i64 v6, .int .i64 v7, .int .i64 v8, .int .i64 v9, .int .i64 v10, .int .i64 v11, .int .i64 v12, .int .i64 v13, .int .i64 v14, .int .i64 v15, .int .i64 v16, .int .i64 v17, .int .i64 v18, .int .i64 v19, .bool v20]] rfl (by (try simp only [List.map_toArray, List.map_cons, List.map_nil]); first | done | rfl) ?_; (with_reducible refine (impl_NegDone.calls v0 v1 v2 v3 v4 v5 v6 v7 v8 v9 v10 v11 v12 v13 v14 v15 v16 v17 v18 v19 v20 t0 t1 t2 t3 t4 true _ HD2.out).mono ?_); rintro e w_ ⟨rfl, hb_⟩; refine ⟨_, rfl, ?_⟩; replace HL := mk_ (HL.out.call hb_); clear hb_) | ((with_reducible refine gate_dst (N := 13) rfl ?_); refine lr_alloc rfl rfl za28 HL.out ?_; intro gb13 w_ HL_; replace HL := mk_ HL_; clear HL_) | ((with_reducible refine gate_dst (N := 15) rfl ?_); refine lr_alloc rfl rfl za28 HL.out ?_; intro gb15 w_ HL_; replace HL := mk_ HL_; clear HL_) | ((with_reducible refine gate_ld0 (t := 30) rfl ?_); refine loc_load (n := 21) rfl rfl (by kernel_rfl) rfl (by kernel_rfl) HL.out.lok (by with_reducible repeat (first | exact Sel.done | apply Sel.take | apply Sel.skip | apply Get.here | apply Get.next)) ?_) | ((with_reducible refine gate_ld0 rfl ?_); refine loc_load1 rfl rfl (by kernel_rfl) rfl HL.out.lok (by with_reducible repeat (first | exact Sel.done | apply Sel.take | apply Sel.skip | apply Get.here | apply Get.next)) ?_) | ((with_reducible refine gate_st0 (t := 28) rfl ?_); refine lr_store rfl rfl rfl (by first | (go_simp; done) | (go_simp; rfl)) (by kernel_rfl) (by kernel_rfl) HL.out (by with_reducible repeat (first | exact Spl.done | apply Spl.put | apply Spl.skip | apply Upd.here | apply Upd.next)) ?_; intro w_ HL_; replace HL := mk_ HL_; clear HL_))
        go_ret
        exact ⟨by first | rfl | (simp [errW_none, errW_some] <;> rfl) | (simp [*, errW_none, errW_some] <;> rfl), below_then HB.out HB.out.size HL.out.lok.bel⟩
      · obtain ⟨⟨r0, r1, r2, r3, r4, rt⟩, e1⟩ : ∃ r, r = doneV ⟨⟨u0, u1, u2, u3, u4⟩, ⟨u5, u6, u7, u8, u9⟩, ⟨u10, u11, u12, u13, u14⟩, ⟨u15, u16, u17, u18, u19⟩, u20⟩ := ⟨_, rfl⟩
        obtain ⟨⟨t0, t1, t2, t3, t4, tt⟩, f1⟩ : ∃ r, r = doneV ⟨⟨v0, v1, v2, v3, v4⟩, ⟨v5, v6, v7, v8, v9⟩, ⟨v10, v11, v12, v13, v14⟩, ⟨v15, v16, v17, v18, v19⟩, v20⟩ := ⟨_, rfl⟩
        simp only at z2 z3 z4
        rw [← e1] at z2
        rw [← f1] at z3
        simp only at z1 z2 z3 z4
        subst z2 z3
        have HD1 := mk_ (show impl_NegDone.f u0 u1 u2 u3 u4 u5 u6 u7 u8 u9 u10 u11 u12 u13 u14 u15 u16 u17 u18 u19 u20 = some (r0, r1, r2, r3, r4, false) from by rw [e1]; exact done_f ⟨⟨u0, u1, u2, u3, u4⟩, ⟨u5, u6, u7, u8, u9⟩, ⟨u10, u11, u12, u13, u14⟩, ⟨u15, u16, u17, u18, u19⟩, u20⟩)
        have HD2 := mk_ (show impl_NegDone.f v0 v1 v2 v3 v4 v5 v6 v7 v8 v9 v10 v11 v12 v13 v14 v15 v16 v17 v18 v19 v20 = some (t0, t1, t2, t3, t4, false) from by rw [f1]; exact done_f ⟨⟨v0, v1, v2, v3, v4⟩, ⟨v5, v6, v7, v8, v9⟩, ⟨v10, v11, v12, v13, v14⟩, ⟨v15, v16, v17, v18, v19⟩, v20⟩)
        have z1b : (a0 == b0) = false := beq_eq_false_iff_ne.mpr z1
        have z1c : decide (a0 = b0) = false := decide_eq_false z1
        clear e1 f1 HZ
        cases u20
        · have z5 : v20 = true := by simpa using z4
          subst z5
          clear z4
          go_wp2_with (first | ((with_reducible refine gate_gd rfl ?_); first | ((with_reducible refine gd_on rfl ?_ ?_); rfl; dsimp only) | ((with_reducible refine gd_off rfl ?_ ?_); rfl)) | ((with_reducible refine gate_dst (N := 80) rfl ?_); (with_reducible refine gate_callee (f := 23) rfl ?_); refine goesL_ (some 80) rfl rfl Try.func23 (by kernel_rfl) rfl #[.agg #[.int .i64 u0, .int .i64 u1, .int .i64 u2, .int .i64 u3, .int .i64 u4, .int .i64 u5, .int .i64 u6, .int .i64 u7, .int .i64 u8, .int .i64 u9, .int .i64 u10, .int .i64 u11, .int .i64 u12, .int .i64 u13, .int .i64 u14, .int .i64 u15, .int .i64 u16, .int .i64 u17, .int .i64 u18, .int .i64 u19, .bool false]] rfl (by (try simp only [List.map_toArray, List.map_cons, List.map_nil]); first | done | rfl) ?_; (with_reducible refine (impl_NegDone.calls u0 u1 u2 u3 u4 u5 u6 u7 u8 u9 u10 u11 u12 u13 u14 u15 u16 u17 u18 u19 false r0 r1 r2 r3 r4 false _ HD1.out).mono ?_); rintro e w_ ⟨rfl, hb_⟩; refine ⟨_, rfl, ?_⟩; replace HL := mk_ (HL.out.call hb_); clear hb_) | ((with_reducible refine gate_dst (N := 87) rfl ?_); (with_reducible refine gate_callee (f := 23) rfl ?_); refine goesL_ (some 87) rfl rfl Try.func23 (by kernel_rfl) rfl #[.agg #[.int .i64 v0, .int .i64 v1, .int .i64 v2, .int .i64 v3, .int .i64 v4, .int .i64 v5, .int .i64 v6, .int .i64 v7, .int .i64 v8, .int .i64 v9, .int .i64 v10, .int .i64 v11, .int .i64 v12, .int .i64 v13, .int .i64 v14, .int .i64 v15, .int .i64 v16, .int .i64 v17, .int .i64 v18, .int .i64 v19, .bool true]] rfl (by (try simp only [List.map_toArray, List.map_cons, List.map_nil]); first | done | rfl) ?_; (with_reducible refine (impl_NegDone.calls v0 v1 v2 v3 v4 v5 v6 v7 v8 v9 v10 v11 v12 v13 v14 v15 v16 v17 v18 v19 true t0 t1 t2 t3 t4 false _ HD2.out).mono ?_); rintro e w_ ⟨rfl, hb_⟩; refine ⟨_, rfl, ?_⟩; replace HL := mk_ (HL.out.call hb_); clear hb_) | ((with_reducible refine gate_dst (N := 13) rfl ?_); refine lr_alloc rfl rfl za28 HL.out ?_; intro gb13 w_ HL_; replace HL := mk_ HL_; clear HL_) | ((with_reducible refine gate_dst (N := 15) rfl ?_); refine lr_alloc rfl rfl za28 HL.out ?_; intro gb15 w_ HL_; replace HL := mk_ HL_; clear HL_) | ((with_reducible refine gate_ld0 (t := 30) rfl ?_); refine loc_load (n := 21) rfl rfl (by kernel_rfl) rfl (by kernel_rfl) HL.out.lok (by with_reducible repeat (first | exact Sel.done | apply Sel.take | apply Sel.skip | apply Get.here | apply Get.next)) ?_) | ((with_reducible refine gate_ld0 rfl ?_); refine loc_load1 rfl rfl (by kernel_rfl) rfl HL.out.lok (by with_reducible repeat (first | exact Sel.done | apply Sel.take | apply Sel.skip | apply Get.here | apply Get.next)) ?_) | ((with_reducible refine gate_st0 (t := 28) rfl ?_); refine lr_store rfl rfl rfl (by first | (go_simp; done) | (go_simp; rfl)) (by kernel_rfl) (by kernel_rfl) HL.out (by with_reducible repeat (first | exact Spl.done | apply Spl.put | apply Spl.skip | apply Upd.here | apply Upd.next)) ?_; intro w_ HL_; replace HL := mk_ HL_; clear HL_))
          go_ret
          exact ⟨by first | rfl | (simp [errW_none, errW_some] <;> rfl) | (simp [*, errW_none, errW_some] <;> rfl), below_then HB.out HB.out.size HL.out.lok.bel⟩
        · clear z4
          go_wp2_with (first | ((with_reducible refine gate_gd rfl ?_); first | ((with_reducible refine gd_on rfl ?_ ?_); rfl; dsimp only) | ((with_reducible refine gd_off rfl ?_ ?_); rfl)) | ((with_reducible refine gate_dst (N := 80) rfl ?_); (with_reducible refine gate_callee (f := 23) rfl ?_); refine goesL_ (some 80) rfl rfl Try.func23 (by kernel_rfl) rfl #[.agg #[.int .i64 u0, .int .i64 u1, .int .i64 u2, .int .i64 u3, .int .i64 u4, .int .i64 u5, .int .i64 u6, .int .i64 u7, .int .i64 u8, .int .i64 u9, .int .i64 u10, .int .i64 u11, .int .i64 u12, .int .i64 u13, .int .i64 u14, .int .i64 u15, .int .i64 u16, .int .i64 u17, .int .i64 u18, .int .i64 u19, .bool true]] rfl (by (try simp only [List.map_toArray, List.map_cons, List.map_nil]); first | done | rfl) ?_; (with_reducible refine (impl_NegDone.calls u0 u1 u2 u3 u4 u5 u6 u7 u8 u9 u10 u11 u12 u13 u14 u15 u16 u17 u18 u19 true r0 r1 r2 r3 r4 false _ HD1.out).mono ?_); rintro e w_ ⟨rfl, hb_⟩; refine ⟨_, rfl, ?_⟩; replace HL := mk_ (HL.out.call hb_); clear hb_) | ((with_reducible refine gate_dst (N := 87) rfl ?_); (with_reducible refine gate_callee (f := 23) rfl ?_); refine goesL_ (some 87) rfl rfl Try.func23 (by kernel_rfl) rfl #[.agg #[.int .i64 v0, .int .i64 v1, .int .i64 v2, .int .i64 v3, .int .i64 v4, .int .i64 v5, .int .i64 v6, .int .i64 v7, .int .i64 v8, .int .i64 v9, .int .i64 v10, .int .i64 v11, .int .i64 v12, .int .i64 v13, .int .i64 v14, .int .i64 v15, .int .i64 v16, .int .i64 v17, .int .i64 v18, .int .i64 v19, .bool v20]] rfl (by (try simp only [List.map_toArray, List.map_cons, List.map_nil]); first | done | rfl) ?_; (with_reducible refine (impl_NegDone.calls v0 v1 v2 v3 v4 v5 v6 v7 v8 v9 v10 v11 v12 v13 v14 v15 v16 v17 v18 v19 v20 t0 t1 t2 t3 t4 false _ HD2.out).mono ?_); rintro e w_ ⟨rfl, hb_⟩; refine ⟨_, rfl, ?_⟩; replace HL := mk_ (HL.out.call hb_); clear hb_) | ((with_reducible refine gate_dst (N := 13) rfl ?_); refine lr_alloc rfl rfl za28 HL.out ?_; intro gb13 w_ HL_; replace HL := mk_ HL_; clear HL_) | ((with_reducible refine gate_dst (N := 15) rfl ?_); refine lr_alloc rfl rfl za28 HL.out ?_; intro gb15 w_ HL_; replace HL := mk_ HL_; clear HL_) | ((with_reducible refine gate_ld0 (t := 30) rfl ?_); refine loc_load (n := 21) rfl rfl (by kernel_rfl) rfl (by kernel_rfl) HL.out.lok (by with_reducible repeat (first | exact Sel.done | apply Sel.take | apply Sel.skip | apply Get.here | apply Get.next)) ?_) | ((with_reducible refine gate_ld0 rfl ?_); refine loc_load1 rfl rfl (by kernel_rfl) rfl HL.out.lok (by with_reducible repeat (first | exact Sel.done | apply Sel.take | apply Sel.skip | apply Get.here | apply Get.next)) ?_) | ((with_reducible refine gate_st0 (t := 28) rfl ?_); refine lr_store rfl rfl rfl (by first | (go_simp; done) | (go_simp; rfl)) (by kernel_rfl) (by kernel_rfl) HL.out (by with_reducible repeat (first | exact Spl.done | apply Spl.put | apply Spl.skip | apply Upd.here | apply Upd.next)) ?_; intro w_ HL_; replace HL := mk_ HL_; clear HL_))
          go_ret
          exact ⟨by first | rfl | (simp [errW_none, errW_some] <;> rfl) | (simp [*, errW_none, errW_some] <;> rfl), below_then HB.out HB.out.size HL.out.lok.bel⟩
theorem comes_walk (a0 : Option Addr) (len0 cap0 : Nat) (z0 : List Int) (w : World) (w0 : (a0 = none ∧ len0 = 0 ∧ cap0 = 0 ∧ z0 = []) ∨ ∃ x, a0 = some x ∧ len0 ≤ cap0 ∧ cap0 ≤ maxLen ∧ z0.length = cap0 ∧ (∀ i, i < z0.length → w.cell? (x.add i) = some (.int .u8 (z0.getD i 0))) ∧ ∀ n ∈ z0, (Lit.int .u8 n).wf = true) :
    Calls Try.prog 10 #[.slice a0 len0 cap0] w fun e w' => e = .returned (.bool true) ∧ Below w.heap.size w w' := by
  obtain ⟨l0, rfl, hr0, hm0, hw0, hc0⟩ := ReadsInt.ofRowC w0
  exact comes_calls _ _ l0 w (Kd.C_of_reads (d := (0 : Int)) (h1 := fun _ => rfl) hr0) hc0 hw0
end Go.Proofs.Ytoigmeiollfklaa.NegDo

