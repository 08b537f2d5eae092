-- Written by a program of this session, a turned copy of the print (not by print.sh itself). Lean checks it.
import Derived.Test.YteknaofnageihaaQFnExactCrdTxOkx0
import Derived.Test.YteknaofnageihaaQFnExactCrdTxOkx2
namespace Go.Proofs.Yteknaofnageihaa.QFnExactCrdTxOk
open Go.RowKit Go.Proofs.YteknaofnageihaaW.PrintWords Go.Proofs.YteknaofnageihaaW.PrintLast Go.Proofs.YteknaofnageihaaW.PrintMore Go.Proofs.YteknaofnageihaaLoc
attribute [local go_sem] max2_int min2_int max_two min_two max_three min_three max_four min_four   -- for this text's walks alone
set_option linter.unusedVariables false
set_option linter.unusedSimpArgs false

/-! ### impl_CfgOpts_partsOk: function 89 -/
/-- What the closure in partsOk says of one piece (true: it is not ok). -/
def impl_CfgOpts_partsOk.p (m : Int) (f0 f1 : Int) (l2 : List Int) : Option (Bool) := (impl_PartOk.f f0 f1 l2).bind fun t1 => (if t1 = true then (some (decide ((l2.length : Int) > m))) else (some true))
def impl_CfgOpts_partsOk.l0 : Nat → List (S39) → Int → Int → Option (Int)
  | 0, _, _, _ => none
  | k + 1, x0, x1, x8 => if x8 < (x0.length : Int) then (if 0 ≤ x8 then ((impl_CfgOpts_partsOk.p x1 ((rd_T39 x0 x8).f0) ((rd_T39 x0 x8).f1) ((rd_T39 x0 x8).f2)).bind fun t1 => (if t1 = true then (some x8) else (impl_CfgOpts_partsOk.l0 k x0 x1 (wrap64 (x8 + 1))))) else (none)) else (some (-1))
def impl_CfgOpts_partsOk.f (k : Nat) (_a0_0 : Int) (_a0_1 : Int) (a0_2 : Int) (_a0_3 : Int) (_a0_4 : Int) (l1 : List (S39)) : Option (Bool) := (impl_CfgOpts_partsOk.l0 k l1 a0_2 0).bind fun t1 => some (!(decide (t1 ≥ 0)))
theorem impl_CfgOpts_partsOk.mono_l : ∀ k, (∀ y0 y1 y2, LeO (impl_CfgOpts_partsOk.l0 k y0 y1 y2) (impl_CfgOpts_partsOk.l0 (k + 1) y0 y1 y2))
  | 0 => fun _ _ _ r h => by simp [impl_CfgOpts_partsOk.l0] at h
  | k + 1 => by
    have ih0 := impl_CfgOpts_partsOk.mono_l k
    intro y0 y1 y2
    unfold impl_CfgOpts_partsOk.l0
    refine LeO.ite (LeO.ite (LeO.bind (LeO.refl _) (fun _ => LeO.ite (LeO.refl _) (ih0 _ _ _))) (LeO.refl _)) (LeO.refl _)
theorem impl_CfgOpts_partsOk.mono : ∀ a0 a1 a2 a3 a4 a5 k, LeO (impl_CfgOpts_partsOk.f k a0 a1 a2 a3 a4 a5) (impl_CfgOpts_partsOk.f (k + 1) a0 a1 a2 a3 a4 a5) := by
 intro a0 a1 a2 a3 a4 a5 k
 unfold impl_CfgOpts_partsOk.f
 refine LeO.bind (impl_CfgOpts_partsOk.mono_l k _ _ _) (fun _ => LeO.refl _)
set_option maxHeartbeats 60000000 in
set_option maxRecDepth 100000 in
theorem impl_CfgOpts_partsOk.lit (gc : Nat) (c0 c1 c2 c3 c4 : Int) (a0_0 : Int) (a0_1 : Int) (A0_2 : Option Addr) (c0_2 : Nat) (l0_2 : List Int) (r : Bool) (w : World) (hbk : w.heap[gc]? = some (.cells #[.int .i64 c0, .int .i64 c1, .int .i64 c2, .int .i64 c3, .int .i64 c4] 66 (0, 0))) (hr0_2 : Kd.C (Kd.int .u8) w A0_2 l0_2.length l0_2) (hc0_2 : l0_2.length ≤ c0_2) (h : impl_CfgOpts_partsOk.p c2 a0_0 a0_1 l0_2 = some r) :
    Calls Try.prog 101 #[.agg #[.int .i64 a0_0, .int .i64 a0_1, .slice A0_2 l0_2.length c0_2], .pointer (some ⟨gc, 0, none⟩)] w fun e w' => e = .returned (.bool r) ∧ Below w.heap.size w w' := by
 have hu39 := Try.underlying39
 have hu66 := Try.underlying66
 have HR0_2 := mk_ hr0_2
 have HC0_2 := mk_ hc0_2
 have HBK := mk_ hbk
 have hlt : gc < w.heap.size := blk_lt hbk
 have HLT := mk_ hlt
 clear hr0_2 hc0_2 hbk hlt
 have HB := mk_ (Below.refl w.heap.size w)
 unfold impl_CfgOpts_partsOk.p at h
 replace h := Option.bind_eq_some_iff.mp h
 obtain ⟨t1, A20, H⟩ := h
 have A2 := mk_ A20
 clear A20
 have hcm : w.cell? ⟨gc, 2, none⟩ = some (.int .i64 c2) := (blk_cell HBK.out 2).trans rfl
 have HCM := mk_ hcm
 clear hcm
 by_cases c6 : t1 = true
 · subst c6
   rw [if_pos rfl] at H
   obtain rfl := Option.some.inj H
   clear H
   go_enter Try.func101, Try.ntmps101
   go_wp2_with (first | ((with_reducible refine gate_dst (N := 2) rfl ?_); refine box_event ?hg (N := 2) ?hd (cs := #[.int .i64 a0_0, .int .i64 a0_1, .slice A0_2 l0_2.length c0_2]) (t := 39) ?hr ?_; (case hd => rfl); (case hg => rfl); (case hr => first | (go_simp; done) | (go_simp; rfl)); intro gb119 hg w3 hbox hb; have BK119 := mk_ (hbox); have GW119 := mk_ ((by rw [hg]; exact (zr2 (by repeat (first | (with_reducible first | exact HB.out | apply zq7 | apply zq8 | apply zq9) | exact HB.out))) : w.heap.size ≤ gb119)); have GE119 := GW119; replace HB := mk_ (zr3 (by repeat (first | (with_reducible first | exact HB.out | apply zq7 | apply zq8 | apply zq9) | exact HB.out)) hb); clear hb hbox hg; obtain ⟨hcz4_0, hcz4_1, hcz4_2⟩ := cz3 BK119.out; obtain ⟨hfz4_0, hfz4_1, hfz4_2⟩ := fz3 BK119.out) | ((with_reducible refine gate_callee (f := 27) rfl ?_); refine goesL_ (some 5) rfl rfl Try.func27 (by kernel_rfl) rfl #[.agg #[.int .i64 a0_0, .int .i64 a0_1, .slice A0_2 l0_2.length c0_2]] rfl (by (try simp only [List.map_toArray, List.map_cons, List.map_nil]); first | done | rfl) ?_; (with_reducible refine (impl_PartOk.calls a0_0 a0_1 _ _ l0_2 true _ ?side1 ?side2 A2.out).mono ?_); (case side1 => exact (Kd.C_below HR0_2.out HB.out)); (case side2 => exact HC0_2.out); rintro e w5 ⟨rfl, hb⟩; refine ⟨_, rfl, ?_⟩; replace BK119 := mk_ (zq6 (by exact BK119.out) hb); replace HB := mk_ (zr3 (by exact HB.out) hb); obtain ⟨hcy4_0, hcy4_1, hcy4_2⟩ := cz3 BK119.out; have hcq := (HB.out.cell (p := ⟨gc, 2, none⟩) HLT.out).trans HCM.out; (try clear hb)))
   all_goals (go_ret; exact ⟨by first | rfl | (simp; done) | (simp [*]; done), by repeat (first | (with_reducible first | exact HB.out | apply zq7 | apply zq8 | apply zq9 | refine zr1 ?_ GE119.out) | exact HB.out)⟩)
 · replace c6 := Bool.eq_false_iff.mpr c6
   subst c6
   have H1 : (some true) = some r := by rw [if_neg (show ¬ (false = true) by decide)] at H; exact H
   clear H
   obtain rfl := Option.some.inj H1
   clear H1
   go_enter Try.func101, Try.ntmps101
   go_wp2_with (first | ((with_reducible refine gate_dst (N := 2) rfl ?_); refine box_event ?hg (N := 2) ?hd (cs := #[.int .i64 a0_0, .int .i64 a0_1, .slice A0_2 l0_2.length c0_2]) (t := 39) ?hr ?_; (case hd => rfl); (case hg => rfl); (case hr => first | (go_simp; done) | (go_simp; rfl)); intro gb119 hg w3 hbox hb; have BK119 := mk_ (hbox); have GW119 := mk_ ((by rw [hg]; exact (zr2 (by repeat (first | (with_reducible first | exact HB.out | apply zq7 | apply zq8 | apply zq9) | exact HB.out))) : w.heap.size ≤ gb119)); have GE119 := GW119; replace HB := mk_ (zr3 (by repeat (first | (with_reducible first | exact HB.out | apply zq7 | apply zq8 | apply zq9) | exact HB.out)) hb); clear hb hbox hg; obtain ⟨hcz4_0, hcz4_1, hcz4_2⟩ := cz3 BK119.out; obtain ⟨hfz4_0, hfz4_1, hfz4_2⟩ := fz3 BK119.out) | ((with_reducible refine gate_callee (f := 27) rfl ?_); refine goesL_ (some 5) rfl rfl Try.func27 (by kernel_rfl) rfl #[.agg #[.int .i64 a0_0, .int .i64 a0_1, .slice A0_2 l0_2.length c0_2]] rfl (by (try simp only [List.map_toArray, List.map_cons, List.map_nil]); first | done | rfl) ?_; (with_reducible refine (impl_PartOk.calls a0_0 a0_1 _ _ l0_2 false _ ?side1 ?side2 A2.out).mono ?_); (case side1 => exact (Kd.C_below HR0_2.out HB.out)); (case side2 => exact HC0_2.out); rintro e w5 ⟨rfl, hb⟩; refine ⟨_, rfl, ?_⟩; replace BK119 := mk_ (zq6 (by exact BK119.out) hb); replace HB := mk_ (zr3 (by exact HB.out) hb); obtain ⟨hcy4_0, hcy4_1, hcy4_2⟩ := cz3 BK119.out; (try clear hb)))
   all_goals (go_ret; exact ⟨by first | rfl | (simp; done) | (simp [*]; done), by repeat (first | (with_reducible first | exact HB.out | apply zq7 | apply zq8 | apply zq9 | refine zr1 ?_ GE119.out) | exact HB.out)⟩)
set_option maxHeartbeats 60000000 in
set_option maxRecDepth 100000 in
theorem impl_CfgOpts_partsOk.idx (k : Nat) (gc : Nat) (m0 m1 m2 m3 m4 : Int) (A0 : Option Addr) (c0 : Nat) (l0 : List (S39)) (r : Int) (w : World) (hbk : w.heap[gc]? = some (.cells #[.int .i64 m0, .int .i64 m1, .int .i64 m2, .int .i64 m3, .int .i64 m4] 66 (0, 0))) (hr0 : Kd.C k39 w A0 l0.length l0) (hc0 : l0.length ≤ c0) (h : impl_CfgOpts_partsOk.l0 k l0 m2 0 = some r) :
    Calls Try.prog 110 #[.slice A0 l0.length c0, .func (.func 101) #[] #[.pointer (some ⟨gc, 0, none⟩)]] w fun e w' => e = .returned (.int .i64 r) ∧ Below w.heap.size w w' := by
 have hu39 := Try.underlying39
 have HR0 := mk_ hr0
 have HC0 := mk_ hc0
 have HBK := mk_ hbk
 clear hr0 hc0 hbk
 have HB := mk_ (Below.refl w.heap.size w)
 have H' := mk_ h
 clear h
 go_enter Try.func110, Try.ntmps110
 go_wp2
 go_loopg [5, 8] k (fun kq _ v8 w' => ∃ (x5_1 : Int), v8 = .int .i64 x5_1 ∧ Aside0 (impl_CfgOpts_partsOk.l0 kq l0 m2 x5_1 = some r) ∧ Aside0 (kq ≤ k) ∧ Aside0 (Below w.heap.size w w'))
 case atStart => exact ⟨(0), (by first | rfl | (simp; done) | (simp [*]; done)), H', ⟨Nat.le_refl _⟩, ⟨by repeat (first | (with_reducible first | exact HB.out | apply zq7 | apply zq8 | apply zq9) | exact HB.out)⟩⟩
 case round =>
   clear H'
   obtain ⟨x5_1, rfl, HA, HK1, HB⟩ := hrel
   cases gk with
   | zero => exact absurd HA.out (by simp [impl_CfgOpts_partsOk.l0])
   | succ k1 =>
     have H := HA.out
     clear HA
     simp only [impl_CfgOpts_partsOk.l0] at H
     by_cases c3 : x5_1 < (l0.length : Int)
     rotate_left
     · rw [if_neg c3] at H
       have c3b0 : decide (x5_1 < (l0.length : Int)) = false := decide_eq_false c3
       clear c3
       obtain rfl := Option.some.inj H
       go_wp2
       go_ret
       exact ⟨by first | rfl | (simp; done) | (simp [*]; done), by repeat (first | (with_reducible first | exact HB.out | apply zq7 | apply zq8 | apply zq9) | exact HB.out)⟩
     rw [if_pos c3] at H
     have c3b0 : decide (x5_1 < (l0.length : Int)) = true := decide_eq_true c3
     clear c3
     by_cases c4 : 0 ≤ x5_1
     rotate_left
     · rw [if_neg c4] at H
       exact absurd H (by simp)
     rw [if_pos c4] at H
     have c4b0 : decide (0 ≤ x5_1) = true := decide_eq_true c4
     clear c4
     replace H := Option.bind_eq_some_iff.mp H
     obtain ⟨t122, A50, H⟩ := H
     try dsimp only at H
     have p121 : 0 ≤ (x5_1 : Int) := of_decide_eq_true (by first | (with_reducible assumption) | assumption)
     have q121 : x5_1 < (l0.length : Int) := of_decide_eq_true (by first | (with_reducible assumption) | assumption)
     obtain ⟨ad121, A121_2, c121_2, e121, hx121_0, hx121_1, hx121_2, hl121_2, hi121_2⟩ := at_T39 HR0.out x5_1 p121 q121
     cases e121
     replace hx121_0 := (HB.out.cell (World.block_lt_of_cell? w _ hx121_0)).trans hx121_0
     replace hx121_1 := (HB.out.cell (World.block_lt_of_cell? w _ hx121_1)).trans hx121_1
     replace hx121_2 := (HB.out.cell (World.block_lt_of_cell? w _ hx121_2)).trans hx121_2
     have HCALL := mk_ (fun (W : World) (hW : Below w.heap.size w W) => impl_CfgOpts_partsOk.lit gc m0 m1 m2 m3 m4 _ _ A121_2 c121_2 _ t122 W (zq6 HBK.out hW) (Kd.C_below hi121_2 hW) hl121_2 A50)
     clear hi121_2 hl121_2 A50
     replace p121 := eq_true p121
     replace q121 := eq_true q121
     by_cases c6 : t122 = true
     · subst c6
       rw [if_pos rfl] at H
       obtain rfl := Option.some.inj H
       clear H
       go_wp2_with (go_at_call 101; refine (HCALL.out _ (by repeat (first | (with_reducible first | exact HB.out | apply zq7 | apply zq8 | apply zq9) | exact HB.out))).mono ?_; rintro e w10 ⟨rfl, hb⟩; replace HB := mk_ (zr3 (by repeat (first | (with_reducible first | exact HB.out | apply zq7 | apply zq8 | apply zq9) | exact HB.out)) hb); clear hb)
       go_ret
       exact ⟨by first | rfl | (simp; done) | (simp [*]; done), by repeat (first | (with_reducible first | exact HB.out | apply zq7 | apply zq8 | apply zq9) | exact HB.out)⟩
     replace c6 := Bool.eq_false_iff.mpr c6
     subst c6
     have H1 : (impl_CfgOpts_partsOk.l0 k1 l0 m2 (wrap64 (x5_1 + 1))) = some r := by rw [if_neg (show ¬ (false = true) by decide)] at H; exact H
     clear H
     have H' := mk_ H1
     clear H1
     go_wp2_with (go_at_call 101; refine (HCALL.out _ (by repeat (first | (with_reducible first | exact HB.out | apply zq7 | apply zq8 | apply zq9) | exact HB.out))).mono ?_; rintro e w10 ⟨rfl, hb⟩; replace HB := mk_ (zr3 (by repeat (first | (with_reducible first | exact HB.out | apply zq7 | apply zq8 | apply zq9) | exact HB.out)) hb); clear hb)
     go_roundg k1
     case measure => omega
     case rel => exact ⟨(wrap64 (x5_1 + 1)), (by first | rfl | (simp; done) | (simp [*]; done)), H', ⟨Nat.le_of_succ_le HK1.out⟩, ⟨by repeat (first | (with_reducible first | exact HB.out | apply zq7 | apply zq8 | apply zq9) | exact HB.out)⟩⟩
set_option maxHeartbeats 60000000 in
set_option maxRecDepth 100000 in
theorem impl_CfgOpts_partsOk.calls (k : Nat) (a0_0 : Int) (a0_1 : Int) (a0_2 : Int) (a0_3 : Int) (a0_4 : Int) (A1 : Option Addr) (c1 : Nat) (l1 : List (S39)) (r : Bool) (w : World) (hr1 : Kd.C k39 w A1 l1.length l1) (hc1 : l1.length ≤ c1) (h : impl_CfgOpts_partsOk.f k a0_0 a0_1 a0_2 a0_3 a0_4 l1 = some r) :
    Calls Try.prog 89 #[.agg #[.int .i64 a0_0, .int .i64 a0_1, .int .i64 a0_2, .int .i64 a0_3, .int .i64 a0_4], .slice A1 l1.length c1] w fun e w' => e = .returned (.bool r) ∧ Below w.heap.size w w' := by
 have hu66 := Try.underlying66
 have HR1 := mk_ hr1
 have HC1 := mk_ hc1
 clear hr1 hc1
 have HB := mk_ (Below.refl w.heap.size w)
 unfold impl_CfgOpts_partsOk.f at h
 obtain ⟨t1, A20, H⟩ := Option.bind_eq_some_iff.mp h
 have A2 := mk_ A20
 clear A20 h
 obtain rfl := Option.some.inj H
 clear H
 go_enter Try.func89, Try.ntmps89
 go_wp2_with (first | ((with_reducible refine gate_dst (N := 2) rfl ?_); refine box_event ?hg (N := 2) ?hd (cs := #[.int .i64 a0_0, .int .i64 a0_1, .int .i64 a0_2, .int .i64 a0_3, .int .i64 a0_4]) (t := 66) ?hr ?_; (case hd => rfl); (case hg => rfl); (case hr => first | (go_simp; done) | (go_simp; rfl)); intro gb119 hg w3 hbox hb; have BK119 := mk_ (hbox); replace HB := mk_ (zr3 (by repeat (first | (with_reducible first | exact HB.out | apply zq7 | apply zq8 | apply zq9) | exact HB.out)) hb); clear hb hbox hg) | (go_at_call 110; refine (impl_CfgOpts_partsOk.idx k _ a0_0 a0_1 a0_2 a0_3 a0_4 _ _ l1 t1 _ BK119.out (Kd.C_below HR1.out HB.out) HC1.out A2.out).mono ?_; rintro e w10 ⟨rfl, hb⟩; replace HB := mk_ (zr3 (by repeat (first | (with_reducible first | exact HB.out | apply zq7 | apply zq8 | apply zq9) | exact HB.out)) hb); clear hb) | go_in)
 go_ret
 exact ⟨by first | rfl | (simp; done) | (simp [*]; done), by repeat (first | (with_reducible first | exact HB.out | apply zq7 | apply zq8 | apply zq9) | exact HB.out)⟩

/-! ### impl_CrdTxOk: function 56 -/
def impl_CrdTxOk.f (k : Nat) (a0_0 : Int) (a0_1 : Int) (a0_2 : Int) (a0_3 : Int) (a0_4 : Int) (a1_0 : Int) (l1_1 : List (S39)) (a1_2 : Int) (a1_3 : Int) (a1_4 : Bool) : Option (Bool) := (impl_CfgOk.f a0_0 a0_1 a0_2 a0_3 a0_4).bind fun t172 => (if t172 = true then ((impl_in.f a1_0 0 255).bind fun t173 => (if t173 = true then ((impl_in.f a1_2 0 9999).bind fun t174 => (if t174 = true then ((impl_in.f a1_3 0 9999).bind fun t175 => (if t175 = true then (if a1_0 = (wrap64 (a1_2 - a1_3)) then (if (l1_1.length : Int) ≤ 24 then ((impl_CfgOpts_partsOk.f k a0_0 a0_1 a0_2 a0_3 a0_4 l1_1).bind fun t176 => (some t176)) else (some false)) else (some false)) else (some false))) else (some false))) else (some false))) else (some false))
theorem impl_CrdTxOk.mono : ∀ a0 a1 a2 a3 a4 a5 a6 a7 a8 a9 k, LeO (impl_CrdTxOk.f k a0 a1 a2 a3 a4 a5 a6 a7 a8 a9) (impl_CrdTxOk.f (k + 1) a0 a1 a2 a3 a4 a5 a6 a7 a8 a9) := by
 intro a0 a1 a2 a3 a4 a5 a6 a7 a8 a9 k
 unfold impl_CrdTxOk.f
 repeat' first
     | (with_reducible exact impl_CfgOpts_partsOk.mono _ _ _ _ _ _ _)
     | (with_reducible exact LeO.refl _)
     | (with_reducible exact LeO.none _)
     | (with_reducible refine LeO.ite ?_ ?_)
     | (with_reducible refine LeO.bind ?_ (fun _ => ?_))
     | exact impl_CfgOpts_partsOk.mono _ _ _ _ _ _ _
     | exact LeO.none _
     | refine LeO.ite ?_ ?_
     | refine LeO.bind ?_ (fun _ => ?_)
set_option maxHeartbeats 60000000 in
set_option maxRecDepth 100000 in
theorem impl_CrdTxOk.calls (k : Nat) (a0_0 : Int) (a0_1 : Int) (a0_2 : Int) (a0_3 : Int) (a0_4 : Int) (a1_0 : Int) (A1_1 : Option Addr) (c1_1 : Nat) (l1_1 : List (S39)) (a1_2 : Int) (a1_3 : Int) (a1_4 : Bool) (r : Bool) (w : World) (hr1_1 : Kd.C k39 w A1_1 l1_1.length l1_1) (hc1_1 : l1_1.length ≤ c1_1) (h : impl_CrdTxOk.f k a0_0 a0_1 a0_2 a0_3 a0_4 a1_0 l1_1 a1_2 a1_3 a1_4 = some r) :
    Calls Try.prog 56 #[.agg #[.int .i64 a0_0, .int .i64 a0_1, .int .i64 a0_2, .int .i64 a0_3, .int .i64 a0_4], .agg #[.int .i64 a1_0, .slice A1_1 l1_1.length c1_1, .int .i64 a1_2, .int .i64 a1_3, .bool a1_4]] w fun e w' => e = .returned (.bool r) ∧ Below w.heap.size w w' := by
 have hu66 := Try.underlying66
 have hu78 := Try.underlying78
 have HR1_1 := mk_ hr1_1
 have HC1_1 := mk_ hc1_1
 clear hr1_1 hc1_1
 have HB := mk_ (Below.refl w.heap.size w)
 have H : ((impl_CfgOk.f a0_0 a0_1 a0_2 a0_3 a0_4).bind fun t172 => (if t172 = true then ((impl_in.f a1_0 0 255).bind fun t173 => (if t173 = true then ((impl_in.f a1_2 0 9999).bind fun t174 => (if t174 = true then ((impl_in.f a1_3 0 9999).bind fun t175 => (if t175 = true then (if a1_0 = (wrap64 (a1_2 - a1_3)) then (if (l1_1.length : Int) ≤ 24 then ((impl_CfgOpts_partsOk.f k a0_0 a0_1 a0_2 a0_3 a0_4 l1_1).bind fun t176 => (some t176)) else (some false)) else (some false)) else (some false))) else (some false))) else (some false))) else (some false))) = some r := h
 clear h
 replace H := Option.bind_eq_some_iff.mp H
 obtain ⟨t172, A30, H⟩ := H
 try dsimp only at H
 have A3 := mk_ A30
 clear A30
 by_cases c4 : t172 = true
 rotate_left
 · replace c4 := Bool.eq_false_iff.mpr c4
   subst c4
   have H1 : (some false) = some r := by rw [if_neg (show ¬ (false = true) by decide)] at H; exact H
   clear H
   have H := H1
   clear H1
   obtain rfl := Option.some.inj H
   go_enter Try.func56, Try.ntmps56
   go_wp2_with (first | ((with_reducible refine gate_dst (N := 2) rfl ?_); (try (refine gate_guard (by rfl) ?_; dsimp only)); refine box_event ?hg (N := 2) ?hd (cs := #[.int .i64 a0_0, .int .i64 a0_1, .int .i64 a0_2, .int .i64 a0_3, .int .i64 a0_4]) (t := 66) ?hr ?_; (case hd => rfl); (case hg => rfl); (case hr => first | (go_simp; done) | (go_simp; rfl)); intro gb170 hg w52 hbox hb; have BK170 := mk_ (hbox); have GW170 := mk_ ((by rw [hg]; exact (zr2 (by repeat (first | (with_reducible first | exact HB.out | apply zq7 | apply zq8 | apply zq9) | exact HB.out))) : w.heap.size ≤ gb170)); have GE170 := GW170; replace HB := mk_ (zr3 (by repeat (first | (with_reducible first | exact HB.out | apply zq7 | apply zq8 | apply zq9) | exact HB.out)) hb); clear hb hbox hg) | ((with_reducible refine gate_dst (N := 3) rfl ?_); (try (refine gate_guard (by rfl) ?_; dsimp only)); refine box_event ?hg (N := 3) ?hd (cs := #[.int .i64 a1_0, .slice A1_1 l1_1.length c1_1, .int .i64 a1_2, .int .i64 a1_3, .bool a1_4]) (t := 78) ?hr ?_; (case hd => rfl); (case hg => rfl); (case hr => first | (go_simp; done) | (go_simp; rfl)); intro gb171 hg w53 hbox hb; have BK171 := mk_ (hbox); have GW171 := mk_ ((by rw [hg]; exact (zr2 (by repeat (first | (with_reducible first | exact HB.out | apply zq7 | apply zq8 | apply zq9 | refine zr1 ?_ GE170.out) | exact HB.out))) : w.heap.size ≤ gb171)); have GE171 := GW171; replace HB := mk_ (zr3 (by repeat (first | (with_reducible first | exact HB.out | apply zq7 | apply zq8 | apply zq9 | refine zr1 ?_ GE170.out) | exact HB.out)) hb); have NB170_171 := mk_ ((by rw [hg]; exact zm2 (zr6 (by exact BK170.out)) : gb170 ≠ gb171)); replace BK170 := mk_ (zq6 (by exact BK170.out) hb); have NB171_170 := mk_ NB170_171.out.symm; clear hb hbox hg; have hnb54 := NB170_171.out; have hnc54 := NB171_170.out; obtain ⟨hcz55_0, hcz55_1, hcz55_2, hcz55_3, hcz55_4⟩ := cz5 BK170.out; obtain ⟨hfz55_0, hfz55_1, hfz55_2, hfz55_3, hfz55_4⟩ := fz5 BK170.out) | ((with_reducible refine gate_callee (f := 72) rfl ?_); refine goesL_ (some 6) rfl rfl Try.func72 (by kernel_rfl) rfl #[.agg #[.int .i64 a0_0, .int .i64 a0_1, .int .i64 a0_2, .int .i64 a0_3, .int .i64 a0_4]] rfl (by (try simp only [List.map_toArray, List.map_cons, List.map_nil]); first | done | rfl | (simp only [List.length_drop, List.length_take]; rfl)) ?_; (with_reducible refine (impl_CfgOk.calls a0_0 a0_1 a0_2 a0_3 a0_4 false _ A3.out).mono ?_); rintro e w56 ⟨rfl, hb⟩; refine ⟨_, rfl, ?_⟩; replace BK170 := mk_ (zq6 (by exact BK170.out) hb); replace BK171 := mk_ (zq6 (by exact BK171.out) hb); replace HB := mk_ (zr3 (by repeat (first | (with_reducible first | exact HB.out | apply zq7 | apply zq8 | apply zq9 | refine zr1 ?_ GE170.out | refine zr1 ?_ GE171.out) | exact HB.out)) hb); (try clear hb); (try clear hb2); (try clear hk); (try clear hi)))
   go_ret
   exact ⟨by first | rfl | (simp [errW_none, errW_some] <;> rfl) | (simp [*, errW_none, errW_some] <;> rfl), by repeat (first | (with_reducible first | exact HB.out | apply zq7 | apply zq8 | apply zq9 | refine zr1 ?_ GE170.out | refine zr1 ?_ GE171.out) | exact HB.out)⟩
 subst c4
 have H1 : ((impl_in.f a1_0 0 255).bind fun t173 => (if t173 = true then ((impl_in.f a1_2 0 9999).bind fun t174 => (if t174 = true then ((impl_in.f a1_3 0 9999).bind fun t175 => (if t175 = true then (if a1_0 = (wrap64 (a1_2 - a1_3)) then (if (l1_1.length : Int) ≤ 24 then ((impl_CfgOpts_partsOk.f k a0_0 a0_1 a0_2 a0_3 a0_4 l1_1).bind fun t176 => (some t176)) else (some false)) else (some false)) else (some false))) else (some false))) else (some false))) = some r := by rw [if_pos rfl] at H; exact H
 clear H
 have H := H1
 clear H1
 replace H := Option.bind_eq_some_iff.mp H
 obtain ⟨t173, A50, H⟩ := H
 try dsimp only at H
 have A5 := mk_ A50
 clear A50
 by_cases c6 : t173 = true
 rotate_left
 · replace c6 := Bool.eq_false_iff.mpr c6
   subst c6
   have H1 : (some false) = some r := by rw [if_neg (show ¬ (false = true) by decide)] at H; exact H
   clear H
   have H := H1
   clear H1
   obtain rfl := Option.some.inj H
   go_enter Try.func56, Try.ntmps56
   go_wp2_with (first | ((with_reducible refine gate_dst (N := 2) rfl ?_); (try (refine gate_guard (by rfl) ?_; dsimp only)); refine box_event ?hg (N := 2) ?hd (cs := #[.int .i64 a0_0, .int .i64 a0_1, .int .i64 a0_2, .int .i64 a0_3, .int .i64 a0_4]) (t := 66) ?hr ?_; (case hd => rfl); (case hg => rfl); (case hr => first | (go_simp; done) | (go_simp; rfl)); intro gb170 hg w46 hbox hb; have BK170 := mk_ (hbox); have GW170 := mk_ ((by rw [hg]; exact (zr2 (by repeat (first | (with_reducible first | exact HB.out | apply zq7 | apply zq8 | apply zq9) | exact HB.out))) : w.heap.size ≤ gb170)); have GE170 := GW170; replace HB := mk_ (zr3 (by repeat (first | (with_reducible first | exact HB.out | apply zq7 | apply zq8 | apply zq9) | exact HB.out)) hb); clear hb hbox hg) | ((with_reducible refine gate_dst (N := 3) rfl ?_); (try (refine gate_guard (by rfl) ?_; dsimp only)); refine box_event ?hg (N := 3) ?hd (cs := #[.int .i64 a1_0, .slice A1_1 l1_1.length c1_1, .int .i64 a1_2, .int .i64 a1_3, .bool a1_4]) (t := 78) ?hr ?_; (case hd => rfl); (case hg => rfl); (case hr => first | (go_simp; done) | (go_simp; rfl)); intro gb171 hg w47 hbox hb; have BK171 := mk_ (hbox); have GW171 := mk_ ((by rw [hg]; exact (zr2 (by repeat (first | (with_reducible first | exact HB.out | apply zq7 | apply zq8 | apply zq9 | refine zr1 ?_ GE170.out) | exact HB.out))) : w.heap.size ≤ gb171)); have GE171 := GW171; replace HB := mk_ (zr3 (by repeat (first | (with_reducible first | exact HB.out | apply zq7 | apply zq8 | apply zq9 | refine zr1 ?_ GE170.out) | exact HB.out)) hb); have NB170_171 := mk_ ((by rw [hg]; exact zm2 (zr6 (by exact BK170.out)) : gb170 ≠ gb171)); replace BK170 := mk_ (zq6 (by exact BK170.out) hb); have NB171_170 := mk_ NB170_171.out.symm; clear hb hbox hg; have hnb48 := NB170_171.out; have hnc48 := NB171_170.out; obtain ⟨hcz49_0, hcz49_1, hcz49_2, hcz49_3, hcz49_4⟩ := cz5 BK170.out; obtain ⟨hfz49_0, hfz49_1, hfz49_2, hfz49_3, hfz49_4⟩ := fz5 BK170.out) | ((with_reducible refine gate_callee (f := 72) rfl ?_); refine goesL_ (some 6) rfl rfl Try.func72 (by kernel_rfl) rfl #[.agg #[.int .i64 a0_0, .int .i64 a0_1, .int .i64 a0_2, .int .i64 a0_3, .int .i64 a0_4]] rfl (by (try simp only [List.map_toArray, List.map_cons, List.map_nil]); first | done | rfl | (simp only [List.length_drop, List.length_take]; rfl)) ?_; (with_reducible refine (impl_CfgOk.calls a0_0 a0_1 a0_2 a0_3 a0_4 true _ A3.out).mono ?_); rintro e w50 ⟨rfl, hb⟩; refine ⟨_, rfl, ?_⟩; replace BK170 := mk_ (zq6 (by exact BK170.out) hb); replace BK171 := mk_ (zq6 (by exact BK171.out) hb); replace HB := mk_ (zr3 (by repeat (first | (with_reducible first | exact HB.out | apply zq7 | apply zq8 | apply zq9 | refine zr1 ?_ GE170.out | refine zr1 ?_ GE171.out) | exact HB.out)) hb); (try clear hb); (try clear hb2); (try clear hk); (try clear hi); obtain ⟨hcz51_0, hcz51_1, hcz51_2, hcz51_3, hcz51_4⟩ := cz5 BK171.out; obtain ⟨hfz51_0, hfz51_1, hfz51_2, hfz51_3, hfz51_4⟩ := fz5 BK171.out) | (go_at_call 65; (with_reducible refine (impl_in.calls a1_0 0 255 false _ A5.out).mono ?_); rintro e w' ⟨rfl, ⟨nd, rfl⟩⟩))
   go_ret
   exact ⟨by first | rfl | (simp [errW_none, errW_some] <;> rfl) | (simp [*, errW_none, errW_some] <;> rfl), by repeat (first | (with_reducible first | exact HB.out | apply zq7 | apply zq8 | apply zq9 | refine zr1 ?_ GE170.out | refine zr1 ?_ GE171.out) | exact HB.out)⟩
 subst c6
 have H1 : ((impl_in.f a1_2 0 9999).bind fun t174 => (if t174 = true then ((impl_in.f a1_3 0 9999).bind fun t175 => (if t175 = true then (if a1_0 = (wrap64 (a1_2 - a1_3)) then (if (l1_1.length : Int) ≤ 24 then ((impl_CfgOpts_partsOk.f k a0_0 a0_1 a0_2 a0_3 a0_4 l1_1).bind fun t176 => (some t176)) else (some false)) else (some false)) else (some false))) else (some false))) = some r := by rw [if_pos rfl] at H; exact H
 clear H
 have H := H1
 clear H1
 replace H := Option.bind_eq_some_iff.mp H
 obtain ⟨t174, A70, H⟩ := H
 try dsimp only at H
 have A7 := mk_ A70
 clear A70
 by_cases c8 : t174 = true
 rotate_left
 · replace c8 := Bool.eq_false_iff.mpr c8
   subst c8
   have H1 : (some false) = some r := by rw [if_neg (show ¬ (false = true) by decide)] at H; exact H
   clear H
   have H := H1
   clear H1
   obtain rfl := Option.some.inj H
   go_enter Try.func56, Try.ntmps56
   go_wp2_with (first | ((with_reducible refine gate_dst (N := 2) rfl ?_); (try (refine gate_guard (by rfl) ?_; dsimp only)); refine box_event ?hg (N := 2) ?hd (cs := #[.int .i64 a0_0, .int .i64 a0_1, .int .i64 a0_2, .int .i64 a0_3, .int .i64 a0_4]) (t := 66) ?hr ?_; (case hd => rfl); (case hg => rfl); (case hr => first | (go_simp; done) | (go_simp; rfl)); intro gb170 hg w40 hbox hb; have BK170 := mk_ (hbox); have GW170 := mk_ ((by rw [hg]; exact (zr2 (by repeat (first | (with_reducible first | exact HB.out | apply zq7 | apply zq8 | apply zq9) | exact HB.out))) : w.heap.size ≤ gb170)); have GE170 := GW170; replace HB := mk_ (zr3 (by repeat (first | (with_reducible first | exact HB.out | apply zq7 | apply zq8 | apply zq9) | exact HB.out)) hb); clear hb hbox hg) | ((with_reducible refine gate_dst (N := 3) rfl ?_); (try (refine gate_guard (by rfl) ?_; dsimp only)); refine box_event ?hg (N := 3) ?hd (cs := #[.int .i64 a1_0, .slice A1_1 l1_1.length c1_1, .int .i64 a1_2, .int .i64 a1_3, .bool a1_4]) (t := 78) ?hr ?_; (case hd => rfl); (case hg => rfl); (case hr => first | (go_simp; done) | (go_simp; rfl)); intro gb171 hg w41 hbox hb; have BK171 := mk_ (hbox); have GW171 := mk_ ((by rw [hg]; exact (zr2 (by repeat (first | (with_reducible first | exact HB.out | apply zq7 | apply zq8 | apply zq9 | refine zr1 ?_ GE170.out) | exact HB.out))) : w.heap.size ≤ gb171)); have GE171 := GW171; replace HB := mk_ (zr3 (by repeat (first | (with_reducible first | exact HB.out | apply zq7 | apply zq8 | apply zq9 | refine zr1 ?_ GE170.out) | exact HB.out)) hb); have NB170_171 := mk_ ((by rw [hg]; exact zm2 (zr6 (by exact BK170.out)) : gb170 ≠ gb171)); replace BK170 := mk_ (zq6 (by exact BK170.out) hb); have NB171_170 := mk_ NB170_171.out.symm; clear hb hbox hg; have hnb42 := NB170_171.out; have hnc42 := NB171_170.out; obtain ⟨hcz43_0, hcz43_1, hcz43_2, hcz43_3, hcz43_4⟩ := cz5 BK170.out; obtain ⟨hfz43_0, hfz43_1, hfz43_2, hfz43_3, hfz43_4⟩ := fz5 BK170.out) | ((with_reducible refine gate_callee (f := 72) rfl ?_); refine goesL_ (some 6) rfl rfl Try.func72 (by kernel_rfl) rfl #[.agg #[.int .i64 a0_0, .int .i64 a0_1, .int .i64 a0_2, .int .i64 a0_3, .int .i64 a0_4]] rfl (by (try simp only [List.map_toArray, List.map_cons, List.map_nil]); first | done | rfl | (simp only [List.length_drop, List.length_take]; rfl)) ?_; (with_reducible refine (impl_CfgOk.calls a0_0 a0_1 a0_2 a0_3 a0_4 true _ A3.out).mono ?_); rintro e w44 ⟨rfl, hb⟩; refine ⟨_, rfl, ?_⟩; replace BK170 := mk_ (zq6 (by exact BK170.out) hb); replace BK171 := mk_ (zq6 (by exact BK171.out) hb); replace HB := mk_ (zr3 (by repeat (first | (with_reducible first | exact HB.out | apply zq7 | apply zq8 | apply zq9 | refine zr1 ?_ GE170.out | refine zr1 ?_ GE171.out) | exact HB.out)) hb); (try clear hb); (try clear hb2); (try clear hk); (try clear hi); obtain ⟨hcz45_0, hcz45_1, hcz45_2, hcz45_3, hcz45_4⟩ := cz5 BK171.out; obtain ⟨hfz45_0, hfz45_1, hfz45_2, hfz45_3, hfz45_4⟩ := fz5 BK171.out) | (go_at_call 65; (with_reducible refine (impl_in.calls a1_0 0 255 true _ A5.out).mono ?_); rintro e w' ⟨rfl, ⟨nd, rfl⟩⟩) | (go_at_call 65; (with_reducible refine (impl_in.calls a1_2 0 9999 false _ A7.out).mono ?_); rintro e w' ⟨rfl, ⟨nd, rfl⟩⟩))
   go_ret
   exact ⟨by first | rfl | (simp [errW_none, errW_some] <;> rfl) | (simp [*, errW_none, errW_some] <;> rfl), by repeat (first | (with_reducible first | exact HB.out | apply zq7 | apply zq8 | apply zq9 | refine zr1 ?_ GE170.out | refine zr1 ?_ GE171.out) | exact HB.out)⟩
 subst c8
 have H1 : ((impl_in.f a1_3 0 9999).bind fun t175 => (if t175 = true then (if a1_0 = (wrap64 (a1_2 - a1_3)) then (if (l1_1.length : Int) ≤ 24 then ((impl_CfgOpts_partsOk.f k a0_0 a0_1 a0_2 a0_3 a0_4 l1_1).bind fun t176 => (some t176)) else (some false)) else (some false)) else (some false))) = some r := by rw [if_pos rfl] at H; exact H
 clear H
 have H := H1
 clear H1
 replace H := Option.bind_eq_some_iff.mp H
 obtain ⟨t175, A90, H⟩ := H
 try dsimp only at H
 have A9 := mk_ A90
 clear A90
 by_cases c10 : t175 = true
 rotate_left
 · replace c10 := Bool.eq_false_iff.mpr c10
   subst c10
   have H1 : (some false) = some r := by rw [if_neg (show ¬ (false = true) by decide)] at H; exact H
   clear H
   have H := H1
   clear H1
   obtain rfl := Option.some.inj H
   go_enter Try.func56, Try.ntmps56
   go_wp2_with (first | ((with_reducible refine gate_dst (N := 2) rfl ?_); (try (refine gate_guard (by rfl) ?_; dsimp only)); refine box_event ?hg (N := 2) ?hd (cs := #[.int .i64 a0_0, .int .i64 a0_1, .int .i64 a0_2, .int .i64 a0_3, .int .i64 a0_4]) (t := 66) ?hr ?_; (case hd => rfl); (case hg => rfl); (case hr => first | (go_simp; done) | (go_simp; rfl)); intro gb170 hg w34 hbox hb; have BK170 := mk_ (hbox); have GW170 := mk_ ((by rw [hg]; exact (zr2 (by repeat (first | (with_reducible first | exact HB.out | apply zq7 | apply zq8 | apply zq9) | exact HB.out))) : w.heap.size ≤ gb170)); have GE170 := GW170; replace HB := mk_ (zr3 (by repeat (first | (with_reducible first | exact HB.out | apply zq7 | apply zq8 | apply zq9) | exact HB.out)) hb); clear hb hbox hg) | ((with_reducible refine gate_dst (N := 3) rfl ?_); (try (refine gate_guard (by rfl) ?_; dsimp only)); refine box_event ?hg (N := 3) ?hd (cs := #[.int .i64 a1_0, .slice A1_1 l1_1.length c1_1, .int .i64 a1_2, .int .i64 a1_3, .bool a1_4]) (t := 78) ?hr ?_; (case hd => rfl); (case hg => rfl); (case hr => first | (go_simp; done) | (go_simp; rfl)); intro gb171 hg w35 hbox hb; have BK171 := mk_ (hbox); have GW171 := mk_ ((by rw [hg]; exact (zr2 (by repeat (first | (with_reducible first | exact HB.out | apply zq7 | apply zq8 | apply zq9 | refine zr1 ?_ GE170.out) | exact HB.out))) : w.heap.size ≤ gb171)); have GE171 := GW171; replace HB := mk_ (zr3 (by repeat (first | (with_reducible first | exact HB.out | apply zq7 | apply zq8 | apply zq9 | refine zr1 ?_ GE170.out) | exact HB.out)) hb); have NB170_171 := mk_ ((by rw [hg]; exact zm2 (zr6 (by exact BK170.out)) : gb170 ≠ gb171)); replace BK170 := mk_ (zq6 (by exact BK170.out) hb); have NB171_170 := mk_ NB170_171.out.symm; clear hb hbox hg; have hnb36 := NB170_171.out; have hnc36 := NB171_170.out; obtain ⟨hcz37_0, hcz37_1, hcz37_2, hcz37_3, hcz37_4⟩ := cz5 BK170.out; obtain ⟨hfz37_0, hfz37_1, hfz37_2, hfz37_3, hfz37_4⟩ := fz5 BK170.out) | ((with_reducible refine gate_callee (f := 72) rfl ?_); refine goesL_ (some 6) rfl rfl Try.func72 (by kernel_rfl) rfl #[.agg #[.int .i64 a0_0, .int .i64 a0_1, .int .i64 a0_2, .int .i64 a0_3, .int .i64 a0_4]] rfl (by (try simp only [List.map_toArray, List.map_cons, List.map_nil]); first | done | rfl | (simp only [List.length_drop, List.length_take]; rfl)) ?_; (with_reducible refine (impl_CfgOk.calls a0_0 a0_1 a0_2 a0_3 a0_4 true _ A3.out).mono ?_); rintro e w38 ⟨rfl, hb⟩; refine ⟨_, rfl, ?_⟩; replace BK170 := mk_ (zq6 (by exact BK170.out) hb); replace BK171 := mk_ (zq6 (by exact BK171.out) hb); replace HB := mk_ (zr3 (by repeat (first | (with_reducible first | exact HB.out | apply zq7 | apply zq8 | apply zq9 | refine zr1 ?_ GE170.out | refine zr1 ?_ GE171.out) | exact HB.out)) hb); (try clear hb); (try clear hb2); (try clear hk); (try clear hi); obtain ⟨hcz39_0, hcz39_1, hcz39_2, hcz39_3, hcz39_4⟩ := cz5 BK171.out; obtain ⟨hfz39_0, hfz39_1, hfz39_2, hfz39_3, hfz39_4⟩ := fz5 BK171.out) | (go_at_call 65; (with_reducible refine (impl_in.calls a1_0 0 255 true _ A5.out).mono ?_); rintro e w' ⟨rfl, ⟨nd, rfl⟩⟩) | (go_at_call 65; (with_reducible refine (impl_in.calls a1_2 0 9999 true _ A7.out).mono ?_); rintro e w' ⟨rfl, ⟨nd, rfl⟩⟩) | (go_at_call 65; (with_reducible refine (impl_in.calls a1_3 0 9999 false _ A9.out).mono ?_); rintro e w' ⟨rfl, ⟨nd, rfl⟩⟩))
   go_ret
   exact ⟨by first | rfl | (simp [errW_none, errW_some] <;> rfl) | (simp [*, errW_none, errW_some] <;> rfl), by repeat (first | (with_reducible first | exact HB.out | apply zq7 | apply zq8 | apply zq9 | refine zr1 ?_ GE170.out | refine zr1 ?_ GE171.out) | exact HB.out)⟩
 subst c10
 have H1 : (if a1_0 = (wrap64 (a1_2 - a1_3)) then (if (l1_1.length : Int) ≤ 24 then ((impl_CfgOpts_partsOk.f k a0_0 a0_1 a0_2 a0_3 a0_4 l1_1).bind fun t176 => (some t176)) else (some false)) else (some false)) = some r := by rw [if_pos rfl] at H; exact H
 clear H
 have H := H1
 clear H1
 by_cases c11 : a1_0 = (wrap64 (a1_2 - a1_3))
 rotate_left
 · rw [if_neg c11] at H
   have c11b0 : (a1_0 == (wrap64 (a1_2 - a1_3))) = false := beq_eq_false_iff_ne.mpr c11
   have c11b1 : (a1_0 != (wrap64 (a1_2 - a1_3))) = true := bne_iff_ne.mpr c11
   obtain rfl := Option.some.inj H
   go_enter Try.func56, Try.ntmps56
   go_wp2_with (first | ((with_reducible refine gate_dst (N := 2) rfl ?_); (try (refine gate_guard (by rfl) ?_; dsimp only)); refine box_event ?hg (N := 2) ?hd (cs := #[.int .i64 a0_0, .int .i64 a0_1, .int .i64 a0_2, .int .i64 a0_3, .int .i64 a0_4]) (t := 66) ?hr ?_; (case hd => rfl); (case hg => rfl); (case hr => first | (go_simp; done) | (go_simp; rfl)); intro gb170 hg w28 hbox hb; have BK170 := mk_ (hbox); have GW170 := mk_ ((by rw [hg]; exact (zr2 (by repeat (first | (with_reducible first | exact HB.out | apply zq7 | apply zq8 | apply zq9) | exact HB.out))) : w.heap.size ≤ gb170)); have GE170 := GW170; replace HB := mk_ (zr3 (by repeat (first | (with_reducible first | exact HB.out | apply zq7 | apply zq8 | apply zq9) | exact HB.out)) hb); clear hb hbox hg) | ((with_reducible refine gate_dst (N := 3) rfl ?_); (try (refine gate_guard (by rfl) ?_; dsimp only)); refine box_event ?hg (N := 3) ?hd (cs := #[.int .i64 a1_0, .slice A1_1 l1_1.length c1_1, .int .i64 a1_2, .int .i64 a1_3, .bool a1_4]) (t := 78) ?hr ?_; (case hd => rfl); (case hg => rfl); (case hr => first | (go_simp; done) | (go_simp; rfl)); intro gb171 hg w29 hbox hb; have BK171 := mk_ (hbox); have GW171 := mk_ ((by rw [hg]; exact (zr2 (by repeat (first | (with_reducible first | exact HB.out | apply zq7 | apply zq8 | apply zq9 | refine zr1 ?_ GE170.out) | exact HB.out))) : w.heap.size ≤ gb171)); have GE171 := GW171; replace HB := mk_ (zr3 (by repeat (first | (with_reducible first | exact HB.out | apply zq7 | apply zq8 | apply zq9 | refine zr1 ?_ GE170.out) | exact HB.out)) hb); have NB170_171 := mk_ ((by rw [hg]; exact zm2 (zr6 (by exact BK170.out)) : gb170 ≠ gb171)); replace BK170 := mk_ (zq6 (by exact BK170.out) hb); have NB171_170 := mk_ NB170_171.out.symm; clear hb hbox hg; have hnb30 := NB170_171.out; have hnc30 := NB171_170.out; obtain ⟨hcz31_0, hcz31_1, hcz31_2, hcz31_3, hcz31_4⟩ := cz5 BK170.out; obtain ⟨hfz31_0, hfz31_1, hfz31_2, hfz31_3, hfz31_4⟩ := fz5 BK170.out) | ((with_reducible refine gate_callee (f := 72) rfl ?_); refine goesL_ (some 6) rfl rfl Try.func72 (by kernel_rfl) rfl #[.agg #[.int .i64 a0_0, .int .i64 a0_1, .int .i64 a0_2, .int .i64 a0_3, .int .i64 a0_4]] rfl (by (try simp only [List.map_toArray, List.map_cons, List.map_nil]); first | done | rfl | (simp only [List.length_drop, List.length_take]; rfl)) ?_; (with_reducible refine (impl_CfgOk.calls a0_0 a0_1 a0_2 a0_3 a0_4 true _ A3.out).mono ?_); rintro e w32 ⟨rfl, hb⟩; refine ⟨_, rfl, ?_⟩; replace BK170 := mk_ (zq6 (by exact BK170.out) hb); replace BK171 := mk_ (zq6 (by exact BK171.out) hb); replace HB := mk_ (zr3 (by repeat (first | (with_reducible first | exact HB.out | apply zq7 | apply zq8 | apply zq9 | refine zr1 ?_ GE170.out | refine zr1 ?_ GE171.out) | exact HB.out)) hb); (try clear hb); (try clear hb2); (try clear hk); (try clear hi); obtain ⟨hcz33_0, hcz33_1, hcz33_2, hcz33_3, hcz33_4⟩ := cz5 BK171.out; obtain ⟨hfz33_0, hfz33_1, hfz33_2, hfz33_3, hfz33_4⟩ := fz5 BK171.out) | (go_at_call 65; (with_reducible refine (impl_in.calls a1_0 0 255 true _ A5.out).mono ?_); rintro e w' ⟨rfl, ⟨nd, rfl⟩⟩) | (go_at_call 65; (with_reducible refine (impl_in.calls a1_2 0 9999 true _ A7.out).mono ?_); rintro e w' ⟨rfl, ⟨nd, rfl⟩⟩) | (go_at_call 65; (with_reducible refine (impl_in.calls a1_3 0 9999 true _ A9.out).mono ?_); rintro e w' ⟨rfl, ⟨nd, rfl⟩⟩))
   go_ret
   exact ⟨by first | rfl | (simp [errW_none, errW_some] <;> rfl) | (simp [*, errW_none, errW_some] <;> rfl), by repeat (first | (with_reducible first | exact HB.out | apply zq7 | apply zq8 | apply zq9 | refine zr1 ?_ GE170.out | refine zr1 ?_ GE171.out) | exact HB.out)⟩
 rw [if_pos c11] at H
 have c11b0 : (a1_0 == (wrap64 (a1_2 - a1_3))) = true := beq_iff_eq.mpr c11
 have c11b1 : (a1_0 != (wrap64 (a1_2 - a1_3))) = false := bne_eq_false_iff_eq.mpr c11
 clear c11
 by_cases c12 : (l1_1.length : Int) ≤ 24
 rotate_left
 · rw [if_neg c12] at H
   have c12b0 : decide ((l1_1.length : Int) ≤ 24) = false := decide_eq_false c12
   have c12b1 : decide (l1_1.length ≤ 24) = false := decide_eq_false (by omega)
   clear c12
   obtain rfl := Option.some.inj H
   go_enter Try.func56, Try.ntmps56
   go_wp2_with (first | ((with_reducible refine gate_dst (N := 2) rfl ?_); (try (refine gate_guard (by rfl) ?_; dsimp only)); refine box_event ?hg (N := 2) ?hd (cs := #[.int .i64 a0_0, .int .i64 a0_1, .int .i64 a0_2, .int .i64 a0_3, .int .i64 a0_4]) (t := 66) ?hr ?_; (case hd => rfl); (case hg => rfl); (case hr => first | (go_simp; done) | (go_simp; rfl)); intro gb170 hg w22 hbox hb; have BK170 := mk_ (hbox); have GW170 := mk_ ((by rw [hg]; exact (zr2 (by repeat (first | (with_reducible first | exact HB.out | apply zq7 | apply zq8 | apply zq9) | exact HB.out))) : w.heap.size ≤ gb170)); have GE170 := GW170; replace HB := mk_ (zr3 (by repeat (first | (with_reducible first | exact HB.out | apply zq7 | apply zq8 | apply zq9) | exact HB.out)) hb); clear hb hbox hg) | ((with_reducible refine gate_dst (N := 3) rfl ?_); (try (refine gate_guard (by rfl) ?_; dsimp only)); refine box_event ?hg (N := 3) ?hd (cs := #[.int .i64 a1_0, .slice A1_1 l1_1.length c1_1, .int .i64 a1_2, .int .i64 a1_3, .bool a1_4]) (t := 78) ?hr ?_; (case hd => rfl); (case hg => rfl); (case hr => first | (go_simp; done) | (go_simp; rfl)); intro gb171 hg w23 hbox hb; have BK171 := mk_ (hbox); have GW171 := mk_ ((by rw [hg]; exact (zr2 (by repeat (first | (with_reducible first | exact HB.out | apply zq7 | apply zq8 | apply zq9 | refine zr1 ?_ GE170.out) | exact HB.out))) : w.heap.size ≤ gb171)); have GE171 := GW171; replace HB := mk_ (zr3 (by repeat (first | (with_reducible first | exact HB.out | apply zq7 | apply zq8 | apply zq9 | refine zr1 ?_ GE170.out) | exact HB.out)) hb); have NB170_171 := mk_ ((by rw [hg]; exact zm2 (zr6 (by exact BK170.out)) : gb170 ≠ gb171)); replace BK170 := mk_ (zq6 (by exact BK170.out) hb); have NB171_170 := mk_ NB170_171.out.symm; clear hb hbox hg; have hnb24 := NB170_171.out; have hnc24 := NB171_170.out; obtain ⟨hcz25_0, hcz25_1, hcz25_2, hcz25_3, hcz25_4⟩ := cz5 BK170.out; obtain ⟨hfz25_0, hfz25_1, hfz25_2, hfz25_3, hfz25_4⟩ := fz5 BK170.out) | ((with_reducible refine gate_callee (f := 72) rfl ?_); refine goesL_ (some 6) rfl rfl Try.func72 (by kernel_rfl) rfl #[.agg #[.int .i64 a0_0, .int .i64 a0_1, .int .i64 a0_2, .int .i64 a0_3, .int .i64 a0_4]] rfl (by (try simp only [List.map_toArray, List.map_cons, List.map_nil]); first | done | rfl | (simp only [List.length_drop, List.length_take]; rfl)) ?_; (with_reducible refine (impl_CfgOk.calls a0_0 a0_1 a0_2 a0_3 a0_4 true _ A3.out).mono ?_); rintro e w26 ⟨rfl, hb⟩; refine ⟨_, rfl, ?_⟩; replace BK170 := mk_ (zq6 (by exact BK170.out) hb); replace BK171 := mk_ (zq6 (by exact BK171.out) hb); replace HB := mk_ (zr3 (by repeat (first | (with_reducible first | exact HB.out | apply zq7 | apply zq8 | apply zq9 | refine zr1 ?_ GE170.out | refine zr1 ?_ GE171.out) | exact HB.out)) hb); (try clear hb); (try clear hb2); (try clear hk); (try clear hi); obtain ⟨hcz27_0, hcz27_1, hcz27_2, hcz27_3, hcz27_4⟩ := cz5 BK171.out; obtain ⟨hfz27_0, hfz27_1, hfz27_2, hfz27_3, hfz27_4⟩ := fz5 BK171.out) | (go_at_call 65; (with_reducible refine (impl_in.calls a1_0 0 255 true _ A5.out).mono ?_); rintro e w' ⟨rfl, ⟨nd, rfl⟩⟩) | (go_at_call 65; (with_reducible refine (impl_in.calls a1_2 0 9999 true _ A7.out).mono ?_); rintro e w' ⟨rfl, ⟨nd, rfl⟩⟩) | (go_at_call 65; (with_reducible refine (impl_in.calls a1_3 0 9999 true _ A9.out).mono ?_); rintro e w' ⟨rfl, ⟨nd, rfl⟩⟩))
   go_ret
   exact ⟨by first | rfl | (simp [errW_none, errW_some] <;> rfl) | (simp [*, errW_none, errW_some] <;> rfl), by repeat (first | (with_reducible first | exact HB.out | apply zq7 | apply zq8 | apply zq9 | refine zr1 ?_ GE170.out | refine zr1 ?_ GE171.out) | exact HB.out)⟩
 rw [if_pos c12] at H
 have c12b0 : decide ((l1_1.length : Int) ≤ 24) = true := decide_eq_true c12
 have c12b1 : decide (l1_1.length ≤ 24) = true := decide_eq_true (by omega)
 clear c12
 replace H := Option.bind_eq_some_iff.mp H
 obtain ⟨t176, A130, H⟩ := H
 try dsimp only at H
 have A13 := mk_ A130
 clear A130
 obtain rfl := Option.some.inj H
 go_enter Try.func56, Try.ntmps56
 go_wp2_with (first | ((with_reducible refine gate_dst (N := 2) rfl ?_); (try (refine gate_guard (by rfl) ?_; dsimp only)); refine box_event ?hg (N := 2) ?hd (cs := #[.int .i64 a0_0, .int .i64 a0_1, .int .i64 a0_2, .int .i64 a0_3, .int .i64 a0_4]) (t := 66) ?hr ?_; (case hd => rfl); (case hg => rfl); (case hr => first | (go_simp; done) | (go_simp; rfl)); intro gb170 hg w14 hbox hb; have BK170 := mk_ (hbox); have GW170 := mk_ ((by rw [hg]; exact (zr2 (by repeat (first | (with_reducible first | exact HB.out | apply zq7 | apply zq8 | apply zq9) | exact HB.out))) : w.heap.size ≤ gb170)); have GE170 := GW170; replace HB := mk_ (zr3 (by repeat (first | (with_reducible first | exact HB.out | apply zq7 | apply zq8 | apply zq9) | exact HB.out)) hb); clear hb hbox hg) | ((with_reducible refine gate_dst (N := 3) rfl ?_); (try (refine gate_guard (by rfl) ?_; dsimp only)); refine box_event ?hg (N := 3) ?hd (cs := #[.int .i64 a1_0, .slice A1_1 l1_1.length c1_1, .int .i64 a1_2, .int .i64 a1_3, .bool a1_4]) (t := 78) ?hr ?_; (case hd => rfl); (case hg => rfl); (case hr => first | (go_simp; done) | (go_simp; rfl)); intro gb171 hg w15 hbox hb; have BK171 := mk_ (hbox); have GW171 := mk_ ((by rw [hg]; exact (zr2 (by repeat (first | (with_reducible first | exact HB.out | apply zq7 | apply zq8 | apply zq9 | refine zr1 ?_ GE170.out) | exact HB.out))) : w.heap.size ≤ gb171)); have GE171 := GW171; replace HB := mk_ (zr3 (by repeat (first | (with_reducible first | exact HB.out | apply zq7 | apply zq8 | apply zq9 | refine zr1 ?_ GE170.out) | exact HB.out)) hb); have NB170_171 := mk_ ((by rw [hg]; exact zm2 (zr6 (by exact BK170.out)) : gb170 ≠ gb171)); replace BK170 := mk_ (zq6 (by exact BK170.out) hb); have NB171_170 := mk_ NB170_171.out.symm; clear hb hbox hg; have hnb16 := NB170_171.out; have hnc16 := NB171_170.out; obtain ⟨hcz17_0, hcz17_1, hcz17_2, hcz17_3, hcz17_4⟩ := cz5 BK170.out; obtain ⟨hfz17_0, hfz17_1, hfz17_2, hfz17_3, hfz17_4⟩ := fz5 BK170.out) | ((with_reducible refine gate_callee (f := 72) rfl ?_); refine goesL_ (some 6) rfl rfl Try.func72 (by kernel_rfl) rfl #[.agg #[.int .i64 a0_0, .int .i64 a0_1, .int .i64 a0_2, .int .i64 a0_3, .int .i64 a0_4]] rfl (by (try simp only [List.map_toArray, List.map_cons, List.map_nil]); first | done | rfl | (simp only [List.length_drop, List.length_take]; rfl)) ?_; (with_reducible refine (impl_CfgOk.calls a0_0 a0_1 a0_2 a0_3 a0_4 true _ A3.out).mono ?_); rintro e w18 ⟨rfl, hb⟩; refine ⟨_, rfl, ?_⟩; replace BK170 := mk_ (zq6 (by exact BK170.out) hb); replace BK171 := mk_ (zq6 (by exact BK171.out) hb); replace HB := mk_ (zr3 (by repeat (first | (with_reducible first | exact HB.out | apply zq7 | apply zq8 | apply zq9 | refine zr1 ?_ GE170.out | refine zr1 ?_ GE171.out) | exact HB.out)) hb); (try clear hb); (try clear hb2); (try clear hk); (try clear hi); obtain ⟨hcz19_0, hcz19_1, hcz19_2, hcz19_3, hcz19_4⟩ := cz5 BK171.out; obtain ⟨hfz19_0, hfz19_1, hfz19_2, hfz19_3, hfz19_4⟩ := fz5 BK171.out) | (go_at_call 65; (with_reducible refine (impl_in.calls a1_0 0 255 true _ A5.out).mono ?_); rintro e w' ⟨rfl, ⟨nd, rfl⟩⟩) | (go_at_call 65; (with_reducible refine (impl_in.calls a1_2 0 9999 true _ A7.out).mono ?_); rintro e w' ⟨rfl, ⟨nd, rfl⟩⟩) | (go_at_call 65; (with_reducible refine (impl_in.calls a1_3 0 9999 true _ A9.out).mono ?_); rintro e w' ⟨rfl, ⟨nd, rfl⟩⟩; obtain ⟨hcz20_0, hcz20_1, hcz20_2, hcz20_3, hcz20_4⟩ := cz5 BK170.out; obtain ⟨hfz20_0, hfz20_1, hfz20_2, hfz20_3, hfz20_4⟩ := fz5 BK170.out) | (go_at_call 89; (with_reducible refine (impl_CfgOpts_partsOk.calls k a0_0 a0_1 a0_2 a0_3 a0_4 _ _ l1_1 t176 _ ?side1 ?side2 A13.out).mono ?_); (case side1 => repeat (first | exact (Kd.C_below HR1_1.out (by repeat (first | (with_reducible first | exact HB.out | apply zq7 | apply zq8 | apply zq9 | refine zr1 ?_ GE170.out | refine zr1 ?_ GE171.out) | exact HB.out))) | (with_reducible refine Kd.C_alloc ?_ _) | (with_reducible refine Kd.C_drewN ?_ _) | (with_reducible refine Kd.C_drew ?_))); (case side2 => exact HC1_1.out); rintro e w21 ⟨rfl, hb⟩; replace BK170 := mk_ (zq6 (by exact BK170.out) hb); replace BK171 := mk_ (zq6 (by exact BK171.out) hb); replace HB := mk_ (zr3 (by repeat (first | (with_reducible first | exact HB.out | apply zq7 | apply zq8 | apply zq9 | refine zr1 ?_ GE170.out | refine zr1 ?_ GE171.out) | exact HB.out)) hb); (try clear hb); (try clear hb2); (try clear hk); (try clear hi)))
 go_ret
 exact ⟨by first | rfl | (simp [errW_none, errW_some] <;> rfl) | (simp [*, errW_none, errW_some] <;> rfl), by repeat (first | (with_reducible first | exact HB.out | apply zq7 | apply zq8 | apply zq9 | refine zr1 ?_ GE170.out | refine zr1 ?_ GE171.out) | exact HB.out)⟩

/-! ### laws_eqByteS: function 19 -/
def laws_eqByteS.l0 : Nat → List Int → List Int → Int → Option (Bool)
  | 0, _, _, _ => none
  | k + 1, x0, x1, x5 => if x5 < (x0.length : Int) then (if 0 ≤ x5 then (if x5 < (x1.length : Int) then (if (rd x0 x5) = (rd x1 x5) then (laws_eqByteS.l0 k x0 x1 (wrap64 (x5 + 1))) else (some false)) else (none)) else (none)) else (some true)
def laws_eqByteS.f (k : Nat) (l0 : List Int) (l1 : List Int) : Option (Bool) := if (l0.length : Int) = (l1.length : Int) then (laws_eqByteS.l0 k l0 l1 0) else (some false)
theorem laws_eqByteS.mono_l : ∀ k, (∀ y0 y1 y2, LeO (laws_eqByteS.l0 k y0 y1 y2) (laws_eqByteS.l0 (k + 1) y0 y1 y2))
  | 0 => fun _ _ _ r h => by simp [laws_eqByteS.l0] at h
  | k + 1 => by
    have ih0 := laws_eqByteS.mono_l k
    · intro y0 y1 y2
      unfold laws_eqByteS.l0
      repeat' first
      | (with_reducible exact ih0 _ _ _)
      | (with_reducible exact LeO.refl _)
      | (with_reducible exact LeO.none _)
      | (with_reducible refine LeO.ite ?_ ?_)
      | (with_reducible refine LeO.bind ?_ (fun _ => ?_))
      | exact ih0 _ _ _
      | exact LeO.none _
      | refine LeO.ite ?_ ?_
      | refine LeO.bind ?_ (fun _ => ?_)
theorem laws_eqByteS.mono : ∀ a0 a1 k, LeO (laws_eqByteS.f k a0 a1) (laws_eqByteS.f (k + 1) a0 a1) := by
 intro a0 a1 k
 have ih0 := laws_eqByteS.mono_l k
 unfold laws_eqByteS.f
 repeat' first
     | (with_reducible exact ih0 _ _ _)
     | (with_reducible exact LeO.refl _)
     | (with_reducible exact LeO.none _)
     | (with_reducible refine LeO.ite ?_ ?_)
     | (with_reducible refine LeO.bind ?_ (fun _ => ?_))
     | exact ih0 _ _ _
     | exact LeO.none _
     | refine LeO.ite ?_ ?_
     | refine LeO.bind ?_ (fun _ => ?_)
set_option maxHeartbeats 60000000 in
set_option maxRecDepth 100000 in
theorem laws_eqByteS.calls (k : Nat) (A0 : Option Addr) (c0 : Nat) (l0 : List Int) (A1 : Option Addr) (c1 : Nat) (l1 : List Int) (r : Bool) (w : World) (hr0 : Kd.C (Kd.int .u8) w A0 l0.length l0) (hc0 : l0.length ≤ c0) (hr1 : Kd.C (Kd.int .u8) w A1 l1.length l1) (hc1 : l1.length ≤ c1) (h : laws_eqByteS.f k l0 l1 = some r) :
    Calls Try.prog 19 #[.slice A0 l0.length c0, .slice A1 l1.length c1] w fun e w' => e = .returned (.bool r) ∧ Drawn0 w w' := by
 have HR0 := mk_ hr0
 have HC0 := mk_ hc0
 clear hr0 hc0
 have HR1 := mk_ hr1
 have HC1 := mk_ hc1
 clear hr1 hc1
 have H : (if (l0.length : Int) = (l1.length : Int) then (laws_eqByteS.l0 k l0 l1 0) else (some false)) = some r := h
 clear h
 by_cases c3 : (l0.length : Int) = (l1.length : Int)
 rotate_left
 · rw [if_neg c3] at H
   have c3b0 : ((l0.length : Int) == (l1.length : Int)) = false := beq_eq_false_iff_ne.mpr c3
   have c3b1 : ((l0.length : Int) != (l1.length : Int)) = true := bne_iff_ne.mpr c3
   have c3b2 : (l0.length == l1.length) = false := by first | simpa using c3 | (simp at c3 ⊢; omega)
   obtain rfl := Option.some.inj H
   go_enter Try.func19, Try.ntmps19
   go_wp2
   repeat (go_quiet (fail); try go_wp2)
   go_ret
   exact ⟨by first | rfl | (simp; done) | (simp [*]; done), by repeat (first | exact Drawn0.refl _ | apply Drawn0.step)⟩
 rw [if_pos c3] at H
 have c3b0 : ((l0.length : Int) == (l1.length : Int)) = true := beq_iff_eq.mpr c3
 have c3b1 : ((l0.length : Int) != (l1.length : Int)) = false := bne_eq_false_iff_eq.mpr c3
 have c3b2 : (l0.length == l1.length) = true := by first | simpa using c3 | (simp at c3 ⊢; omega)
 clear c3
 have H' := mk_ H
 clear H
 go_enter Try.func19, Try.ntmps19
 go_wp2
 repeat (go_quiet (fail); try go_wp2)
 go_loopg [5] k (fun kq v5 w' => ∃ (x5_1 : Int), v5 = .int .i64 x5_1 ∧ Aside0 (laws_eqByteS.l0 kq l0 l1 x5_1 = some r) ∧ Aside0 (kq ≤ k) ∧ Drawn0 w w')
 case atStart => exact ⟨(0), (by first | rfl | (simp; done) | (simp [*]; done)), H', ⟨Nat.le_refl _⟩, by repeat (first | exact Drawn0.refl _ | apply Drawn0.step)⟩
 case round =>
   clear H'
   try clear c1
   try clear p2
   try clear c3
   try clear c3b0
   try clear c3b1
   try clear c3b2
   obtain ⟨x5_1, rfl, HA, HK1, ⟨m1, rfl⟩⟩ := hrel
   cases gk with
   | zero => exact absurd HA.out (by simp [laws_eqByteS.l0])
   | succ k1 =>
     have H := HA.out
     clear HA
     simp only [laws_eqByteS.l0] at H
     by_cases c4 : x5_1 < (l0.length : Int)
     rotate_left
     · rw [if_neg c4] at H
       have c4b0 : decide (x5_1 < (l0.length : Int)) = false := decide_eq_false c4
       clear c4
       obtain rfl := Option.some.inj H
       go_wp2
       repeat (go_quiet (fail); try go_wp2)
       go_ret
       exact ⟨by first | rfl | (simp; done) | (simp [*]; done), by repeat (first | exact Drawn0.refl _ | apply Drawn0.step)⟩
     rw [if_pos c4] at H
     have c4b0 : decide (x5_1 < (l0.length : Int)) = true := decide_eq_true c4
     clear c4
     by_cases c5 : 0 ≤ x5_1
     rotate_left
     · rw [if_neg c5] at H
       exact absurd H (by simp)
     rw [if_pos c5] at H
     have c5b0 : decide (0 ≤ x5_1) = true := decide_eq_true c5
     clear c5
     by_cases c6 : x5_1 < (l1.length : Int)
     rotate_left
     · rw [if_neg c6] at H
       exact absurd H (by simp)
     rw [if_pos c6] at H
     have c6b0 : decide (x5_1 < (l1.length : Int)) = true := decide_eq_true c6
     clear c6
     by_cases c7 : (rd l0 x5_1) = (rd l1 x5_1)
     rotate_left
     · rw [if_neg c7] at H
       have c7b0 : ((rd l0 x5_1) == (rd l1 x5_1)) = false := beq_eq_false_iff_ne.mpr c7
       have c7b1 : ((rd l0 x5_1) != (rd l1 x5_1)) = true := bne_iff_ne.mpr c7
       obtain rfl := Option.some.inj H
       have p177 : 0 ≤ (x5_1 : Int) := of_decide_eq_true (by first | (with_reducible assumption) | assumption)
       have q177 : x5_1 < (l0.length : Int) := of_decide_eq_true (by first | (with_reducible assumption) | assumption)
       obtain ⟨ad177, e177, hx177_0⟩ := Kd.at_int HR0.out x5_1 p177 q177
       cases e177
       replace p177 := eq_true p177
       replace q177 := eq_true q177
       have p178 : 0 ≤ (x5_1 : Int) := of_decide_eq_true (by first | (with_reducible assumption) | assumption)
       have q178 : x5_1 < (l1.length : Int) := of_decide_eq_true (by first | (with_reducible assumption) | assumption)
       obtain ⟨ad178, e178, hx178_0⟩ := Kd.at_int HR1.out x5_1 p178 q178
       cases e178
       replace p178 := eq_true p178
       replace q178 := eq_true q178
       go_wp2
       repeat (go_quiet (fail); try go_wp2)
       go_ret
       exact ⟨by first | rfl | (simp; done) | (simp [*]; done), by repeat (first | exact Drawn0.refl _ | apply Drawn0.step)⟩
     rw [if_pos c7] at H
     have c7b0 : ((rd l0 x5_1) == (rd l1 x5_1)) = true := beq_iff_eq.mpr c7
     have c7b1 : ((rd l0 x5_1) != (rd l1 x5_1)) = false := bne_eq_false_iff_eq.mpr c7
     clear c7
     have H' := mk_ H
     clear H
     have p177 : 0 ≤ (x5_1 : Int) := of_decide_eq_true (by first | (with_reducible assumption) | assumption)
     have q177 : x5_1 < (l0.length : Int) := of_decide_eq_true (by first | (with_reducible assumption) | assumption)
     obtain ⟨ad177, e177, hx177_0⟩ := Kd.at_int HR0.out x5_1 p177 q177
     cases e177
     replace p177 := eq_true p177
     replace q177 := eq_true q177
     have p178 : 0 ≤ (x5_1 : Int) := of_decide_eq_true (by first | (with_reducible assumption) | assumption)
     have q178 : x5_1 < (l1.length : Int) := of_decide_eq_true (by first | (with_reducible assumption) | assumption)
     obtain ⟨ad178, e178, hx178_0⟩ := Kd.at_int HR1.out x5_1 p178 q178
     cases e178
     replace p178 := eq_true p178
     replace q178 := eq_true q178
     go_wp2
     repeat (go_quiet (fail); try go_wp2)
     go_roundg k1
     case measure => have := HK1.out; omega
     case rel => exact ⟨(wrap64 (x5_1 + 1)), (by first | rfl | (simp; done) | (simp [*]; done)), H', ⟨by have := HK1.out; omega⟩, by repeat (first | exact Drawn0.refl _ | apply Drawn0.step)⟩

/-! ### laws_eqSegPart: function 38 -/
def laws_eqSegPart.f (k : Nat) (a0_0 : Int) (a0_1 : Int) (l0_2 : List Int) (a1_0 : Int) (a1_1 : Int) (l1_2 : List Int) : Option (Bool) := if a0_0 = a1_0 then (if a0_1 = a1_1 then ((laws_eqByteS.f k l0_2 l1_2).bind fun t181 => (if t181 = true then (some true) else (some false))) else (some false)) else (some false)
theorem laws_eqSegPart.mono : ∀ a0 a1 a2 a3 a4 a5 k, LeO (laws_eqSegPart.f k a0 a1 a2 a3 a4 a5) (laws_eqSegPart.f (k + 1) a0 a1 a2 a3 a4 a5) := by
 intro a0 a1 a2 a3 a4 a5 k
 unfold laws_eqSegPart.f
 repeat' first
     | (with_reducible exact laws_eqByteS.mono _ _ _)
     | (with_reducible exact LeO.refl _)
     | (with_reducible exact LeO.none _)
     | (with_reducible refine LeO.ite ?_ ?_)
     | (with_reducible refine LeO.bind ?_ (fun _ => ?_))
     | exact laws_eqByteS.mono _ _ _
     | exact LeO.none _
     | refine LeO.ite ?_ ?_
     | refine LeO.bind ?_ (fun _ => ?_)
set_option maxHeartbeats 60000000 in
set_option maxRecDepth 100000 in
theorem laws_eqSegPart.calls (k : Nat) (a0_0 : Int) (a0_1 : Int) (A0_2 : Option Addr) (c0_2 : Nat) (l0_2 : List Int) (a1_0 : Int) (a1_1 : Int) (A1_2 : Option Addr) (c1_2 : Nat) (l1_2 : List Int) (r : Bool) (w : World) (hr0_2 : Kd.C (Kd.int .u8) w A0_2 l0_2.length l0_2) (hc0_2 : l0_2.length ≤ c0_2) (hr1_2 : Kd.C (Kd.int .u8) w A1_2 l1_2.length l1_2) (hc1_2 : l1_2.length ≤ c1_2) (h : laws_eqSegPart.f k a0_0 a0_1 l0_2 a1_0 a1_1 l1_2 = some r) :
    Calls Try.prog 38 #[.agg #[.int .i64 a0_0, .int .i64 a0_1, .slice A0_2 l0_2.length c0_2], .agg #[.int .i64 a1_0, .int .i64 a1_1, .slice A1_2 l1_2.length c1_2]] w fun e w' => e = .returned (.bool r) ∧ Below w.heap.size w w' := by
 have hu39 := Try.underlying39
 have HR0_2 := mk_ hr0_2
 have HC0_2 := mk_ hc0_2
 clear hr0_2 hc0_2
 have HR1_2 := mk_ hr1_2
 have HC1_2 := mk_ hc1_2
 clear hr1_2 hc1_2
 have HB := mk_ (Below.refl w.heap.size w)
 have H : (if a0_0 = a1_0 then (if a0_1 = a1_1 then ((laws_eqByteS.f k l0_2 l1_2).bind fun t181 => (if t181 = true then (some true) else (some false))) else (some false)) else (some false)) = some r := h
 clear h
 by_cases c3 : a0_0 = a1_0
 rotate_left
 · rw [if_neg c3] at H
   have c3b0 : (a0_0 == a1_0) = false := beq_eq_false_iff_ne.mpr c3
   have c3b1 : (a0_0 != a1_0) = true := bne_iff_ne.mpr c3
   obtain rfl := Option.some.inj H
   go_enter Try.func38, Try.ntmps38
   go_wp2_with (first | ((with_reducible refine gate_dst (N := 2) rfl ?_); refine box_event ?hg (N := 2) ?hd (cs := #[.int .i64 a0_0, .int .i64 a0_1, .slice A0_2 l0_2.length c0_2]) (t := 39) ?hr ?_; (case hd => rfl); (case hg => rfl); (case hr => first | (go_simp; done) | (go_simp; rfl)); intro gb179 hg w22 hbox hb; have BK179 := mk_ (hbox); have GW179 := mk_ ((by rw [hg]; exact (zr2 (by repeat (first | (with_reducible first | exact HB.out | apply zq7 | apply zq8 | apply zq9) | exact HB.out))) : w.heap.size ≤ gb179)); have GE179 := GW179; replace HB := mk_ (zr3 (by repeat (first | (with_reducible first | exact HB.out | apply zq7 | apply zq8 | apply zq9) | exact HB.out)) hb); clear hb hbox hg) | ((with_reducible refine gate_dst (N := 3) rfl ?_); refine box_event ?hg (N := 3) ?hd (cs := #[.int .i64 a1_0, .int .i64 a1_1, .slice A1_2 l1_2.length c1_2]) (t := 39) ?hr ?_; (case hd => rfl); (case hg => rfl); (case hr => first | (go_simp; done) | (go_simp; rfl)); intro gb180 hg w23 hbox hb; have BK180 := mk_ (hbox); have GW180 := mk_ ((by rw [hg]; exact (zr2 (by repeat (first | (with_reducible first | exact HB.out | apply zq7 | apply zq8 | apply zq9 | refine zr1 ?_ GE179.out) | exact HB.out))) : w.heap.size ≤ gb180)); have GE180 := GW180; replace HB := mk_ (zr3 (by repeat (first | (with_reducible first | exact HB.out | apply zq7 | apply zq8 | apply zq9 | refine zr1 ?_ GE179.out) | exact HB.out)) hb); have NB179_180 := mk_ ((by rw [hg]; exact zm2 (zr6 (by exact BK179.out)) : gb179 ≠ gb180)); replace BK179 := mk_ (zq6 (by exact BK179.out) hb); have NB180_179 := mk_ NB179_180.out.symm; clear hb hbox hg; have hnb24 := NB179_180.out; have hnc24 := NB180_179.out; obtain ⟨hcz25_0, hcz25_1, hcz25_2⟩ := cz3 BK179.out; obtain ⟨hfz25_0, hfz25_1, hfz25_2⟩ := fz3 BK179.out; obtain ⟨hcz26_0, hcz26_1, hcz26_2⟩ := cz3 BK180.out; obtain ⟨hfz26_0, hfz26_1, hfz26_2⟩ := fz3 BK180.out))
   go_ret
   exact ⟨by first | rfl | (simp [errW_none, errW_some] <;> rfl) | (simp [*, errW_none, errW_some] <;> rfl), by repeat (first | (with_reducible first | exact HB.out | apply zq7 | apply zq8 | apply zq9 | refine zr1 ?_ GE179.out | refine zr1 ?_ GE180.out) | exact HB.out)⟩
 rw [if_pos c3] at H
 have c3b0 : (a0_0 == a1_0) = true := beq_iff_eq.mpr c3
 have c3b1 : (a0_0 != a1_0) = false := bne_eq_false_iff_eq.mpr c3
 clear c3
 by_cases c4 : a0_1 = a1_1
 rotate_left
 · rw [if_neg c4] at H
   have c4b0 : (a0_1 == a1_1) = false := beq_eq_false_iff_ne.mpr c4
   have c4b1 : (a0_1 != a1_1) = true := bne_iff_ne.mpr c4
   obtain rfl := Option.some.inj H
   go_enter Try.func38, Try.ntmps38
   go_wp2_with (first | ((with_reducible refine gate_dst (N := 2) rfl ?_); refine box_event ?hg (N := 2) ?hd (cs := #[.int .i64 a0_0, .int .i64 a0_1, .slice A0_2 l0_2.length c0_2]) (t := 39) ?hr ?_; (case hd => rfl); (case hg => rfl); (case hr => first | (go_simp; done) | (go_simp; rfl)); intro gb179 hg w17 hbox hb; have BK179 := mk_ (hbox); have GW179 := mk_ ((by rw [hg]; exact (zr2 (by repeat (first | (with_reducible first | exact HB.out | apply zq7 | apply zq8 | apply zq9) | exact HB.out))) : w.heap.size ≤ gb179)); have GE179 := GW179; replace HB := mk_ (zr3 (by repeat (first | (with_reducible first | exact HB.out | apply zq7 | apply zq8 | apply zq9) | exact HB.out)) hb); clear hb hbox hg) | ((with_reducible refine gate_dst (N := 3) rfl ?_); refine box_event ?hg (N := 3) ?hd (cs := #[.int .i64 a1_0, .int .i64 a1_1, .slice A1_2 l1_2.length c1_2]) (t := 39) ?hr ?_; (case hd => rfl); (case hg => rfl); (case hr => first | (go_simp; done) | (go_simp; rfl)); intro gb180 hg w18 hbox hb; have BK180 := mk_ (hbox); have GW180 := mk_ ((by rw [hg]; exact (zr2 (by repeat (first | (with_reducible first | exact HB.out | apply zq7 | apply zq8 | apply zq9 | refine zr1 ?_ GE179.out) | exact HB.out))) : w.heap.size ≤ gb180)); have GE180 := GW180; replace HB := mk_ (zr3 (by repeat (first | (with_reducible first | exact HB.out | apply zq7 | apply zq8 | apply zq9 | refine zr1 ?_ GE179.out) | exact HB.out)) hb); have NB179_180 := mk_ ((by rw [hg]; exact zm2 (zr6 (by exact BK179.out)) : gb179 ≠ gb180)); replace BK179 := mk_ (zq6 (by exact BK179.out) hb); have NB180_179 := mk_ NB179_180.out.symm; clear hb hbox hg; have hnb19 := NB179_180.out; have hnc19 := NB180_179.out; obtain ⟨hcz20_0, hcz20_1, hcz20_2⟩ := cz3 BK179.out; obtain ⟨hfz20_0, hfz20_1, hfz20_2⟩ := fz3 BK179.out; obtain ⟨hcz21_0, hcz21_1, hcz21_2⟩ := cz3 BK180.out; obtain ⟨hfz21_0, hfz21_1, hfz21_2⟩ := fz3 BK180.out))
   go_ret
   exact ⟨by first | rfl | (simp [errW_none, errW_some] <;> rfl) | (simp [*, errW_none, errW_some] <;> rfl), by repeat (first | (with_reducible first | exact HB.out | apply zq7 | apply zq8 | apply zq9 | refine zr1 ?_ GE179.out | refine zr1 ?_ GE180.out) | exact HB.out)⟩
 rw [if_pos c4] at H
 have c4b0 : (a0_1 == a1_1) = true := beq_iff_eq.mpr c4
 have c4b1 : (a0_1 != a1_1) = false := bne_eq_false_iff_eq.mpr c4
 clear c4
 replace H := Option.bind_eq_some_iff.mp H
 obtain ⟨t181, A50, H⟩ := H
 try dsimp only at H
 have A5 := mk_ A50
 clear A50
 by_cases c6 : t181 = true
 · subst c6
   have H1 : (some true) = some r := by rw [if_pos rfl] at H; exact H
   clear H
   have H := H1
   clear H1
   obtain rfl := Option.some.inj H
   go_enter Try.func38, Try.ntmps38
   go_wp2_with (first | ((with_reducible refine gate_dst (N := 2) rfl ?_); refine box_event ?hg (N := 2) ?hd (cs := #[.int .i64 a0_0, .int .i64 a0_1, .slice A0_2 l0_2.length c0_2]) (t := 39) ?hr ?_; (case hd => rfl); (case hg => rfl); (case hr => first | (go_simp; done) | (go_simp; rfl)); intro gb179 hg w7 hbox hb; have BK179 := mk_ (hbox); have GW179 := mk_ ((by rw [hg]; exact (zr2 (by repeat (first | (with_reducible first | exact HB.out | apply zq7 | apply zq8 | apply zq9) | exact HB.out))) : w.heap.size ≤ gb179)); have GE179 := GW179; replace HB := mk_ (zr3 (by repeat (first | (with_reducible first | exact HB.out | apply zq7 | apply zq8 | apply zq9) | exact HB.out)) hb); clear hb hbox hg) | ((with_reducible refine gate_dst (N := 3) rfl ?_); refine box_event ?hg (N := 3) ?hd (cs := #[.int .i64 a1_0, .int .i64 a1_1, .slice A1_2 l1_2.length c1_2]) (t := 39) ?hr ?_; (case hd => rfl); (case hg => rfl); (case hr => first | (go_simp; done) | (go_simp; rfl)); intro gb180 hg w8 hbox hb; have BK180 := mk_ (hbox); have GW180 := mk_ ((by rw [hg]; exact (zr2 (by repeat (first | (with_reducible first | exact HB.out | apply zq7 | apply zq8 | apply zq9 | refine zr1 ?_ GE179.out) | exact HB.out))) : w.heap.size ≤ gb180)); have GE180 := GW180; replace HB := mk_ (zr3 (by repeat (first | (with_reducible first | exact HB.out | apply zq7 | apply zq8 | apply zq9 | refine zr1 ?_ GE179.out) | exact HB.out)) hb); have NB179_180 := mk_ ((by rw [hg]; exact zm2 (zr6 (by exact BK179.out)) : gb179 ≠ gb180)); replace BK179 := mk_ (zq6 (by exact BK179.out) hb); have NB180_179 := mk_ NB179_180.out.symm; clear hb hbox hg; have hnb9 := NB179_180.out; have hnc9 := NB180_179.out; obtain ⟨hcz10_0, hcz10_1, hcz10_2⟩ := cz3 BK179.out; obtain ⟨hfz10_0, hfz10_1, hfz10_2⟩ := fz3 BK179.out; obtain ⟨hcz11_0, hcz11_1, hcz11_2⟩ := cz3 BK180.out; obtain ⟨hfz11_0, hfz11_1, hfz11_2⟩ := fz3 BK180.out) | ((with_reducible refine gate_callee (f := 19) rfl ?_); refine goesL_ (some 19) rfl rfl Try.func19 (by kernel_rfl) rfl #[.slice A0_2 l0_2.length c0_2, .slice A1_2 l1_2.length c1_2] rfl (by (try simp only [List.map_toArray, List.map_cons, List.map_nil]); first | done | rfl | (simp only [List.length_drop, List.length_take]; rfl)) ?_; (with_reducible refine (laws_eqByteS.calls k _ _ l0_2 _ _ l1_2 true _ ?side1 ?side2 ?side3 ?side4 A5.out).mono ?_); (case side1 => repeat (first | exact (Kd.C_below HR0_2.out HB.out) | (with_reducible refine Kd.C_alloc ?_ _) | (with_reducible refine Kd.C_drewN ?_ _) | (with_reducible refine Kd.C_drew ?_))); (case side2 => exact HC0_2.out); (case side3 => repeat (first | exact (Kd.C_below HR1_2.out HB.out) | (with_reducible refine Kd.C_alloc ?_ _) | (with_reducible refine Kd.C_drewN ?_ _) | (with_reducible refine Kd.C_drew ?_))); (case side4 => exact HC1_2.out); rintro e w' ⟨rfl, ⟨nd, rfl⟩⟩; refine ⟨_, rfl, ?_⟩))
   go_ret
   exact ⟨by first | rfl | (simp [errW_none, errW_some] <;> rfl) | (simp [*, errW_none, errW_some] <;> rfl), by repeat (first | (with_reducible first | exact HB.out | apply zq7 | apply zq8 | apply zq9 | refine zr1 ?_ GE179.out | refine zr1 ?_ GE180.out) | exact HB.out)⟩
 replace c6 := Bool.eq_false_iff.mpr c6
 subst c6
 have H1 : (some false) = some r := by rw [if_neg (show ¬ (false = true) by decide)] at H; exact H
 clear H
 have H := H1
 clear H1
 obtain rfl := Option.some.inj H
 go_enter Try.func38, Try.ntmps38
 go_wp2_with (first | ((with_reducible refine gate_dst (N := 2) rfl ?_); refine box_event ?hg (N := 2) ?hd (cs := #[.int .i64 a0_0, .int .i64 a0_1, .slice A0_2 l0_2.length c0_2]) (t := 39) ?hr ?_; (case hd => rfl); (case hg => rfl); (case hr => first | (go_simp; done) | (go_simp; rfl)); intro gb179 hg w12 hbox hb; have BK179 := mk_ (hbox); have GW179 := mk_ ((by rw [hg]; exact (zr2 (by repeat (first | (with_reducible first | exact HB.out | apply zq7 | apply zq8 | apply zq9) | exact HB.out))) : w.heap.size ≤ gb179)); have GE179 := GW179; replace HB := mk_ (zr3 (by repeat (first | (with_reducible first | exact HB.out | apply zq7 | apply zq8 | apply zq9) | exact HB.out)) hb); clear hb hbox hg) | ((with_reducible refine gate_dst (N := 3) rfl ?_); refine box_event ?hg (N := 3) ?hd (cs := #[.int .i64 a1_0, .int .i64 a1_1, .slice A1_2 l1_2.length c1_2]) (t := 39) ?hr ?_; (case hd => rfl); (case hg => rfl); (case hr => first | (go_simp; done) | (go_simp; rfl)); intro gb180 hg w13 hbox hb; have BK180 := mk_ (hbox); have GW180 := mk_ ((by rw [hg]; exact (zr2 (by repeat (first | (with_reducible first | exact HB.out | apply zq7 | apply zq8 | apply zq9 | refine zr1 ?_ GE179.out) | exact HB.out))) : w.heap.size ≤ gb180)); have GE180 := GW180; replace HB := mk_ (zr3 (by repeat (first | (with_reducible first | exact HB.out | apply zq7 | apply zq8 | apply zq9 | refine zr1 ?_ GE179.out) | exact HB.out)) hb); have NB179_180 := mk_ ((by rw [hg]; exact zm2 (zr6 (by exact BK179.out)) : gb179 ≠ gb180)); replace BK179 := mk_ (zq6 (by exact BK179.out) hb); have NB180_179 := mk_ NB179_180.out.symm; clear hb hbox hg; have hnb14 := NB179_180.out; have hnc14 := NB180_179.out; obtain ⟨hcz15_0, hcz15_1, hcz15_2⟩ := cz3 BK179.out; obtain ⟨hfz15_0, hfz15_1, hfz15_2⟩ := fz3 BK179.out; obtain ⟨hcz16_0, hcz16_1, hcz16_2⟩ := cz3 BK180.out; obtain ⟨hfz16_0, hfz16_1, hfz16_2⟩ := fz3 BK180.out) | ((with_reducible refine gate_callee (f := 19) rfl ?_); refine goesL_ (some 19) rfl rfl Try.func19 (by kernel_rfl) rfl #[.slice A0_2 l0_2.length c0_2, .slice A1_2 l1_2.length c1_2] rfl (by (try simp only [List.map_toArray, List.map_cons, List.map_nil]); first | done | rfl | (simp only [List.length_drop, List.length_take]; rfl)) ?_; (with_reducible refine (laws_eqByteS.calls k _ _ l0_2 _ _ l1_2 false _ ?side1 ?side2 ?side3 ?side4 A5.out).mono ?_); (case side1 => repeat (first | exact (Kd.C_below HR0_2.out HB.out) | (with_reducible refine Kd.C_alloc ?_ _) | (with_reducible refine Kd.C_drewN ?_ _) | (with_reducible refine Kd.C_drew ?_))); (case side2 => exact HC0_2.out); (case side3 => repeat (first | exact (Kd.C_below HR1_2.out HB.out) | (with_reducible refine Kd.C_alloc ?_ _) | (with_reducible refine Kd.C_drewN ?_ _) | (with_reducible refine Kd.C_drew ?_))); (case side4 => exact HC1_2.out); rintro e w' ⟨rfl, ⟨nd, rfl⟩⟩; refine ⟨_, rfl, ?_⟩))
 go_ret
 exact ⟨by first | rfl | (simp [errW_none, errW_some] <;> rfl) | (simp [*, errW_none, errW_some] <;> rfl), by repeat (first | (with_reducible first | exact HB.out | apply zq7 | apply zq8 | apply zq9 | refine zr1 ?_ GE179.out | refine zr1 ?_ GE180.out) | exact HB.out)⟩

/-! ### laws_eqSegPartS: function 18 -/
def laws_eqSegPartS.l0 : Nat → List (S39) → List (S39) → Int → Option (Bool)
  | 0, _, _, _ => none
  | k + 1, x0, x1, x5 => if x5 < (x0.length : Int) then (if 0 ≤ x5 then (if x5 < (x1.length : Int) then ((laws_eqSegPart.f k ((rd_T39 x0 x5).f0) ((rd_T39 x0 x5).f1) ((rd_T39 x0 x5).f2) ((rd_T39 x1 x5).f0) ((rd_T39 x1 x5).f1) ((rd_T39 x1 x5).f2)).bind fun t184 => (if t184 = true then (laws_eqSegPartS.l0 k x0 x1 (wrap64 (x5 + 1))) else (some false))) else (none)) else (none)) else (some true)
def laws_eqSegPartS.f (k : Nat) (l0 : List (S39)) (l1 : List (S39)) : Option (Bool) := if (l0.length : Int) = (l1.length : Int) then (laws_eqSegPartS.l0 k l0 l1 0) else (some false)
theorem laws_eqSegPartS.mono_l : ∀ k, (∀ y0 y1 y2, LeO (laws_eqSegPartS.l0 k y0 y1 y2) (laws_eqSegPartS.l0 (k + 1) y0 y1 y2))
  | 0 => fun _ _ _ r h => by simp [laws_eqSegPartS.l0] at h
  | k + 1 => by
    have ih0 := laws_eqSegPartS.mono_l k
    · intro y0 y1 y2
      unfold laws_eqSegPartS.l0
      repeat' first
      | (with_reducible exact ih0 _ _ _)
      | (with_reducible exact laws_eqSegPart.mono _ _ _ _ _ _ _)
      | (with_reducible exact LeO.refl _)
      | (with_reducible exact LeO.none _)
      | (with_reducible refine LeO.ite ?_ ?_)
      | (with_reducible refine LeO.bind ?_ (fun _ => ?_))
      | exact ih0 _ _ _
      | exact laws_eqSegPart.mono _ _ _ _ _ _ _
      | exact LeO.none _
      | refine LeO.ite ?_ ?_
      | refine LeO.bind ?_ (fun _ => ?_)
theorem laws_eqSegPartS.mono : ∀ a0 a1 k, LeO (laws_eqSegPartS.f k a0 a1) (laws_eqSegPartS.f (k + 1) a0 a1) := by
 intro a0 a1 k
 have ih0 := laws_eqSegPartS.mono_l k
 unfold laws_eqSegPartS.f
 repeat' first
     | (with_reducible exact ih0 _ _ _)
     | (with_reducible exact laws_eqSegPart.mono _ _ _ _ _ _ _)
     | (with_reducible exact LeO.refl _)
     | (with_reducible exact LeO.none _)
     | (with_reducible refine LeO.ite ?_ ?_)
     | (with_reducible refine LeO.bind ?_ (fun _ => ?_))
     | exact ih0 _ _ _
     | exact laws_eqSegPart.mono _ _ _ _ _ _ _
     | exact LeO.none _
     | refine LeO.ite ?_ ?_
     | refine LeO.bind ?_ (fun _ => ?_)
def laws_eqSegPartS.T6 : Bool × List (List Nat × List Nat) := (true, [([], []), ([], []), ([0, 1], [0, 1]), ([2], [2]), ([], []), ([], []), ([4, 5], [4, 5]), ([6], [6]), ([3, 7], [3, 7]), ([8], [8])])
def laws_eqSegPartS.B6 : List Nat := [0, 0, 3, 7, 0, 0, 48, 112, 255, 511]
theorem laws_eqSegPartS.tab6 : rtab .any (opsOf Try.f18 6) = laws_eqSegPartS.T6 := by kernel_rfl
theorem laws_eqSegPartS.bits6 : waitsOk laws_eqSegPartS.T6.2 laws_eqSegPartS.B6 = true := by kernel_rfl
set_option maxHeartbeats 60000000 in
set_option maxRecDepth 100000 in
theorem laws_eqSegPartS.calls (k : Nat) (A0 : Option Addr) (c0 : Nat) (l0 : List (S39)) (A1 : Option Addr) (c1 : Nat) (l1 : List (S39)) (r : Bool) (w : World) (hr0 : Kd.C k39 w A0 l0.length l0) (hc0 : l0.length ≤ c0) (hr1 : Kd.C k39 w A1 l1.length l1) (hc1 : l1.length ≤ c1) (h : laws_eqSegPartS.f k l0 l1 = some r) :
    Calls Try.prog 18 #[.slice A0 l0.length c0, .slice A1 l1.length c1] w fun e w' => e = .returned (.bool r) ∧ Below w.heap.size w w' := by
 have hu39 := Try.underlying39
 have HR0 := mk_ hr0
 have HC0 := mk_ hc0
 clear hr0 hc0
 have HR1 := mk_ hr1
 have HC1 := mk_ hc1
 clear hr1 hc1
 have HB := mk_ (Below.refl w.heap.size w)
 have H : (if (l0.length : Int) = (l1.length : Int) then (laws_eqSegPartS.l0 k l0 l1 0) else (some false)) = some r := h
 clear h
 by_cases c3 : (l0.length : Int) = (l1.length : Int)
 rotate_left
 · rw [if_neg c3] at H
   have c3b0 : ((l0.length : Int) == (l1.length : Int)) = false := beq_eq_false_iff_ne.mpr c3
   have c3b1 : ((l0.length : Int) != (l1.length : Int)) = true := bne_iff_ne.mpr c3
   have c3b2 : (l0.length == l1.length) = false := by first | simpa using c3 | (simp at c3 ⊢; omega)
   obtain rfl := Option.some.inj H
   go_enter Try.func18, Try.ntmps18
   go_wp2
   go_ret
   exact ⟨by first | rfl | (simp [errW_none, errW_some] <;> rfl) | (simp [*, errW_none, errW_some] <;> rfl), by repeat (first | (with_reducible first | exact HB.out | apply zq7 | apply zq8 | apply zq9) | exact HB.out)⟩
 rw [if_pos c3] at H
 have c3b0 : ((l0.length : Int) == (l1.length : Int)) = true := beq_iff_eq.mpr c3
 have c3b1 : ((l0.length : Int) != (l1.length : Int)) = false := bne_eq_false_iff_eq.mpr c3
 have c3b2 : (l0.length == l1.length) = true := by first | simpa using c3 | (simp at c3 ⊢; omega)
 clear c3
 have H' := mk_ H
 clear H
 go_enter Try.func18, Try.ntmps18
 go_wp2
 go_loopg [5] k (fun kq v5 w' => ∃ (x5_1 : Int), v5 = .int .i64 x5_1 ∧ Aside0 (laws_eqSegPartS.l0 kq l0 l1 x5_1 = some r) ∧ Aside0 (kq ≤ k) ∧ Aside0 (Below w.heap.size w w'))
 case atStart => exact ⟨(0), (by first | rfl | (simp; done) | (simp [*]; done)), H', ⟨Nat.le_refl _⟩, ⟨by repeat (first | (with_reducible first | exact HB.out | apply zq7 | apply zq8 | apply zq9) | exact HB.out)⟩⟩
 case round =>
   clear H'
   try clear c1
   try clear p2
   try clear c3
   try clear c3b0
   try clear c3b1
   try clear c3b2
   obtain ⟨x5_1, rfl, HA, HK1, HB⟩ := hrel
   cases gk with
   | zero => exact absurd HA.out (by simp [laws_eqSegPartS.l0])
   | succ k1 =>
     have H := HA.out
     clear HA
     simp only [laws_eqSegPartS.l0] at H
     by_cases c4 : x5_1 < (l0.length : Int)
     rotate_left
     · rw [if_neg c4] at H
       have c4b0 : decide (x5_1 < (l0.length : Int)) = false := decide_eq_false c4
       clear c4
       obtain rfl := Option.some.inj H
       go_wp2
       go_ret
       exact ⟨by first | rfl | (simp [errW_none, errW_some] <;> rfl) | (simp [*, errW_none, errW_some] <;> rfl), by repeat (first | (with_reducible first | exact HB.out | apply zq7 | apply zq8 | apply zq9) | exact HB.out)⟩
     rw [if_pos c4] at H
     have c4b0 : decide (x5_1 < (l0.length : Int)) = true := decide_eq_true c4
     clear c4
     by_cases c5 : 0 ≤ x5_1
     rotate_left
     · rw [if_neg c5] at H
       exact absurd H (by simp)
     rw [if_pos c5] at H
     have c5b0 : decide (0 ≤ x5_1) = true := decide_eq_true c5
     clear c5
     by_cases c6 : x5_1 < (l1.length : Int)
     rotate_left
     · rw [if_neg c6] at H
       exact absurd H (by simp)
     rw [if_pos c6] at H
     have c6b0 : decide (x5_1 < (l1.length : Int)) = true := decide_eq_true c6
     clear c6
     replace H := Option.bind_eq_some_iff.mp H
     obtain ⟨t184, A70, H⟩ := H
     try dsimp only at H
     have A7 := mk_ A70
     clear A70
     by_cases c8 : t184 = true
     rotate_left
     · replace c8 := Bool.eq_false_iff.mpr c8
       subst c8
       have H1 : (some false) = some r := by rw [if_neg (show ¬ (false = true) by decide)] at H; exact H
       clear H
       have H := H1
       clear H1
       obtain rfl := Option.some.inj H
       try go_wp2
       replace HB := mk_ (zq9 HB.out)
       have p182 : 0 ≤ (x5_1 : Int) := of_decide_eq_true (by first | (with_reducible assumption) | assumption)
       have q182 : x5_1 < (l0.length : Int) := of_decide_eq_true (by first | (with_reducible assumption) | assumption)
       obtain ⟨ad182, A182_2, c182_2, e182, hx182_0, hx182_1, hx182_2, hl182_2, hi182_2⟩ := at_T39 HR0.out x5_1 p182 q182
       have hw182_2 := hx182_2
       have hw182_1 := hx182_1
       have hw182_0 := hx182_0
       cases e182
       replace hx182_0 := (HB.out.cell (World.block_lt_of_cell? w _ hx182_0)).trans hx182_0
       replace hx182_1 := (HB.out.cell (World.block_lt_of_cell? w _ hx182_1)).trans hx182_1
       replace hx182_2 := (HB.out.cell (World.block_lt_of_cell? w _ hx182_2)).trans hx182_2
       have HR182_2 := mk_ hi182_2
       have HC182_2 := mk_ hl182_2
       clear hi182_2 hl182_2
       replace p182 := eq_true p182
       replace q182 := eq_true q182
       have p183 : 0 ≤ (x5_1 : Int) := of_decide_eq_true (by first | (with_reducible assumption) | assumption)
       have q183 : x5_1 < (l1.length : Int) := of_decide_eq_true (by first | (with_reducible assumption) | assumption)
       obtain ⟨ad183, A183_2, c183_2, e183, hx183_0, hx183_1, hx183_2, hl183_2, hi183_2⟩ := at_T39 HR1.out x5_1 p183 q183
       have hw183_2 := hx183_2
       have hw183_1 := hx183_1
       have hw183_0 := hx183_0
       cases e183
       replace hx183_0 := (HB.out.cell (World.block_lt_of_cell? w _ hx183_0)).trans hx183_0
       replace hx183_1 := (HB.out.cell (World.block_lt_of_cell? w _ hx183_1)).trans hx183_1
       replace hx183_2 := (HB.out.cell (World.block_lt_of_cell? w _ hx183_2)).trans hx183_2
       have HR183_2 := mk_ hi183_2
       have HC183_2 := mk_ hl183_2
       clear hi183_2 hl183_2
       replace p183 := eq_true p183
       replace q183 := eq_true q183
       refine start_ (n := 10) (S := fun w' => w'.cell? (ad182.add ((x5_1).toNat * 3)) = some (.int .i64 ((rd_T39 l0 x5_1).f0)) ∧ w'.cell? ⟨(ad182.add ((x5_1).toNat * 3)).block, (ad182.add ((x5_1).toNat * 3)).off + 1, none⟩ = some (.int .i64 ((rd_T39 l0 x5_1).f1)) ∧ w'.cell? ⟨(ad182.add ((x5_1).toNat * 3)).block, (ad182.add ((x5_1).toNat * 3)).off + 2, none⟩ = some (.slice A182_2 ((rd_T39 l0 x5_1).f2).length c182_2) ∧ w'.cell? (ad183.add ((x5_1).toNat * 3)) = some (.int .i64 ((rd_T39 l1 x5_1).f0)) ∧ w'.cell? ⟨(ad183.add ((x5_1).toNat * 3)).block, (ad183.add ((x5_1).toNat * 3)).off + 1, none⟩ = some (.int .i64 ((rd_T39 l1 x5_1).f1)) ∧ w'.cell? ⟨(ad183.add ((x5_1).toNat * 3)).block, (ad183.add ((x5_1).toNat * 3)).off + 2, none⟩ = some (.slice A183_2 ((rd_T39 l1 x5_1).f2).length c183_2)) (ds := []) (bm 10 0) (by kernel_rfl) rfl rfl ⟨((HB.out.cell (World.block_lt_of_cell? w _ hw182_0)).trans hw182_0), ((HB.out.cell (World.block_lt_of_cell? w _ hw182_1)).trans hw182_1), ((HB.out.cell (World.block_lt_of_cell? w _ hw182_2)).trans hw182_2), ((HB.out.cell (World.block_lt_of_cell? w _ hw183_0)).trans hw183_0), ((HB.out.cell (World.block_lt_of_cell? w _ hw183_1)).trans hw183_1), ((HB.out.cell (World.block_lt_of_cell? w _ hw183_2)).trans hw183_2)⟩ (fun hHeld => ?_); refine with_tabW laws_eqSegPartS.tab6 laws_eqSegPartS.bits6 (fun HT_ HW_ => ?_)
       generalize wr.drew = w11 at HB HR182_2 HR183_2 hx182_0 hx182_1 hx182_2 hx183_0 hx183_1 hx183_2 hHeld ⊢
       refine pA 0 (some 17) (bm 10 1) rfl rfl HT_.out (by kernel_rfl) (fun _ _ _ h => h) (by rfl) (by intro w'; go_simp; with_reducible rfl) (by simp only [Act.put, zs1, zs2, zs3, i64_w, i32_w]; rfl) ?_
       refine pA 1 (some 18) (bm 10 3) rfl rfl HT_.out (by kernel_rfl) (fun _ _ _ h => h) (by rfl) (by intro w'; go_simp; with_reducible rfl) (by simp only [Act.put, zs1, zs2, zs3, i64_w, i32_w]; rfl) ?_
       refine pA 2 (some 19) (bm 10 7) rfl rfl HT_.out (by kernel_rfl) (fun _ _ _ h => h) (by rfl) (by intro w'; go_simp; with_reducible rfl) (by simp only [Act.put, zs1, zs2, zs3, i64_w, i32_w]; rfl) ?_
       refine pA 4 (some 21) (bm 10 23) rfl rfl HT_.out (by kernel_rfl) (fun _ _ _ h => h) (by rfl) (by intro w'; go_simp; with_reducible rfl) (by simp only [Act.put, zs1, zs2, zs3, i64_w, i32_w]; rfl) ?_
       refine pA 5 (some 22) (bm 10 55) rfl rfl HT_.out (by kernel_rfl) (fun _ _ _ h => h) (by rfl) (by intro w'; go_simp; with_reducible rfl) (by simp only [Act.put, zs1, zs2, zs3, i64_w, i32_w]; rfl) ?_
       refine pA 6 (some 23) (bm 10 119) rfl rfl HT_.out (by kernel_rfl) (fun _ _ _ h => h) (by rfl) (by intro w'; go_simp; with_reducible rfl) (by simp only [Act.put, zs1, zs2, zs3, i64_w, i32_w]; rfl) ?_
       refine tA 3 (some 20) (bm 10 127) rfl rfl HT_.out HW_.out (by kernel_rfl) (fun _ _ _ h => h) (by rfl) hHeld (by rintro w' ⟨s0, s1, s2, s3, s4, s5⟩; go_simp; with_reducible rfl) (by simp only [Act.put, zs1, zs2, zs3, i64_w, i32_w]; rfl) ?_
       refine tA 7 (some 24) (bm 10 255) rfl rfl HT_.out HW_.out (by kernel_rfl) (fun _ _ _ h => h) (by rfl) hHeld (by rintro w' ⟨s0, s1, s2, s3, s4, s5⟩; go_simp; with_reducible rfl) (by simp only [Act.put, zs1, zs2, zs3, i64_w, i32_w]; rfl) ?_
       refine one_ (i := 8) (N := some 25) (bm 10 511) rfl rfl (one_of HT_.out (by kernel_rfl)) (by decide) (fun K hK => ?_)
       refine goes_ Try.func38 (by kernel_rfl) rfl #[.agg #[.int .i64 ((rd_T39 l0 x5_1).f0), .int .i64 ((rd_T39 l0 x5_1).f1), .slice A182_2 ((rd_T39 l0 x5_1).f2).length c182_2], .agg #[.int .i64 ((rd_T39 l1 x5_1).f0), .int .i64 ((rd_T39 l1 x5_1).f1), .slice A183_2 ((rd_T39 l1 x5_1).f2).length c183_2]] (by rfl) rfl rfl (by (try simp only [List.map_toArray, List.map_cons, List.map_nil]); first | done | rfl | (simp only [List.length_drop, List.length_take]; rfl)) ?_
       with_reducible refine (laws_eqSegPart.calls k1 ((rd_T39 l0 x5_1).f0) ((rd_T39 l0 x5_1).f1) _ _ ((rd_T39 l0 x5_1).f2) ((rd_T39 l1 x5_1).f0) ((rd_T39 l1 x5_1).f1) _ _ ((rd_T39 l1 x5_1).f2) false _ ?side1 ?side2 ?side3 ?side4 A7.out).mono ?_
       (case side1 => repeat (first | exact (Kd.C_below HR182_2.out HB.out) | (with_reducible refine Kd.C_alloc ?_ _) | (with_reducible refine Kd.C_drewN ?_ _) | (with_reducible refine Kd.C_drew ?_)))
       (case side2 => exact HC182_2.out)
       (case side3 => repeat (first | exact (Kd.C_below HR183_2.out HB.out) | (with_reducible refine Kd.C_alloc ?_ _) | (with_reducible refine Kd.C_drewN ?_ _) | (with_reducible refine Kd.C_drew ?_)))
       (case side4 => exact HC183_2.out)
       rintro e w12 ⟨rfl, hb⟩
       refine ⟨_, rfl, ?_⟩
       replace HB := mk_ (zr3 (by repeat (first | (with_reducible first | exact HB.out | apply zq7 | apply zq8 | apply zq9) | exact HB.out)) hb)
       (try clear hb)
       (try clear hb2)
       (try clear hk)
       (try clear hi)
       refine hK.out _ _ ⟨((HB.out.cell (World.block_lt_of_cell? w _ hw182_0)).trans hw182_0), ((HB.out.cell (World.block_lt_of_cell? w _ hw182_1)).trans hw182_1), ((HB.out.cell (World.block_lt_of_cell? w _ hw182_2)).trans hw182_2), ((HB.out.cell (World.block_lt_of_cell? w _ hw183_0)).trans hw183_0), ((HB.out.cell (World.block_lt_of_cell? w _ hw183_1)).trans hw183_1), ((HB.out.cell (World.block_lt_of_cell? w _ hw183_2)).trans hw183_2)⟩ (fun hHeld => ?_)
       clear hK K
       refine norm_ (a' := ?_) ?_ ?_
       rotate_left
       · show Act.put _ (some 25) _ = _
         simp only [Act.put, zs1, zs2, zs3, i64_w, i32_w]
         rfl
       refine pA 9 (some 26) (bm 10 1023) rfl rfl HT_.out (by kernel_rfl) (fun _ _ _ h => h) (by rfl) (by intro w'; go_simp; with_reducible rfl) (by simp only [Act.put, zs1, zs2, zs3, i64_w, i32_w]; rfl) ?_
       refine done_ (done_of HT_.out (by kernel_rfl)) ?_
       try go_wp2
       go_ret
       exact ⟨by first | rfl | (simp [errW_none, errW_some] <;> rfl) | (simp [*, errW_none, errW_some] <;> rfl), by repeat (first | (with_reducible first | exact HB.out | apply zq7 | apply zq8 | apply zq9) | exact HB.out)⟩
     subst c8
     have H1 : (laws_eqSegPartS.l0 k1 l0 l1 (wrap64 (x5_1 + 1))) = some r := by rw [if_pos rfl] at H; exact H
     clear H
     have H := H1
     clear H1
     have H' := mk_ H
     clear H
     try go_wp2
     replace HB := mk_ (zq9 HB.out)
     have p182 : 0 ≤ (x5_1 : Int) := of_decide_eq_true (by first | (with_reducible assumption) | assumption)
     have q182 : x5_1 < (l0.length : Int) := of_decide_eq_true (by first | (with_reducible assumption) | assumption)
     obtain ⟨ad182, A182_2, c182_2, e182, hx182_0, hx182_1, hx182_2, hl182_2, hi182_2⟩ := at_T39 HR0.out x5_1 p182 q182
     have hw182_2 := hx182_2
     have hw182_1 := hx182_1
     have hw182_0 := hx182_0
     cases e182
     replace hx182_0 := (HB.out.cell (World.block_lt_of_cell? w _ hx182_0)).trans hx182_0
     replace hx182_1 := (HB.out.cell (World.block_lt_of_cell? w _ hx182_1)).trans hx182_1
     replace hx182_2 := (HB.out.cell (World.block_lt_of_cell? w _ hx182_2)).trans hx182_2
     have HR182_2 := mk_ hi182_2
     have HC182_2 := mk_ hl182_2
     clear hi182_2 hl182_2
     replace p182 := eq_true p182
     replace q182 := eq_true q182
     have p183 : 0 ≤ (x5_1 : Int) := of_decide_eq_true (by first | (with_reducible assumption) | assumption)
     have q183 : x5_1 < (l1.length : Int) := of_decide_eq_true (by first | (with_reducible assumption) | assumption)
     obtain ⟨ad183, A183_2, c183_2, e183, hx183_0, hx183_1, hx183_2, hl183_2, hi183_2⟩ := at_T39 HR1.out x5_1 p183 q183
     have hw183_2 := hx183_2
     have hw183_1 := hx183_1
     have hw183_0 := hx183_0
     cases e183
     replace hx183_0 := (HB.out.cell (World.block_lt_of_cell? w _ hx183_0)).trans hx183_0
     replace hx183_1 := (HB.out.cell (World.block_lt_of_cell? w _ hx183_1)).trans hx183_1
     replace hx183_2 := (HB.out.cell (World.block_lt_of_cell? w _ hx183_2)).trans hx183_2
     have HR183_2 := mk_ hi183_2
     have HC183_2 := mk_ hl183_2
     clear hi183_2 hl183_2
     replace p183 := eq_true p183
     replace q183 := eq_true q183
     refine start_ (n := 10) (S := fun w' => w'.cell? (ad182.add ((x5_1).toNat * 3)) = some (.int .i64 ((rd_T39 l0 x5_1).f0)) ∧ w'.cell? ⟨(ad182.add ((x5_1).toNat * 3)).block, (ad182.add ((x5_1).toNat * 3)).off + 1, none⟩ = some (.int .i64 ((rd_T39 l0 x5_1).f1)) ∧ w'.cell? ⟨(ad182.add ((x5_1).toNat * 3)).block, (ad182.add ((x5_1).toNat * 3)).off + 2, none⟩ = some (.slice A182_2 ((rd_T39 l0 x5_1).f2).length c182_2) ∧ w'.cell? (ad183.add ((x5_1).toNat * 3)) = some (.int .i64 ((rd_T39 l1 x5_1).f0)) ∧ w'.cell? ⟨(ad183.add ((x5_1).toNat * 3)).block, (ad183.add ((x5_1).toNat * 3)).off + 1, none⟩ = some (.int .i64 ((rd_T39 l1 x5_1).f1)) ∧ w'.cell? ⟨(ad183.add ((x5_1).toNat * 3)).block, (ad183.add ((x5_1).toNat * 3)).off + 2, none⟩ = some (.slice A183_2 ((rd_T39 l1 x5_1).f2).length c183_2)) (ds := []) (bm 10 0) (by kernel_rfl) rfl rfl ⟨((HB.out.cell (World.block_lt_of_cell? w _ hw182_0)).trans hw182_0), ((HB.out.cell (World.block_lt_of_cell? w _ hw182_1)).trans hw182_1), ((HB.out.cell (World.block_lt_of_cell? w _ hw182_2)).trans hw182_2), ((HB.out.cell (World.block_lt_of_cell? w _ hw183_0)).trans hw183_0), ((HB.out.cell (World.block_lt_of_cell? w _ hw183_1)).trans hw183_1), ((HB.out.cell (World.block_lt_of_cell? w _ hw183_2)).trans hw183_2)⟩ (fun hHeld => ?_); refine with_tabW laws_eqSegPartS.tab6 laws_eqSegPartS.bits6 (fun HT_ HW_ => ?_)
     generalize wr.drew = w9 at HB HR182_2 HR183_2 hx182_0 hx182_1 hx182_2 hx183_0 hx183_1 hx183_2 hHeld ⊢
     refine pA 0 (some 17) (bm 10 1) rfl rfl HT_.out (by kernel_rfl) (fun _ _ _ h => h) (by rfl) (by intro w'; go_simp; with_reducible rfl) (by simp only [Act.put, zs1, zs2, zs3, i64_w, i32_w]; rfl) ?_
     refine pA 1 (some 18) (bm 10 3) rfl rfl HT_.out (by kernel_rfl) (fun _ _ _ h => h) (by rfl) (by intro w'; go_simp; with_reducible rfl) (by simp only [Act.put, zs1, zs2, zs3, i64_w, i32_w]; rfl) ?_
     refine pA 2 (some 19) (bm 10 7) rfl rfl HT_.out (by kernel_rfl) (fun _ _ _ h => h) (by rfl) (by intro w'; go_simp; with_reducible rfl) (by simp only [Act.put, zs1, zs2, zs3, i64_w, i32_w]; rfl) ?_
     refine pA 4 (some 21) (bm 10 23) rfl rfl HT_.out (by kernel_rfl) (fun _ _ _ h => h) (by rfl) (by intro w'; go_simp; with_reducible rfl) (by simp only [Act.put, zs1, zs2, zs3, i64_w, i32_w]; rfl) ?_
     refine pA 5 (some 22) (bm 10 55) rfl rfl HT_.out (by kernel_rfl) (fun _ _ _ h => h) (by rfl) (by intro w'; go_simp; with_reducible rfl) (by simp only [Act.put, zs1, zs2, zs3, i64_w, i32_w]; rfl) ?_
     refine pA 6 (some 23) (bm 10 119) rfl rfl HT_.out (by kernel_rfl) (fun _ _ _ h => h) (by rfl) (by intro w'; go_simp; with_reducible rfl) (by simp only [Act.put, zs1, zs2, zs3, i64_w, i32_w]; rfl) ?_
     refine tA 3 (some 20) (bm 10 127) rfl rfl HT_.out HW_.out (by kernel_rfl) (fun _ _ _ h => h) (by rfl) hHeld (by rintro w' ⟨s0, s1, s2, s3, s4, s5⟩; go_simp; with_reducible rfl) (by simp only [Act.put, zs1, zs2, zs3, i64_w, i32_w]; rfl) ?_
     refine tA 7 (some 24) (bm 10 255) rfl rfl HT_.out HW_.out (by kernel_rfl) (fun _ _ _ h => h) (by rfl) hHeld (by rintro w' ⟨s0, s1, s2, s3, s4, s5⟩; go_simp; with_reducible rfl) (by simp only [Act.put, zs1, zs2, zs3, i64_w, i32_w]; rfl) ?_
     refine one_ (i := 8) (N := some 25) (bm 10 511) rfl rfl (one_of HT_.out (by kernel_rfl)) (by decide) (fun K hK => ?_)
     refine goes_ Try.func38 (by kernel_rfl) rfl #[.agg #[.int .i64 ((rd_T39 l0 x5_1).f0), .int .i64 ((rd_T39 l0 x5_1).f1), .slice A182_2 ((rd_T39 l0 x5_1).f2).length c182_2], .agg #[.int .i64 ((rd_T39 l1 x5_1).f0), .int .i64 ((rd_T39 l1 x5_1).f1), .slice A183_2 ((rd_T39 l1 x5_1).f2).length c183_2]] (by rfl) rfl rfl (by (try simp only [List.map_toArray, List.map_cons, List.map_nil]); first | done | rfl | (simp only [List.length_drop, List.length_take]; rfl)) ?_
     with_reducible refine (laws_eqSegPart.calls k1 ((rd_T39 l0 x5_1).f0) ((rd_T39 l0 x5_1).f1) _ _ ((rd_T39 l0 x5_1).f2) ((rd_T39 l1 x5_1).f0) ((rd_T39 l1 x5_1).f1) _ _ ((rd_T39 l1 x5_1).f2) true _ ?side1 ?side2 ?side3 ?side4 A7.out).mono ?_
     (case side1 => repeat (first | exact (Kd.C_below HR182_2.out HB.out) | (with_reducible refine Kd.C_alloc ?_ _) | (with_reducible refine Kd.C_drewN ?_ _) | (with_reducible refine Kd.C_drew ?_)))
     (case side2 => exact HC182_2.out)
     (case side3 => repeat (first | exact (Kd.C_below HR183_2.out HB.out) | (with_reducible refine Kd.C_alloc ?_ _) | (with_reducible refine Kd.C_drewN ?_ _) | (with_reducible refine Kd.C_drew ?_)))
     (case side4 => exact HC183_2.out)
     rintro e w10 ⟨rfl, hb⟩
     refine ⟨_, rfl, ?_⟩
     replace HB := mk_ (zr3 (by repeat (first | (with_reducible first | exact HB.out | apply zq7 | apply zq8 | apply zq9) | exact HB.out)) hb)
     (try clear hb)
     (try clear hb2)
     (try clear hk)
     (try clear hi)
     refine hK.out _ _ ⟨((HB.out.cell (World.block_lt_of_cell? w _ hw182_0)).trans hw182_0), ((HB.out.cell (World.block_lt_of_cell? w _ hw182_1)).trans hw182_1), ((HB.out.cell (World.block_lt_of_cell? w _ hw182_2)).trans hw182_2), ((HB.out.cell (World.block_lt_of_cell? w _ hw183_0)).trans hw183_0), ((HB.out.cell (World.block_lt_of_cell? w _ hw183_1)).trans hw183_1), ((HB.out.cell (World.block_lt_of_cell? w _ hw183_2)).trans hw183_2)⟩ (fun hHeld => ?_)
     clear hK K
     refine norm_ (a' := ?_) ?_ ?_
     rotate_left
     · show Act.put _ (some 25) _ = _
       simp only [Act.put, zs1, zs2, zs3, i64_w, i32_w]
       rfl
     refine pA 9 (some 26) (bm 10 1023) rfl rfl HT_.out (by kernel_rfl) (fun _ _ _ h => h) (by rfl) (by intro w'; go_simp; with_reducible rfl) (by simp only [Act.put, zs1, zs2, zs3, i64_w, i32_w]; rfl) ?_
     refine done_ (done_of HT_.out (by kernel_rfl)) ?_
     try go_wp2
     go_roundg k1
     case measure => have := HK1.out; omega
     case rel => exact ⟨(wrap64 (x5_1 + 1)), (by first | rfl | (simp; done) | (simp [*]; done)), H', ⟨by have := HK1.out; omega⟩, ⟨by repeat (first | (with_reducible first | exact HB.out | apply zq7 | apply zq8 | apply zq9) | exact HB.out)⟩⟩

end Go.Proofs.Yteknaofnageihaa.QFnExactCrdTxOk
