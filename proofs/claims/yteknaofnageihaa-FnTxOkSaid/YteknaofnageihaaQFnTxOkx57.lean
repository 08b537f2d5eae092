-- Written by a program of this session, a turned copy of the print (not by print.sh itself). Lean checks it.
import Derived.Test.YteknaofnageihaaQFnTxOkx0
import Derived.Test.YteknaofnageihaaQFnTxOkx56
namespace Go.Proofs.Yteknaofnageihaa.QFnTxOk
open Go.RowKit Go.Proofs.YteknaofnageihaaW.PrintWords Go.Proofs.YteknaofnageihaaW.PrintLast Go.Proofs.YteknaofnageihaaW.PrintMore Go.Proofs.YteknaofnageihaaLoc
attribute [local go_sem] max2_int min2_int max_two min_two max_three min_three max_four min_four   -- for this text's walks alone
set_option linter.unusedVariables false
set_option linter.unusedSimpArgs false

/-! ### impl_CfgOpts_partsOk: function 89 -/
/-- What the closure in partsOk says of one piece (true: it is not ok). -/
def impl_CfgOpts_partsOk.p (m : Int) (f0 f1 : Int) (l2 : List Int) : Option (Bool) := (impl_PartOk.f f0 f1 l2).bind fun t1 => (if t1 = true then (some (decide ((l2.length : Int) > m))) else (some true))
def impl_CfgOpts_partsOk.l0 : Nat → List (S39) → Int → Int → Option (Int)
  | 0, _, _, _ => none
  | k + 1, x0, x1, x8 => if x8 < (x0.length : Int) then (if 0 ≤ x8 then ((impl_CfgOpts_partsOk.p x1 ((rd_T39 x0 x8).f0) ((rd_T39 x0 x8).f1) ((rd_T39 x0 x8).f2)).bind fun t1 => (if t1 = true then (some x8) else (impl_CfgOpts_partsOk.l0 k x0 x1 (wrap64 (x8 + 1))))) else (none)) else (some (-1))
def impl_CfgOpts_partsOk.f (k : Nat) (_a0_0 : Int) (_a0_1 : Int) (a0_2 : Int) (_a0_3 : Int) (_a0_4 : Int) (l1 : List (S39)) : Option (Bool) := (impl_CfgOpts_partsOk.l0 k l1 a0_2 0).bind fun t1 => some (!(decide (t1 ≥ 0)))
theorem impl_CfgOpts_partsOk.mono_l : ∀ k, (∀ y0 y1 y2, LeO (impl_CfgOpts_partsOk.l0 k y0 y1 y2) (impl_CfgOpts_partsOk.l0 (k + 1) y0 y1 y2))
  | 0 => fun _ _ _ r h => by simp [impl_CfgOpts_partsOk.l0] at h
  | k + 1 => by
    have ih0 := impl_CfgOpts_partsOk.mono_l k
    intro y0 y1 y2
    unfold impl_CfgOpts_partsOk.l0
    refine LeO.ite (LeO.ite (LeO.bind (LeO.refl _) (fun _ => LeO.ite (LeO.refl _) (ih0 _ _ _))) (LeO.refl _)) (LeO.refl _)
theorem impl_CfgOpts_partsOk.mono : ∀ a0 a1 a2 a3 a4 a5 k, LeO (impl_CfgOpts_partsOk.f k a0 a1 a2 a3 a4 a5) (impl_CfgOpts_partsOk.f (k + 1) a0 a1 a2 a3 a4 a5) := by
 intro a0 a1 a2 a3 a4 a5 k
 unfold impl_CfgOpts_partsOk.f
 refine LeO.bind (impl_CfgOpts_partsOk.mono_l k _ _ _) (fun _ => LeO.refl _)
set_option maxHeartbeats 60000000 in
set_option maxRecDepth 100000 in
theorem impl_CfgOpts_partsOk.lit (gc : Nat) (c0 c1 c2 c3 c4 : Int) (a0_0 : Int) (a0_1 : Int) (A0_2 : Option Addr) (c0_2 : Nat) (l0_2 : List Int) (r : Bool) (w : World) (hbk : w.heap[gc]? = some (.cells #[.int .i64 c0, .int .i64 c1, .int .i64 c2, .int .i64 c3, .int .i64 c4] 66 (0, 0))) (hr0_2 : Kd.C (Kd.int .u8) w A0_2 l0_2.length l0_2) (hc0_2 : l0_2.length ≤ c0_2) (h : impl_CfgOpts_partsOk.p c2 a0_0 a0_1 l0_2 = some r) :
    Calls Try.prog 101 #[.agg #[.int .i64 a0_0, .int .i64 a0_1, .slice A0_2 l0_2.length c0_2], .pointer (some ⟨gc, 0, none⟩)] w fun e w' => e = .returned (.bool r) ∧ Below w.heap.size w w' := by
 have hu39 := Try.underlying39
 have hu66 := Try.underlying66
 have HR0_2 := mk_ hr0_2
 have HC0_2 := mk_ hc0_2
 have HBK := mk_ hbk
 have hlt : gc < w.heap.size := blk_lt hbk
 have HLT := mk_ hlt
 clear hr0_2 hc0_2 hbk hlt
 have HB := mk_ (Below.refl w.heap.size w)
 unfold impl_CfgOpts_partsOk.p at h
 replace h := Option.bind_eq_some_iff.mp h
 obtain ⟨t1, A20, H⟩ := h
 have A2 := mk_ A20
 clear A20
 have hcm : w.cell? ⟨gc, 2, none⟩ = some (.int .i64 c2) := (blk_cell HBK.out 2).trans rfl
 have HCM := mk_ hcm
 clear hcm
 by_cases c6 : t1 = true
 · subst c6
   rw [if_pos rfl] at H
   obtain rfl := Option.some.inj H
   clear H
   go_enter Try.func101, Try.ntmps101
   go_wp2_with (first | ((with_reducible refine gate_dst (N := 2) rfl ?_); refine box_event ?hg (N := 2) ?hd (cs := #[.int .i64 a0_0, .int .i64 a0_1, .slice A0_2 l0_2.length c0_2]) (t := 39) ?hr ?_; (case hd => rfl); (case hg => rfl); (case hr => first | (go_simp; done) | (go_simp; rfl)); intro gb119 hg w3 hbox hb; have BK119 := mk_ (hbox); have GW119 := mk_ ((by rw [hg]; exact (zr2 (by repeat (first | (with_reducible first | exact HB.out | apply zq7 | apply zq8 | apply zq9) | exact HB.out))) : w.heap.size ≤ gb119)); have GE119 := GW119; replace HB := mk_ (zr3 (by repeat (first | (with_reducible first | exact HB.out | apply zq7 | apply zq8 | apply zq9) | exact HB.out)) hb); clear hb hbox hg; obtain ⟨hcz4_0, hcz4_1, hcz4_2⟩ := cz3 BK119.out; obtain ⟨hfz4_0, hfz4_1, hfz4_2⟩ := fz3 BK119.out) | ((with_reducible refine gate_callee (f := 27) rfl ?_); refine goesL_ (some 5) rfl rfl Try.func27 (by kernel_rfl) rfl #[.agg #[.int .i64 a0_0, .int .i64 a0_1, .slice A0_2 l0_2.length c0_2]] rfl (by (try simp only [List.map_toArray, List.map_cons, List.map_nil]); first | done | rfl) ?_; (with_reducible refine (impl_PartOk.calls a0_0 a0_1 _ _ l0_2 true _ ?side1 ?side2 A2.out).mono ?_); (case side1 => exact (Kd.C_below HR0_2.out HB.out)); (case side2 => exact HC0_2.out); rintro e w5 ⟨rfl, hb⟩; refine ⟨_, rfl, ?_⟩; replace BK119 := mk_ (zq6 (by exact BK119.out) hb); replace HB := mk_ (zr3 (by exact HB.out) hb); obtain ⟨hcy4_0, hcy4_1, hcy4_2⟩ := cz3 BK119.out; have hcq := (HB.out.cell (p := ⟨gc, 2, none⟩) HLT.out).trans HCM.out; (try clear hb)))
   all_goals (go_ret; exact ⟨by first | rfl | (simp; done) | (simp [*]; done), by repeat (first | (with_reducible first | exact HB.out | apply zq7 | apply zq8 | apply zq9 | refine zr1 ?_ GE119.out) | exact HB.out)⟩)
 · replace c6 := Bool.eq_false_iff.mpr c6
   subst c6
   have H1 : (some true) = some r := by rw [if_neg (show ¬ (false = true) by decide)] at H; exact H
   clear H
   obtain rfl := Option.some.inj H1
   clear H1
   go_enter Try.func101, Try.ntmps101
   go_wp2_with (first | ((with_reducible refine gate_dst (N := 2) rfl ?_); refine box_event ?hg (N := 2) ?hd (cs := #[.int .i64 a0_0, .int .i64 a0_1, .slice A0_2 l0_2.length c0_2]) (t := 39) ?hr ?_; (case hd => rfl); (case hg => rfl); (case hr => first | (go_simp; done) | (go_simp; rfl)); intro gb119 hg w3 hbox hb; have BK119 := mk_ (hbox); have GW119 := mk_ ((by rw [hg]; exact (zr2 (by repeat (first | (with_reducible first | exact HB.out | apply zq7 | apply zq8 | apply zq9) | exact HB.out))) : w.heap.size ≤ gb119)); have GE119 := GW119; replace HB := mk_ (zr3 (by repeat (first | (with_reducible first | exact HB.out | apply zq7 | apply zq8 | apply zq9) | exact HB.out)) hb); clear hb hbox hg; obtain ⟨hcz4_0, hcz4_1, hcz4_2⟩ := cz3 BK119.out; obtain ⟨hfz4_0, hfz4_1, hfz4_2⟩ := fz3 BK119.out) | ((with_reducible refine gate_callee (f := 27) rfl ?_); refine goesL_ (some 5) rfl rfl Try.func27 (by kernel_rfl) rfl #[.agg #[.int .i64 a0_0, .int .i64 a0_1, .slice A0_2 l0_2.length c0_2]] rfl (by (try simp only [List.map_toArray, List.map_cons, List.map_nil]); first | done | rfl) ?_; (with_reducible refine (impl_PartOk.calls a0_0 a0_1 _ _ l0_2 false _ ?side1 ?side2 A2.out).mono ?_); (case side1 => exact (Kd.C_below HR0_2.out HB.out)); (case side2 => exact HC0_2.out); rintro e w5 ⟨rfl, hb⟩; refine ⟨_, rfl, ?_⟩; replace BK119 := mk_ (zq6 (by exact BK119.out) hb); replace HB := mk_ (zr3 (by exact HB.out) hb); obtain ⟨hcy4_0, hcy4_1, hcy4_2⟩ := cz3 BK119.out; (try clear hb)))
   all_goals (go_ret; exact ⟨by first | rfl | (simp; done) | (simp [*]; done), by repeat (first | (with_reducible first | exact HB.out | apply zq7 | apply zq8 | apply zq9 | refine zr1 ?_ GE119.out) | exact HB.out)⟩)
set_option maxHeartbeats 60000000 in
set_option maxRecDepth 100000 in
theorem impl_CfgOpts_partsOk.idx (k : Nat) (gc : Nat) (m0 m1 m2 m3 m4 : Int) (A0 : Option Addr) (c0 : Nat) (l0 : List (S39)) (r : Int) (w : World) (hbk : w.heap[gc]? = some (.cells #[.int .i64 m0, .int .i64 m1, .int .i64 m2, .int .i64 m3, .int .i64 m4] 66 (0, 0))) (hr0 : Kd.C k39 w A0 l0.length l0) (hc0 : l0.length ≤ c0) (h : impl_CfgOpts_partsOk.l0 k l0 m2 0 = some r) :
    Calls Try.prog 110 #[.slice A0 l0.length c0, .func (.func 101) #[] #[.pointer (some ⟨gc, 0, none⟩)]] w fun e w' => e = .returned (.int .i64 r) ∧ Below w.heap.size w w' := by
 have hu39 := Try.underlying39
 have HR0 := mk_ hr0
 have HC0 := mk_ hc0
 have HBK := mk_ hbk
 clear hr0 hc0 hbk
 have HB := mk_ (Below.refl w.heap.size w)
 have H' := mk_ h
 clear h
 go_enter Try.func110, Try.ntmps110
 go_wp2
 go_loopg [5, 8] k (fun kq _ v8 w' => ∃ (x5_1 : Int), v8 = .int .i64 x5_1 ∧ Aside0 (impl_CfgOpts_partsOk.l0 kq l0 m2 x5_1 = some r) ∧ Aside0 (kq ≤ k) ∧ Aside0 (Below w.heap.size w w'))
 case atStart => exact ⟨(0), (by first | rfl | (simp; done) | (simp [*]; done)), H', ⟨Nat.le_refl _⟩, ⟨by repeat (first | (with_reducible first | exact HB.out | apply zq7 | apply zq8 | apply zq9) | exact HB.out)⟩⟩
 case round =>
   clear H'
   obtain ⟨x5_1, rfl, HA, HK1, HB⟩ := hrel
   cases gk with
   | zero => exact absurd HA.out (by simp [impl_CfgOpts_partsOk.l0])
   | succ k1 =>
     have H := HA.out
     clear HA
     simp only [impl_CfgOpts_partsOk.l0] at H
     by_cases c3 : x5_1 < (l0.length : Int)
     rotate_left
     · rw [if_neg c3] at H
       have c3b0 : decide (x5_1 < (l0.length : Int)) = false := decide_eq_false c3
       clear c3
       obtain rfl := Option.some.inj H
       go_wp2
       go_ret
       exact ⟨by first | rfl | (simp; done) | (simp [*]; done), by repeat (first | (with_reducible first | exact HB.out | apply zq7 | apply zq8 | apply zq9) | exact HB.out)⟩
     rw [if_pos c3] at H
     have c3b0 : decide (x5_1 < (l0.length : Int)) = true := decide_eq_true c3
     clear c3
     by_cases c4 : 0 ≤ x5_1
     rotate_left
     · rw [if_neg c4] at H
       exact absurd H (by simp)
     rw [if_pos c4] at H
     have c4b0 : decide (0 ≤ x5_1) = true := decide_eq_true c4
     clear c4
     replace H := Option.bind_eq_some_iff.mp H
     obtain ⟨t122, A50, H⟩ := H
     try dsimp only at H
     have p121 : 0 ≤ (x5_1 : Int) := of_decide_eq_true (by first | (with_reducible assumption) | assumption)
     have q121 : x5_1 < (l0.length : Int) := of_decide_eq_true (by first | (with_reducible assumption) | assumption)
     obtain ⟨ad121, A121_2, c121_2, e121, hx121_0, hx121_1, hx121_2, hl121_2, hi121_2⟩ := at_T39 HR0.out x5_1 p121 q121
     cases e121
     replace hx121_0 := (HB.out.cell (World.block_lt_of_cell? w _ hx121_0)).trans hx121_0
     replace hx121_1 := (HB.out.cell (World.block_lt_of_cell? w _ hx121_1)).trans hx121_1
     replace hx121_2 := (HB.out.cell (World.block_lt_of_cell? w _ hx121_2)).trans hx121_2
     have HCALL := mk_ (fun (W : World) (hW : Below w.heap.size w W) => impl_CfgOpts_partsOk.lit gc m0 m1 m2 m3 m4 _ _ A121_2 c121_2 _ t122 W (zq6 HBK.out hW) (Kd.C_below hi121_2 hW) hl121_2 A50)
     clear hi121_2 hl121_2 A50
     replace p121 := eq_true p121
     replace q121 := eq_true q121
     by_cases c6 : t122 = true
     · subst c6
       rw [if_pos rfl] at H
       obtain rfl := Option.some.inj H
       clear H
       go_wp2_with (go_at_call 101; refine (HCALL.out _ (by repeat (first | (with_reducible first | exact HB.out | apply zq7 | apply zq8 | apply zq9) | exact HB.out))).mono ?_; rintro e w10 ⟨rfl, hb⟩; replace HB := mk_ (zr3 (by repeat (first | (with_reducible first | exact HB.out | apply zq7 | apply zq8 | apply zq9) | exact HB.out)) hb); clear hb)
       go_ret
       exact ⟨by first | rfl | (simp; done) | (simp [*]; done), by repeat (first | (with_reducible first | exact HB.out | apply zq7 | apply zq8 | apply zq9) | exact HB.out)⟩
     replace c6 := Bool.eq_false_iff.mpr c6
     subst c6
     have H1 : (impl_CfgOpts_partsOk.l0 k1 l0 m2 (wrap64 (x5_1 + 1))) = some r := by rw [if_neg (show ¬ (false = true) by decide)] at H; exact H
     clear H
     have H' := mk_ H1
     clear H1
     go_wp2_with (go_at_call 101; refine (HCALL.out _ (by repeat (first | (with_reducible first | exact HB.out | apply zq7 | apply zq8 | apply zq9) | exact HB.out))).mono ?_; rintro e w10 ⟨rfl, hb⟩; replace HB := mk_ (zr3 (by repeat (first | (with_reducible first | exact HB.out | apply zq7 | apply zq8 | apply zq9) | exact HB.out)) hb); clear hb)
     go_roundg k1
     case measure => omega
     case rel => exact ⟨(wrap64 (x5_1 + 1)), (by first | rfl | (simp; done) | (simp [*]; done)), H', ⟨Nat.le_of_succ_le HK1.out⟩, ⟨by repeat (first | (with_reducible first | exact HB.out | apply zq7 | apply zq8 | apply zq9) | exact HB.out)⟩⟩
set_option maxHeartbeats 60000000 in
set_option maxRecDepth 100000 in
theorem impl_CfgOpts_partsOk.calls (k : Nat) (a0_0 : Int) (a0_1 : Int) (a0_2 : Int) (a0_3 : Int) (a0_4 : Int) (A1 : Option Addr) (c1 : Nat) (l1 : List (S39)) (r : Bool) (w : World) (hr1 : Kd.C k39 w A1 l1.length l1) (hc1 : l1.length ≤ c1) (h : impl_CfgOpts_partsOk.f k a0_0 a0_1 a0_2 a0_3 a0_4 l1 = some r) :
    Calls Try.prog 89 #[.agg #[.int .i64 a0_0, .int .i64 a0_1, .int .i64 a0_2, .int .i64 a0_3, .int .i64 a0_4], .slice A1 l1.length c1] w fun e w' => e = .returned (.bool r) ∧ Below w.heap.size w w' := by
 have hu66 := Try.underlying66
 have HR1 := mk_ hr1
 have HC1 := mk_ hc1
 clear hr1 hc1
 have HB := mk_ (Below.refl w.heap.size w)
 unfold impl_CfgOpts_partsOk.f at h
 obtain ⟨t1, A20, H⟩ := Option.bind_eq_some_iff.mp h
 have A2 := mk_ A20
 clear A20 h
 obtain rfl := Option.some.inj H
 clear H
 go_enter Try.func89, Try.ntmps89
 go_wp2_with (first | ((with_reducible refine gate_dst (N := 2) rfl ?_); refine box_event ?hg (N := 2) ?hd (cs := #[.int .i64 a0_0, .int .i64 a0_1, .int .i64 a0_2, .int .i64 a0_3, .int .i64 a0_4]) (t := 66) ?hr ?_; (case hd => rfl); (case hg => rfl); (case hr => first | (go_simp; done) | (go_simp; rfl)); intro gb119 hg w3 hbox hb; have BK119 := mk_ (hbox); replace HB := mk_ (zr3 (by repeat (first | (with_reducible first | exact HB.out | apply zq7 | apply zq8 | apply zq9) | exact HB.out)) hb); clear hb hbox hg) | (go_at_call 110; refine (impl_CfgOpts_partsOk.idx k _ a0_0 a0_1 a0_2 a0_3 a0_4 _ _ l1 t1 _ BK119.out (Kd.C_below HR1.out HB.out) HC1.out A2.out).mono ?_; rintro e w10 ⟨rfl, hb⟩; replace HB := mk_ (zr3 (by repeat (first | (with_reducible first | exact HB.out | apply zq7 | apply zq8 | apply zq9) | exact HB.out)) hb); clear hb) | go_in)
 go_ret
 exact ⟨by first | rfl | (simp; done) | (simp [*]; done), by repeat (first | (with_reducible first | exact HB.out | apply zq7 | apply zq8 | apply zq9) | exact HB.out)⟩

end Go.Proofs.Yteknaofnageihaa.QFnTxOk
