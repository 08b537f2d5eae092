-- Written by a program of this session, a turned copy of the print (not by print.sh itself). Lean checks it.
import Derived.Test.YteknaofnageihaaQFnExactTxOkx0
import Derived.Test.YteknaofnageihaaQFnExactTxOkx1
import Derived.Test.YteknaofnageihaaQFnExactTxOkx3
import Derived.Test.YteknaofnageihaaQFnExactTxOkx4
import Derived.Test.YteknaofnageihaaQFnExactTxOkx6
import Derived.Test.YteknaofnageihaaQFnExactTxOkx7
namespace Go.Proofs.Yteknaofnageihaa.QFnExactTxOk
open Go.RowKit Go.Proofs.YteknaofnageihaaW.PrintWords Go.Proofs.YteknaofnageihaaW.PrintLast Go.Proofs.YteknaofnageihaaW.PrintMore Go.Proofs.YteknaofnageihaaLoc
attribute [local go_sem] max2_int min2_int max_two min_two max_three min_three max_four min_four   -- for this text's walks alone
set_option linter.unusedVariables false
set_option linter.unusedSimpArgs false

/-! ### laws_FnExactTxOk: function 10 -/
def laws_FnExactTxOk.f (k : Nat) (a0_0 : Int) (a0_1 : Int) (a0_2 : Int) (a0_3 : Int) (a0_4 : Int) (a1_0 : Int) (a1_1 : Int) (l1_2 : List (S47)) (a1_3 : Int) (l1_4 : List (S47)) (a1_5 : Bool) (a1_6 : Int) (a1_7 : Bool) (a1_8 : Int) (a1_9 : Bool) : Option (Bool) := (laws_szTxState.f k a1_0 a1_1 l1_2 a1_3 l1_4 a1_5 a1_6 a1_7 a1_8 a1_9 1048576).bind fun t208 => (if t208 < 0 then (some true) else ((laws_toCfgOpts.f a0_0 a0_1 a0_2 a0_3 a0_4).bind fun bt209 => ((laws_toTxState.f k a1_0 a1_1 l1_2 a1_3 l1_4 a1_5 a1_6 a1_7 a1_8 a1_9).bind fun bt214 => ((spec_TxOk.f k bt209.1 bt209.2.1 bt209.2.2.1 bt209.2.2.2.1 bt209.2.2.2.2 bt214.1 bt214.2.1 bt214.2.2.1 bt214.2.2.2.1 bt214.2.2.2.2.1 bt214.2.2.2.2.2.1 bt214.2.2.2.2.2.2.1 bt214.2.2.2.2.2.2.2.1 bt214.2.2.2.2.2.2.2.2.1 bt214.2.2.2.2.2.2.2.2.2).bind fun t228 => ((laws_toTxState.f k a1_0 a1_1 l1_2 a1_3 l1_4 a1_5 a1_6 a1_7 a1_8 a1_9).bind fun bt229 => ((laws_toCfgOpts.f a0_0 a0_1 a0_2 a0_3 a0_4).bind fun bt244 => ((impl_TxOk.f k bt244.1 bt244.2.1 bt244.2.2.1 bt244.2.2.2.1 bt244.2.2.2.2 bt229.1 bt229.2.1 bt229.2.2.1 bt229.2.2.2.1 bt229.2.2.2.2.1 bt229.2.2.2.2.2.1 bt229.2.2.2.2.2.2.1 bt229.2.2.2.2.2.2.2.1 bt229.2.2.2.2.2.2.2.2.1 bt229.2.2.2.2.2.2.2.2.2).bind fun t249 => (if (t249 != t228) = true then (some false) else ((laws_toTxState.f k a1_0 a1_1 l1_2 a1_3 l1_4 a1_5 a1_6 a1_7 a1_8 a1_9).bind fun bt250 => ((laws_eqTxState.f k bt229.1 bt229.2.1 bt229.2.2.1 bt229.2.2.2.1 bt229.2.2.2.2.1 bt229.2.2.2.2.2.1 bt229.2.2.2.2.2.2.1 bt229.2.2.2.2.2.2.2.1 bt229.2.2.2.2.2.2.2.2.1 bt229.2.2.2.2.2.2.2.2.2 bt250.1 bt250.2.1 bt250.2.2.1 bt250.2.2.2.1 bt250.2.2.2.2.1 bt250.2.2.2.2.2.1 bt250.2.2.2.2.2.2.1 bt250.2.2.2.2.2.2.2.1 bt250.2.2.2.2.2.2.2.2.1 bt250.2.2.2.2.2.2.2.2.2).bind fun t264 => (if t264 = true then (some true) else (some false))))))))))))
theorem laws_FnExactTxOk.mono : ∀ a0 a1 a2 a3 a4 a5 a6 a7 a8 a9 a10 a11 a12 a13 a14 k, LeO (laws_FnExactTxOk.f k a0 a1 a2 a3 a4 a5 a6 a7 a8 a9 a10 a11 a12 a13 a14) (laws_FnExactTxOk.f (k + 1) a0 a1 a2 a3 a4 a5 a6 a7 a8 a9 a10 a11 a12 a13 a14) := by
 intro a0 a1 a2 a3 a4 a5 a6 a7 a8 a9 a10 a11 a12 a13 a14 k
 unfold laws_FnExactTxOk.f
 repeat' first
     | (with_reducible exact impl_TxOk.mono _ _ _ _ _ _ _ _ _ _ _ _ _ _ _ _)
     | (with_reducible exact laws_eqTxState.mono _ _ _ _ _ _ _ _ _ _ _ _ _ _ _ _ _ _ _ _ _)
     | (with_reducible exact laws_szTxState.mono _ _ _ _ _ _ _ _ _ _ _ _)
     | (with_reducible exact laws_toTxState.mono _ _ _ _ _ _ _ _ _ _ _)
     | (with_reducible exact spec_TxOk.mono _ _ _ _ _ _ _ _ _ _ _ _ _ _ _ _)
     | (with_reducible exact LeO.refl _)
     | (with_reducible exact LeO.none _)
     | (with_reducible refine LeO.ite ?_ ?_)
     | (with_reducible refine LeO.bind ?_ (fun _ => ?_))
     | exact impl_TxOk.mono _ _ _ _ _ _ _ _ _ _ _ _ _ _ _ _
     | exact laws_eqTxState.mono _ _ _ _ _ _ _ _ _ _ _ _ _ _ _ _ _ _ _ _ _
     | exact laws_szTxState.mono _ _ _ _ _ _ _ _ _ _ _ _
     | exact laws_toTxState.mono _ _ _ _ _ _ _ _ _ _ _
     | exact spec_TxOk.mono _ _ _ _ _ _ _ _ _ _ _ _ _ _ _ _
     | exact LeO.none _
     | refine LeO.ite ?_ ?_
     | refine LeO.bind ?_ (fun _ => ?_)
set_option maxHeartbeats 60000000 in
set_option maxRecDepth 100000 in
theorem laws_FnExactTxOk.calls (k : Nat) (a0_0 : Int) (a0_1 : Int) (a0_2 : Int) (a0_3 : Int) (a0_4 : Int) (a1_0 : Int) (a1_1 : Int) (A1_2 : Option Addr) (c1_2 : Nat) (l1_2 : List (S47)) (a1_3 : Int) (A1_4 : Option Addr) (c1_4 : Nat) (l1_4 : List (S47)) (a1_5 : Bool) (a1_6 : Int) (a1_7 : Bool) (a1_8 : Int) (a1_9 : Bool) (r : Bool) (w : World) (hr1_2 : Kd.C k47 w A1_2 l1_2.length l1_2) (hc1_2 : l1_2.length ≤ c1_2) (hr1_4 : Kd.C k47 w A1_4 l1_4.length l1_4) (hc1_4 : l1_4.length ≤ c1_4) (h : laws_FnExactTxOk.f k a0_0 a0_1 a0_2 a0_3 a0_4 a1_0 a1_1 l1_2 a1_3 l1_4 a1_5 a1_6 a1_7 a1_8 a1_9 = some r) :
    Calls Try.prog 10 #[.agg #[.int .i64 a0_0, .int .i64 a0_1, .int .i64 a0_2, .int .i64 a0_3, .int .i64 a0_4], .agg #[.int .i64 a1_0, .int .i64 a1_1, .slice A1_2 l1_2.length c1_2, .int .i64 a1_3, .slice A1_4 l1_4.length c1_4, .bool a1_5, .int .i64 a1_6, .bool a1_7, .int .i64 a1_8, .bool a1_9]] w fun e w' => e = .returned (.bool r) ∧ Below w.heap.size w w' := by
 have hu60 := Try.underlying60
 have hu63 := Try.underlying63
 have hu69 := Try.underlying69
 have HR1_2 := mk_ hr1_2
 have HC1_2 := mk_ hc1_2
 clear hr1_2 hc1_2
 have HR1_4 := mk_ hr1_4
 have HC1_4 := mk_ hc1_4
 clear hr1_4 hc1_4
 have HB := mk_ (Below.refl w.heap.size w)
 have H : ((laws_szTxState.f k a1_0 a1_1 l1_2 a1_3 l1_4 a1_5 a1_6 a1_7 a1_8 a1_9 1048576).bind fun t208 => (if t208 < 0 then (some true) else ((laws_toCfgOpts.f a0_0 a0_1 a0_2 a0_3 a0_4).bind fun bt209 => ((laws_toTxState.f k a1_0 a1_1 l1_2 a1_3 l1_4 a1_5 a1_6 a1_7 a1_8 a1_9).bind fun bt214 => ((spec_TxOk.f k bt209.1 bt209.2.1 bt209.2.2.1 bt209.2.2.2.1 bt209.2.2.2.2 bt214.1 bt214.2.1 bt214.2.2.1 bt214.2.2.2.1 bt214.2.2.2.2.1 bt214.2.2.2.2.2.1 bt214.2.2.2.2.2.2.1 bt214.2.2.2.2.2.2.2.1 bt214.2.2.2.2.2.2.2.2.1 bt214.2.2.2.2.2.2.2.2.2).bind fun t228 => ((laws_toTxState.f k a1_0 a1_1 l1_2 a1_3 l1_4 a1_5 a1_6 a1_7 a1_8 a1_9).bind fun bt229 => ((laws_toCfgOpts.f a0_0 a0_1 a0_2 a0_3 a0_4).bind fun bt244 => ((impl_TxOk.f k bt244.1 bt244.2.1 bt244.2.2.1 bt244.2.2.2.1 bt244.2.2.2.2 bt229.1 bt229.2.1 bt229.2.2.1 bt229.2.2.2.1 bt229.2.2.2.2.1 bt229.2.2.2.2.2.1 bt229.2.2.2.2.2.2.1 bt229.2.2.2.2.2.2.2.1 bt229.2.2.2.2.2.2.2.2.1 bt229.2.2.2.2.2.2.2.2.2).bind fun t249 => (if (t249 != t228) = true then (some false) else ((laws_toTxState.f k a1_0 a1_1 l1_2 a1_3 l1_4 a1_5 a1_6 a1_7 a1_8 a1_9).bind fun bt250 => ((laws_eqTxState.f k bt229.1 bt229.2.1 bt229.2.2.1 bt229.2.2.2.1 bt229.2.2.2.2.1 bt229.2.2.2.2.2.1 bt229.2.2.2.2.2.2.1 bt229.2.2.2.2.2.2.2.1 bt229.2.2.2.2.2.2.2.2.1 bt229.2.2.2.2.2.2.2.2.2 bt250.1 bt250.2.1 bt250.2.2.1 bt250.2.2.2.1 bt250.2.2.2.2.1 bt250.2.2.2.2.2.1 bt250.2.2.2.2.2.2.1 bt250.2.2.2.2.2.2.2.1 bt250.2.2.2.2.2.2.2.2.1 bt250.2.2.2.2.2.2.2.2.2).bind fun t264 => (if t264 = true then (some true) else (some false))))))))))))) = some r := h
 clear h
 replace H := Option.bind_eq_some_iff.mp H
 obtain ⟨t208, A30, H⟩ := H
 try dsimp only at H
 have A3 := mk_ A30
 clear A30
 by_cases c4 : t208 < 0
 · rw [if_pos c4] at H
   have c4b0 : decide (t208 < 0) = true := decide_eq_true c4
   clear c4
   obtain rfl := Option.some.inj H
   go_enter Try.func10, Try.ntmps10
   go_wp2_with (first | ((with_reducible refine gate_dst (N := 2) rfl ?_); refine box_event ?hg (N := 2) ?hd (cs := #[.int .i64 a0_0, .int .i64 a0_1, .int .i64 a0_2, .int .i64 a0_3, .int .i64 a0_4]) (t := 60) ?hr ?_; (case hd => rfl); (case hg => rfl); (case hr => first | (go_simp; done) | (go_simp; rfl)); intro gb206 hg w5 hbox hb; have BK206 := mk_ (hbox); have GW206 := mk_ ((by rw [hg]; exact (zr2 (by repeat (first | (with_reducible first | exact HB.out | apply zq7 | apply zq8 | apply zq9) | exact HB.out))) : w.heap.size ≤ gb206)); have GE206 := GW206; replace HB := mk_ (zr3 (by repeat (first | (with_reducible first | exact HB.out | apply zq7 | apply zq8 | apply zq9) | exact HB.out)) hb); clear hb hbox hg) | ((with_reducible refine gate_dst (N := 3) rfl ?_); refine box_event ?hg (N := 3) ?hd (cs := #[.int .i64 a1_0, .int .i64 a1_1, .slice A1_2 l1_2.length c1_2, .int .i64 a1_3, .slice A1_4 l1_4.length c1_4, .bool a1_5, .int .i64 a1_6, .bool a1_7, .int .i64 a1_8, .bool a1_9]) (t := 63) ?hr ?_; (case hd => rfl); (case hg => rfl); (case hr => first | (go_simp; done) | (go_simp; rfl)); intro gb207 hg w6 hbox hb; have BK207 := mk_ (hbox); have GW207 := mk_ ((by rw [hg]; exact (zr2 (by repeat (first | (with_reducible first | exact HB.out | apply zq7 | apply zq8 | apply zq9 | refine zr1 ?_ GE206.out) | exact HB.out))) : w.heap.size ≤ gb207)); have GE207 := GW207; replace HB := mk_ (zr3 (by repeat (first | (with_reducible first | exact HB.out | apply zq7 | apply zq8 | apply zq9 | refine zr1 ?_ GE206.out) | exact HB.out)) hb); have NB206_207 := mk_ ((by rw [hg]; exact zm2 (zr6 (by exact BK206.out)) : gb206 ≠ gb207)); replace BK206 := mk_ (zq6 (by exact BK206.out) hb); have NB207_206 := mk_ NB206_207.out.symm; clear hb hbox hg; have hnb7 := NB207_206.out; have hnc7 := NB206_207.out; obtain ⟨hcz8_0, hcz8_1, hcz8_2, hcz8_3, hcz8_4, hcz8_5, hcz8_6, hcz8_7, hcz8_8, hcz8_9⟩ := cz10 BK207.out; obtain ⟨hfz8_0, hfz8_1, hfz8_2, hfz8_3, hfz8_4, hfz8_5, hfz8_6, hfz8_7, hfz8_8, hfz8_9⟩ := fz10 BK207.out) | ((with_reducible refine gate_callee (f := 47) rfl ?_); refine goesL_ (some 11) rfl rfl Try.func47 (by kernel_rfl) rfl #[.agg #[.int .i64 a1_0, .int .i64 a1_1, .slice A1_2 l1_2.length c1_2, .int .i64 a1_3, .slice A1_4 l1_4.length c1_4, .bool a1_5, .int .i64 a1_6, .bool a1_7, .int .i64 a1_8, .bool a1_9], .int .i64 1048576] rfl (by (try simp only [List.map_toArray, List.map_cons, List.map_nil]); first | done | rfl | (simp only [List.length_drop, List.length_take]; rfl)) ?_; (with_reducible refine (laws_szTxState.calls k a1_0 a1_1 _ _ l1_2 a1_3 _ _ l1_4 a1_5 a1_6 a1_7 a1_8 a1_9 1048576 t208 _ ?side1 ?side2 ?side3 ?side4 A3.out).mono ?_); (case side1 => repeat (first | exact (Kd.C_below HR1_2.out HB.out) | (with_reducible refine Kd.C_alloc ?_ _) | (with_reducible refine Kd.C_drewN ?_ _) | (with_reducible refine Kd.C_drew ?_))); (case side2 => exact HC1_2.out); (case side3 => repeat (first | exact (Kd.C_below HR1_4.out HB.out) | (with_reducible refine Kd.C_alloc ?_ _) | (with_reducible refine Kd.C_drewN ?_ _) | (with_reducible refine Kd.C_drew ?_))); (case side4 => exact HC1_4.out); rintro e w9 ⟨rfl, hb⟩; refine ⟨_, rfl, ?_⟩; replace BK206 := mk_ (zq6 (by exact BK206.out) hb); replace BK207 := mk_ (zq6 (by exact BK207.out) hb); replace HB := mk_ (zr3 (by repeat (first | (with_reducible first | exact HB.out | apply zq7 | apply zq8 | apply zq9 | refine zr1 ?_ GE206.out | refine zr1 ?_ GE207.out) | exact HB.out)) hb); (try clear hb); (try clear hb2); (try clear hk); (try clear hi)))
   go_ret
   exact ⟨by first | rfl | (simp [errW_none, errW_some] <;> rfl) | (simp [*, errW_none, errW_some] <;> rfl), by repeat (first | (with_reducible first | exact HB.out | apply zq7 | apply zq8 | apply zq9 | refine zr1 ?_ GE206.out | refine zr1 ?_ GE207.out) | exact HB.out)⟩
 rw [if_neg c4] at H
 have c4b0 : decide (t208 < 0) = false := decide_eq_false c4
 clear c4
 replace H := Option.bind_eq_some_iff.mp H
 obtain ⟨⟨t209, t210, t211, t212, t213⟩, A100, H⟩ := H
 try dsimp only at H
 have A10 := mk_ A100
 clear A100
 replace H := Option.bind_eq_some_iff.mp H
 obtain ⟨⟨t214, t215, t216, t219, t220, t223, t224, t225, t226, t227⟩, A110, H⟩ := H
 try dsimp only at H
 have A11 := mk_ A110
 clear A110
 replace H := Option.bind_eq_some_iff.mp H
 obtain ⟨t228, A120, H⟩ := H
 try dsimp only at H
 have A12 := mk_ A120
 clear A120
 replace H := Option.bind_eq_some_iff.mp H
 obtain ⟨⟨t229, t230, t231, t234, t235, t238, t239, t240, t241, t242⟩, A130, H⟩ := H
 try dsimp only at H
 have A13 := mk_ A130
 clear A130
 replace H := Option.bind_eq_some_iff.mp H
 obtain ⟨⟨t244, t245, t246, t247, t248⟩, A140, H⟩ := H
 try dsimp only at H
 have A14 := mk_ A140
 clear A140
 replace H := Option.bind_eq_some_iff.mp H
 obtain ⟨t249, A150, H⟩ := H
 try dsimp only at H
 have A15 := mk_ A150
 clear A150
 by_cases c16 : (t249 != t228) = true
 · rw [if_pos c16] at H
   have c16b0 : (t249 != t228) = true := c16
   (try (have c16b1 : decide (t249 = t228) = false := by simpa using c16))
   (try (have c16b2 : (t249 == t228) = false := by simpa using c16))
   (try (have c16b3 : ¬ (t249 = t228) := by simpa using c16))
   clear c16
   obtain rfl := Option.some.inj H
   go_enter Try.func10, Try.ntmps10
   try go_wp2_with (first | ((with_reducible refine gate_dst (N := 2) rfl ?_); refine box_event ?hg (N := 2) ?hd (cs := #[.int .i64 a0_0, .int .i64 a0_1, .int .i64 a0_2, .int .i64 a0_3, .int .i64 a0_4]) (t := 60) ?hr ?_; (case hd => rfl); (case hg => rfl); (case hr => first | (go_simp; done) | (go_simp; rfl)); intro gb206 hg w17 hbox hb; have BK206 := mk_ (hbox); have GW206 := mk_ ((by rw [hg]; exact (zr2 (by repeat (first | (with_reducible first | exact HB.out | apply zq7 | apply zq8 | apply zq9) | exact HB.out))) : w.heap.size ≤ gb206)); have GE206 := GW206; replace HB := mk_ (zr3 (by repeat (first | (with_reducible first | exact HB.out | apply zq7 | apply zq8 | apply zq9) | exact HB.out)) hb); clear hb hbox hg) | ((with_reducible refine gate_dst (N := 3) rfl ?_); refine box_event ?hg (N := 3) ?hd (cs := #[.int .i64 a1_0, .int .i64 a1_1, .slice A1_2 l1_2.length c1_2, .int .i64 a1_3, .slice A1_4 l1_4.length c1_4, .bool a1_5, .int .i64 a1_6, .bool a1_7, .int .i64 a1_8, .bool a1_9]) (t := 63) ?hr ?_; (case hd => rfl); (case hg => rfl); (case hr => first | (go_simp; done) | (go_simp; rfl)); intro gb207 hg w18 hbox hb; have BK207 := mk_ (hbox); have GW207 := mk_ ((by rw [hg]; exact (zr2 (by repeat (first | (with_reducible first | exact HB.out | apply zq7 | apply zq8 | apply zq9 | refine zr1 ?_ GE206.out) | exact HB.out))) : w.heap.size ≤ gb207)); have GE207 := GW207; replace HB := mk_ (zr3 (by repeat (first | (with_reducible first | exact HB.out | apply zq7 | apply zq8 | apply zq9 | refine zr1 ?_ GE206.out) | exact HB.out)) hb); have NB206_207 := mk_ ((by rw [hg]; exact zm2 (zr6 (by exact BK206.out)) : gb206 ≠ gb207)); replace BK206 := mk_ (zq6 (by exact BK206.out) hb); have NB207_206 := mk_ NB206_207.out.symm; clear hb hbox hg; have hnb19 := NB207_206.out; have hnc19 := NB206_207.out; obtain ⟨hcz20_0, hcz20_1, hcz20_2, hcz20_3, hcz20_4, hcz20_5, hcz20_6, hcz20_7, hcz20_8, hcz20_9⟩ := cz10 BK207.out; obtain ⟨hfz20_0, hfz20_1, hfz20_2, hfz20_3, hfz20_4, hfz20_5, hfz20_6, hfz20_7, hfz20_8, hfz20_9⟩ := fz10 BK207.out) | ((with_reducible refine gate_callee (f := 47) rfl ?_); refine goesL_ (some 11) rfl rfl Try.func47 (by kernel_rfl) rfl #[.agg #[.int .i64 a1_0, .int .i64 a1_1, .slice A1_2 l1_2.length c1_2, .int .i64 a1_3, .slice A1_4 l1_4.length c1_4, .bool a1_5, .int .i64 a1_6, .bool a1_7, .int .i64 a1_8, .bool a1_9], .int .i64 1048576] rfl (by (try simp only [List.map_toArray, List.map_cons, List.map_nil]); first | done | rfl | (simp only [List.length_drop, List.length_take]; rfl)) ?_; (with_reducible refine (laws_szTxState.calls k a1_0 a1_1 _ _ l1_2 a1_3 _ _ l1_4 a1_5 a1_6 a1_7 a1_8 a1_9 1048576 t208 _ ?side1 ?side2 ?side3 ?side4 A3.out).mono ?_); (case side1 => repeat (first | exact (Kd.C_below HR1_2.out HB.out) | (with_reducible refine Kd.C_alloc ?_ _) | (with_reducible refine Kd.C_drewN ?_ _) | (with_reducible refine Kd.C_drew ?_))); (case side2 => exact HC1_2.out); (case side3 => repeat (first | exact (Kd.C_below HR1_4.out HB.out) | (with_reducible refine Kd.C_alloc ?_ _) | (with_reducible refine Kd.C_drewN ?_ _) | (with_reducible refine Kd.C_drew ?_))); (case side4 => exact HC1_4.out); rintro e w21 ⟨rfl, hb⟩; refine ⟨_, rfl, ?_⟩; replace BK206 := mk_ (zq6 (by exact BK206.out) hb); replace BK207 := mk_ (zq6 (by exact BK207.out) hb); replace HB := mk_ (zr3 (by repeat (first | (with_reducible first | exact HB.out | apply zq7 | apply zq8 | apply zq9 | refine zr1 ?_ GE206.out | refine zr1 ?_ GE207.out) | exact HB.out)) hb); (try clear hb); (try clear hb2); (try clear hk); (try clear hi)))
   replace BK206 := mk_ (zq2 BK206.out)
   replace BK207 := mk_ (zq2 BK207.out)
   replace HB := mk_ (zq9 HB.out)
   refine start_ (n := 6) (S := fun w' => w'.cell? ⟨gb206, 0, none⟩ = some (.int .i64 a0_0) ∧ w'.cell? ⟨gb206, 1, none⟩ = some (.int .i64 a0_1) ∧ w'.cell? ⟨gb206, 2, none⟩ = some (.int .i64 a0_2) ∧ w'.cell? ⟨gb206, 3, none⟩ = some (.int .i64 a0_3) ∧ w'.cell? ⟨gb206, 4, none⟩ = some (.int .i64 a0_4) ∧ w'.cell? ⟨gb207, 0, none⟩ = some (.int .i64 a1_0) ∧ w'.cell? ⟨gb207, 1, none⟩ = some (.int .i64 a1_1) ∧ w'.cell? ⟨gb207, 2, none⟩ = some (.slice A1_2 l1_2.length c1_2) ∧ w'.cell? ⟨gb207, 3, none⟩ = some (.int .i64 a1_3) ∧ w'.cell? ⟨gb207, 4, none⟩ = some (.slice A1_4 l1_4.length c1_4) ∧ w'.cell? ⟨gb207, 5, none⟩ = some (.bool a1_5) ∧ w'.cell? ⟨gb207, 6, none⟩ = some (.int .i64 a1_6) ∧ w'.cell? ⟨gb207, 7, none⟩ = some (.bool a1_7) ∧ w'.cell? ⟨gb207, 8, none⟩ = some (.int .i64 a1_8) ∧ w'.cell? ⟨gb207, 9, none⟩ = some (.bool a1_9)) (ds := []) (bm 6 0) (by kernel_rfl) rfl rfl ⟨(zr4 BK206.out 0).trans rfl, (zr4 BK206.out 1).trans rfl, (zr4 BK206.out 2).trans rfl, (zr4 BK206.out 3).trans rfl, (zr4 BK206.out 4).trans rfl, (zr4 BK207.out 0).trans rfl, (zr4 BK207.out 1).trans rfl, (zr4 BK207.out 2).trans rfl, (zr4 BK207.out 3).trans rfl, (zr4 BK207.out 4).trans rfl, (zr4 BK207.out 5).trans rfl, (zr4 BK207.out 6).trans rfl, (zr4 BK207.out 7).trans rfl, (zr4 BK207.out 8).trans rfl, (zr4 BK207.out 9).trans rfl⟩ (fun hHeld => ?_)
   generalize w21.drew = w22 at BK206 BK207 HB hHeld ⊢
   refine take_ (i := 0) (N := some 14) (v := ?_) (a' := ?_) (bm 6 1) rfl rfl (by kernel_rfl) (fun _ _ _ h => h) (Or.inl ⟨by rfl, ?_⟩) hHeld ?_ ?_
   rotate_left
   · rintro w' ⟨s0, s1, s2, s3, s4, s5, s6, s7, s8, s9, s10, s11, s12, s13, s14⟩
     go_simp
     with_reducible rfl
   rotate_left
   · simp only [Act.put, zs1, zs2, zs3, i64_w, i32_w]
     rfl
   refine take_ (i := 2) (N := some 16) (v := ?_) (a' := ?_) (bm 6 5) rfl rfl (by kernel_rfl) (fun _ _ _ h => h) (Or.inl ⟨by rfl, ?_⟩) hHeld ?_ ?_
   rotate_left
   · rintro w' ⟨s0, s1, s2, s3, s4, s5, s6, s7, s8, s9, s10, s11, s12, s13, s14⟩
     go_simp
     with_reducible rfl
   rotate_left
   · simp only [Act.put, zs1, zs2, zs3, i64_w, i32_w]
     rfl
   refine one_ (i := 1) (N := some 15) (bm 6 7) rfl rfl (by kernel_rfl) (by decide) (fun K hK => ?_)
   refine goes_ Try.func49 (by kernel_rfl) rfl #[.agg #[.int .i64 a0_0, .int .i64 a0_1, .int .i64 a0_2, .int .i64 a0_3, .int .i64 a0_4]] (by rfl) rfl rfl (by (try simp only [List.map_toArray, List.map_cons, List.map_nil]); first | done | rfl | (simp only [List.length_drop, List.length_take]; rfl)) ?_
   with_reducible refine (laws_toCfgOpts.calls a0_0 a0_1 a0_2 a0_3 a0_4 t209 t210 t211 t212 t213 _ A10.out).mono ?_
   rintro e w23 ⟨rfl, hb⟩
   refine ⟨_, rfl, ?_⟩
   replace BK206 := mk_ (zq6 (by exact BK206.out) hb)
   replace BK207 := mk_ (zq6 (by exact BK207.out) hb)
   replace HB := mk_ (zr3 (by repeat (first | (with_reducible first | exact HB.out | apply zq7 | apply zq8 | apply zq9 | refine zr1 ?_ GE206.out | refine zr1 ?_ GE207.out) | exact HB.out)) hb)
   (try clear hb)
   (try clear hb2)
   (try clear hk)
   (try clear hi)
   refine hK.out _ _ ⟨(zr4 BK206.out 0).trans rfl, (zr4 BK206.out 1).trans rfl, (zr4 BK206.out 2).trans rfl, (zr4 BK206.out 3).trans rfl, (zr4 BK206.out 4).trans rfl, (zr4 BK207.out 0).trans rfl, (zr4 BK207.out 1).trans rfl, (zr4 BK207.out 2).trans rfl, (zr4 BK207.out 3).trans rfl, (zr4 BK207.out 4).trans rfl, (zr4 BK207.out 5).trans rfl, (zr4 BK207.out 6).trans rfl, (zr4 BK207.out 7).trans rfl, (zr4 BK207.out 8).trans rfl, (zr4 BK207.out 9).trans rfl⟩ (fun hHeld => ?_)
   clear hK K
   refine norm_ (a' := ?_) ?_ ?_
   rotate_left
   · show Act.put _ (some 15) _ = _
     simp only [Act.put, zs1, zs2, zs3, i64_w, i32_w]
     rfl
   refine one_ (i := 3) (N := some 17) (bm 6 15) rfl rfl (by kernel_rfl) (by decide) (fun K hK => ?_)
   refine goes_ Try.func50 (by kernel_rfl) rfl #[.agg #[.int .i64 a1_0, .int .i64 a1_1, .slice A1_2 l1_2.length c1_2, .int .i64 a1_3, .slice A1_4 l1_4.length c1_4, .bool a1_5, .int .i64 a1_6, .bool a1_7, .int .i64 a1_8, .bool a1_9]] (by rfl) rfl rfl (by (try simp only [List.map_toArray, List.map_cons, List.map_nil]); first | done | rfl | (simp only [List.length_drop, List.length_take]; rfl)) ?_
   with_reducible refine (laws_toTxState.calls k a1_0 a1_1 _ _ l1_2 a1_3 _ _ l1_4 a1_5 a1_6 a1_7 a1_8 a1_9 t214 t215 t216 t219 t220 t223 t224 t225 t226 t227 _ ?side1 ?side2 ?side3 ?side4 A11.out).mono ?_
   (case side1 => repeat (first | exact (Kd.C_below HR1_2.out HB.out) | (with_reducible refine Kd.C_alloc ?_ _) | (with_reducible refine Kd.C_drewN ?_ _) | (with_reducible refine Kd.C_drew ?_)))
   (case side2 => exact HC1_2.out)
   (case side3 => repeat (first | exact (Kd.C_below HR1_4.out HB.out) | (with_reducible refine Kd.C_alloc ?_ _) | (with_reducible refine Kd.C_drewN ?_ _) | (with_reducible refine Kd.C_drew ?_)))
   (case side4 => exact HC1_4.out)
   rintro e w24 ⟨v217, v221, rfl, ho0, ho1, hb⟩
   refine ⟨_, rfl, ?_⟩
   have HO218 := mk_ (Kd.S_lower ho0 (zr2 (by repeat (first | (with_reducible first | exact HB.out | apply zq7 | apply zq8 | apply zq9 | refine zr1 ?_ GE206.out | refine zr1 ?_ GE207.out) | exact HB.out))))
   have HO222 := mk_ (Kd.S_lower ho1 (zr2 (by repeat (first | (with_reducible first | exact HB.out | apply zq7 | apply zq8 | apply zq9 | refine zr1 ?_ GE206.out | refine zr1 ?_ GE207.out) | exact HB.out))))
   replace BK206 := mk_ (zq6 (by exact BK206.out) hb)
   replace BK207 := mk_ (zq6 (by exact BK207.out) hb)
   replace HB := mk_ (zr3 (by repeat (first | (with_reducible first | exact HB.out | apply zq7 | apply zq8 | apply zq9 | refine zr1 ?_ GE206.out | refine zr1 ?_ GE207.out) | exact HB.out)) hb)
   (try clear hb)
   (try clear hb2)
   (try clear hk)
   (try clear hi)
   (try clear ho0)
   (try clear ho1)
   obtain ⟨Ao25, co25, eo25⟩ := Kd.S_slice HO218.out
   (first | subst eo25 | (injection eo25 with f1_ f2_ f3_; have f4_ := f1_.symm; have f5_ := f3_.symm; clear f1_ f2_ f3_; subst f4_; subst f5_))
   obtain ⟨Ao26, co26, eo26⟩ := Kd.S_slice HO222.out
   (first | subst eo26 | (injection eo26 with f1_ f2_ f3_; have f4_ := f1_.symm; have f5_ := f3_.symm; clear f1_ f2_ f3_; subst f4_; subst f5_))
   refine hK.out _ _ ⟨(zr4 BK206.out 0).trans rfl, (zr4 BK206.out 1).trans rfl, (zr4 BK206.out 2).trans rfl, (zr4 BK206.out 3).trans rfl, (zr4 BK206.out 4).trans rfl, (zr4 BK207.out 0).trans rfl, (zr4 BK207.out 1).trans rfl, (zr4 BK207.out 2).trans rfl, (zr4 BK207.out 3).trans rfl, (zr4 BK207.out 4).trans rfl, (zr4 BK207.out 5).trans rfl, (zr4 BK207.out 6).trans rfl, (zr4 BK207.out 7).trans rfl, (zr4 BK207.out 8).trans rfl, (zr4 BK207.out 9).trans rfl⟩ (fun hHeld => ?_)
   clear hK K
   refine norm_ (a' := ?_) ?_ ?_
   rotate_left
   · show Act.put _ (some 17) _ = _
     simp only [Act.put, zs1, zs2, zs3, i64_w, i32_w]
     rfl
   refine one_ (i := 4) (N := some 18) (bm 6 31) rfl rfl (by kernel_rfl) (by decide) (fun K hK => ?_)
   refine goes_ Try.func48 (by kernel_rfl) rfl #[.agg #[.int .i64 t209, .int .i64 t210, .int .i64 t211, .int .i64 t212, .int .i64 t213], .agg #[.int .i64 t214, .int .i64 t215, .slice Ao25 t216.length co25, .int .i64 t219, .slice Ao26 t220.length co26, .bool t223, .int .i64 t224, .bool t225, .int .i64 t226, .bool t227]] (by rfl) rfl rfl (by (try simp only [List.map_toArray, List.map_cons, List.map_nil]); first | done | rfl | (simp only [List.length_drop, List.length_take]; rfl)) ?_
   with_reducible refine (spec_TxOk.calls k t209 t210 t211 t212 t213 t214 t215 _ _ t216 t219 _ _ t220 t223 t224 t225 t226 t227 t228 _ ?side1 ?side2 ?side3 ?side4 A12.out).mono ?_
   (case side1 => repeat (first | exact (Kd.S_reads' HO218.out).2.2 | (with_reducible refine Kd.C_alloc ?_ _) | (with_reducible refine Kd.C_drewN ?_ _) | (with_reducible refine Kd.C_drew ?_)))
   (case side2 => exact (Kd.S_reads' HO218.out).2.1)
   (case side3 => repeat (first | exact (Kd.S_reads' HO222.out).2.2 | (with_reducible refine Kd.C_alloc ?_ _) | (with_reducible refine Kd.C_drewN ?_ _) | (with_reducible refine Kd.C_drew ?_)))
   (case side4 => exact (Kd.S_reads' HO222.out).2.1)
   rintro e w27 ⟨rfl, hb⟩
   refine ⟨_, rfl, ?_⟩
   replace HO218 := mk_ (Kd.S_below (by (with_reducible repeat (first | apply Kd.S_alloc | apply Kd.S_drewN | apply Kd.S_drew)); exact HO218.out) hb)
   replace HO222 := mk_ (Kd.S_below (by (with_reducible repeat (first | apply Kd.S_alloc | apply Kd.S_drewN | apply Kd.S_drew)); exact HO222.out) hb)
   replace BK206 := mk_ (zq6 (by exact BK206.out) hb)
   replace BK207 := mk_ (zq6 (by exact BK207.out) hb)
   replace HB := mk_ (zr3 (by repeat (first | (with_reducible first | exact HB.out | apply zq7 | apply zq8 | apply zq9 | refine zr1 ?_ GE206.out | refine zr1 ?_ GE207.out) | exact HB.out)) hb)
   (try clear hb)
   (try clear hb2)
   (try clear hk)
   (try clear hi)
   refine hK.out _ _ ⟨(zr4 BK206.out 0).trans rfl, (zr4 BK206.out 1).trans rfl, (zr4 BK206.out 2).trans rfl, (zr4 BK206.out 3).trans rfl, (zr4 BK206.out 4).trans rfl, (zr4 BK207.out 0).trans rfl, (zr4 BK207.out 1).trans rfl, (zr4 BK207.out 2).trans rfl, (zr4 BK207.out 3).trans rfl, (zr4 BK207.out 4).trans rfl, (zr4 BK207.out 5).trans rfl, (zr4 BK207.out 6).trans rfl, (zr4 BK207.out 7).trans rfl, (zr4 BK207.out 8).trans rfl, (zr4 BK207.out 9).trans rfl⟩ (fun hHeld => ?_)
   clear hK K
   refine norm_ (a' := ?_) ?_ ?_
   rotate_left
   · show Act.put _ (some 18) _ = _
     simp only [Act.put, zs1, zs2, zs3, i64_w, i32_w]
     rfl
   refine pure_ (i := 5) (N := some 6) (v := ?_) (a' := ?_) (bm 6 63) rfl rfl (by kernel_rfl) (fun _ _ _ h => h) (Or.inl ⟨by rfl, ?_⟩) ?_ ?_
   rotate_left
   · intro w'
     go_simp
     with_reducible rfl
   rotate_left
   · simp only [Act.put, zs1, zs2, zs3, i64_w, i32_w]
     rfl
   refine done_ (by kernel_rfl) ?_
   obtain ⟨hcz28_0, hcz28_1, hcz28_2, hcz28_3, hcz28_4, hcz28_5, hcz28_6, hcz28_7, hcz28_8, hcz28_9⟩ := cz10 BK207.out
   obtain ⟨hfz28_0, hfz28_1, hfz28_2, hfz28_3, hfz28_4, hfz28_5, hfz28_6, hfz28_7, hfz28_8, hfz28_9⟩ := fz10 BK207.out
   try go_wp2_with (first | ((with_reducible refine gate_callee (f := 50) rfl ?_); refine goesL_ (some 20) rfl rfl Try.func50 (by kernel_rfl) rfl #[.agg #[.int .i64 a1_0, .int .i64 a1_1, .slice A1_2 l1_2.length c1_2, .int .i64 a1_3, .slice A1_4 l1_4.length c1_4, .bool a1_5, .int .i64 a1_6, .bool a1_7, .int .i64 a1_8, .bool a1_9]] rfl (by (try simp only [List.map_toArray, List.map_cons, List.map_nil]); first | done | rfl | (simp only [List.length_drop, List.length_take]; rfl)) ?_; (with_reducible refine (laws_toTxState.calls k a1_0 a1_1 _ _ l1_2 a1_3 _ _ l1_4 a1_5 a1_6 a1_7 a1_8 a1_9 t229 t230 t231 t234 t235 t238 t239 t240 t241 t242 _ ?side1 ?side2 ?side3 ?side4 A13.out).mono ?_); (case side1 => repeat (first | exact (Kd.C_below HR1_2.out HB.out) | (with_reducible refine Kd.C_alloc ?_ _) | (with_reducible refine Kd.C_drewN ?_ _) | (with_reducible refine Kd.C_drew ?_))); (case side2 => exact HC1_2.out); (case side3 => repeat (first | exact (Kd.C_below HR1_4.out HB.out) | (with_reducible refine Kd.C_alloc ?_ _) | (with_reducible refine Kd.C_drewN ?_ _) | (with_reducible refine Kd.C_drew ?_))); (case side4 => exact HC1_4.out); rintro e w29 ⟨v232, v236, rfl, ho0, ho1, hb⟩; refine ⟨_, rfl, ?_⟩; have HO233 := mk_ (Kd.S_lower (Kd.S_new' (Kd.S_new' ho0 (Kd.S_lt (by (with_reducible repeat (first | apply Kd.S_alloc | apply Kd.S_drewN | apply Kd.S_drew)); exact HO218.out))) (Kd.S_lt (by (with_reducible repeat (first | apply Kd.S_alloc | apply Kd.S_drewN | apply Kd.S_drew)); exact HO222.out))) (zr2 (by repeat (first | (with_reducible first | exact HB.out | apply zq7 | apply zq8 | apply zq9 | refine zr1 ?_ GE206.out | refine zr1 ?_ GE207.out) | exact HB.out)))); have HO237 := mk_ (Kd.S_lower (Kd.S_new' (Kd.S_new' ho1 (Kd.S_lt (by (with_reducible repeat (first | apply Kd.S_alloc | apply Kd.S_drewN | apply Kd.S_drew)); exact HO218.out))) (Kd.S_lt (by (with_reducible repeat (first | apply Kd.S_alloc | apply Kd.S_drewN | apply Kd.S_drew)); exact HO222.out))) (zr2 (by repeat (first | (with_reducible first | exact HB.out | apply zq7 | apply zq8 | apply zq9 | refine zr1 ?_ GE206.out | refine zr1 ?_ GE207.out) | exact HB.out)))); replace HO218 := mk_ (Kd.S_mono (Kd.S_told (Kd.S_told (Kd.S_old (by (with_reducible repeat (first | apply Kd.S_alloc | apply Kd.S_drewN | apply Kd.S_drew)); exact HO218.out) hb) (Kd.S_base ho0)) (Kd.S_base ho1)) (fun _ h_ => h_.1)); replace HO222 := mk_ (Kd.S_mono (Kd.S_told (Kd.S_told (Kd.S_old (by (with_reducible repeat (first | apply Kd.S_alloc | apply Kd.S_drewN | apply Kd.S_drew)); exact HO222.out) hb) (Kd.S_base ho0)) (Kd.S_base ho1)) (fun _ h_ => h_.1)); replace BK206 := mk_ (zq6 (by exact BK206.out) hb); replace BK207 := mk_ (zq6 (by exact BK207.out) hb); replace HB := mk_ (zr3 (by repeat (first | (with_reducible first | exact HB.out | apply zq7 | apply zq8 | apply zq9 | refine zr1 ?_ GE206.out | refine zr1 ?_ GE207.out) | exact HB.out)) hb); (try clear hb); (try clear hb2); (try clear hk); (try clear hi); (try clear ho0); (try clear ho1)) | ((with_reducible refine gate_dst (N := 7) rfl ?_); refine box_event ?hg (N := 7) ?hd (cs := #[.int .i64 0, .int .i64 0, .slice none 0 0, .int .i64 0, .slice none 0 0, .bool false, .int .i64 0, .bool false, .int .i64 0, .bool false]) (t := 69) ?hr ?_; (case hd => rfl); (case hg => rfl); (case hr => first | (go_simp; done) | (go_simp; rfl)); intro gb243 hg w30 hbox hb; replace HO218 := mk_ (Kd.S_below (by (with_reducible repeat (first | apply Kd.S_alloc | apply Kd.S_drewN | apply Kd.S_drew)); exact HO218.out) hb); replace HO222 := mk_ (Kd.S_below (by (with_reducible repeat (first | apply Kd.S_alloc | apply Kd.S_drewN | apply Kd.S_drew)); exact HO222.out) hb); replace HO233 := mk_ (Kd.S_below (by (with_reducible repeat (first | apply Kd.S_alloc | apply Kd.S_drewN | apply Kd.S_drew)); exact HO233.out) hb); replace HO237 := mk_ (Kd.S_below (by (with_reducible repeat (first | apply Kd.S_alloc | apply Kd.S_drewN | apply Kd.S_drew)); exact HO237.out) hb); have BK243 := mk_ (hbox); have GW243 := mk_ ((by rw [hg]; exact (zr2 (by repeat (first | (with_reducible first | exact HB.out | apply zq7 | apply zq8 | apply zq9 | refine zr1 ?_ GE206.out | refine zr1 ?_ GE207.out) | exact HB.out))) : w.heap.size ≤ gb243)); have GE243 := GW243; replace HB := mk_ (zr3 (by repeat (first | (with_reducible first | exact HB.out | apply zq7 | apply zq8 | apply zq9 | refine zr1 ?_ GE206.out | refine zr1 ?_ GE207.out) | exact HB.out)) hb); have NB206_243 := mk_ ((by rw [hg]; exact zm2 (zr6 (by exact BK206.out)) : gb206 ≠ gb243)); replace BK206 := mk_ (zq6 (by exact BK206.out) hb); have NB243_206 := mk_ NB206_243.out.symm; have NB207_243 := mk_ ((by rw [hg]; exact zm2 (zr6 (by exact BK207.out)) : gb207 ≠ gb243)); replace BK207 := mk_ (zq6 (by exact BK207.out) hb); have NB243_207 := mk_ NB207_243.out.symm; clear hb hbox hg; have hnb31 := NB243_206.out; have hnc31 := NB206_243.out; have hnb32 := NB243_207.out; have hnc32 := NB207_243.out; obtain ⟨hcz33_0, hcz33_1, hcz33_2, hcz33_3, hcz33_4, hcz33_5, hcz33_6, hcz33_7, hcz33_8, hcz33_9⟩ := cz10 BK243.out; obtain ⟨hfz33_0, hfz33_1, hfz33_2, hfz33_3, hfz33_4, hfz33_5, hfz33_6, hfz33_7, hfz33_8, hfz33_9⟩ := fz10 BK243.out; obtain ⟨Ao34, co34, eo34⟩ := Kd.S_slice HO233.out; subst eo34; obtain ⟨Ao35, co35, eo35⟩ := Kd.S_slice HO237.out; subst eo35))
   have n0_ : Aside0 (Kd.S k39 39 ((((((((((w30.setCell ⟨gb243, 0, none⟩ (.int .i64 t229)).setCell ⟨gb243, 1, none⟩ (.int .i64 t230)).setCell ⟨gb243, 2, none⟩ (.slice Ao34 t231.length co34)).setCell ⟨gb243, 3, none⟩ (.int .i64 t234)).setCell ⟨gb243, 4, none⟩ (.slice Ao35 t235.length co35)).setCell ⟨gb243, 5, none⟩ (.bool t238)).setCell ⟨gb243, 6, none⟩ (.int .i64 t239)).setCell ⟨gb243, 7, none⟩ (.bool t240)).setCell ⟨gb243, 8, none⟩ (.int .i64 t241)).setCell ⟨gb243, 9, none⟩ (.bool t242)) w.heap.size (fun k_ => some k_ ≠ (.slice Ao26 t220.length co26 : Value).ownBlock ∧ some k_ ≠ (.slice Ao34 t231.length co34 : Value).ownBlock ∧ some k_ ≠ (.slice Ao35 t235.length co35 : Value).ownBlock) (.slice Ao25 t216.length co25) t216) := ⟨by (with_reducible repeat (first | apply Kd.S_alloc | apply Kd.S_drewN | apply Kd.S_drew)); exact Kd.S_mono (Kd.S_far (p := ⟨gb243, 9, none⟩) (Kd.S_far (p := ⟨gb243, 8, none⟩) (Kd.S_far (p := ⟨gb243, 7, none⟩) (Kd.S_far (p := ⟨gb243, 6, none⟩) (Kd.S_far (p := ⟨gb243, 5, none⟩) (Kd.S_far (p := ⟨gb243, 4, none⟩) (Kd.S_far (p := ⟨gb243, 3, none⟩) (Kd.S_far (p := ⟨gb243, 2, none⟩) (Kd.S_far (p := ⟨gb243, 1, none⟩) (Kd.S_far (p := ⟨gb243, 0, none⟩) (Kd.S_types HO218.out BK243.out (by decide)) (fun _ hk => hk.2) (.int .i64 t229)) (fun _ hk => hk.2) (.int .i64 t230)) (fun _ hk => hk.2) (.slice Ao34 t231.length co34)) (fun _ hk => hk.2) (.int .i64 t234)) (fun _ hk => hk.2) (.slice Ao35 t235.length co35)) (fun _ hk => hk.2) (.bool t238)) (fun _ hk => hk.2) (.int .i64 t239)) (fun _ hk => hk.2) (.bool t240)) (fun _ hk => hk.2) (.int .i64 t241)) (fun _ hk => hk.2) (.bool t242)) (fun _ hk => ⟨hk.1.1.1, ⟨hk.1.1.2, hk.1.2⟩⟩)⟩
   have n1_ : Aside0 (Kd.S k39 39 ((((((((((w30.setCell ⟨gb243, 0, none⟩ (.int .i64 t229)).setCell ⟨gb243, 1, none⟩ (.int .i64 t230)).setCell ⟨gb243, 2, none⟩ (.slice Ao34 t231.length co34)).setCell ⟨gb243, 3, none⟩ (.int .i64 t234)).setCell ⟨gb243, 4, none⟩ (.slice Ao35 t235.length co35)).setCell ⟨gb243, 5, none⟩ (.bool t238)).setCell ⟨gb243, 6, none⟩ (.int .i64 t239)).setCell ⟨gb243, 7, none⟩ (.bool t240)).setCell ⟨gb243, 8, none⟩ (.int .i64 t241)).setCell ⟨gb243, 9, none⟩ (.bool t242)) w.heap.size (fun k_ => some k_ ≠ (.slice Ao25 t216.length co25 : Value).ownBlock ∧ some k_ ≠ (.slice Ao34 t231.length co34 : Value).ownBlock ∧ some k_ ≠ (.slice Ao35 t235.length co35 : Value).ownBlock) (.slice Ao26 t220.length co26) t220) := ⟨by (with_reducible repeat (first | apply Kd.S_alloc | apply Kd.S_drewN | apply Kd.S_drew)); exact Kd.S_mono (Kd.S_far (p := ⟨gb243, 9, none⟩) (Kd.S_far (p := ⟨gb243, 8, none⟩) (Kd.S_far (p := ⟨gb243, 7, none⟩) (Kd.S_far (p := ⟨gb243, 6, none⟩) (Kd.S_far (p := ⟨gb243, 5, none⟩) (Kd.S_far (p := ⟨gb243, 4, none⟩) (Kd.S_far (p := ⟨gb243, 3, none⟩) (Kd.S_far (p := ⟨gb243, 2, none⟩) (Kd.S_far (p := ⟨gb243, 1, none⟩) (Kd.S_far (p := ⟨gb243, 0, none⟩) (Kd.S_types HO222.out BK243.out (by decide)) (fun _ hk => hk.2) (.int .i64 t229)) (fun _ hk => hk.2) (.int .i64 t230)) (fun _ hk => hk.2) (.slice Ao34 t231.length co34)) (fun _ hk => hk.2) (.int .i64 t234)) (fun _ hk => hk.2) (.slice Ao35 t235.length co35)) (fun _ hk => hk.2) (.bool t238)) (fun _ hk => hk.2) (.int .i64 t239)) (fun _ hk => hk.2) (.bool t240)) (fun _ hk => hk.2) (.int .i64 t241)) (fun _ hk => hk.2) (.bool t242)) (fun _ hk => ⟨hk.1.1.1, ⟨hk.1.1.2, hk.1.2⟩⟩)⟩
   have n2_ : Aside0 (Kd.S k39 39 ((((((((((w30.setCell ⟨gb243, 0, none⟩ (.int .i64 t229)).setCell ⟨gb243, 1, none⟩ (.int .i64 t230)).setCell ⟨gb243, 2, none⟩ (.slice Ao34 t231.length co34)).setCell ⟨gb243, 3, none⟩ (.int .i64 t234)).setCell ⟨gb243, 4, none⟩ (.slice Ao35 t235.length co35)).setCell ⟨gb243, 5, none⟩ (.bool t238)).setCell ⟨gb243, 6, none⟩ (.int .i64 t239)).setCell ⟨gb243, 7, none⟩ (.bool t240)).setCell ⟨gb243, 8, none⟩ (.int .i64 t241)).setCell ⟨gb243, 9, none⟩ (.bool t242)) w.heap.size (fun k_ => some k_ ≠ (.slice Ao25 t216.length co25 : Value).ownBlock ∧ some k_ ≠ (.slice Ao26 t220.length co26 : Value).ownBlock ∧ some k_ ≠ (.slice Ao35 t235.length co35 : Value).ownBlock) (.slice Ao34 t231.length co34) t231) := ⟨by (with_reducible repeat (first | apply Kd.S_alloc | apply Kd.S_drewN | apply Kd.S_drew)); exact Kd.S_mono (Kd.S_far (p := ⟨gb243, 9, none⟩) (Kd.S_far (p := ⟨gb243, 8, none⟩) (Kd.S_far (p := ⟨gb243, 7, none⟩) (Kd.S_far (p := ⟨gb243, 6, none⟩) (Kd.S_far (p := ⟨gb243, 5, none⟩) (Kd.S_far (p := ⟨gb243, 4, none⟩) (Kd.S_far (p := ⟨gb243, 3, none⟩) (Kd.S_far (p := ⟨gb243, 2, none⟩) (Kd.S_far (p := ⟨gb243, 1, none⟩) (Kd.S_far (p := ⟨gb243, 0, none⟩) (Kd.S_types HO233.out BK243.out (by decide)) (fun _ hk => hk.2) (.int .i64 t229)) (fun _ hk => hk.2) (.int .i64 t230)) (fun _ hk => hk.2) (.slice Ao34 t231.length co34)) (fun _ hk => hk.2) (.int .i64 t234)) (fun _ hk => hk.2) (.slice Ao35 t235.length co35)) (fun _ hk => hk.2) (.bool t238)) (fun _ hk => hk.2) (.int .i64 t239)) (fun _ hk => hk.2) (.bool t240)) (fun _ hk => hk.2) (.int .i64 t241)) (fun _ hk => hk.2) (.bool t242)) (fun _ hk => ⟨hk.1.1.2, ⟨hk.1.2, hk.1.1.1⟩⟩)⟩
   have n3_ : Aside0 (Kd.S k39 39 ((((((((((w30.setCell ⟨gb243, 0, none⟩ (.int .i64 t229)).setCell ⟨gb243, 1, none⟩ (.int .i64 t230)).setCell ⟨gb243, 2, none⟩ (.slice Ao34 t231.length co34)).setCell ⟨gb243, 3, none⟩ (.int .i64 t234)).setCell ⟨gb243, 4, none⟩ (.slice Ao35 t235.length co35)).setCell ⟨gb243, 5, none⟩ (.bool t238)).setCell ⟨gb243, 6, none⟩ (.int .i64 t239)).setCell ⟨gb243, 7, none⟩ (.bool t240)).setCell ⟨gb243, 8, none⟩ (.int .i64 t241)).setCell ⟨gb243, 9, none⟩ (.bool t242)) w.heap.size (fun k_ => some k_ ≠ (.slice Ao25 t216.length co25 : Value).ownBlock ∧ some k_ ≠ (.slice Ao26 t220.length co26 : Value).ownBlock ∧ some k_ ≠ (.slice Ao34 t231.length co34 : Value).ownBlock) (.slice Ao35 t235.length co35) t235) := ⟨by (with_reducible repeat (first | apply Kd.S_alloc | apply Kd.S_drewN | apply Kd.S_drew)); exact Kd.S_mono (Kd.S_far (p := ⟨gb243, 9, none⟩) (Kd.S_far (p := ⟨gb243, 8, none⟩) (Kd.S_far (p := ⟨gb243, 7, none⟩) (Kd.S_far (p := ⟨gb243, 6, none⟩) (Kd.S_far (p := ⟨gb243, 5, none⟩) (Kd.S_far (p := ⟨gb243, 4, none⟩) (Kd.S_far (p := ⟨gb243, 3, none⟩) (Kd.S_far (p := ⟨gb243, 2, none⟩) (Kd.S_far (p := ⟨gb243, 1, none⟩) (Kd.S_far (p := ⟨gb243, 0, none⟩) (Kd.S_types HO237.out BK243.out (by decide)) (fun _ hk => hk.2) (.int .i64 t229)) (fun _ hk => hk.2) (.int .i64 t230)) (fun _ hk => hk.2) (.slice Ao34 t231.length co34)) (fun _ hk => hk.2) (.int .i64 t234)) (fun _ hk => hk.2) (.slice Ao35 t235.length co35)) (fun _ hk => hk.2) (.bool t238)) (fun _ hk => hk.2) (.int .i64 t239)) (fun _ hk => hk.2) (.bool t240)) (fun _ hk => hk.2) (.int .i64 t241)) (fun _ hk => hk.2) (.bool t242)) (fun _ hk => ⟨hk.1.1.2, ⟨hk.1.2, hk.1.1.1⟩⟩)⟩
   have n4_ : Aside0 (((((((((((w30.setCell ⟨gb243, 0, none⟩ (.int .i64 t229)).setCell ⟨gb243, 1, none⟩ (.int .i64 t230)).setCell ⟨gb243, 2, none⟩ (.slice Ao34 t231.length co34)).setCell ⟨gb243, 3, none⟩ (.int .i64 t234)).setCell ⟨gb243, 4, none⟩ (.slice Ao35 t235.length co35)).setCell ⟨gb243, 5, none⟩ (.bool t238)).setCell ⟨gb243, 6, none⟩ (.int .i64 t239)).setCell ⟨gb243, 7, none⟩ (.bool t240)).setCell ⟨gb243, 8, none⟩ (.int .i64 t241)).setCell ⟨gb243, 9, none⟩ (.bool t242)).heap[gb206]? = some (.cells #[.int .i64 a0_0, .int .i64 a0_1, .int .i64 a0_2, .int .i64 a0_3, .int .i64 a0_4] 60 (0, 0))) := ⟨by (with_reducible repeat (first | refine zq1 ?_ _ | refine zq2 ?_ | refine zq3 ?_ _)); refine fa10 ?_ NB206_243.out; (with_reducible repeat (first | refine zq1 ?_ _ | refine zq2 ?_ | refine zq3 ?_ _)); exact BK206.out⟩
   have n5_ : Aside0 (((((((((((w30.setCell ⟨gb243, 0, none⟩ (.int .i64 t229)).setCell ⟨gb243, 1, none⟩ (.int .i64 t230)).setCell ⟨gb243, 2, none⟩ (.slice Ao34 t231.length co34)).setCell ⟨gb243, 3, none⟩ (.int .i64 t234)).setCell ⟨gb243, 4, none⟩ (.slice Ao35 t235.length co35)).setCell ⟨gb243, 5, none⟩ (.bool t238)).setCell ⟨gb243, 6, none⟩ (.int .i64 t239)).setCell ⟨gb243, 7, none⟩ (.bool t240)).setCell ⟨gb243, 8, none⟩ (.int .i64 t241)).setCell ⟨gb243, 9, none⟩ (.bool t242)).heap[gb207]? = some (.cells #[.int .i64 a1_0, .int .i64 a1_1, .slice A1_2 l1_2.length c1_2, .int .i64 a1_3, .slice A1_4 l1_4.length c1_4, .bool a1_5, .int .i64 a1_6, .bool a1_7, .int .i64 a1_8, .bool a1_9] 63 (0, 0))) := ⟨by (with_reducible repeat (first | refine zq1 ?_ _ | refine zq2 ?_ | refine zq3 ?_ _)); refine fa10 ?_ NB207_243.out; (with_reducible repeat (first | refine zq1 ?_ _ | refine zq2 ?_ | refine zq3 ?_ _)); exact BK207.out⟩
   have n6_ : Aside0 (((((((((((w30.setCell ⟨gb243, 0, none⟩ (.int .i64 t229)).setCell ⟨gb243, 1, none⟩ (.int .i64 t230)).setCell ⟨gb243, 2, none⟩ (.slice Ao34 t231.length co34)).setCell ⟨gb243, 3, none⟩ (.int .i64 t234)).setCell ⟨gb243, 4, none⟩ (.slice Ao35 t235.length co35)).setCell ⟨gb243, 5, none⟩ (.bool t238)).setCell ⟨gb243, 6, none⟩ (.int .i64 t239)).setCell ⟨gb243, 7, none⟩ (.bool t240)).setCell ⟨gb243, 8, none⟩ (.int .i64 t241)).setCell ⟨gb243, 9, none⟩ (.bool t242)).heap[gb243]? = some (.cells #[.int .i64 t229, .int .i64 t230, .slice Ao34 t231.length co34, .int .i64 t234, .slice Ao35 t235.length co35, .bool t238, .int .i64 t239, .bool t240, .int .i64 t241, .bool t242] 69 (0, 0))) := ⟨by (with_reducible repeat (first | refine zq1 ?_ _ | refine zq2 ?_ | refine zq3 ?_ _)); apply pu10; (with_reducible repeat (first | refine zq1 ?_ _ | refine zq2 ?_ | refine zq3 ?_ _)); exact BK243.out⟩
   have n7_ : Aside0 (Below w.heap.size w ((((((((((w30.setCell ⟨gb243, 0, none⟩ (.int .i64 t229)).setCell ⟨gb243, 1, none⟩ (.int .i64 t230)).setCell ⟨gb243, 2, none⟩ (.slice Ao34 t231.length co34)).setCell ⟨gb243, 3, none⟩ (.int .i64 t234)).setCell ⟨gb243, 4, none⟩ (.slice Ao35 t235.length co35)).setCell ⟨gb243, 5, none⟩ (.bool t238)).setCell ⟨gb243, 6, none⟩ (.int .i64 t239)).setCell ⟨gb243, 7, none⟩ (.bool t240)).setCell ⟨gb243, 8, none⟩ (.int .i64 t241)).setCell ⟨gb243, 9, none⟩ (.bool t242))) := ⟨by repeat (first | (with_reducible first | exact HB.out | apply zq7 | apply zq8 | apply zq9 | refine zr1 ?_ GE206.out | refine zr1 ?_ GE207.out | refine zr1 ?_ GE243.out) | exact HB.out)⟩
   (try clear HO218)
   (try clear HO222)
   (try clear HO233)
   (try clear HO237)
   (try clear BK206)
   (try clear BK207)
   (try clear BK243)
   (try clear HB)
   generalize ((((((((((w30.setCell ⟨gb243, 0, none⟩ (.int .i64 t229)).setCell ⟨gb243, 1, none⟩ (.int .i64 t230)).setCell ⟨gb243, 2, none⟩ (.slice Ao34 t231.length co34)).setCell ⟨gb243, 3, none⟩ (.int .i64 t234)).setCell ⟨gb243, 4, none⟩ (.slice Ao35 t235.length co35)).setCell ⟨gb243, 5, none⟩ (.bool t238)).setCell ⟨gb243, 6, none⟩ (.int .i64 t239)).setCell ⟨gb243, 7, none⟩ (.bool t240)).setCell ⟨gb243, 8, none⟩ (.int .i64 t241)).setCell ⟨gb243, 9, none⟩ (.bool t242)) = w36 at n0_ n1_ n2_ n3_ n4_ n5_ n6_ n7_ ⊢
   have HO218 := n0_
   have HO222 := n1_
   have HO233 := n2_
   have HO237 := n3_
   have BK206 := n4_
   have BK207 := n5_
   have BK243 := n6_
   have HB := n7_
   clear n0_ n1_ n2_ n3_ n4_ n5_ n6_ n7_
   replace HO218 := mk_ (Kd.S_drew HO218.out)
   replace HO222 := mk_ (Kd.S_drew HO222.out)
   replace HO233 := mk_ (Kd.S_drew HO233.out)
   replace HO237 := mk_ (Kd.S_drew HO237.out)
   replace BK206 := mk_ (zq2 BK206.out)
   replace BK207 := mk_ (zq2 BK207.out)
   replace BK243 := mk_ (zq2 BK243.out)
   replace HB := mk_ (zq9 HB.out)
   refine start_ (n := 5) (S := fun w' => w'.cell? ⟨gb206, 0, none⟩ = some (.int .i64 a0_0) ∧ w'.cell? ⟨gb206, 1, none⟩ = some (.int .i64 a0_1) ∧ w'.cell? ⟨gb206, 2, none⟩ = some (.int .i64 a0_2) ∧ w'.cell? ⟨gb206, 3, none⟩ = some (.int .i64 a0_3) ∧ w'.cell? ⟨gb206, 4, none⟩ = some (.int .i64 a0_4) ∧ w'.cell? ⟨gb243, 0, none⟩ = some (.int .i64 t229) ∧ w'.cell? ⟨gb243, 1, none⟩ = some (.int .i64 t230) ∧ w'.cell? ⟨gb243, 2, none⟩ = some (.slice Ao34 t231.length co34) ∧ w'.cell? ⟨gb243, 3, none⟩ = some (.int .i64 t234) ∧ w'.cell? ⟨gb243, 4, none⟩ = some (.slice Ao35 t235.length co35) ∧ w'.cell? ⟨gb243, 5, none⟩ = some (.bool t238) ∧ w'.cell? ⟨gb243, 6, none⟩ = some (.int .i64 t239) ∧ w'.cell? ⟨gb243, 7, none⟩ = some (.bool t240) ∧ w'.cell? ⟨gb243, 8, none⟩ = some (.int .i64 t241) ∧ w'.cell? ⟨gb243, 9, none⟩ = some (.bool t242)) (ds := []) #[false, false, false, false, false] (by kernel_rfl) rfl rfl ⟨(zr4 BK206.out 0).trans rfl, (zr4 BK206.out 1).trans rfl, (zr4 BK206.out 2).trans rfl, (zr4 BK206.out 3).trans rfl, (zr4 BK206.out 4).trans rfl, (zr4 BK243.out 0).trans rfl, (zr4 BK243.out 1).trans rfl, (zr4 BK243.out 2).trans rfl, (zr4 BK243.out 3).trans rfl, (zr4 BK243.out 4).trans rfl, (zr4 BK243.out 5).trans rfl, (zr4 BK243.out 6).trans rfl, (zr4 BK243.out 7).trans rfl, (zr4 BK243.out 8).trans rfl, (zr4 BK243.out 9).trans rfl⟩ (fun hHeld => ?_)
   generalize w36.drew = w37 at HO218 HO222 HO233 HO237 BK206 BK207 BK243 HB hHeld ⊢
   refine take_ (i := 0) (N := some 21) (v := ?_) (a' := ?_) #[true, false, false, false, false] rfl rfl (by kernel_rfl) (fun _ _ _ h => h) (Or.inl ⟨by rfl, ?_⟩) hHeld ?_ ?_
   rotate_left
   · rintro w' ⟨s0, s1, s2, s3, s4, s5, s6, s7, s8, s9, s10, s11, s12, s13, s14⟩
     go_simp
     with_reducible rfl
   rotate_left
   · simp only [Act.put, zs1, zs2, zs3, i64_w, i32_w]
     rfl
   refine take_ (i := 2) (N := some 23) (v := ?_) (a' := ?_) #[true, false, true, false, false] rfl rfl (by kernel_rfl) (fun _ _ _ h => h) (Or.inl ⟨by rfl, ?_⟩) hHeld ?_ ?_
   rotate_left
   · rintro w' ⟨s0, s1, s2, s3, s4, s5, s6, s7, s8, s9, s10, s11, s12, s13, s14⟩
     go_simp
     with_reducible rfl
   rotate_left
   · simp only [Act.put, zs1, zs2, zs3, i64_w, i32_w]
     rfl
   refine one_ (i := 1) (N := some 22) #[true, true, true, false, false] rfl rfl (by kernel_rfl) (by decide) (fun K hK => ?_)
   refine goes_ Try.func49 (by kernel_rfl) rfl #[.agg #[.int .i64 a0_0, .int .i64 a0_1, .int .i64 a0_2, .int .i64 a0_3, .int .i64 a0_4]] (by rfl) rfl rfl (by (try simp only [List.map_toArray, List.map_cons, List.map_nil]); first | done | rfl | (simp only [List.length_drop, List.length_take]; rfl)) ?_
   with_reducible refine (laws_toCfgOpts.calls a0_0 a0_1 a0_2 a0_3 a0_4 t244 t245 t246 t247 t248 _ A14.out).mono ?_
   rintro e w38 ⟨rfl, hb⟩
   refine ⟨_, rfl, ?_⟩
   replace HO218 := mk_ (Kd.S_below (by (with_reducible repeat (first | apply Kd.S_alloc | apply Kd.S_drewN | apply Kd.S_drew)); exact HO218.out) hb)
   replace HO222 := mk_ (Kd.S_below (by (with_reducible repeat (first | apply Kd.S_alloc | apply Kd.S_drewN | apply Kd.S_drew)); exact HO222.out) hb)
   replace HO233 := mk_ (Kd.S_below (by (with_reducible repeat (first | apply Kd.S_alloc | apply Kd.S_drewN | apply Kd.S_drew)); exact HO233.out) hb)
   replace HO237 := mk_ (Kd.S_below (by (with_reducible repeat (first | apply Kd.S_alloc | apply Kd.S_drewN | apply Kd.S_drew)); exact HO237.out) hb)
   replace BK206 := mk_ (zq6 (by exact BK206.out) hb)
   replace BK207 := mk_ (zq6 (by exact BK207.out) hb)
   replace BK243 := mk_ (zq6 (by exact BK243.out) hb)
   replace HB := mk_ (zr3 (by repeat (first | (with_reducible first | exact HB.out | apply zq7 | apply zq8 | apply zq9 | refine zr1 ?_ GE206.out | refine zr1 ?_ GE207.out | refine zr1 ?_ GE243.out) | exact HB.out)) hb)
   (try clear hb)
   (try clear hb2)
   (try clear hk)
   (try clear hi)
   refine hK.out _ _ ⟨(zr4 BK206.out 0).trans rfl, (zr4 BK206.out 1).trans rfl, (zr4 BK206.out 2).trans rfl, (zr4 BK206.out 3).trans rfl, (zr4 BK206.out 4).trans rfl, (zr4 BK243.out 0).trans rfl, (zr4 BK243.out 1).trans rfl, (zr4 BK243.out 2).trans rfl, (zr4 BK243.out 3).trans rfl, (zr4 BK243.out 4).trans rfl, (zr4 BK243.out 5).trans rfl, (zr4 BK243.out 6).trans rfl, (zr4 BK243.out 7).trans rfl, (zr4 BK243.out 8).trans rfl, (zr4 BK243.out 9).trans rfl⟩ (fun hHeld => ?_)
   clear hK K
   refine norm_ (a' := ?_) ?_ ?_
   rotate_left
   · show Act.put _ (some 22) _ = _
     simp only [Act.put, zs1, zs2, zs3, i64_w, i32_w]
     rfl
   refine one_ (i := 3) (N := some 24) #[true, true, true, true, false] rfl rfl (by kernel_rfl) (by decide) (fun K hK => ?_)
   refine goes_ Try.func51 (by kernel_rfl) rfl #[.agg #[.int .i64 t244, .int .i64 t245, .int .i64 t246, .int .i64 t247, .int .i64 t248], .agg #[.int .i64 t229, .int .i64 t230, .slice Ao34 t231.length co34, .int .i64 t234, .slice Ao35 t235.length co35, .bool t238, .int .i64 t239, .bool t240, .int .i64 t241, .bool t242]] (by rfl) rfl rfl (by (try simp only [List.map_toArray, List.map_cons, List.map_nil]); first | done | rfl | (simp only [List.length_drop, List.length_take]; rfl)) ?_
   with_reducible refine (impl_TxOk.calls k t244 t245 t246 t247 t248 t229 t230 _ _ t231 t234 _ _ t235 t238 t239 t240 t241 t242 t249 _ ?side1 ?side2 ?side3 ?side4 A15.out).mono ?_
   (case side1 => repeat (first | exact (Kd.S_reads' HO233.out).2.2 | (with_reducible refine Kd.C_alloc ?_ _) | (with_reducible refine Kd.C_drewN ?_ _) | (with_reducible refine Kd.C_drew ?_)))
   (case side2 => exact (Kd.S_reads' HO233.out).2.1)
   (case side3 => repeat (first | exact (Kd.S_reads' HO237.out).2.2 | (with_reducible refine Kd.C_alloc ?_ _) | (with_reducible refine Kd.C_drewN ?_ _) | (with_reducible refine Kd.C_drew ?_)))
   (case side4 => exact (Kd.S_reads' HO237.out).2.1)
   rintro e w39 ⟨rfl, hb⟩
   refine ⟨_, rfl, ?_⟩
   replace HO218 := mk_ (Kd.S_below (by (with_reducible repeat (first | apply Kd.S_alloc | apply Kd.S_drewN | apply Kd.S_drew)); exact HO218.out) hb)
   replace HO222 := mk_ (Kd.S_below (by (with_reducible repeat (first | apply Kd.S_alloc | apply Kd.S_drewN | apply Kd.S_drew)); exact HO222.out) hb)
   replace HO233 := mk_ (Kd.S_below (by (with_reducible repeat (first | apply Kd.S_alloc | apply Kd.S_drewN | apply Kd.S_drew)); exact HO233.out) hb)
   replace HO237 := mk_ (Kd.S_below (by (with_reducible repeat (first | apply Kd.S_alloc | apply Kd.S_drewN | apply Kd.S_drew)); exact HO237.out) hb)
   replace BK206 := mk_ (zq6 (by exact BK206.out) hb)
   replace BK207 := mk_ (zq6 (by exact BK207.out) hb)
   replace BK243 := mk_ (zq6 (by exact BK243.out) hb)
   replace HB := mk_ (zr3 (by repeat (first | (with_reducible first | exact HB.out | apply zq7 | apply zq8 | apply zq9 | refine zr1 ?_ GE206.out | refine zr1 ?_ GE207.out | refine zr1 ?_ GE243.out) | exact HB.out)) hb)
   (try clear hb)
   (try clear hb2)
   (try clear hk)
   (try clear hi)
   refine hK.out _ _ ⟨(zr4 BK206.out 0).trans rfl, (zr4 BK206.out 1).trans rfl, (zr4 BK206.out 2).trans rfl, (zr4 BK206.out 3).trans rfl, (zr4 BK206.out 4).trans rfl, (zr4 BK243.out 0).trans rfl, (zr4 BK243.out 1).trans rfl, (zr4 BK243.out 2).trans rfl, (zr4 BK243.out 3).trans rfl, (zr4 BK243.out 4).trans rfl, (zr4 BK243.out 5).trans rfl, (zr4 BK243.out 6).trans rfl, (zr4 BK243.out 7).trans rfl, (zr4 BK243.out 8).trans rfl, (zr4 BK243.out 9).trans rfl⟩ (fun hHeld => ?_)
   clear hK K
   refine norm_ (a' := ?_) ?_ ?_
   rotate_left
   · show Act.put _ (some 24) _ = _
     simp only [Act.put, zs1, zs2, zs3, i64_w, i32_w]
     rfl
   refine pure_ (i := 4) (N := some 8) (v := ?_) (a' := ?_) #[true, true, true, true, true] rfl rfl (by kernel_rfl) (fun _ _ _ h => h) (Or.inl ⟨by rfl, ?_⟩) ?_ ?_
   rotate_left
   · intro w'
     go_simp
     with_reducible rfl
   rotate_left
   · simp only [Act.put, zs1, zs2, zs3, i64_w, i32_w]
     rfl
   refine done_ (by kernel_rfl) ?_
   try go_wp2
   go_ret
   exact ⟨by first | rfl | (simp [errW_none, errW_some] <;> rfl) | (simp [*, errW_none, errW_some] <;> rfl), by repeat (first | (with_reducible first | exact HB.out | apply zq7 | apply zq8 | apply zq9 | refine zr1 ?_ GE206.out | refine zr1 ?_ GE207.out | refine zr1 ?_ GE243.out) | exact HB.out)⟩
 rw [if_neg c16] at H
 have c16b0 : (t249 != t228) = false := by simpa using c16
 (try (have c16b1 : decide (t249 = t228) = true := by simpa using c16))
 (try (have c16b2 : (t249 == t228) = true := by simpa using c16))
 clear c16
 replace H := Option.bind_eq_some_iff.mp H
 obtain ⟨⟨t250, t251, t252, t255, t256, t259, t260, t261, t262, t263⟩, A400, H⟩ := H
 try dsimp only at H
 have A40 := mk_ A400
 clear A400
 replace H := Option.bind_eq_some_iff.mp H
 obtain ⟨t264, A410, H⟩ := H
 try dsimp only at H
 have A41 := mk_ A410
 clear A410
 by_cases c42 : t264 = true
 · subst c42
   have H1 : (some true) = some r := by rw [if_pos rfl] at H; exact H
   clear H
   have H := H1
   clear H1
   obtain rfl := Option.some.inj H
   go_enter Try.func10, Try.ntmps10
   try go_wp2_with (first | ((with_reducible refine gate_dst (N := 2) rfl ?_); refine box_event ?hg (N := 2) ?hd (cs := #[.int .i64 a0_0, .int .i64 a0_1, .int .i64 a0_2, .int .i64 a0_3, .int .i64 a0_4]) (t := 60) ?hr ?_; (case hd => rfl); (case hg => rfl); (case hr => first | (go_simp; done) | (go_simp; rfl)); intro gb206 hg w43 hbox hb; have BK206 := mk_ (hbox); have GW206 := mk_ ((by rw [hg]; exact (zr2 (by repeat (first | (with_reducible first | exact HB.out | apply zq7 | apply zq8 | apply zq9) | exact HB.out))) : w.heap.size ≤ gb206)); have GE206 := GW206; replace HB := mk_ (zr3 (by repeat (first | (with_reducible first | exact HB.out | apply zq7 | apply zq8 | apply zq9) | exact HB.out)) hb); clear hb hbox hg) | ((with_reducible refine gate_dst (N := 3) rfl ?_); refine box_event ?hg (N := 3) ?hd (cs := #[.int .i64 a1_0, .int .i64 a1_1, .slice A1_2 l1_2.length c1_2, .int .i64 a1_3, .slice A1_4 l1_4.length c1_4, .bool a1_5, .int .i64 a1_6, .bool a1_7, .int .i64 a1_8, .bool a1_9]) (t := 63) ?hr ?_; (case hd => rfl); (case hg => rfl); (case hr => first | (go_simp; done) | (go_simp; rfl)); intro gb207 hg w44 hbox hb; have BK207 := mk_ (hbox); have GW207 := mk_ ((by rw [hg]; exact (zr2 (by repeat (first | (with_reducible first | exact HB.out | apply zq7 | apply zq8 | apply zq9 | refine zr1 ?_ GE206.out) | exact HB.out))) : w.heap.size ≤ gb207)); have GE207 := GW207; replace HB := mk_ (zr3 (by repeat (first | (with_reducible first | exact HB.out | apply zq7 | apply zq8 | apply zq9 | refine zr1 ?_ GE206.out) | exact HB.out)) hb); have NB206_207 := mk_ ((by rw [hg]; exact zm2 (zr6 (by exact BK206.out)) : gb206 ≠ gb207)); replace BK206 := mk_ (zq6 (by exact BK206.out) hb); have NB207_206 := mk_ NB206_207.out.symm; clear hb hbox hg; have hnb45 := NB207_206.out; have hnc45 := NB206_207.out; obtain ⟨hcz46_0, hcz46_1, hcz46_2, hcz46_3, hcz46_4, hcz46_5, hcz46_6, hcz46_7, hcz46_8, hcz46_9⟩ := cz10 BK207.out; obtain ⟨hfz46_0, hfz46_1, hfz46_2, hfz46_3, hfz46_4, hfz46_5, hfz46_6, hfz46_7, hfz46_8, hfz46_9⟩ := fz10 BK207.out) | ((with_reducible refine gate_callee (f := 47) rfl ?_); refine goesL_ (some 11) rfl rfl Try.func47 (by kernel_rfl) rfl #[.agg #[.int .i64 a1_0, .int .i64 a1_1, .slice A1_2 l1_2.length c1_2, .int .i64 a1_3, .slice A1_4 l1_4.length c1_4, .bool a1_5, .int .i64 a1_6, .bool a1_7, .int .i64 a1_8, .bool a1_9], .int .i64 1048576] rfl (by (try simp only [List.map_toArray, List.map_cons, List.map_nil]); first | done | rfl | (simp only [List.length_drop, List.length_take]; rfl)) ?_; (with_reducible refine (laws_szTxState.calls k a1_0 a1_1 _ _ l1_2 a1_3 _ _ l1_4 a1_5 a1_6 a1_7 a1_8 a1_9 1048576 t208 _ ?side1 ?side2 ?side3 ?side4 A3.out).mono ?_); (case side1 => repeat (first | exact (Kd.C_below HR1_2.out HB.out) | (with_reducible refine Kd.C_alloc ?_ _) | (with_reducible refine Kd.C_drewN ?_ _) | (with_reducible refine Kd.C_drew ?_))); (case side2 => exact HC1_2.out); (case side3 => repeat (first | exact (Kd.C_below HR1_4.out HB.out) | (with_reducible refine Kd.C_alloc ?_ _) | (with_reducible refine Kd.C_drewN ?_ _) | (with_reducible refine Kd.C_drew ?_))); (case side4 => exact HC1_4.out); rintro e w47 ⟨rfl, hb⟩; refine ⟨_, rfl, ?_⟩; replace BK206 := mk_ (zq6 (by exact BK206.out) hb); replace BK207 := mk_ (zq6 (by exact BK207.out) hb); replace HB := mk_ (zr3 (by repeat (first | (with_reducible first | exact HB.out | apply zq7 | apply zq8 | apply zq9 | refine zr1 ?_ GE206.out | refine zr1 ?_ GE207.out) | exact HB.out)) hb); (try clear hb); (try clear hb2); (try clear hk); (try clear hi)))
   replace BK206 := mk_ (zq2 BK206.out)
   replace BK207 := mk_ (zq2 BK207.out)
   replace HB := mk_ (zq9 HB.out)
   refine start_ (n := 6) (S := fun w' => w'.cell? ⟨gb206, 0, none⟩ = some (.int .i64 a0_0) ∧ w'.cell? ⟨gb206, 1, none⟩ = some (.int .i64 a0_1) ∧ w'.cell? ⟨gb206, 2, none⟩ = some (.int .i64 a0_2) ∧ w'.cell? ⟨gb206, 3, none⟩ = some (.int .i64 a0_3) ∧ w'.cell? ⟨gb206, 4, none⟩ = some (.int .i64 a0_4) ∧ w'.cell? ⟨gb207, 0, none⟩ = some (.int .i64 a1_0) ∧ w'.cell? ⟨gb207, 1, none⟩ = some (.int .i64 a1_1) ∧ w'.cell? ⟨gb207, 2, none⟩ = some (.slice A1_2 l1_2.length c1_2) ∧ w'.cell? ⟨gb207, 3, none⟩ = some (.int .i64 a1_3) ∧ w'.cell? ⟨gb207, 4, none⟩ = some (.slice A1_4 l1_4.length c1_4) ∧ w'.cell? ⟨gb207, 5, none⟩ = some (.bool a1_5) ∧ w'.cell? ⟨gb207, 6, none⟩ = some (.int .i64 a1_6) ∧ w'.cell? ⟨gb207, 7, none⟩ = some (.bool a1_7) ∧ w'.cell? ⟨gb207, 8, none⟩ = some (.int .i64 a1_8) ∧ w'.cell? ⟨gb207, 9, none⟩ = some (.bool a1_9)) (ds := []) (bm 6 0) (by kernel_rfl) rfl rfl ⟨(zr4 BK206.out 0).trans rfl, (zr4 BK206.out 1).trans rfl, (zr4 BK206.out 2).trans rfl, (zr4 BK206.out 3).trans rfl, (zr4 BK206.out 4).trans rfl, (zr4 BK207.out 0).trans rfl, (zr4 BK207.out 1).trans rfl, (zr4 BK207.out 2).trans rfl, (zr4 BK207.out 3).trans rfl, (zr4 BK207.out 4).trans rfl, (zr4 BK207.out 5).trans rfl, (zr4 BK207.out 6).trans rfl, (zr4 BK207.out 7).trans rfl, (zr4 BK207.out 8).trans rfl, (zr4 BK207.out 9).trans rfl⟩ (fun hHeld => ?_)
   generalize w47.drew = w48 at BK206 BK207 HB hHeld ⊢
   refine take_ (i := 0) (N := some 14) (v := ?_) (a' := ?_) (bm 6 1) rfl rfl (by kernel_rfl) (fun _ _ _ h => h) (Or.inl ⟨by rfl, ?_⟩) hHeld ?_ ?_
   rotate_left
   · rintro w' ⟨s0, s1, s2, s3, s4, s5, s6, s7, s8, s9, s10, s11, s12, s13, s14⟩
     go_simp
     with_reducible rfl
   rotate_left
   · simp only [Act.put, zs1, zs2, zs3, i64_w, i32_w]
     rfl
   refine take_ (i := 2) (N := some 16) (v := ?_) (a' := ?_) (bm 6 5) rfl rfl (by kernel_rfl) (fun _ _ _ h => h) (Or.inl ⟨by rfl, ?_⟩) hHeld ?_ ?_
   rotate_left
   · rintro w' ⟨s0, s1, s2, s3, s4, s5, s6, s7, s8, s9, s10, s11, s12, s13, s14⟩
     go_simp
     with_reducible rfl
   rotate_left
   · simp only [Act.put, zs1, zs2, zs3, i64_w, i32_w]
     rfl
   refine one_ (i := 1) (N := some 15) (bm 6 7) rfl rfl (by kernel_rfl) (by decide) (fun K hK => ?_)
   refine goes_ Try.func49 (by kernel_rfl) rfl #[.agg #[.int .i64 a0_0, .int .i64 a0_1, .int .i64 a0_2, .int .i64 a0_3, .int .i64 a0_4]] (by rfl) rfl rfl (by (try simp only [List.map_toArray, List.map_cons, List.map_nil]); first | done | rfl | (simp only [List.length_drop, List.length_take]; rfl)) ?_
   with_reducible refine (laws_toCfgOpts.calls a0_0 a0_1 a0_2 a0_3 a0_4 t209 t210 t211 t212 t213 _ A10.out).mono ?_
   rintro e w49 ⟨rfl, hb⟩
   refine ⟨_, rfl, ?_⟩
   replace BK206 := mk_ (zq6 (by exact BK206.out) hb)
   replace BK207 := mk_ (zq6 (by exact BK207.out) hb)
   replace HB := mk_ (zr3 (by repeat (first | (with_reducible first | exact HB.out | apply zq7 | apply zq8 | apply zq9 | refine zr1 ?_ GE206.out | refine zr1 ?_ GE207.out) | exact HB.out)) hb)
   (try clear hb)
   (try clear hb2)
   (try clear hk)
   (try clear hi)
   refine hK.out _ _ ⟨(zr4 BK206.out 0).trans rfl, (zr4 BK206.out 1).trans rfl, (zr4 BK206.out 2).trans rfl, (zr4 BK206.out 3).trans rfl, (zr4 BK206.out 4).trans rfl, (zr4 BK207.out 0).trans rfl, (zr4 BK207.out 1).trans rfl, (zr4 BK207.out 2).trans rfl, (zr4 BK207.out 3).trans rfl, (zr4 BK207.out 4).trans rfl, (zr4 BK207.out 5).trans rfl, (zr4 BK207.out 6).trans rfl, (zr4 BK207.out 7).trans rfl, (zr4 BK207.out 8).trans rfl, (zr4 BK207.out 9).trans rfl⟩ (fun hHeld => ?_)
   clear hK K
   refine norm_ (a' := ?_) ?_ ?_
   rotate_left
   · show Act.put _ (some 15) _ = _
     simp only [Act.put, zs1, zs2, zs3, i64_w, i32_w]
     rfl
   refine one_ (i := 3) (N := some 17) (bm 6 15) rfl rfl (by kernel_rfl) (by decide) (fun K hK => ?_)
   refine goes_ Try.func50 (by kernel_rfl) rfl #[.agg #[.int .i64 a1_0, .int .i64 a1_1, .slice A1_2 l1_2.length c1_2, .int .i64 a1_3, .slice A1_4 l1_4.length c1_4, .bool a1_5, .int .i64 a1_6, .bool a1_7, .int .i64 a1_8, .bool a1_9]] (by rfl) rfl rfl (by (try simp only [List.map_toArray, List.map_cons, List.map_nil]); first | done | rfl | (simp only [List.length_drop, List.length_take]; rfl)) ?_
   with_reducible refine (laws_toTxState.calls k a1_0 a1_1 _ _ l1_2 a1_3 _ _ l1_4 a1_5 a1_6 a1_7 a1_8 a1_9 t214 t215 t216 t219 t220 t223 t224 t225 t226 t227 _ ?side1 ?side2 ?side3 ?side4 A11.out).mono ?_
   (case side1 => repeat (first | exact (Kd.C_below HR1_2.out HB.out) | (with_reducible refine Kd.C_alloc ?_ _) | (with_reducible refine Kd.C_drewN ?_ _) | (with_reducible refine Kd.C_drew ?_)))
   (case side2 => exact HC1_2.out)
   (case side3 => repeat (first | exact (Kd.C_below HR1_4.out HB.out) | (with_reducible refine Kd.C_alloc ?_ _) | (with_reducible refine Kd.C_drewN ?_ _) | (with_reducible refine Kd.C_drew ?_)))
   (case side4 => exact HC1_4.out)
   rintro e w50 ⟨v217, v221, rfl, ho0, ho1, hb⟩
   refine ⟨_, rfl, ?_⟩
   have HO218 := mk_ (Kd.S_lower ho0 (zr2 (by repeat (first | (with_reducible first | exact HB.out | apply zq7 | apply zq8 | apply zq9 | refine zr1 ?_ GE206.out | refine zr1 ?_ GE207.out) | exact HB.out))))
   have HO222 := mk_ (Kd.S_lower ho1 (zr2 (by repeat (first | (with_reducible first | exact HB.out | apply zq7 | apply zq8 | apply zq9 | refine zr1 ?_ GE206.out | refine zr1 ?_ GE207.out) | exact HB.out))))
   replace BK206 := mk_ (zq6 (by exact BK206.out) hb)
   replace BK207 := mk_ (zq6 (by exact BK207.out) hb)
   replace HB := mk_ (zr3 (by repeat (first | (with_reducible first | exact HB.out | apply zq7 | apply zq8 | apply zq9 | refine zr1 ?_ GE206.out | refine zr1 ?_ GE207.out) | exact HB.out)) hb)
   (try clear hb)
   (try clear hb2)
   (try clear hk)
   (try clear hi)
   (try clear ho0)
   (try clear ho1)
   obtain ⟨Ao51, co51, eo51⟩ := Kd.S_slice HO218.out
   (first | subst eo51 | (injection eo51 with f1_ f2_ f3_; have f4_ := f1_.symm; have f5_ := f3_.symm; clear f1_ f2_ f3_; subst f4_; subst f5_))
   obtain ⟨Ao52, co52, eo52⟩ := Kd.S_slice HO222.out
   (first | subst eo52 | (injection eo52 with f1_ f2_ f3_; have f4_ := f1_.symm; have f5_ := f3_.symm; clear f1_ f2_ f3_; subst f4_; subst f5_))
   refine hK.out _ _ ⟨(zr4 BK206.out 0).trans rfl, (zr4 BK206.out 1).trans rfl, (zr4 BK206.out 2).trans rfl, (zr4 BK206.out 3).trans rfl, (zr4 BK206.out 4).trans rfl, (zr4 BK207.out 0).trans rfl, (zr4 BK207.out 1).trans rfl, (zr4 BK207.out 2).trans rfl, (zr4 BK207.out 3).trans rfl, (zr4 BK207.out 4).trans rfl, (zr4 BK207.out 5).trans rfl, (zr4 BK207.out 6).trans rfl, (zr4 BK207.out 7).trans rfl, (zr4 BK207.out 8).trans rfl, (zr4 BK207.out 9).trans rfl⟩ (fun hHeld => ?_)
   clear hK K
   refine norm_ (a' := ?_) ?_ ?_
   rotate_left
   · show Act.put _ (some 17) _ = _
     simp only [Act.put, zs1, zs2, zs3, i64_w, i32_w]
     rfl
   refine one_ (i := 4) (N := some 18) (bm 6 31) rfl rfl (by kernel_rfl) (by decide) (fun K hK => ?_)
   refine goes_ Try.func48 (by kernel_rfl) rfl #[.agg #[.int .i64 t209, .int .i64 t210, .int .i64 t211, .int .i64 t212, .int .i64 t213], .agg #[.int .i64 t214, .int .i64 t215, .slice Ao51 t216.length co51, .int .i64 t219, .slice Ao52 t220.length co52, .bool t223, .int .i64 t224, .bool t225, .int .i64 t226, .bool t227]] (by rfl) rfl rfl (by (try simp only [List.map_toArray, List.map_cons, List.map_nil]); first | done | rfl | (simp only [List.length_drop, List.length_take]; rfl)) ?_
   with_reducible refine (spec_TxOk.calls k t209 t210 t211 t212 t213 t214 t215 _ _ t216 t219 _ _ t220 t223 t224 t225 t226 t227 t228 _ ?side1 ?side2 ?side3 ?side4 A12.out).mono ?_
   (case side1 => repeat (first | exact (Kd.S_reads' HO218.out).2.2 | (with_reducible refine Kd.C_alloc ?_ _) | (with_reducible refine Kd.C_drewN ?_ _) | (with_reducible refine Kd.C_drew ?_)))
   (case side2 => exact (Kd.S_reads' HO218.out).2.1)
   (case side3 => repeat (first | exact (Kd.S_reads' HO222.out).2.2 | (with_reducible refine Kd.C_alloc ?_ _) | (with_reducible refine Kd.C_drewN ?_ _) | (with_reducible refine Kd.C_drew ?_)))
   (case side4 => exact (Kd.S_reads' HO222.out).2.1)
   rintro e w53 ⟨rfl, hb⟩
   refine ⟨_, rfl, ?_⟩
   replace HO218 := mk_ (Kd.S_below (by (with_reducible repeat (first | apply Kd.S_alloc | apply Kd.S_drewN | apply Kd.S_drew)); exact HO218.out) hb)
   replace HO222 := mk_ (Kd.S_below (by (with_reducible repeat (first | apply Kd.S_alloc | apply Kd.S_drewN | apply Kd.S_drew)); exact HO222.out) hb)
   replace BK206 := mk_ (zq6 (by exact BK206.out) hb)
   replace BK207 := mk_ (zq6 (by exact BK207.out) hb)
   replace HB := mk_ (zr3 (by repeat (first | (with_reducible first | exact HB.out | apply zq7 | apply zq8 | apply zq9 | refine zr1 ?_ GE206.out | refine zr1 ?_ GE207.out) | exact HB.out)) hb)
   (try clear hb)
   (try clear hb2)
   (try clear hk)
   (try clear hi)
   refine hK.out _ _ ⟨(zr4 BK206.out 0).trans rfl, (zr4 BK206.out 1).trans rfl, (zr4 BK206.out 2).trans rfl, (zr4 BK206.out 3).trans rfl, (zr4 BK206.out 4).trans rfl, (zr4 BK207.out 0).trans rfl, (zr4 BK207.out 1).trans rfl, (zr4 BK207.out 2).trans rfl, (zr4 BK207.out 3).trans rfl, (zr4 BK207.out 4).trans rfl, (zr4 BK207.out 5).trans rfl, (zr4 BK207.out 6).trans rfl, (zr4 BK207.out 7).trans rfl, (zr4 BK207.out 8).trans rfl, (zr4 BK207.out 9).trans rfl⟩ (fun hHeld => ?_)
   clear hK K
   refine norm_ (a' := ?_) ?_ ?_
   rotate_left
   · show Act.put _ (some 18) _ = _
     simp only [Act.put, zs1, zs2, zs3, i64_w, i32_w]
     rfl
   refine pure_ (i := 5) (N := some 6) (v := ?_) (a' := ?_) (bm 6 63) rfl rfl (by kernel_rfl) (fun _ _ _ h => h) (Or.inl ⟨by rfl, ?_⟩) ?_ ?_
   rotate_left
   · intro w'
     go_simp
     with_reducible rfl
   rotate_left
   · simp only [Act.put, zs1, zs2, zs3, i64_w, i32_w]
     rfl
   refine done_ (by kernel_rfl) ?_
   obtain ⟨hcz54_0, hcz54_1, hcz54_2, hcz54_3, hcz54_4, hcz54_5, hcz54_6, hcz54_7, hcz54_8, hcz54_9⟩ := cz10 BK207.out
   obtain ⟨hfz54_0, hfz54_1, hfz54_2, hfz54_3, hfz54_4, hfz54_5, hfz54_6, hfz54_7, hfz54_8, hfz54_9⟩ := fz10 BK207.out
   try go_wp2_with (first | ((with_reducible refine gate_callee (f := 50) rfl ?_); refine goesL_ (some 20) rfl rfl Try.func50 (by kernel_rfl) rfl #[.agg #[.int .i64 a1_0, .int .i64 a1_1, .slice A1_2 l1_2.length c1_2, .int .i64 a1_3, .slice A1_4 l1_4.length c1_4, .bool a1_5, .int .i64 a1_6, .bool a1_7, .int .i64 a1_8, .bool a1_9]] rfl (by (try simp only [List.map_toArray, List.map_cons, List.map_nil]); first | done | rfl | (simp only [List.length_drop, List.length_take]; rfl)) ?_; (with_reducible refine (laws_toTxState.calls k a1_0 a1_1 _ _ l1_2 a1_3 _ _ l1_4 a1_5 a1_6 a1_7 a1_8 a1_9 t229 t230 t231 t234 t235 t238 t239 t240 t241 t242 _ ?side1 ?side2 ?side3 ?side4 A13.out).mono ?_); (case side1 => repeat (first | exact (Kd.C_below HR1_2.out HB.out) | (with_reducible refine Kd.C_alloc ?_ _) | (with_reducible refine Kd.C_drewN ?_ _) | (with_reducible refine Kd.C_drew ?_))); (case side2 => exact HC1_2.out); (case side3 => repeat (first | exact (Kd.C_below HR1_4.out HB.out) | (with_reducible refine Kd.C_alloc ?_ _) | (with_reducible refine Kd.C_drewN ?_ _) | (with_reducible refine Kd.C_drew ?_))); (case side4 => exact HC1_4.out); rintro e w55 ⟨v232, v236, rfl, ho0, ho1, hb⟩; refine ⟨_, rfl, ?_⟩; have HO233 := mk_ (Kd.S_lower (Kd.S_new' (Kd.S_new' ho0 (Kd.S_lt (by (with_reducible repeat (first | apply Kd.S_alloc | apply Kd.S_drewN | apply Kd.S_drew)); exact HO218.out))) (Kd.S_lt (by (with_reducible repeat (first | apply Kd.S_alloc | apply Kd.S_drewN | apply Kd.S_drew)); exact HO222.out))) (zr2 (by repeat (first | (with_reducible first | exact HB.out | apply zq7 | apply zq8 | apply zq9 | refine zr1 ?_ GE206.out | refine zr1 ?_ GE207.out) | exact HB.out)))); have HO237 := mk_ (Kd.S_lower (Kd.S_new' (Kd.S_new' ho1 (Kd.S_lt (by (with_reducible repeat (first | apply Kd.S_alloc | apply Kd.S_drewN | apply Kd.S_drew)); exact HO218.out))) (Kd.S_lt (by (with_reducible repeat (first | apply Kd.S_alloc | apply Kd.S_drewN | apply Kd.S_drew)); exact HO222.out))) (zr2 (by repeat (first | (with_reducible first | exact HB.out | apply zq7 | apply zq8 | apply zq9 | refine zr1 ?_ GE206.out | refine zr1 ?_ GE207.out) | exact HB.out)))); replace HO218 := mk_ (Kd.S_mono (Kd.S_told (Kd.S_told (Kd.S_old (by (with_reducible repeat (first | apply Kd.S_alloc | apply Kd.S_drewN | apply Kd.S_drew)); exact HO218.out) hb) (Kd.S_base ho0)) (Kd.S_base ho1)) (fun _ h_ => h_.1)); replace HO222 := mk_ (Kd.S_mono (Kd.S_told (Kd.S_told (Kd.S_old (by (with_reducible repeat (first | apply Kd.S_alloc | apply Kd.S_drewN | apply Kd.S_drew)); exact HO222.out) hb) (Kd.S_base ho0)) (Kd.S_base ho1)) (fun _ h_ => h_.1)); replace BK206 := mk_ (zq6 (by exact BK206.out) hb); replace BK207 := mk_ (zq6 (by exact BK207.out) hb); replace HB := mk_ (zr3 (by repeat (first | (with_reducible first | exact HB.out | apply zq7 | apply zq8 | apply zq9 | refine zr1 ?_ GE206.out | refine zr1 ?_ GE207.out) | exact HB.out)) hb); (try clear hb); (try clear hb2); (try clear hk); (try clear hi); (try clear ho0); (try clear ho1)) | ((with_reducible refine gate_dst (N := 7) rfl ?_); refine box_event ?hg (N := 7) ?hd (cs := #[.int .i64 0, .int .i64 0, .slice none 0 0, .int .i64 0, .slice none 0 0, .bool false, .int .i64 0, .bool false, .int .i64 0, .bool false]) (t := 69) ?hr ?_; (case hd => rfl); (case hg => rfl); (case hr => first | (go_simp; done) | (go_simp; rfl)); intro gb243 hg w56 hbox hb; replace HO218 := mk_ (Kd.S_below (by (with_reducible repeat (first | apply Kd.S_alloc | apply Kd.S_drewN | apply Kd.S_drew)); exact HO218.out) hb); replace HO222 := mk_ (Kd.S_below (by (with_reducible repeat (first | apply Kd.S_alloc | apply Kd.S_drewN | apply Kd.S_drew)); exact HO222.out) hb); replace HO233 := mk_ (Kd.S_below (by (with_reducible repeat (first | apply Kd.S_alloc | apply Kd.S_drewN | apply Kd.S_drew)); exact HO233.out) hb); replace HO237 := mk_ (Kd.S_below (by (with_reducible repeat (first | apply Kd.S_alloc | apply Kd.S_drewN | apply Kd.S_drew)); exact HO237.out) hb); have BK243 := mk_ (hbox); have GW243 := mk_ ((by rw [hg]; exact (zr2 (by repeat (first | (with_reducible first | exact HB.out | apply zq7 | apply zq8 | apply zq9 | refine zr1 ?_ GE206.out | refine zr1 ?_ GE207.out) | exact HB.out))) : w.heap.size ≤ gb243)); have GE243 := GW243; replace HB := mk_ (zr3 (by repeat (first | (with_reducible first | exact HB.out | apply zq7 | apply zq8 | apply zq9 | refine zr1 ?_ GE206.out | refine zr1 ?_ GE207.out) | exact HB.out)) hb); have NB206_243 := mk_ ((by rw [hg]; exact zm2 (zr6 (by exact BK206.out)) : gb206 ≠ gb243)); replace BK206 := mk_ (zq6 (by exact BK206.out) hb); have NB243_206 := mk_ NB206_243.out.symm; have NB207_243 := mk_ ((by rw [hg]; exact zm2 (zr6 (by exact BK207.out)) : gb207 ≠ gb243)); replace BK207 := mk_ (zq6 (by exact BK207.out) hb); have NB243_207 := mk_ NB207_243.out.symm; clear hb hbox hg; have hnb57 := NB243_206.out; have hnc57 := NB206_243.out; have hnb58 := NB243_207.out; have hnc58 := NB207_243.out; obtain ⟨hcz59_0, hcz59_1, hcz59_2, hcz59_3, hcz59_4, hcz59_5, hcz59_6, hcz59_7, hcz59_8, hcz59_9⟩ := cz10 BK243.out; obtain ⟨hfz59_0, hfz59_1, hfz59_2, hfz59_3, hfz59_4, hfz59_5, hfz59_6, hfz59_7, hfz59_8, hfz59_9⟩ := fz10 BK243.out; obtain ⟨Ao60, co60, eo60⟩ := Kd.S_slice HO233.out; subst eo60; obtain ⟨Ao61, co61, eo61⟩ := Kd.S_slice HO237.out; subst eo61))
   have n0_ : Aside0 (Kd.S k39 39 ((((((((((w56.setCell ⟨gb243, 0, none⟩ (.int .i64 t229)).setCell ⟨gb243, 1, none⟩ (.int .i64 t230)).setCell ⟨gb243, 2, none⟩ (.slice Ao60 t231.length co60)).setCell ⟨gb243, 3, none⟩ (.int .i64 t234)).setCell ⟨gb243, 4, none⟩ (.slice Ao61 t235.length co61)).setCell ⟨gb243, 5, none⟩ (.bool t238)).setCell ⟨gb243, 6, none⟩ (.int .i64 t239)).setCell ⟨gb243, 7, none⟩ (.bool t240)).setCell ⟨gb243, 8, none⟩ (.int .i64 t241)).setCell ⟨gb243, 9, none⟩ (.bool t242)) w.heap.size (fun k_ => some k_ ≠ (.slice Ao52 t220.length co52 : Value).ownBlock ∧ some k_ ≠ (.slice Ao60 t231.length co60 : Value).ownBlock ∧ some k_ ≠ (.slice Ao61 t235.length co61 : Value).ownBlock) (.slice Ao51 t216.length co51) t216) := ⟨by (with_reducible repeat (first | apply Kd.S_alloc | apply Kd.S_drewN | apply Kd.S_drew)); exact Kd.S_mono (Kd.S_far (p := ⟨gb243, 9, none⟩) (Kd.S_far (p := ⟨gb243, 8, none⟩) (Kd.S_far (p := ⟨gb243, 7, none⟩) (Kd.S_far (p := ⟨gb243, 6, none⟩) (Kd.S_far (p := ⟨gb243, 5, none⟩) (Kd.S_far (p := ⟨gb243, 4, none⟩) (Kd.S_far (p := ⟨gb243, 3, none⟩) (Kd.S_far (p := ⟨gb243, 2, none⟩) (Kd.S_far (p := ⟨gb243, 1, none⟩) (Kd.S_far (p := ⟨gb243, 0, none⟩) (Kd.S_types HO218.out BK243.out (by decide)) (fun _ hk => hk.2) (.int .i64 t229)) (fun _ hk => hk.2) (.int .i64 t230)) (fun _ hk => hk.2) (.slice Ao60 t231.length co60)) (fun _ hk => hk.2) (.int .i64 t234)) (fun _ hk => hk.2) (.slice Ao61 t235.length co61)) (fun _ hk => hk.2) (.bool t238)) (fun _ hk => hk.2) (.int .i64 t239)) (fun _ hk => hk.2) (.bool t240)) (fun _ hk => hk.2) (.int .i64 t241)) (fun _ hk => hk.2) (.bool t242)) (fun _ hk => ⟨hk.1.1.1, ⟨hk.1.1.2, hk.1.2⟩⟩)⟩
   have n1_ : Aside0 (Kd.S k39 39 ((((((((((w56.setCell ⟨gb243, 0, none⟩ (.int .i64 t229)).setCell ⟨gb243, 1, none⟩ (.int .i64 t230)).setCell ⟨gb243, 2, none⟩ (.slice Ao60 t231.length co60)).setCell ⟨gb243, 3, none⟩ (.int .i64 t234)).setCell ⟨gb243, 4, none⟩ (.slice Ao61 t235.length co61)).setCell ⟨gb243, 5, none⟩ (.bool t238)).setCell ⟨gb243, 6, none⟩ (.int .i64 t239)).setCell ⟨gb243, 7, none⟩ (.bool t240)).setCell ⟨gb243, 8, none⟩ (.int .i64 t241)).setCell ⟨gb243, 9, none⟩ (.bool t242)) w.heap.size (fun k_ => some k_ ≠ (.slice Ao51 t216.length co51 : Value).ownBlock ∧ some k_ ≠ (.slice Ao60 t231.length co60 : Value).ownBlock ∧ some k_ ≠ (.slice Ao61 t235.length co61 : Value).ownBlock) (.slice Ao52 t220.length co52) t220) := ⟨by (with_reducible repeat (first | apply Kd.S_alloc | apply Kd.S_drewN | apply Kd.S_drew)); exact Kd.S_mono (Kd.S_far (p := ⟨gb243, 9, none⟩) (Kd.S_far (p := ⟨gb243, 8, none⟩) (Kd.S_far (p := ⟨gb243, 7, none⟩) (Kd.S_far (p := ⟨gb243, 6, none⟩) (Kd.S_far (p := ⟨gb243, 5, none⟩) (Kd.S_far (p := ⟨gb243, 4, none⟩) (Kd.S_far (p := ⟨gb243, 3, none⟩) (Kd.S_far (p := ⟨gb243, 2, none⟩) (Kd.S_far (p := ⟨gb243, 1, none⟩) (Kd.S_far (p := ⟨gb243, 0, none⟩) (Kd.S_types HO222.out BK243.out (by decide)) (fun _ hk => hk.2) (.int .i64 t229)) (fun _ hk => hk.2) (.int .i64 t230)) (fun _ hk => hk.2) (.slice Ao60 t231.length co60)) (fun _ hk => hk.2) (.int .i64 t234)) (fun _ hk => hk.2) (.slice Ao61 t235.length co61)) (fun _ hk => hk.2) (.bool t238)) (fun _ hk => hk.2) (.int .i64 t239)) (fun _ hk => hk.2) (.bool t240)) (fun _ hk => hk.2) (.int .i64 t241)) (fun _ hk => hk.2) (.bool t242)) (fun _ hk => ⟨hk.1.1.1, ⟨hk.1.1.2, hk.1.2⟩⟩)⟩
   have n2_ : Aside0 (Kd.S k39 39 ((((((((((w56.setCell ⟨gb243, 0, none⟩ (.int .i64 t229)).setCell ⟨gb243, 1, none⟩ (.int .i64 t230)).setCell ⟨gb243, 2, none⟩ (.slice Ao60 t231.length co60)).setCell ⟨gb243, 3, none⟩ (.int .i64 t234)).setCell ⟨gb243, 4, none⟩ (.slice Ao61 t235.length co61)).setCell ⟨gb243, 5, none⟩ (.bool t238)).setCell ⟨gb243, 6, none⟩ (.int .i64 t239)).setCell ⟨gb243, 7, none⟩ (.bool t240)).setCell ⟨gb243, 8, none⟩ (.int .i64 t241)).setCell ⟨gb243, 9, none⟩ (.bool t242)) w.heap.size (fun k_ => some k_ ≠ (.slice Ao51 t216.length co51 : Value).ownBlock ∧ some k_ ≠ (.slice Ao52 t220.length co52 : Value).ownBlock ∧ some k_ ≠ (.slice Ao61 t235.length co61 : Value).ownBlock) (.slice Ao60 t231.length co60) t231) := ⟨by (with_reducible repeat (first | apply Kd.S_alloc | apply Kd.S_drewN | apply Kd.S_drew)); exact Kd.S_mono (Kd.S_far (p := ⟨gb243, 9, none⟩) (Kd.S_far (p := ⟨gb243, 8, none⟩) (Kd.S_far (p := ⟨gb243, 7, none⟩) (Kd.S_far (p := ⟨gb243, 6, none⟩) (Kd.S_far (p := ⟨gb243, 5, none⟩) (Kd.S_far (p := ⟨gb243, 4, none⟩) (Kd.S_far (p := ⟨gb243, 3, none⟩) (Kd.S_far (p := ⟨gb243, 2, none⟩) (Kd.S_far (p := ⟨gb243, 1, none⟩) (Kd.S_far (p := ⟨gb243, 0, none⟩) (Kd.S_types HO233.out BK243.out (by decide)) (fun _ hk => hk.2) (.int .i64 t229)) (fun _ hk => hk.2) (.int .i64 t230)) (fun _ hk => hk.2) (.slice Ao60 t231.length co60)) (fun _ hk => hk.2) (.int .i64 t234)) (fun _ hk => hk.2) (.slice Ao61 t235.length co61)) (fun _ hk => hk.2) (.bool t238)) (fun _ hk => hk.2) (.int .i64 t239)) (fun _ hk => hk.2) (.bool t240)) (fun _ hk => hk.2) (.int .i64 t241)) (fun _ hk => hk.2) (.bool t242)) (fun _ hk => ⟨hk.1.1.2, ⟨hk.1.2, hk.1.1.1⟩⟩)⟩
   have n3_ : Aside0 (Kd.S k39 39 ((((((((((w56.setCell ⟨gb243, 0, none⟩ (.int .i64 t229)).setCell ⟨gb243, 1, none⟩ (.int .i64 t230)).setCell ⟨gb243, 2, none⟩ (.slice Ao60 t231.length co60)).setCell ⟨gb243, 3, none⟩ (.int .i64 t234)).setCell ⟨gb243, 4, none⟩ (.slice Ao61 t235.length co61)).setCell ⟨gb243, 5, none⟩ (.bool t238)).setCell ⟨gb243, 6, none⟩ (.int .i64 t239)).setCell ⟨gb243, 7, none⟩ (.bool t240)).setCell ⟨gb243, 8, none⟩ (.int .i64 t241)).setCell ⟨gb243, 9, none⟩ (.bool t242)) w.heap.size (fun k_ => some k_ ≠ (.slice Ao51 t216.length co51 : Value).ownBlock ∧ some k_ ≠ (.slice Ao52 t220.length co52 : Value).ownBlock ∧ some k_ ≠ (.slice Ao60 t231.length co60 : Value).ownBlock) (.slice Ao61 t235.length co61) t235) := ⟨by (with_reducible repeat (first | apply Kd.S_alloc | apply Kd.S_drewN | apply Kd.S_drew)); exact Kd.S_mono (Kd.S_far (p := ⟨gb243, 9, none⟩) (Kd.S_far (p := ⟨gb243, 8, none⟩) (Kd.S_far (p := ⟨gb243, 7, none⟩) (Kd.S_far (p := ⟨gb243, 6, none⟩) (Kd.S_far (p := ⟨gb243, 5, none⟩) (Kd.S_far (p := ⟨gb243, 4, none⟩) (Kd.S_far (p := ⟨gb243, 3, none⟩) (Kd.S_far (p := ⟨gb243, 2, none⟩) (Kd.S_far (p := ⟨gb243, 1, none⟩) (Kd.S_far (p := ⟨gb243, 0, none⟩) (Kd.S_types HO237.out BK243.out (by decide)) (fun _ hk => hk.2) (.int .i64 t229)) (fun _ hk => hk.2) (.int .i64 t230)) (fun _ hk => hk.2) (.slice Ao60 t231.length co60)) (fun _ hk => hk.2) (.int .i64 t234)) (fun _ hk => hk.2) (.slice Ao61 t235.length co61)) (fun _ hk => hk.2) (.bool t238)) (fun _ hk => hk.2) (.int .i64 t239)) (fun _ hk => hk.2) (.bool t240)) (fun _ hk => hk.2) (.int .i64 t241)) (fun _ hk => hk.2) (.bool t242)) (fun _ hk => ⟨hk.1.1.2, ⟨hk.1.2, hk.1.1.1⟩⟩)⟩
   have n4_ : Aside0 (((((((((((w56.setCell ⟨gb243, 0, none⟩ (.int .i64 t229)).setCell ⟨gb243, 1, none⟩ (.int .i64 t230)).setCell ⟨gb243, 2, none⟩ (.slice Ao60 t231.length co60)).setCell ⟨gb243, 3, none⟩ (.int .i64 t234)).setCell ⟨gb243, 4, none⟩ (.slice Ao61 t235.length co61)).setCell ⟨gb243, 5, none⟩ (.bool t238)).setCell ⟨gb243, 6, none⟩ (.int .i64 t239)).setCell ⟨gb243, 7, none⟩ (.bool t240)).setCell ⟨gb243, 8, none⟩ (.int .i64 t241)).setCell ⟨gb243, 9, none⟩ (.bool t242)).heap[gb206]? = some (.cells #[.int .i64 a0_0, .int .i64 a0_1, .int .i64 a0_2, .int .i64 a0_3, .int .i64 a0_4] 60 (0, 0))) := ⟨by (with_reducible repeat (first | refine zq1 ?_ _ | refine zq2 ?_ | refine zq3 ?_ _)); refine fa10 ?_ NB206_243.out; (with_reducible repeat (first | refine zq1 ?_ _ | refine zq2 ?_ | refine zq3 ?_ _)); exact BK206.out⟩
   have n5_ : Aside0 (((((((((((w56.setCell ⟨gb243, 0, none⟩ (.int .i64 t229)).setCell ⟨gb243, 1, none⟩ (.int .i64 t230)).setCell ⟨gb243, 2, none⟩ (.slice Ao60 t231.length co60)).setCell ⟨gb243, 3, none⟩ (.int .i64 t234)).setCell ⟨gb243, 4, none⟩ (.slice Ao61 t235.length co61)).setCell ⟨gb243, 5, none⟩ (.bool t238)).setCell ⟨gb243, 6, none⟩ (.int .i64 t239)).setCell ⟨gb243, 7, none⟩ (.bool t240)).setCell ⟨gb243, 8, none⟩ (.int .i64 t241)).setCell ⟨gb243, 9, none⟩ (.bool t242)).heap[gb207]? = some (.cells #[.int .i64 a1_0, .int .i64 a1_1, .slice A1_2 l1_2.length c1_2, .int .i64 a1_3, .slice A1_4 l1_4.length c1_4, .bool a1_5, .int .i64 a1_6, .bool a1_7, .int .i64 a1_8, .bool a1_9] 63 (0, 0))) := ⟨by (with_reducible repeat (first | refine zq1 ?_ _ | refine zq2 ?_ | refine zq3 ?_ _)); refine fa10 ?_ NB207_243.out; (with_reducible repeat (first | refine zq1 ?_ _ | refine zq2 ?_ | refine zq3 ?_ _)); exact BK207.out⟩
   have n6_ : Aside0 (((((((((((w56.setCell ⟨gb243, 0, none⟩ (.int .i64 t229)).setCell ⟨gb243, 1, none⟩ (.int .i64 t230)).setCell ⟨gb243, 2, none⟩ (.slice Ao60 t231.length co60)).setCell ⟨gb243, 3, none⟩ (.int .i64 t234)).setCell ⟨gb243, 4, none⟩ (.slice Ao61 t235.length co61)).setCell ⟨gb243, 5, none⟩ (.bool t238)).setCell ⟨gb243, 6, none⟩ (.int .i64 t239)).setCell ⟨gb243, 7, none⟩ (.bool t240)).setCell ⟨gb243, 8, none⟩ (.int .i64 t241)).setCell ⟨gb243, 9, none⟩ (.bool t242)).heap[gb243]? = some (.cells #[.int .i64 t229, .int .i64 t230, .slice Ao60 t231.length co60, .int .i64 t234, .slice Ao61 t235.length co61, .bool t238, .int .i64 t239, .bool t240, .int .i64 t241, .bool t242] 69 (0, 0))) := ⟨by (with_reducible repeat (first | refine zq1 ?_ _ | refine zq2 ?_ | refine zq3 ?_ _)); apply pu10; (with_reducible repeat (first | refine zq1 ?_ _ | refine zq2 ?_ | refine zq3 ?_ _)); exact BK243.out⟩
   have n7_ : Aside0 (Below w.heap.size w ((((((((((w56.setCell ⟨gb243, 0, none⟩ (.int .i64 t229)).setCell ⟨gb243, 1, none⟩ (.int .i64 t230)).setCell ⟨gb243, 2, none⟩ (.slice Ao60 t231.length co60)).setCell ⟨gb243, 3, none⟩ (.int .i64 t234)).setCell ⟨gb243, 4, none⟩ (.slice Ao61 t235.length co61)).setCell ⟨gb243, 5, none⟩ (.bool t238)).setCell ⟨gb243, 6, none⟩ (.int .i64 t239)).setCell ⟨gb243, 7, none⟩ (.bool t240)).setCell ⟨gb243, 8, none⟩ (.int .i64 t241)).setCell ⟨gb243, 9, none⟩ (.bool t242))) := ⟨by repeat (first | (with_reducible first | exact HB.out | apply zq7 | apply zq8 | apply zq9 | refine zr1 ?_ GE206.out | refine zr1 ?_ GE207.out | refine zr1 ?_ GE243.out) | exact HB.out)⟩
   (try clear HO218)
   (try clear HO222)
   (try clear HO233)
   (try clear HO237)
   (try clear BK206)
   (try clear BK207)
   (try clear BK243)
   (try clear HB)
   generalize ((((((((((w56.setCell ⟨gb243, 0, none⟩ (.int .i64 t229)).setCell ⟨gb243, 1, none⟩ (.int .i64 t230)).setCell ⟨gb243, 2, none⟩ (.slice Ao60 t231.length co60)).setCell ⟨gb243, 3, none⟩ (.int .i64 t234)).setCell ⟨gb243, 4, none⟩ (.slice Ao61 t235.length co61)).setCell ⟨gb243, 5, none⟩ (.bool t238)).setCell ⟨gb243, 6, none⟩ (.int .i64 t239)).setCell ⟨gb243, 7, none⟩ (.bool t240)).setCell ⟨gb243, 8, none⟩ (.int .i64 t241)).setCell ⟨gb243, 9, none⟩ (.bool t242)) = w62 at n0_ n1_ n2_ n3_ n4_ n5_ n6_ n7_ ⊢
   have HO218 := n0_
   have HO222 := n1_
   have HO233 := n2_
   have HO237 := n3_
   have BK206 := n4_
   have BK207 := n5_
   have BK243 := n6_
   have HB := n7_
   clear n0_ n1_ n2_ n3_ n4_ n5_ n6_ n7_
   replace HO218 := mk_ (Kd.S_drew HO218.out)
   replace HO222 := mk_ (Kd.S_drew HO222.out)
   replace HO233 := mk_ (Kd.S_drew HO233.out)
   replace HO237 := mk_ (Kd.S_drew HO237.out)
   replace BK206 := mk_ (zq2 BK206.out)
   replace BK207 := mk_ (zq2 BK207.out)
   replace BK243 := mk_ (zq2 BK243.out)
   replace HB := mk_ (zq9 HB.out)
   refine start_ (n := 5) (S := fun w' => w'.cell? ⟨gb206, 0, none⟩ = some (.int .i64 a0_0) ∧ w'.cell? ⟨gb206, 1, none⟩ = some (.int .i64 a0_1) ∧ w'.cell? ⟨gb206, 2, none⟩ = some (.int .i64 a0_2) ∧ w'.cell? ⟨gb206, 3, none⟩ = some (.int .i64 a0_3) ∧ w'.cell? ⟨gb206, 4, none⟩ = some (.int .i64 a0_4) ∧ w'.cell? ⟨gb243, 0, none⟩ = some (.int .i64 t229) ∧ w'.cell? ⟨gb243, 1, none⟩ = some (.int .i64 t230) ∧ w'.cell? ⟨gb243, 2, none⟩ = some (.slice Ao60 t231.length co60) ∧ w'.cell? ⟨gb243, 3, none⟩ = some (.int .i64 t234) ∧ w'.cell? ⟨gb243, 4, none⟩ = some (.slice Ao61 t235.length co61) ∧ w'.cell? ⟨gb243, 5, none⟩ = some (.bool t238) ∧ w'.cell? ⟨gb243, 6, none⟩ = some (.int .i64 t239) ∧ w'.cell? ⟨gb243, 7, none⟩ = some (.bool t240) ∧ w'.cell? ⟨gb243, 8, none⟩ = some (.int .i64 t241) ∧ w'.cell? ⟨gb243, 9, none⟩ = some (.bool t242)) (ds := []) #[false, false, false, false, false] (by kernel_rfl) rfl rfl ⟨(zr4 BK206.out 0).trans rfl, (zr4 BK206.out 1).trans rfl, (zr4 BK206.out 2).trans rfl, (zr4 BK206.out 3).trans rfl, (zr4 BK206.out 4).trans rfl, (zr4 BK243.out 0).trans rfl, (zr4 BK243.out 1).trans rfl, (zr4 BK243.out 2).trans rfl, (zr4 BK243.out 3).trans rfl, (zr4 BK243.out 4).trans rfl, (zr4 BK243.out 5).trans rfl, (zr4 BK243.out 6).trans rfl, (zr4 BK243.out 7).trans rfl, (zr4 BK243.out 8).trans rfl, (zr4 BK243.out 9).trans rfl⟩ (fun hHeld => ?_)
   generalize w62.drew = w63 at HO218 HO222 HO233 HO237 BK206 BK207 BK243 HB hHeld ⊢
   refine take_ (i := 0) (N := some 21) (v := ?_) (a' := ?_) #[true, false, false, false, false] rfl rfl (by kernel_rfl) (fun _ _ _ h => h) (Or.inl ⟨by rfl, ?_⟩) hHeld ?_ ?_
   rotate_left
   · rintro w' ⟨s0, s1, s2, s3, s4, s5, s6, s7, s8, s9, s10, s11, s12, s13, s14⟩
     go_simp
     with_reducible rfl
   rotate_left
   · simp only [Act.put, zs1, zs2, zs3, i64_w, i32_w]
     rfl
   refine take_ (i := 2) (N := some 23) (v := ?_) (a' := ?_) #[true, false, true, false, false] rfl rfl (by kernel_rfl) (fun _ _ _ h => h) (Or.inl ⟨by rfl, ?_⟩) hHeld ?_ ?_
   rotate_left
   · rintro w' ⟨s0, s1, s2, s3, s4, s5, s6, s7, s8, s9, s10, s11, s12, s13, s14⟩
     go_simp
     with_reducible rfl
   rotate_left
   · simp only [Act.put, zs1, zs2, zs3, i64_w, i32_w]
     rfl
   refine one_ (i := 1) (N := some 22) #[true, true, true, false, false] rfl rfl (by kernel_rfl) (by decide) (fun K hK => ?_)
   refine goes_ Try.func49 (by kernel_rfl) rfl #[.agg #[.int .i64 a0_0, .int .i64 a0_1, .int .i64 a0_2, .int .i64 a0_3, .int .i64 a0_4]] (by rfl) rfl rfl (by (try simp only [List.map_toArray, List.map_cons, List.map_nil]); first | done | rfl | (simp only [List.length_drop, List.length_take]; rfl)) ?_
   with_reducible refine (laws_toCfgOpts.calls a0_0 a0_1 a0_2 a0_3 a0_4 t244 t245 t246 t247 t248 _ A14.out).mono ?_
   rintro e w64 ⟨rfl, hb⟩
   refine ⟨_, rfl, ?_⟩
   replace HO218 := mk_ (Kd.S_below (by (with_reducible repeat (first | apply Kd.S_alloc | apply Kd.S_drewN | apply Kd.S_drew)); exact HO218.out) hb)
   replace HO222 := mk_ (Kd.S_below (by (with_reducible repeat (first | apply Kd.S_alloc | apply Kd.S_drewN | apply Kd.S_drew)); exact HO222.out) hb)
   replace HO233 := mk_ (Kd.S_below (by (with_reducible repeat (first | apply Kd.S_alloc | apply Kd.S_drewN | apply Kd.S_drew)); exact HO233.out) hb)
   replace HO237 := mk_ (Kd.S_below (by (with_reducible repeat (first | apply Kd.S_alloc | apply Kd.S_drewN | apply Kd.S_drew)); exact HO237.out) hb)
   replace BK206 := mk_ (zq6 (by exact BK206.out) hb)
   replace BK207 := mk_ (zq6 (by exact BK207.out) hb)
   replace BK243 := mk_ (zq6 (by exact BK243.out) hb)
   replace HB := mk_ (zr3 (by repeat (first | (with_reducible first | exact HB.out | apply zq7 | apply zq8 | apply zq9 | refine zr1 ?_ GE206.out | refine zr1 ?_ GE207.out | refine zr1 ?_ GE243.out) | exact HB.out)) hb)
   (try clear hb)
   (try clear hb2)
   (try clear hk)
   (try clear hi)
   refine hK.out _ _ ⟨(zr4 BK206.out 0).trans rfl, (zr4 BK206.out 1).trans rfl, (zr4 BK206.out 2).trans rfl, (zr4 BK206.out 3).trans rfl, (zr4 BK206.out 4).trans rfl, (zr4 BK243.out 0).trans rfl, (zr4 BK243.out 1).trans rfl, (zr4 BK243.out 2).trans rfl, (zr4 BK243.out 3).trans rfl, (zr4 BK243.out 4).trans rfl, (zr4 BK243.out 5).trans rfl, (zr4 BK243.out 6).trans rfl, (zr4 BK243.out 7).trans rfl, (zr4 BK243.out 8).trans rfl, (zr4 BK243.out 9).trans rfl⟩ (fun hHeld => ?_)
   clear hK K
   refine norm_ (a' := ?_) ?_ ?_
   rotate_left
   · show Act.put _ (some 22) _ = _
     simp only [Act.put, zs1, zs2, zs3, i64_w, i32_w]
     rfl
   refine one_ (i := 3) (N := some 24) #[true, true, true, true, false] rfl rfl (by kernel_rfl) (by decide) (fun K hK => ?_)
   refine goes_ Try.func51 (by kernel_rfl) rfl #[.agg #[.int .i64 t244, .int .i64 t245, .int .i64 t246, .int .i64 t247, .int .i64 t248], .agg #[.int .i64 t229, .int .i64 t230, .slice Ao60 t231.length co60, .int .i64 t234, .slice Ao61 t235.length co61, .bool t238, .int .i64 t239, .bool t240, .int .i64 t241, .bool t242]] (by rfl) rfl rfl (by (try simp only [List.map_toArray, List.map_cons, List.map_nil]); first | done | rfl | (simp only [List.length_drop, List.length_take]; rfl)) ?_
   with_reducible refine (impl_TxOk.calls k t244 t245 t246 t247 t248 t229 t230 _ _ t231 t234 _ _ t235 t238 t239 t240 t241 t242 t249 _ ?side1 ?side2 ?side3 ?side4 A15.out).mono ?_
   (case side1 => repeat (first | exact (Kd.S_reads' HO233.out).2.2 | (with_reducible refine Kd.C_alloc ?_ _) | (with_reducible refine Kd.C_drewN ?_ _) | (with_reducible refine Kd.C_drew ?_)))
   (case side2 => exact (Kd.S_reads' HO233.out).2.1)
   (case side3 => repeat (first | exact (Kd.S_reads' HO237.out).2.2 | (with_reducible refine Kd.C_alloc ?_ _) | (with_reducible refine Kd.C_drewN ?_ _) | (with_reducible refine Kd.C_drew ?_)))
   (case side4 => exact (Kd.S_reads' HO237.out).2.1)
   rintro e w65 ⟨rfl, hb⟩
   refine ⟨_, rfl, ?_⟩
   replace HO218 := mk_ (Kd.S_below (by (with_reducible repeat (first | apply Kd.S_alloc | apply Kd.S_drewN | apply Kd.S_drew)); exact HO218.out) hb)
   replace HO222 := mk_ (Kd.S_below (by (with_reducible repeat (first | apply Kd.S_alloc | apply Kd.S_drewN | apply Kd.S_drew)); exact HO222.out) hb)
   replace HO233 := mk_ (Kd.S_below (by (with_reducible repeat (first | apply Kd.S_alloc | apply Kd.S_drewN | apply Kd.S_drew)); exact HO233.out) hb)
   replace HO237 := mk_ (Kd.S_below (by (with_reducible repeat (first | apply Kd.S_alloc | apply Kd.S_drewN | apply Kd.S_drew)); exact HO237.out) hb)
   replace BK206 := mk_ (zq6 (by exact BK206.out) hb)
   replace BK207 := mk_ (zq6 (by exact BK207.out) hb)
   replace BK243 := mk_ (zq6 (by exact BK243.out) hb)
   replace HB := mk_ (zr3 (by repeat (first | (with_reducible first | exact HB.out | apply zq7 | apply zq8 | apply zq9 | refine zr1 ?_ GE206.out | refine zr1 ?_ GE207.out | refine zr1 ?_ GE243.out) | exact HB.out)) hb)
   (try clear hb)
   (try clear hb2)
   (try clear hk)
   (try clear hi)
   refine hK.out _ _ ⟨(zr4 BK206.out 0).trans rfl, (zr4 BK206.out 1).trans rfl, (zr4 BK206.out 2).trans rfl, (zr4 BK206.out 3).trans rfl, (zr4 BK206.out 4).trans rfl, (zr4 BK243.out 0).trans rfl, (zr4 BK243.out 1).trans rfl, (zr4 BK243.out 2).trans rfl, (zr4 BK243.out 3).trans rfl, (zr4 BK243.out 4).trans rfl, (zr4 BK243.out 5).trans rfl, (zr4 BK243.out 6).trans rfl, (zr4 BK243.out 7).trans rfl, (zr4 BK243.out 8).trans rfl, (zr4 BK243.out 9).trans rfl⟩ (fun hHeld => ?_)
   clear hK K
   refine norm_ (a' := ?_) ?_ ?_
   rotate_left
   · show Act.put _ (some 24) _ = _
     simp only [Act.put, zs1, zs2, zs3, i64_w, i32_w]
     rfl
   refine pure_ (i := 4) (N := some 8) (v := ?_) (a' := ?_) #[true, true, true, true, true] rfl rfl (by kernel_rfl) (fun _ _ _ h => h) (Or.inl ⟨by rfl, ?_⟩) ?_ ?_
   rotate_left
   · intro w'
     go_simp
     with_reducible rfl
   rotate_left
   · simp only [Act.put, zs1, zs2, zs3, i64_w, i32_w]
     rfl
   refine done_ (by kernel_rfl) ?_
   try go_wp2
   replace HO218 := mk_ (Kd.S_drew HO218.out)
   replace HO222 := mk_ (Kd.S_drew HO222.out)
   replace HO233 := mk_ (Kd.S_drew HO233.out)
   replace HO237 := mk_ (Kd.S_drew HO237.out)
   replace BK206 := mk_ (zq2 BK206.out)
   replace BK207 := mk_ (zq2 BK207.out)
   replace BK243 := mk_ (zq2 BK243.out)
   replace HB := mk_ (zq9 HB.out)
   refine start_ (n := 5) (S := fun w' => w'.cell? ⟨gb243, 0, none⟩ = some (.int .i64 t229) ∧ w'.cell? ⟨gb243, 1, none⟩ = some (.int .i64 t230) ∧ w'.cell? ⟨gb243, 2, none⟩ = some (.slice Ao60 t231.length co60) ∧ w'.cell? ⟨gb243, 3, none⟩ = some (.int .i64 t234) ∧ w'.cell? ⟨gb243, 4, none⟩ = some (.slice Ao61 t235.length co61) ∧ w'.cell? ⟨gb243, 5, none⟩ = some (.bool t238) ∧ w'.cell? ⟨gb243, 6, none⟩ = some (.int .i64 t239) ∧ w'.cell? ⟨gb243, 7, none⟩ = some (.bool t240) ∧ w'.cell? ⟨gb243, 8, none⟩ = some (.int .i64 t241) ∧ w'.cell? ⟨gb243, 9, none⟩ = some (.bool t242) ∧ w'.cell? ⟨gb207, 0, none⟩ = some (.int .i64 a1_0) ∧ w'.cell? ⟨gb207, 1, none⟩ = some (.int .i64 a1_1) ∧ w'.cell? ⟨gb207, 2, none⟩ = some (.slice A1_2 l1_2.length c1_2) ∧ w'.cell? ⟨gb207, 3, none⟩ = some (.int .i64 a1_3) ∧ w'.cell? ⟨gb207, 4, none⟩ = some (.slice A1_4 l1_4.length c1_4) ∧ w'.cell? ⟨gb207, 5, none⟩ = some (.bool a1_5) ∧ w'.cell? ⟨gb207, 6, none⟩ = some (.int .i64 a1_6) ∧ w'.cell? ⟨gb207, 7, none⟩ = some (.bool a1_7) ∧ w'.cell? ⟨gb207, 8, none⟩ = some (.int .i64 a1_8) ∧ w'.cell? ⟨gb207, 9, none⟩ = some (.bool a1_9)) (ds := []) #[false, false, false, false, false] (by kernel_rfl) rfl rfl ⟨(zr4 BK243.out 0).trans rfl, (zr4 BK243.out 1).trans rfl, (zr4 BK243.out 2).trans rfl, (zr4 BK243.out 3).trans rfl, (zr4 BK243.out 4).trans rfl, (zr4 BK243.out 5).trans rfl, (zr4 BK243.out 6).trans rfl, (zr4 BK243.out 7).trans rfl, (zr4 BK243.out 8).trans rfl, (zr4 BK243.out 9).trans rfl, (zr4 BK207.out 0).trans rfl, (zr4 BK207.out 1).trans rfl, (zr4 BK207.out 2).trans rfl, (zr4 BK207.out 3).trans rfl, (zr4 BK207.out 4).trans rfl, (zr4 BK207.out 5).trans rfl, (zr4 BK207.out 6).trans rfl, (zr4 BK207.out 7).trans rfl, (zr4 BK207.out 8).trans rfl, (zr4 BK207.out 9).trans rfl⟩ (fun hHeld => ?_)
   generalize w65.drew = w66 at HO218 HO222 HO233 HO237 BK206 BK207 BK243 HB hHeld ⊢
   refine take_ (i := 0) (N := some 28) (v := ?_) (a' := ?_) #[true, false, false, false, false] rfl rfl (by kernel_rfl) (fun _ _ _ h => h) (Or.inl ⟨by rfl, ?_⟩) hHeld ?_ ?_
   rotate_left
   · rintro w' ⟨s0, s1, s2, s3, s4, s5, s6, s7, s8, s9, s10, s11, s12, s13, s14, s15, s16, s17, s18, s19⟩
     go_simp
     with_reducible rfl
   rotate_left
   · simp only [Act.put, zs1, zs2, zs3, i64_w, i32_w]
     rfl
   refine take_ (i := 1) (N := some 29) (v := ?_) (a' := ?_) #[true, true, false, false, false] rfl rfl (by kernel_rfl) (fun _ _ _ h => h) (Or.inl ⟨by rfl, ?_⟩) hHeld ?_ ?_
   rotate_left
   · rintro w' ⟨s0, s1, s2, s3, s4, s5, s6, s7, s8, s9, s10, s11, s12, s13, s14, s15, s16, s17, s18, s19⟩
     go_simp
     with_reducible rfl
   rotate_left
   · simp only [Act.put, zs1, zs2, zs3, i64_w, i32_w]
     rfl
   refine one_ (i := 2) (N := some 30) #[true, true, true, false, false] rfl rfl (by kernel_rfl) (by decide) (fun K hK => ?_)
   refine goes_ Try.func50 (by kernel_rfl) rfl #[.agg #[.int .i64 a1_0, .int .i64 a1_1, .slice A1_2 l1_2.length c1_2, .int .i64 a1_3, .slice A1_4 l1_4.length c1_4, .bool a1_5, .int .i64 a1_6, .bool a1_7, .int .i64 a1_8, .bool a1_9]] (by rfl) rfl rfl (by (try simp only [List.map_toArray, List.map_cons, List.map_nil]); first | done | rfl | (simp only [List.length_drop, List.length_take]; rfl)) ?_
   with_reducible refine (laws_toTxState.calls k a1_0 a1_1 _ _ l1_2 a1_3 _ _ l1_4 a1_5 a1_6 a1_7 a1_8 a1_9 t250 t251 t252 t255 t256 t259 t260 t261 t262 t263 _ ?side1 ?side2 ?side3 ?side4 A40.out).mono ?_
   (case side1 => repeat (first | exact (Kd.C_below HR1_2.out HB.out) | (with_reducible refine Kd.C_alloc ?_ _) | (with_reducible refine Kd.C_drewN ?_ _) | (with_reducible refine Kd.C_drew ?_)))
   (case side2 => exact HC1_2.out)
   (case side3 => repeat (first | exact (Kd.C_below HR1_4.out HB.out) | (with_reducible refine Kd.C_alloc ?_ _) | (with_reducible refine Kd.C_drewN ?_ _) | (with_reducible refine Kd.C_drew ?_)))
   (case side4 => exact HC1_4.out)
   rintro e w67 ⟨v253, v257, rfl, ho0, ho1, hb⟩
   refine ⟨_, rfl, ?_⟩
   have HO254 := mk_ (Kd.S_lower (Kd.S_new' (Kd.S_new' (Kd.S_new' (Kd.S_new' ho0 (Kd.S_lt (by (with_reducible repeat (first | apply Kd.S_alloc | apply Kd.S_drewN | apply Kd.S_drew)); exact HO218.out))) (Kd.S_lt (by (with_reducible repeat (first | apply Kd.S_alloc | apply Kd.S_drewN | apply Kd.S_drew)); exact HO222.out))) (Kd.S_lt (by (with_reducible repeat (first | apply Kd.S_alloc | apply Kd.S_drewN | apply Kd.S_drew)); exact HO233.out))) (Kd.S_lt (by (with_reducible repeat (first | apply Kd.S_alloc | apply Kd.S_drewN | apply Kd.S_drew)); exact HO237.out))) (zr2 (by repeat (first | (with_reducible first | exact HB.out | apply zq7 | apply zq8 | apply zq9 | refine zr1 ?_ GE206.out | refine zr1 ?_ GE207.out | refine zr1 ?_ GE243.out) | exact HB.out))))
   have HO258 := mk_ (Kd.S_lower (Kd.S_new' (Kd.S_new' (Kd.S_new' (Kd.S_new' ho1 (Kd.S_lt (by (with_reducible repeat (first | apply Kd.S_alloc | apply Kd.S_drewN | apply Kd.S_drew)); exact HO218.out))) (Kd.S_lt (by (with_reducible repeat (first | apply Kd.S_alloc | apply Kd.S_drewN | apply Kd.S_drew)); exact HO222.out))) (Kd.S_lt (by (with_reducible repeat (first | apply Kd.S_alloc | apply Kd.S_drewN | apply Kd.S_drew)); exact HO233.out))) (Kd.S_lt (by (with_reducible repeat (first | apply Kd.S_alloc | apply Kd.S_drewN | apply Kd.S_drew)); exact HO237.out))) (zr2 (by repeat (first | (with_reducible first | exact HB.out | apply zq7 | apply zq8 | apply zq9 | refine zr1 ?_ GE206.out | refine zr1 ?_ GE207.out | refine zr1 ?_ GE243.out) | exact HB.out))))
   replace HO218 := mk_ (Kd.S_mono (Kd.S_told (Kd.S_told (Kd.S_old (by (with_reducible repeat (first | apply Kd.S_alloc | apply Kd.S_drewN | apply Kd.S_drew)); exact HO218.out) hb) (Kd.S_base ho0)) (Kd.S_base ho1)) (fun _ h_ => h_.1))
   replace HO222 := mk_ (Kd.S_mono (Kd.S_told (Kd.S_told (Kd.S_old (by (with_reducible repeat (first | apply Kd.S_alloc | apply Kd.S_drewN | apply Kd.S_drew)); exact HO222.out) hb) (Kd.S_base ho0)) (Kd.S_base ho1)) (fun _ h_ => h_.1))
   replace HO233 := mk_ (Kd.S_mono (Kd.S_told (Kd.S_told (Kd.S_old (by (with_reducible repeat (first | apply Kd.S_alloc | apply Kd.S_drewN | apply Kd.S_drew)); exact HO233.out) hb) (Kd.S_base ho0)) (Kd.S_base ho1)) (fun _ h_ => h_.1))
   replace HO237 := mk_ (Kd.S_mono (Kd.S_told (Kd.S_told (Kd.S_old (by (with_reducible repeat (first | apply Kd.S_alloc | apply Kd.S_drewN | apply Kd.S_drew)); exact HO237.out) hb) (Kd.S_base ho0)) (Kd.S_base ho1)) (fun _ h_ => h_.1))
   replace BK206 := mk_ (zq6 (by exact BK206.out) hb)
   replace BK207 := mk_ (zq6 (by exact BK207.out) hb)
   replace BK243 := mk_ (zq6 (by exact BK243.out) hb)
   replace HB := mk_ (zr3 (by repeat (first | (with_reducible first | exact HB.out | apply zq7 | apply zq8 | apply zq9 | refine zr1 ?_ GE206.out | refine zr1 ?_ GE207.out | refine zr1 ?_ GE243.out) | exact HB.out)) hb)
   (try clear hb)
   (try clear hb2)
   (try clear hk)
   (try clear hi)
   (try clear ho0)
   (try clear ho1)
   obtain ⟨Ao68, co68, eo68⟩ := Kd.S_slice HO254.out
   (first | subst eo68 | (injection eo68 with f1_ f2_ f3_; have f4_ := f1_.symm; have f5_ := f3_.symm; clear f1_ f2_ f3_; subst f4_; subst f5_))
   obtain ⟨Ao69, co69, eo69⟩ := Kd.S_slice HO258.out
   (first | subst eo69 | (injection eo69 with f1_ f2_ f3_; have f4_ := f1_.symm; have f5_ := f3_.symm; clear f1_ f2_ f3_; subst f4_; subst f5_))
   refine hK.out _ _ ⟨(zr4 BK243.out 0).trans rfl, (zr4 BK243.out 1).trans rfl, (zr4 BK243.out 2).trans rfl, (zr4 BK243.out 3).trans rfl, (zr4 BK243.out 4).trans rfl, (zr4 BK243.out 5).trans rfl, (zr4 BK243.out 6).trans rfl, (zr4 BK243.out 7).trans rfl, (zr4 BK243.out 8).trans rfl, (zr4 BK243.out 9).trans rfl, (zr4 BK207.out 0).trans rfl, (zr4 BK207.out 1).trans rfl, (zr4 BK207.out 2).trans rfl, (zr4 BK207.out 3).trans rfl, (zr4 BK207.out 4).trans rfl, (zr4 BK207.out 5).trans rfl, (zr4 BK207.out 6).trans rfl, (zr4 BK207.out 7).trans rfl, (zr4 BK207.out 8).trans rfl, (zr4 BK207.out 9).trans rfl⟩ (fun hHeld => ?_)
   clear hK K
   refine norm_ (a' := ?_) ?_ ?_
   rotate_left
   · show Act.put _ (some 30) _ = _
     simp only [Act.put, zs1, zs2, zs3, i64_w, i32_w]
     rfl
   refine one_ (i := 3) (N := some 31) #[true, true, true, true, false] rfl rfl (by kernel_rfl) (by decide) (fun K hK => ?_)
   refine goes_ Try.func52 (by kernel_rfl) rfl #[.agg #[.int .i64 t229, .int .i64 t230, .slice Ao60 t231.length co60, .int .i64 t234, .slice Ao61 t235.length co61, .bool t238, .int .i64 t239, .bool t240, .int .i64 t241, .bool t242], .agg #[.int .i64 t250, .int .i64 t251, .slice Ao68 t252.length co68, .int .i64 t255, .slice Ao69 t256.length co69, .bool t259, .int .i64 t260, .bool t261, .int .i64 t262, .bool t263]] (by rfl) rfl rfl (by (try simp only [List.map_toArray, List.map_cons, List.map_nil]); first | done | rfl | (simp only [List.length_drop, List.length_take]; rfl)) ?_
   with_reducible refine (laws_eqTxState.calls k t229 t230 _ _ t231 t234 _ _ t235 t238 t239 t240 t241 t242 t250 t251 _ _ t252 t255 _ _ t256 t259 t260 t261 t262 t263 true _ ?side1 ?side2 ?side3 ?side4 ?side5 ?side6 ?side7 ?side8 A41.out).mono ?_
   (case side1 => repeat (first | exact (Kd.S_reads' HO233.out).2.2 | (with_reducible refine Kd.C_alloc ?_ _) | (with_reducible refine Kd.C_drewN ?_ _) | (with_reducible refine Kd.C_drew ?_)))
   (case side2 => exact (Kd.S_reads' HO233.out).2.1)
   (case side3 => repeat (first | exact (Kd.S_reads' HO237.out).2.2 | (with_reducible refine Kd.C_alloc ?_ _) | (with_reducible refine Kd.C_drewN ?_ _) | (with_reducible refine Kd.C_drew ?_)))
   (case side4 => exact (Kd.S_reads' HO237.out).2.1)
   (case side5 => repeat (first | exact (Kd.S_reads' HO254.out).2.2 | (with_reducible refine Kd.C_alloc ?_ _) | (with_reducible refine Kd.C_drewN ?_ _) | (with_reducible refine Kd.C_drew ?_)))
   (case side6 => exact (Kd.S_reads' HO254.out).2.1)
   (case side7 => repeat (first | exact (Kd.S_reads' HO258.out).2.2 | (with_reducible refine Kd.C_alloc ?_ _) | (with_reducible refine Kd.C_drewN ?_ _) | (with_reducible refine Kd.C_drew ?_)))
   (case side8 => exact (Kd.S_reads' HO258.out).2.1)
   rintro e w70 ⟨rfl, hb⟩
   refine ⟨_, rfl, ?_⟩
   replace HO218 := mk_ (Kd.S_below (by (with_reducible repeat (first | apply Kd.S_alloc | apply Kd.S_drewN | apply Kd.S_drew)); exact HO218.out) hb)
   replace HO222 := mk_ (Kd.S_below (by (with_reducible repeat (first | apply Kd.S_alloc | apply Kd.S_drewN | apply Kd.S_drew)); exact HO222.out) hb)
   replace HO233 := mk_ (Kd.S_below (by (with_reducible repeat (first | apply Kd.S_alloc | apply Kd.S_drewN | apply Kd.S_drew)); exact HO233.out) hb)
   replace HO237 := mk_ (Kd.S_below (by (with_reducible repeat (first | apply Kd.S_alloc | apply Kd.S_drewN | apply Kd.S_drew)); exact HO237.out) hb)
   replace HO254 := mk_ (Kd.S_below (by (with_reducible repeat (first | apply Kd.S_alloc | apply Kd.S_drewN | apply Kd.S_drew)); exact HO254.out) hb)
   replace HO258 := mk_ (Kd.S_below (by (with_reducible repeat (first | apply Kd.S_alloc | apply Kd.S_drewN | apply Kd.S_drew)); exact HO258.out) hb)
   replace BK206 := mk_ (zq6 (by exact BK206.out) hb)
   replace BK207 := mk_ (zq6 (by exact BK207.out) hb)
   replace BK243 := mk_ (zq6 (by exact BK243.out) hb)
   replace HB := mk_ (zr3 (by repeat (first | (with_reducible first | exact HB.out | apply zq7 | apply zq8 | apply zq9 | refine zr1 ?_ GE206.out | refine zr1 ?_ GE207.out | refine zr1 ?_ GE243.out) | exact HB.out)) hb)
   (try clear hb)
   (try clear hb2)
   (try clear hk)
   (try clear hi)
   refine hK.out _ _ ⟨(zr4 BK243.out 0).trans rfl, (zr4 BK243.out 1).trans rfl, (zr4 BK243.out 2).trans rfl, (zr4 BK243.out 3).trans rfl, (zr4 BK243.out 4).trans rfl, (zr4 BK243.out 5).trans rfl, (zr4 BK243.out 6).trans rfl, (zr4 BK243.out 7).trans rfl, (zr4 BK243.out 8).trans rfl, (zr4 BK243.out 9).trans rfl, (zr4 BK207.out 0).trans rfl, (zr4 BK207.out 1).trans rfl, (zr4 BK207.out 2).trans rfl, (zr4 BK207.out 3).trans rfl, (zr4 BK207.out 4).trans rfl, (zr4 BK207.out 5).trans rfl, (zr4 BK207.out 6).trans rfl, (zr4 BK207.out 7).trans rfl, (zr4 BK207.out 8).trans rfl, (zr4 BK207.out 9).trans rfl⟩ (fun hHeld => ?_)
   clear hK K
   refine norm_ (a' := ?_) ?_ ?_
   rotate_left
   · show Act.put _ (some 31) _ = _
     simp only [Act.put, zs1, zs2, zs3, i64_w, i32_w]
     rfl
   refine pure_ (i := 4) (N := some 32) (v := ?_) (a' := ?_) #[true, true, true, true, true] rfl rfl (by kernel_rfl) (fun _ _ _ h => h) (Or.inl ⟨by rfl, ?_⟩) ?_ ?_
   rotate_left
   · intro w'
     go_simp
     with_reducible rfl
   rotate_left
   · simp only [Act.put, zs1, zs2, zs3, i64_w, i32_w]
     rfl
   refine done_ (by kernel_rfl) ?_
   try go_wp2
   go_ret
   exact ⟨by first | rfl | (simp [errW_none, errW_some] <;> rfl) | (simp [*, errW_none, errW_some] <;> rfl), by repeat (first | (with_reducible first | exact HB.out | apply zq7 | apply zq8 | apply zq9 | refine zr1 ?_ GE206.out | refine zr1 ?_ GE207.out | refine zr1 ?_ GE243.out) | exact HB.out)⟩
 replace c42 := Bool.eq_false_iff.mpr c42
 subst c42
 have H1 : (some false) = some r := by rw [if_neg (show ¬ (false = true) by decide)] at H; exact H
 clear H
 have H := H1
 clear H1
 obtain rfl := Option.some.inj H
 go_enter Try.func10, Try.ntmps10
 try go_wp2_with (first | ((with_reducible refine gate_dst (N := 2) rfl ?_); refine box_event ?hg (N := 2) ?hd (cs := #[.int .i64 a0_0, .int .i64 a0_1, .int .i64 a0_2, .int .i64 a0_3, .int .i64 a0_4]) (t := 60) ?hr ?_; (case hd => rfl); (case hg => rfl); (case hr => first | (go_simp; done) | (go_simp; rfl)); intro gb206 hg w71 hbox hb; have BK206 := mk_ (hbox); have GW206 := mk_ ((by rw [hg]; exact (zr2 (by repeat (first | (with_reducible first | exact HB.out | apply zq7 | apply zq8 | apply zq9) | exact HB.out))) : w.heap.size ≤ gb206)); have GE206 := GW206; replace HB := mk_ (zr3 (by repeat (first | (with_reducible first | exact HB.out | apply zq7 | apply zq8 | apply zq9) | exact HB.out)) hb); clear hb hbox hg) | ((with_reducible refine gate_dst (N := 3) rfl ?_); refine box_event ?hg (N := 3) ?hd (cs := #[.int .i64 a1_0, .int .i64 a1_1, .slice A1_2 l1_2.length c1_2, .int .i64 a1_3, .slice A1_4 l1_4.length c1_4, .bool a1_5, .int .i64 a1_6, .bool a1_7, .int .i64 a1_8, .bool a1_9]) (t := 63) ?hr ?_; (case hd => rfl); (case hg => rfl); (case hr => first | (go_simp; done) | (go_simp; rfl)); intro gb207 hg w72 hbox hb; have BK207 := mk_ (hbox); have GW207 := mk_ ((by rw [hg]; exact (zr2 (by repeat (first | (with_reducible first | exact HB.out | apply zq7 | apply zq8 | apply zq9 | refine zr1 ?_ GE206.out) | exact HB.out))) : w.heap.size ≤ gb207)); have GE207 := GW207; replace HB := mk_ (zr3 (by repeat (first | (with_reducible first | exact HB.out | apply zq7 | apply zq8 | apply zq9 | refine zr1 ?_ GE206.out) | exact HB.out)) hb); have NB206_207 := mk_ ((by rw [hg]; exact zm2 (zr6 (by exact BK206.out)) : gb206 ≠ gb207)); replace BK206 := mk_ (zq6 (by exact BK206.out) hb); have NB207_206 := mk_ NB206_207.out.symm; clear hb hbox hg; have hnb73 := NB207_206.out; have hnc73 := NB206_207.out; obtain ⟨hcz74_0, hcz74_1, hcz74_2, hcz74_3, hcz74_4, hcz74_5, hcz74_6, hcz74_7, hcz74_8, hcz74_9⟩ := cz10 BK207.out; obtain ⟨hfz74_0, hfz74_1, hfz74_2, hfz74_3, hfz74_4, hfz74_5, hfz74_6, hfz74_7, hfz74_8, hfz74_9⟩ := fz10 BK207.out) | ((with_reducible refine gate_callee (f := 47) rfl ?_); refine goesL_ (some 11) rfl rfl Try.func47 (by kernel_rfl) rfl #[.agg #[.int .i64 a1_0, .int .i64 a1_1, .slice A1_2 l1_2.length c1_2, .int .i64 a1_3, .slice A1_4 l1_4.length c1_4, .bool a1_5, .int .i64 a1_6, .bool a1_7, .int .i64 a1_8, .bool a1_9], .int .i64 1048576] rfl (by (try simp only [List.map_toArray, List.map_cons, List.map_nil]); first | done | rfl | (simp only [List.length_drop, List.length_take]; rfl)) ?_; (with_reducible refine (laws_szTxState.calls k a1_0 a1_1 _ _ l1_2 a1_3 _ _ l1_4 a1_5 a1_6 a1_7 a1_8 a1_9 1048576 t208 _ ?side1 ?side2 ?side3 ?side4 A3.out).mono ?_); (case side1 => repeat (first | exact (Kd.C_below HR1_2.out HB.out) | (with_reducible refine Kd.C_alloc ?_ _) | (with_reducible refine Kd.C_drewN ?_ _) | (with_reducible refine Kd.C_drew ?_))); (case side2 => exact HC1_2.out); (case side3 => repeat (first | exact (Kd.C_below HR1_4.out HB.out) | (with_reducible refine Kd.C_alloc ?_ _) | (with_reducible refine Kd.C_drewN ?_ _) | (with_reducible refine Kd.C_drew ?_))); (case side4 => exact HC1_4.out); rintro e w75 ⟨rfl, hb⟩; refine ⟨_, rfl, ?_⟩; replace BK206 := mk_ (zq6 (by exact BK206.out) hb); replace BK207 := mk_ (zq6 (by exact BK207.out) hb); replace HB := mk_ (zr3 (by repeat (first | (with_reducible first | exact HB.out | apply zq7 | apply zq8 | apply zq9 | refine zr1 ?_ GE206.out | refine zr1 ?_ GE207.out) | exact HB.out)) hb); (try clear hb); (try clear hb2); (try clear hk); (try clear hi)))
 replace BK206 := mk_ (zq2 BK206.out)
 replace BK207 := mk_ (zq2 BK207.out)
 replace HB := mk_ (zq9 HB.out)
 refine start_ (n := 6) (S := fun w' => w'.cell? ⟨gb206, 0, none⟩ = some (.int .i64 a0_0) ∧ w'.cell? ⟨gb206, 1, none⟩ = some (.int .i64 a0_1) ∧ w'.cell? ⟨gb206, 2, none⟩ = some (.int .i64 a0_2) ∧ w'.cell? ⟨gb206, 3, none⟩ = some (.int .i64 a0_3) ∧ w'.cell? ⟨gb206, 4, none⟩ = some (.int .i64 a0_4) ∧ w'.cell? ⟨gb207, 0, none⟩ = some (.int .i64 a1_0) ∧ w'.cell? ⟨gb207, 1, none⟩ = some (.int .i64 a1_1) ∧ w'.cell? ⟨gb207, 2, none⟩ = some (.slice A1_2 l1_2.length c1_2) ∧ w'.cell? ⟨gb207, 3, none⟩ = some (.int .i64 a1_3) ∧ w'.cell? ⟨gb207, 4, none⟩ = some (.slice A1_4 l1_4.length c1_4) ∧ w'.cell? ⟨gb207, 5, none⟩ = some (.bool a1_5) ∧ w'.cell? ⟨gb207, 6, none⟩ = some (.int .i64 a1_6) ∧ w'.cell? ⟨gb207, 7, none⟩ = some (.bool a1_7) ∧ w'.cell? ⟨gb207, 8, none⟩ = some (.int .i64 a1_8) ∧ w'.cell? ⟨gb207, 9, none⟩ = some (.bool a1_9)) (ds := []) (bm 6 0) (by kernel_rfl) rfl rfl ⟨(zr4 BK206.out 0).trans rfl, (zr4 BK206.out 1).trans rfl, (zr4 BK206.out 2).trans rfl, (zr4 BK206.out 3).trans rfl, (zr4 BK206.out 4).trans rfl, (zr4 BK207.out 0).trans rfl, (zr4 BK207.out 1).trans rfl, (zr4 BK207.out 2).trans rfl, (zr4 BK207.out 3).trans rfl, (zr4 BK207.out 4).trans rfl, (zr4 BK207.out 5).trans rfl, (zr4 BK207.out 6).trans rfl, (zr4 BK207.out 7).trans rfl, (zr4 BK207.out 8).trans rfl, (zr4 BK207.out 9).trans rfl⟩ (fun hHeld => ?_)
 generalize w75.drew = w76 at BK206 BK207 HB hHeld ⊢
 refine take_ (i := 0) (N := some 14) (v := ?_) (a' := ?_) (bm 6 1) rfl rfl (by kernel_rfl) (fun _ _ _ h => h) (Or.inl ⟨by rfl, ?_⟩) hHeld ?_ ?_
 rotate_left
 · rintro w' ⟨s0, s1, s2, s3, s4, s5, s6, s7, s8, s9, s10, s11, s12, s13, s14⟩
   go_simp
   with_reducible rfl
 rotate_left
 · simp only [Act.put, zs1, zs2, zs3, i64_w, i32_w]
   rfl
 refine take_ (i := 2) (N := some 16) (v := ?_) (a' := ?_) (bm 6 5) rfl rfl (by kernel_rfl) (fun _ _ _ h => h) (Or.inl ⟨by rfl, ?_⟩) hHeld ?_ ?_
 rotate_left
 · rintro w' ⟨s0, s1, s2, s3, s4, s5, s6, s7, s8, s9, s10, s11, s12, s13, s14⟩
   go_simp
   with_reducible rfl
 rotate_left
 · simp only [Act.put, zs1, zs2, zs3, i64_w, i32_w]
   rfl
 refine one_ (i := 1) (N := some 15) (bm 6 7) rfl rfl (by kernel_rfl) (by decide) (fun K hK => ?_)
 refine goes_ Try.func49 (by kernel_rfl) rfl #[.agg #[.int .i64 a0_0, .int .i64 a0_1, .int .i64 a0_2, .int .i64 a0_3, .int .i64 a0_4]] (by rfl) rfl rfl (by (try simp only [List.map_toArray, List.map_cons, List.map_nil]); first | done | rfl | (simp only [List.length_drop, List.length_take]; rfl)) ?_
 with_reducible refine (laws_toCfgOpts.calls a0_0 a0_1 a0_2 a0_3 a0_4 t209 t210 t211 t212 t213 _ A10.out).mono ?_
 rintro e w77 ⟨rfl, hb⟩
 refine ⟨_, rfl, ?_⟩
 replace BK206 := mk_ (zq6 (by exact BK206.out) hb)
 replace BK207 := mk_ (zq6 (by exact BK207.out) hb)
 replace HB := mk_ (zr3 (by repeat (first | (with_reducible first | exact HB.out | apply zq7 | apply zq8 | apply zq9 | refine zr1 ?_ GE206.out | refine zr1 ?_ GE207.out) | exact HB.out)) hb)
 (try clear hb)
 (try clear hb2)
 (try clear hk)
 (try clear hi)
 refine hK.out _ _ ⟨(zr4 BK206.out 0).trans rfl, (zr4 BK206.out 1).trans rfl, (zr4 BK206.out 2).trans rfl, (zr4 BK206.out 3).trans rfl, (zr4 BK206.out 4).trans rfl, (zr4 BK207.out 0).trans rfl, (zr4 BK207.out 1).trans rfl, (zr4 BK207.out 2).trans rfl, (zr4 BK207.out 3).trans rfl, (zr4 BK207.out 4).trans rfl, (zr4 BK207.out 5).trans rfl, (zr4 BK207.out 6).trans rfl, (zr4 BK207.out 7).trans rfl, (zr4 BK207.out 8).trans rfl, (zr4 BK207.out 9).trans rfl⟩ (fun hHeld => ?_)
 clear hK K
 refine norm_ (a' := ?_) ?_ ?_
 rotate_left
 · show Act.put _ (some 15) _ = _
   simp only [Act.put, zs1, zs2, zs3, i64_w, i32_w]
   rfl
 refine one_ (i := 3) (N := some 17) (bm 6 15) rfl rfl (by kernel_rfl) (by decide) (fun K hK => ?_)
 refine goes_ Try.func50 (by kernel_rfl) rfl #[.agg #[.int .i64 a1_0, .int .i64 a1_1, .slice A1_2 l1_2.length c1_2, .int .i64 a1_3, .slice A1_4 l1_4.length c1_4, .bool a1_5, .int .i64 a1_6, .bool a1_7, .int .i64 a1_8, .bool a1_9]] (by rfl) rfl rfl (by (try simp only [List.map_toArray, List.map_cons, List.map_nil]); first | done | rfl | (simp only [List.length_drop, List.length_take]; rfl)) ?_
 with_reducible refine (laws_toTxState.calls k a1_0 a1_1 _ _ l1_2 a1_3 _ _ l1_4 a1_5 a1_6 a1_7 a1_8 a1_9 t214 t215 t216 t219 t220 t223 t224 t225 t226 t227 _ ?side1 ?side2 ?side3 ?side4 A11.out).mono ?_
 (case side1 => repeat (first | exact (Kd.C_below HR1_2.out HB.out) | (with_reducible refine Kd.C_alloc ?_ _) | (with_reducible refine Kd.C_drewN ?_ _) | (with_reducible refine Kd.C_drew ?_)))
 (case side2 => exact HC1_2.out)
 (case side3 => repeat (first | exact (Kd.C_below HR1_4.out HB.out) | (with_reducible refine Kd.C_alloc ?_ _) | (with_reducible refine Kd.C_drewN ?_ _) | (with_reducible refine Kd.C_drew ?_)))
 (case side4 => exact HC1_4.out)
 rintro e w78 ⟨v217, v221, rfl, ho0, ho1, hb⟩
 refine ⟨_, rfl, ?_⟩
 have HO218 := mk_ (Kd.S_lower ho0 (zr2 (by repeat (first | (with_reducible first | exact HB.out | apply zq7 | apply zq8 | apply zq9 | refine zr1 ?_ GE206.out | refine zr1 ?_ GE207.out) | exact HB.out))))
 have HO222 := mk_ (Kd.S_lower ho1 (zr2 (by repeat (first | (with_reducible first | exact HB.out | apply zq7 | apply zq8 | apply zq9 | refine zr1 ?_ GE206.out | refine zr1 ?_ GE207.out) | exact HB.out))))
 replace BK206 := mk_ (zq6 (by exact BK206.out) hb)
 replace BK207 := mk_ (zq6 (by exact BK207.out) hb)
 replace HB := mk_ (zr3 (by repeat (first | (with_reducible first | exact HB.out | apply zq7 | apply zq8 | apply zq9 | refine zr1 ?_ GE206.out | refine zr1 ?_ GE207.out) | exact HB.out)) hb)
 (try clear hb)
 (try clear hb2)
 (try clear hk)
 (try clear hi)
 (try clear ho0)
 (try clear ho1)
 obtain ⟨Ao79, co79, eo79⟩ := Kd.S_slice HO218.out
 (first | subst eo79 | (injection eo79 with f1_ f2_ f3_; have f4_ := f1_.symm; have f5_ := f3_.symm; clear f1_ f2_ f3_; subst f4_; subst f5_))
 obtain ⟨Ao80, co80, eo80⟩ := Kd.S_slice HO222.out
 (first | subst eo80 | (injection eo80 with f1_ f2_ f3_; have f4_ := f1_.symm; have f5_ := f3_.symm; clear f1_ f2_ f3_; subst f4_; subst f5_))
 refine hK.out _ _ ⟨(zr4 BK206.out 0).trans rfl, (zr4 BK206.out 1).trans rfl, (zr4 BK206.out 2).trans rfl, (zr4 BK206.out 3).trans rfl, (zr4 BK206.out 4).trans rfl, (zr4 BK207.out 0).trans rfl, (zr4 BK207.out 1).trans rfl, (zr4 BK207.out 2).trans rfl, (zr4 BK207.out 3).trans rfl, (zr4 BK207.out 4).trans rfl, (zr4 BK207.out 5).trans rfl, (zr4 BK207.out 6).trans rfl, (zr4 BK207.out 7).trans rfl, (zr4 BK207.out 8).trans rfl, (zr4 BK207.out 9).trans rfl⟩ (fun hHeld => ?_)
 clear hK K
 refine norm_ (a' := ?_) ?_ ?_
 rotate_left
 · show Act.put _ (some 17) _ = _
   simp only [Act.put, zs1, zs2, zs3, i64_w, i32_w]
   rfl
 refine one_ (i := 4) (N := some 18) (bm 6 31) rfl rfl (by kernel_rfl) (by decide) (fun K hK => ?_)
 refine goes_ Try.func48 (by kernel_rfl) rfl #[.agg #[.int .i64 t209, .int .i64 t210, .int .i64 t211, .int .i64 t212, .int .i64 t213], .agg #[.int .i64 t214, .int .i64 t215, .slice Ao79 t216.length co79, .int .i64 t219, .slice Ao80 t220.length co80, .bool t223, .int .i64 t224, .bool t225, .int .i64 t226, .bool t227]] (by rfl) rfl rfl (by (try simp only [List.map_toArray, List.map_cons, List.map_nil]); first | done | rfl | (simp only [List.length_drop, List.length_take]; rfl)) ?_
 with_reducible refine (spec_TxOk.calls k t209 t210 t211 t212 t213 t214 t215 _ _ t216 t219 _ _ t220 t223 t224 t225 t226 t227 t228 _ ?side1 ?side2 ?side3 ?side4 A12.out).mono ?_
 (case side1 => repeat (first | exact (Kd.S_reads' HO218.out).2.2 | (with_reducible refine Kd.C_alloc ?_ _) | (with_reducible refine Kd.C_drewN ?_ _) | (with_reducible refine Kd.C_drew ?_)))
 (case side2 => exact (Kd.S_reads' HO218.out).2.1)
 (case side3 => repeat (first | exact (Kd.S_reads' HO222.out).2.2 | (with_reducible refine Kd.C_alloc ?_ _) | (with_reducible refine Kd.C_drewN ?_ _) | (with_reducible refine Kd.C_drew ?_)))
 (case side4 => exact (Kd.S_reads' HO222.out).2.1)
 rintro e w81 ⟨rfl, hb⟩
 refine ⟨_, rfl, ?_⟩
 replace HO218 := mk_ (Kd.S_below (by (with_reducible repeat (first | apply Kd.S_alloc | apply Kd.S_drewN | apply Kd.S_drew)); exact HO218.out) hb)
 replace HO222 := mk_ (Kd.S_below (by (with_reducible repeat (first | apply Kd.S_alloc | apply Kd.S_drewN | apply Kd.S_drew)); exact HO222.out) hb)
 replace BK206 := mk_ (zq6 (by exact BK206.out) hb)
 replace BK207 := mk_ (zq6 (by exact BK207.out) hb)
 replace HB := mk_ (zr3 (by repeat (first | (with_reducible first | exact HB.out | apply zq7 | apply zq8 | apply zq9 | refine zr1 ?_ GE206.out | refine zr1 ?_ GE207.out) | exact HB.out)) hb)
 (try clear hb)
 (try clear hb2)
 (try clear hk)
 (try clear hi)
 refine hK.out _ _ ⟨(zr4 BK206.out 0).trans rfl, (zr4 BK206.out 1).trans rfl, (zr4 BK206.out 2).trans rfl, (zr4 BK206.out 3).trans rfl, (zr4 BK206.out 4).trans rfl, (zr4 BK207.out 0).trans rfl, (zr4 BK207.out 1).trans rfl, (zr4 BK207.out 2).trans rfl, (zr4 BK207.out 3).trans rfl, (zr4 BK207.out 4).trans rfl, (zr4 BK207.out 5).trans rfl, (zr4 BK207.out 6).trans rfl, (zr4 BK207.out 7).trans rfl, (zr4 BK207.out 8).trans rfl, (zr4 BK207.out 9).trans rfl⟩ (fun hHeld => ?_)
 clear hK K
 refine norm_ (a' := ?_) ?_ ?_
 rotate_left
 · show Act.put _ (some 18) _ = _
   simp only [Act.put, zs1, zs2, zs3, i64_w, i32_w]
   rfl
 refine pure_ (i := 5) (N := some 6) (v := ?_) (a' := ?_) (bm 6 63) rfl rfl (by kernel_rfl) (fun _ _ _ h => h) (Or.inl ⟨by rfl, ?_⟩) ?_ ?_
 rotate_left
 · intro w'
   go_simp
   with_reducible rfl
 rotate_left
 · simp only [Act.put, zs1, zs2, zs3, i64_w, i32_w]
   rfl
 refine done_ (by kernel_rfl) ?_
 obtain ⟨hcz82_0, hcz82_1, hcz82_2, hcz82_3, hcz82_4, hcz82_5, hcz82_6, hcz82_7, hcz82_8, hcz82_9⟩ := cz10 BK207.out
 obtain ⟨hfz82_0, hfz82_1, hfz82_2, hfz82_3, hfz82_4, hfz82_5, hfz82_6, hfz82_7, hfz82_8, hfz82_9⟩ := fz10 BK207.out
 try go_wp2_with (first | ((with_reducible refine gate_callee (f := 50) rfl ?_); refine goesL_ (some 20) rfl rfl Try.func50 (by kernel_rfl) rfl #[.agg #[.int .i64 a1_0, .int .i64 a1_1, .slice A1_2 l1_2.length c1_2, .int .i64 a1_3, .slice A1_4 l1_4.length c1_4, .bool a1_5, .int .i64 a1_6, .bool a1_7, .int .i64 a1_8, .bool a1_9]] rfl (by (try simp only [List.map_toArray, List.map_cons, List.map_nil]); first | done | rfl | (simp only [List.length_drop, List.length_take]; rfl)) ?_; (with_reducible refine (laws_toTxState.calls k a1_0 a1_1 _ _ l1_2 a1_3 _ _ l1_4 a1_5 a1_6 a1_7 a1_8 a1_9 t229 t230 t231 t234 t235 t238 t239 t240 t241 t242 _ ?side1 ?side2 ?side3 ?side4 A13.out).mono ?_); (case side1 => repeat (first | exact (Kd.C_below HR1_2.out HB.out) | (with_reducible refine Kd.C_alloc ?_ _) | (with_reducible refine Kd.C_drewN ?_ _) | (with_reducible refine Kd.C_drew ?_))); (case side2 => exact HC1_2.out); (case side3 => repeat (first | exact (Kd.C_below HR1_4.out HB.out) | (with_reducible refine Kd.C_alloc ?_ _) | (with_reducible refine Kd.C_drewN ?_ _) | (with_reducible refine Kd.C_drew ?_))); (case side4 => exact HC1_4.out); rintro e w83 ⟨v232, v236, rfl, ho0, ho1, hb⟩; refine ⟨_, rfl, ?_⟩; have HO233 := mk_ (Kd.S_lower (Kd.S_new' (Kd.S_new' ho0 (Kd.S_lt (by (with_reducible repeat (first | apply Kd.S_alloc | apply Kd.S_drewN | apply Kd.S_drew)); exact HO218.out))) (Kd.S_lt (by (with_reducible repeat (first | apply Kd.S_alloc | apply Kd.S_drewN | apply Kd.S_drew)); exact HO222.out))) (zr2 (by repeat (first | (with_reducible first | exact HB.out | apply zq7 | apply zq8 | apply zq9 | refine zr1 ?_ GE206.out | refine zr1 ?_ GE207.out) | exact HB.out)))); have HO237 := mk_ (Kd.S_lower (Kd.S_new' (Kd.S_new' ho1 (Kd.S_lt (by (with_reducible repeat (first | apply Kd.S_alloc | apply Kd.S_drewN | apply Kd.S_drew)); exact HO218.out))) (Kd.S_lt (by (with_reducible repeat (first | apply Kd.S_alloc | apply Kd.S_drewN | apply Kd.S_drew)); exact HO222.out))) (zr2 (by repeat (first | (with_reducible first | exact HB.out | apply zq7 | apply zq8 | apply zq9 | refine zr1 ?_ GE206.out | refine zr1 ?_ GE207.out) | exact HB.out)))); replace HO218 := mk_ (Kd.S_mono (Kd.S_told (Kd.S_told (Kd.S_old (by (with_reducible repeat (first | apply Kd.S_alloc | apply Kd.S_drewN | apply Kd.S_drew)); exact HO218.out) hb) (Kd.S_base ho0)) (Kd.S_base ho1)) (fun _ h_ => h_.1)); replace HO222 := mk_ (Kd.S_mono (Kd.S_told (Kd.S_told (Kd.S_old (by (with_reducible repeat (first | apply Kd.S_alloc | apply Kd.S_drewN | apply Kd.S_drew)); exact HO222.out) hb) (Kd.S_base ho0)) (Kd.S_base ho1)) (fun _ h_ => h_.1)); replace BK206 := mk_ (zq6 (by exact BK206.out) hb); replace BK207 := mk_ (zq6 (by exact BK207.out) hb); replace HB := mk_ (zr3 (by repeat (first | (with_reducible first | exact HB.out | apply zq7 | apply zq8 | apply zq9 | refine zr1 ?_ GE206.out | refine zr1 ?_ GE207.out) | exact HB.out)) hb); (try clear hb); (try clear hb2); (try clear hk); (try clear hi); (try clear ho0); (try clear ho1)) | ((with_reducible refine gate_dst (N := 7) rfl ?_); refine box_event ?hg (N := 7) ?hd (cs := #[.int .i64 0, .int .i64 0, .slice none 0 0, .int .i64 0, .slice none 0 0, .bool false, .int .i64 0, .bool false, .int .i64 0, .bool false]) (t := 69) ?hr ?_; (case hd => rfl); (case hg => rfl); (case hr => first | (go_simp; done) | (go_simp; rfl)); intro gb243 hg w84 hbox hb; replace HO218 := mk_ (Kd.S_below (by (with_reducible repeat (first | apply Kd.S_alloc | apply Kd.S_drewN | apply Kd.S_drew)); exact HO218.out) hb); replace HO222 := mk_ (Kd.S_below (by (with_reducible repeat (first | apply Kd.S_alloc | apply Kd.S_drewN | apply Kd.S_drew)); exact HO222.out) hb); replace HO233 := mk_ (Kd.S_below (by (with_reducible repeat (first | apply Kd.S_alloc | apply Kd.S_drewN | apply Kd.S_drew)); exact HO233.out) hb); replace HO237 := mk_ (Kd.S_below (by (with_reducible repeat (first | apply Kd.S_alloc | apply Kd.S_drewN | apply Kd.S_drew)); exact HO237.out) hb); have BK243 := mk_ (hbox); have GW243 := mk_ ((by rw [hg]; exact (zr2 (by repeat (first | (with_reducible first | exact HB.out | apply zq7 | apply zq8 | apply zq9 | refine zr1 ?_ GE206.out | refine zr1 ?_ GE207.out) | exact HB.out))) : w.heap.size ≤ gb243)); have GE243 := GW243; replace HB := mk_ (zr3 (by repeat (first | (with_reducible first | exact HB.out | apply zq7 | apply zq8 | apply zq9 | refine zr1 ?_ GE206.out | refine zr1 ?_ GE207.out) | exact HB.out)) hb); have NB206_243 := mk_ ((by rw [hg]; exact zm2 (zr6 (by exact BK206.out)) : gb206 ≠ gb243)); replace BK206 := mk_ (zq6 (by exact BK206.out) hb); have NB243_206 := mk_ NB206_243.out.symm; have NB207_243 := mk_ ((by rw [hg]; exact zm2 (zr6 (by exact BK207.out)) : gb207 ≠ gb243)); replace BK207 := mk_ (zq6 (by exact BK207.out) hb); have NB243_207 := mk_ NB207_243.out.symm; clear hb hbox hg; have hnb85 := NB243_206.out; have hnc85 := NB206_243.out; have hnb86 := NB243_207.out; have hnc86 := NB207_243.out; obtain ⟨hcz87_0, hcz87_1, hcz87_2, hcz87_3, hcz87_4, hcz87_5, hcz87_6, hcz87_7, hcz87_8, hcz87_9⟩ := cz10 BK243.out; obtain ⟨hfz87_0, hfz87_1, hfz87_2, hfz87_3, hfz87_4, hfz87_5, hfz87_6, hfz87_7, hfz87_8, hfz87_9⟩ := fz10 BK243.out; obtain ⟨Ao88, co88, eo88⟩ := Kd.S_slice HO233.out; subst eo88; obtain ⟨Ao89, co89, eo89⟩ := Kd.S_slice HO237.out; subst eo89))
 have n0_ : Aside0 (Kd.S k39 39 ((((((((((w84.setCell ⟨gb243, 0, none⟩ (.int .i64 t229)).setCell ⟨gb243, 1, none⟩ (.int .i64 t230)).setCell ⟨gb243, 2, none⟩ (.slice Ao88 t231.length co88)).setCell ⟨gb243, 3, none⟩ (.int .i64 t234)).setCell ⟨gb243, 4, none⟩ (.slice Ao89 t235.length co89)).setCell ⟨gb243, 5, none⟩ (.bool t238)).setCell ⟨gb243, 6, none⟩ (.int .i64 t239)).setCell ⟨gb243, 7, none⟩ (.bool t240)).setCell ⟨gb243, 8, none⟩ (.int .i64 t241)).setCell ⟨gb243, 9, none⟩ (.bool t242)) w.heap.size (fun k_ => some k_ ≠ (.slice Ao80 t220.length co80 : Value).ownBlock ∧ some k_ ≠ (.slice Ao88 t231.length co88 : Value).ownBlock ∧ some k_ ≠ (.slice Ao89 t235.length co89 : Value).ownBlock) (.slice Ao79 t216.length co79) t216) := ⟨by (with_reducible repeat (first | apply Kd.S_alloc | apply Kd.S_drewN | apply Kd.S_drew)); exact Kd.S_mono (Kd.S_far (p := ⟨gb243, 9, none⟩) (Kd.S_far (p := ⟨gb243, 8, none⟩) (Kd.S_far (p := ⟨gb243, 7, none⟩) (Kd.S_far (p := ⟨gb243, 6, none⟩) (Kd.S_far (p := ⟨gb243, 5, none⟩) (Kd.S_far (p := ⟨gb243, 4, none⟩) (Kd.S_far (p := ⟨gb243, 3, none⟩) (Kd.S_far (p := ⟨gb243, 2, none⟩) (Kd.S_far (p := ⟨gb243, 1, none⟩) (Kd.S_far (p := ⟨gb243, 0, none⟩) (Kd.S_types HO218.out BK243.out (by decide)) (fun _ hk => hk.2) (.int .i64 t229)) (fun _ hk => hk.2) (.int .i64 t230)) (fun _ hk => hk.2) (.slice Ao88 t231.length co88)) (fun _ hk => hk.2) (.int .i64 t234)) (fun _ hk => hk.2) (.slice Ao89 t235.length co89)) (fun _ hk => hk.2) (.bool t238)) (fun _ hk => hk.2) (.int .i64 t239)) (fun _ hk => hk.2) (.bool t240)) (fun _ hk => hk.2) (.int .i64 t241)) (fun _ hk => hk.2) (.bool t242)) (fun _ hk => ⟨hk.1.1.1, ⟨hk.1.1.2, hk.1.2⟩⟩)⟩
 have n1_ : Aside0 (Kd.S k39 39 ((((((((((w84.setCell ⟨gb243, 0, none⟩ (.int .i64 t229)).setCell ⟨gb243, 1, none⟩ (.int .i64 t230)).setCell ⟨gb243, 2, none⟩ (.slice Ao88 t231.length co88)).setCell ⟨gb243, 3, none⟩ (.int .i64 t234)).setCell ⟨gb243, 4, none⟩ (.slice Ao89 t235.length co89)).setCell ⟨gb243, 5, none⟩ (.bool t238)).setCell ⟨gb243, 6, none⟩ (.int .i64 t239)).setCell ⟨gb243, 7, none⟩ (.bool t240)).setCell ⟨gb243, 8, none⟩ (.int .i64 t241)).setCell ⟨gb243, 9, none⟩ (.bool t242)) w.heap.size (fun k_ => some k_ ≠ (.slice Ao79 t216.length co79 : Value).ownBlock ∧ some k_ ≠ (.slice Ao88 t231.length co88 : Value).ownBlock ∧ some k_ ≠ (.slice Ao89 t235.length co89 : Value).ownBlock) (.slice Ao80 t220.length co80) t220) := ⟨by (with_reducible repeat (first | apply Kd.S_alloc | apply Kd.S_drewN | apply Kd.S_drew)); exact Kd.S_mono (Kd.S_far (p := ⟨gb243, 9, none⟩) (Kd.S_far (p := ⟨gb243, 8, none⟩) (Kd.S_far (p := ⟨gb243, 7, none⟩) (Kd.S_far (p := ⟨gb243, 6, none⟩) (Kd.S_far (p := ⟨gb243, 5, none⟩) (Kd.S_far (p := ⟨gb243, 4, none⟩) (Kd.S_far (p := ⟨gb243, 3, none⟩) (Kd.S_far (p := ⟨gb243, 2, none⟩) (Kd.S_far (p := ⟨gb243, 1, none⟩) (Kd.S_far (p := ⟨gb243, 0, none⟩) (Kd.S_types HO222.out BK243.out (by decide)) (fun _ hk => hk.2) (.int .i64 t229)) (fun _ hk => hk.2) (.int .i64 t230)) (fun _ hk => hk.2) (.slice Ao88 t231.length co88)) (fun _ hk => hk.2) (.int .i64 t234)) (fun _ hk => hk.2) (.slice Ao89 t235.length co89)) (fun _ hk => hk.2) (.bool t238)) (fun _ hk => hk.2) (.int .i64 t239)) (fun _ hk => hk.2) (.bool t240)) (fun _ hk => hk.2) (.int .i64 t241)) (fun _ hk => hk.2) (.bool t242)) (fun _ hk => ⟨hk.1.1.1, ⟨hk.1.1.2, hk.1.2⟩⟩)⟩
 have n2_ : Aside0 (Kd.S k39 39 ((((((((((w84.setCell ⟨gb243, 0, none⟩ (.int .i64 t229)).setCell ⟨gb243, 1, none⟩ (.int .i64 t230)).setCell ⟨gb243, 2, none⟩ (.slice Ao88 t231.length co88)).setCell ⟨gb243, 3, none⟩ (.int .i64 t234)).setCell ⟨gb243, 4, none⟩ (.slice Ao89 t235.length co89)).setCell ⟨gb243, 5, none⟩ (.bool t238)).setCell ⟨gb243, 6, none⟩ (.int .i64 t239)).setCell ⟨gb243, 7, none⟩ (.bool t240)).setCell ⟨gb243, 8, none⟩ (.int .i64 t241)).setCell ⟨gb243, 9, none⟩ (.bool t242)) w.heap.size (fun k_ => some k_ ≠ (.slice Ao79 t216.length co79 : Value).ownBlock ∧ some k_ ≠ (.slice Ao80 t220.length co80 : Value).ownBlock ∧ some k_ ≠ (.slice Ao89 t235.length co89 : Value).ownBlock) (.slice Ao88 t231.length co88) t231) := ⟨by (with_reducible repeat (first | apply Kd.S_alloc | apply Kd.S_drewN | apply Kd.S_drew)); exact Kd.S_mono (Kd.S_far (p := ⟨gb243, 9, none⟩) (Kd.S_far (p := ⟨gb243, 8, none⟩) (Kd.S_far (p := ⟨gb243, 7, none⟩) (Kd.S_far (p := ⟨gb243, 6, none⟩) (Kd.S_far (p := ⟨gb243, 5, none⟩) (Kd.S_far (p := ⟨gb243, 4, none⟩) (Kd.S_far (p := ⟨gb243, 3, none⟩) (Kd.S_far (p := ⟨gb243, 2, none⟩) (Kd.S_far (p := ⟨gb243, 1, none⟩) (Kd.S_far (p := ⟨gb243, 0, none⟩) (Kd.S_types HO233.out BK243.out (by decide)) (fun _ hk => hk.2) (.int .i64 t229)) (fun _ hk => hk.2) (.int .i64 t230)) (fun _ hk => hk.2) (.slice Ao88 t231.length co88)) (fun _ hk => hk.2) (.int .i64 t234)) (fun _ hk => hk.2) (.slice Ao89 t235.length co89)) (fun _ hk => hk.2) (.bool t238)) (fun _ hk => hk.2) (.int .i64 t239)) (fun _ hk => hk.2) (.bool t240)) (fun _ hk => hk.2) (.int .i64 t241)) (fun _ hk => hk.2) (.bool t242)) (fun _ hk => ⟨hk.1.1.2, ⟨hk.1.2, hk.1.1.1⟩⟩)⟩
 have n3_ : Aside0 (Kd.S k39 39 ((((((((((w84.setCell ⟨gb243, 0, none⟩ (.int .i64 t229)).setCell ⟨gb243, 1, none⟩ (.int .i64 t230)).setCell ⟨gb243, 2, none⟩ (.slice Ao88 t231.length co88)).setCell ⟨gb243, 3, none⟩ (.int .i64 t234)).setCell ⟨gb243, 4, none⟩ (.slice Ao89 t235.length co89)).setCell ⟨gb243, 5, none⟩ (.bool t238)).setCell ⟨gb243, 6, none⟩ (.int .i64 t239)).setCell ⟨gb243, 7, none⟩ (.bool t240)).setCell ⟨gb243, 8, none⟩ (.int .i64 t241)).setCell ⟨gb243, 9, none⟩ (.bool t242)) w.heap.size (fun k_ => some k_ ≠ (.slice Ao79 t216.length co79 : Value).ownBlock ∧ some k_ ≠ (.slice Ao80 t220.length co80 : Value).ownBlock ∧ some k_ ≠ (.slice Ao88 t231.length co88 : Value).ownBlock) (.slice Ao89 t235.length co89) t235) := ⟨by (with_reducible repeat (first | apply Kd.S_alloc | apply Kd.S_drewN | apply Kd.S_drew)); exact Kd.S_mono (Kd.S_far (p := ⟨gb243, 9, none⟩) (Kd.S_far (p := ⟨gb243, 8, none⟩) (Kd.S_far (p := ⟨gb243, 7, none⟩) (Kd.S_far (p := ⟨gb243, 6, none⟩) (Kd.S_far (p := ⟨gb243, 5, none⟩) (Kd.S_far (p := ⟨gb243, 4, none⟩) (Kd.S_far (p := ⟨gb243, 3, none⟩) (Kd.S_far (p := ⟨gb243, 2, none⟩) (Kd.S_far (p := ⟨gb243, 1, none⟩) (Kd.S_far (p := ⟨gb243, 0, none⟩) (Kd.S_types HO237.out BK243.out (by decide)) (fun _ hk => hk.2) (.int .i64 t229)) (fun _ hk => hk.2) (.int .i64 t230)) (fun _ hk => hk.2) (.slice Ao88 t231.length co88)) (fun _ hk => hk.2) (.int .i64 t234)) (fun _ hk => hk.2) (.slice Ao89 t235.length co89)) (fun _ hk => hk.2) (.bool t238)) (fun _ hk => hk.2) (.int .i64 t239)) (fun _ hk => hk.2) (.bool t240)) (fun _ hk => hk.2) (.int .i64 t241)) (fun _ hk => hk.2) (.bool t242)) (fun _ hk => ⟨hk.1.1.2, ⟨hk.1.2, hk.1.1.1⟩⟩)⟩
 have n4_ : Aside0 (((((((((((w84.setCell ⟨gb243, 0, none⟩ (.int .i64 t229)).setCell ⟨gb243, 1, none⟩ (.int .i64 t230)).setCell ⟨gb243, 2, none⟩ (.slice Ao88 t231.length co88)).setCell ⟨gb243, 3, none⟩ (.int .i64 t234)).setCell ⟨gb243, 4, none⟩ (.slice Ao89 t235.length co89)).setCell ⟨gb243, 5, none⟩ (.bool t238)).setCell ⟨gb243, 6, none⟩ (.int .i64 t239)).setCell ⟨gb243, 7, none⟩ (.bool t240)).setCell ⟨gb243, 8, none⟩ (.int .i64 t241)).setCell ⟨gb243, 9, none⟩ (.bool t242)).heap[gb206]? = some (.cells #[.int .i64 a0_0, .int .i64 a0_1, .int .i64 a0_2, .int .i64 a0_3, .int .i64 a0_4] 60 (0, 0))) := ⟨by (with_reducible repeat (first | refine zq1 ?_ _ | refine zq2 ?_ | refine zq3 ?_ _)); refine fa10 ?_ NB206_243.out; (with_reducible repeat (first | refine zq1 ?_ _ | refine zq2 ?_ | refine zq3 ?_ _)); exact BK206.out⟩
 have n5_ : Aside0 (((((((((((w84.setCell ⟨gb243, 0, none⟩ (.int .i64 t229)).setCell ⟨gb243, 1, none⟩ (.int .i64 t230)).setCell ⟨gb243, 2, none⟩ (.slice Ao88 t231.length co88)).setCell ⟨gb243, 3, none⟩ (.int .i64 t234)).setCell ⟨gb243, 4, none⟩ (.slice Ao89 t235.length co89)).setCell ⟨gb243, 5, none⟩ (.bool t238)).setCell ⟨gb243, 6, none⟩ (.int .i64 t239)).setCell ⟨gb243, 7, none⟩ (.bool t240)).setCell ⟨gb243, 8, none⟩ (.int .i64 t241)).setCell ⟨gb243, 9, none⟩ (.bool t242)).heap[gb207]? = some (.cells #[.int .i64 a1_0, .int .i64 a1_1, .slice A1_2 l1_2.length c1_2, .int .i64 a1_3, .slice A1_4 l1_4.length c1_4, .bool a1_5, .int .i64 a1_6, .bool a1_7, .int .i64 a1_8, .bool a1_9] 63 (0, 0))) := ⟨by (with_reducible repeat (first | refine zq1 ?_ _ | refine zq2 ?_ | refine zq3 ?_ _)); refine fa10 ?_ NB207_243.out; (with_reducible repeat (first | refine zq1 ?_ _ | refine zq2 ?_ | refine zq3 ?_ _)); exact BK207.out⟩
 have n6_ : Aside0 (((((((((((w84.setCell ⟨gb243, 0, none⟩ (.int .i64 t229)).setCell ⟨gb243, 1, none⟩ (.int .i64 t230)).setCell ⟨gb243, 2, none⟩ (.slice Ao88 t231.length co88)).setCell ⟨gb243, 3, none⟩ (.int .i64 t234)).setCell ⟨gb243, 4, none⟩ (.slice Ao89 t235.length co89)).setCell ⟨gb243, 5, none⟩ (.bool t238)).setCell ⟨gb243, 6, none⟩ (.int .i64 t239)).setCell ⟨gb243, 7, none⟩ (.bool t240)).setCell ⟨gb243, 8, none⟩ (.int .i64 t241)).setCell ⟨gb243, 9, none⟩ (.bool t242)).heap[gb243]? = some (.cells #[.int .i64 t229, .int .i64 t230, .slice Ao88 t231.length co88, .int .i64 t234, .slice Ao89 t235.length co89, .bool t238, .int .i64 t239, .bool t240, .int .i64 t241, .bool t242] 69 (0, 0))) := ⟨by (with_reducible repeat (first | refine zq1 ?_ _ | refine zq2 ?_ | refine zq3 ?_ _)); apply pu10; (with_reducible repeat (first | refine zq1 ?_ _ | refine zq2 ?_ | refine zq3 ?_ _)); exact BK243.out⟩
 have n7_ : Aside0 (Below w.heap.size w ((((((((((w84.setCell ⟨gb243, 0, none⟩ (.int .i64 t229)).setCell ⟨gb243, 1, none⟩ (.int .i64 t230)).setCell ⟨gb243, 2, none⟩ (.slice Ao88 t231.length co88)).setCell ⟨gb243, 3, none⟩ (.int .i64 t234)).setCell ⟨gb243, 4, none⟩ (.slice Ao89 t235.length co89)).setCell ⟨gb243, 5, none⟩ (.bool t238)).setCell ⟨gb243, 6, none⟩ (.int .i64 t239)).setCell ⟨gb243, 7, none⟩ (.bool t240)).setCell ⟨gb243, 8, none⟩ (.int .i64 t241)).setCell ⟨gb243, 9, none⟩ (.bool t242))) := ⟨by repeat (first | (with_reducible first | exact HB.out | apply zq7 | apply zq8 | apply zq9 | refine zr1 ?_ GE206.out | refine zr1 ?_ GE207.out | refine zr1 ?_ GE243.out) | exact HB.out)⟩
 (try clear HO218)
 (try clear HO222)
 (try clear HO233)
 (try clear HO237)
 (try clear BK206)
 (try clear BK207)
 (try clear BK243)
 (try clear HB)
 generalize ((((((((((w84.setCell ⟨gb243, 0, none⟩ (.int .i64 t229)).setCell ⟨gb243, 1, none⟩ (.int .i64 t230)).setCell ⟨gb243, 2, none⟩ (.slice Ao88 t231.length co88)).setCell ⟨gb243, 3, none⟩ (.int .i64 t234)).setCell ⟨gb243, 4, none⟩ (.slice Ao89 t235.length co89)).setCell ⟨gb243, 5, none⟩ (.bool t238)).setCell ⟨gb243, 6, none⟩ (.int .i64 t239)).setCell ⟨gb243, 7, none⟩ (.bool t240)).setCell ⟨gb243, 8, none⟩ (.int .i64 t241)).setCell ⟨gb243, 9, none⟩ (.bool t242)) = w90 at n0_ n1_ n2_ n3_ n4_ n5_ n6_ n7_ ⊢
 have HO218 := n0_
 have HO222 := n1_
 have HO233 := n2_
 have HO237 := n3_
 have BK206 := n4_
 have BK207 := n5_
 have BK243 := n6_
 have HB := n7_
 clear n0_ n1_ n2_ n3_ n4_ n5_ n6_ n7_
 replace HO218 := mk_ (Kd.S_drew HO218.out)
 replace HO222 := mk_ (Kd.S_drew HO222.out)
 replace HO233 := mk_ (Kd.S_drew HO233.out)
 replace HO237 := mk_ (Kd.S_drew HO237.out)
 replace BK206 := mk_ (zq2 BK206.out)
 replace BK207 := mk_ (zq2 BK207.out)
 replace BK243 := mk_ (zq2 BK243.out)
 replace HB := mk_ (zq9 HB.out)
 refine start_ (n := 5) (S := fun w' => w'.cell? ⟨gb206, 0, none⟩ = some (.int .i64 a0_0) ∧ w'.cell? ⟨gb206, 1, none⟩ = some (.int .i64 a0_1) ∧ w'.cell? ⟨gb206, 2, none⟩ = some (.int .i64 a0_2) ∧ w'.cell? ⟨gb206, 3, none⟩ = some (.int .i64 a0_3) ∧ w'.cell? ⟨gb206, 4, none⟩ = some (.int .i64 a0_4) ∧ w'.cell? ⟨gb243, 0, none⟩ = some (.int .i64 t229) ∧ w'.cell? ⟨gb243, 1, none⟩ = some (.int .i64 t230) ∧ w'.cell? ⟨gb243, 2, none⟩ = some (.slice Ao88 t231.length co88) ∧ w'.cell? ⟨gb243, 3, none⟩ = some (.int .i64 t234) ∧ w'.cell? ⟨gb243, 4, none⟩ = some (.slice Ao89 t235.length co89) ∧ w'.cell? ⟨gb243, 5, none⟩ = some (.bool t238) ∧ w'.cell? ⟨gb243, 6, none⟩ = some (.int .i64 t239) ∧ w'.cell? ⟨gb243, 7, none⟩ = some (.bool t240) ∧ w'.cell? ⟨gb243, 8, none⟩ = some (.int .i64 t241) ∧ w'.cell? ⟨gb243, 9, none⟩ = some (.bool t242)) (ds := []) #[false, false, false, false, false] (by kernel_rfl) rfl rfl ⟨(zr4 BK206.out 0).trans rfl, (zr4 BK206.out 1).trans rfl, (zr4 BK206.out 2).trans rfl, (zr4 BK206.out 3).trans rfl, (zr4 BK206.out 4).trans rfl, (zr4 BK243.out 0).trans rfl, (zr4 BK243.out 1).trans rfl, (zr4 BK243.out 2).trans rfl, (zr4 BK243.out 3).trans rfl, (zr4 BK243.out 4).trans rfl, (zr4 BK243.out 5).trans rfl, (zr4 BK243.out 6).trans rfl, (zr4 BK243.out 7).trans rfl, (zr4 BK243.out 8).trans rfl, (zr4 BK243.out 9).trans rfl⟩ (fun hHeld => ?_)
 generalize w90.drew = w91 at HO218 HO222 HO233 HO237 BK206 BK207 BK243 HB hHeld ⊢
 refine take_ (i := 0) (N := some 21) (v := ?_) (a' := ?_) #[true, false, false, false, false] rfl rfl (by kernel_rfl) (fun _ _ _ h => h) (Or.inl ⟨by rfl, ?_⟩) hHeld ?_ ?_
 rotate_left
 · rintro w' ⟨s0, s1, s2, s3, s4, s5, s6, s7, s8, s9, s10, s11, s12, s13, s14⟩
   go_simp
   with_reducible rfl
 rotate_left
 · simp only [Act.put, zs1, zs2, zs3, i64_w, i32_w]
   rfl
 refine take_ (i := 2) (N := some 23) (v := ?_) (a' := ?_) #[true, false, true, false, false] rfl rfl (by kernel_rfl) (fun _ _ _ h => h) (Or.inl ⟨by rfl, ?_⟩) hHeld ?_ ?_
 rotate_left
 · rintro w' ⟨s0, s1, s2, s3, s4, s5, s6, s7, s8, s9, s10, s11, s12, s13, s14⟩
   go_simp
   with_reducible rfl
 rotate_left
 · simp only [Act.put, zs1, zs2, zs3, i64_w, i32_w]
   rfl
 refine one_ (i := 1) (N := some 22) #[true, true, true, false, false] rfl rfl (by kernel_rfl) (by decide) (fun K hK => ?_)
 refine goes_ Try.func49 (by kernel_rfl) rfl #[.agg #[.int .i64 a0_0, .int .i64 a0_1, .int .i64 a0_2, .int .i64 a0_3, .int .i64 a0_4]] (by rfl) rfl rfl (by (try simp only [List.map_toArray, List.map_cons, List.map_nil]); first | done | rfl | (simp only [List.length_drop, List.length_take]; rfl)) ?_
 with_reducible refine (laws_toCfgOpts.calls a0_0 a0_1 a0_2 a0_3 a0_4 t244 t245 t246 t247 t248 _ A14.out).mono ?_
 rintro e w92 ⟨rfl, hb⟩
 refine ⟨_, rfl, ?_⟩
 replace HO218 := mk_ (Kd.S_below (by (with_reducible repeat (first | apply Kd.S_alloc | apply Kd.S_drewN | apply Kd.S_drew)); exact HO218.out) hb)
 replace HO222 := mk_ (Kd.S_below (by (with_reducible repeat (first | apply Kd.S_alloc | apply Kd.S_drewN | apply Kd.S_drew)); exact HO222.out) hb)
 replace HO233 := mk_ (Kd.S_below (by (with_reducible repeat (first | apply Kd.S_alloc | apply Kd.S_drewN | apply Kd.S_drew)); exact HO233.out) hb)
 replace HO237 := mk_ (Kd.S_below (by (with_reducible repeat (first | apply Kd.S_alloc | apply Kd.S_drewN | apply Kd.S_drew)); exact HO237.out) hb)
 replace BK206 := mk_ (zq6 (by exact BK206.out) hb)
 replace BK207 := mk_ (zq6 (by exact BK207.out) hb)
 replace BK243 := mk_ (zq6 (by exact BK243.out) hb)
 replace HB := mk_ (zr3 (by repeat (first | (with_reducible first | exact HB.out | apply zq7 | apply zq8 | apply zq9 | refine zr1 ?_ GE206.out | refine zr1 ?_ GE207.out | refine zr1 ?_ GE243.out) | exact HB.out)) hb)
 (try clear hb)
 (try clear hb2)
 (try clear hk)
 (try clear hi)
 refine hK.out _ _ ⟨(zr4 BK206.out 0).trans rfl, (zr4 BK206.out 1).trans rfl, (zr4 BK206.out 2).trans rfl, (zr4 BK206.out 3).trans rfl, (zr4 BK206.out 4).trans rfl, (zr4 BK243.out 0).trans rfl, (zr4 BK243.out 1).trans rfl, (zr4 BK243.out 2).trans rfl, (zr4 BK243.out 3).trans rfl, (zr4 BK243.out 4).trans rfl, (zr4 BK243.out 5).trans rfl, (zr4 BK243.out 6).trans rfl, (zr4 BK243.out 7).trans rfl, (zr4 BK243.out 8).trans rfl, (zr4 BK243.out 9).trans rfl⟩ (fun hHeld => ?_)
 clear hK K
 refine norm_ (a' := ?_) ?_ ?_
 rotate_left
 · show Act.put _ (some 22) _ = _
   simp only [Act.put, zs1, zs2, zs3, i64_w, i32_w]
   rfl
 refine one_ (i := 3) (N := some 24) #[true, true, true, true, false] rfl rfl (by kernel_rfl) (by decide) (fun K hK => ?_)
 refine goes_ Try.func51 (by kernel_rfl) rfl #[.agg #[.int .i64 t244, .int .i64 t245, .int .i64 t246, .int .i64 t247, .int .i64 t248], .agg #[.int .i64 t229, .int .i64 t230, .slice Ao88 t231.length co88, .int .i64 t234, .slice Ao89 t235.length co89, .bool t238, .int .i64 t239, .bool t240, .int .i64 t241, .bool t242]] (by rfl) rfl rfl (by (try simp only [List.map_toArray, List.map_cons, List.map_nil]); first | done | rfl | (simp only [List.length_drop, List.length_take]; rfl)) ?_
 with_reducible refine (impl_TxOk.calls k t244 t245 t246 t247 t248 t229 t230 _ _ t231 t234 _ _ t235 t238 t239 t240 t241 t242 t249 _ ?side1 ?side2 ?side3 ?side4 A15.out).mono ?_
 (case side1 => repeat (first | exact (Kd.S_reads' HO233.out).2.2 | (with_reducible refine Kd.C_alloc ?_ _) | (with_reducible refine Kd.C_drewN ?_ _) | (with_reducible refine Kd.C_drew ?_)))
 (case side2 => exact (Kd.S_reads' HO233.out).2.1)
 (case side3 => repeat (first | exact (Kd.S_reads' HO237.out).2.2 | (with_reducible refine Kd.C_alloc ?_ _) | (with_reducible refine Kd.C_drewN ?_ _) | (with_reducible refine Kd.C_drew ?_)))
 (case side4 => exact (Kd.S_reads' HO237.out).2.1)
 rintro e w93 ⟨rfl, hb⟩
 refine ⟨_, rfl, ?_⟩
 replace HO218 := mk_ (Kd.S_below (by (with_reducible repeat (first | apply Kd.S_alloc | apply Kd.S_drewN | apply Kd.S_drew)); exact HO218.out) hb)
 replace HO222 := mk_ (Kd.S_below (by (with_reducible repeat (first | apply Kd.S_alloc | apply Kd.S_drewN | apply Kd.S_drew)); exact HO222.out) hb)
 replace HO233 := mk_ (Kd.S_below (by (with_reducible repeat (first | apply Kd.S_alloc | apply Kd.S_drewN | apply Kd.S_drew)); exact HO233.out) hb)
 replace HO237 := mk_ (Kd.S_below (by (with_reducible repeat (first | apply Kd.S_alloc | apply Kd.S_drewN | apply Kd.S_drew)); exact HO237.out) hb)
 replace BK206 := mk_ (zq6 (by exact BK206.out) hb)
 replace BK207 := mk_ (zq6 (by exact BK207.out) hb)
 replace BK243 := mk_ (zq6 (by exact BK243.out) hb)
 replace HB := mk_ (zr3 (by repeat (first | (with_reducible first | exact HB.out | apply zq7 | apply zq8 | apply zq9 | refine zr1 ?_ GE206.out | refine zr1 ?_ GE207.out | refine zr1 ?_ GE243.out) | exact HB.out)) hb)
 (try clear hb)
 (try clear hb2)
 (try clear hk)
 (try clear hi)
 refine hK.out _ _ ⟨(zr4 BK206.out 0).trans rfl, (zr4 BK206.out 1).trans rfl, (zr4 BK206.out 2).trans rfl, (zr4 BK206.out 3).trans rfl, (zr4 BK206.out 4).trans rfl, (zr4 BK243.out 0).trans rfl, (zr4 BK243.out 1).trans rfl, (zr4 BK243.out 2).trans rfl, (zr4 BK243.out 3).trans rfl, (zr4 BK243.out 4).trans rfl, (zr4 BK243.out 5).trans rfl, (zr4 BK243.out 6).trans rfl, (zr4 BK243.out 7).trans rfl, (zr4 BK243.out 8).trans rfl, (zr4 BK243.out 9).trans rfl⟩ (fun hHeld => ?_)
 clear hK K
 refine norm_ (a' := ?_) ?_ ?_
 rotate_left
 · show Act.put _ (some 24) _ = _
   simp only [Act.put, zs1, zs2, zs3, i64_w, i32_w]
   rfl
 refine pure_ (i := 4) (N := some 8) (v := ?_) (a' := ?_) #[true, true, true, true, true] rfl rfl (by kernel_rfl) (fun _ _ _ h => h) (Or.inl ⟨by rfl, ?_⟩) ?_ ?_
 rotate_left
 · intro w'
   go_simp
   with_reducible rfl
 rotate_left
 · simp only [Act.put, zs1, zs2, zs3, i64_w, i32_w]
   rfl
 refine done_ (by kernel_rfl) ?_
 try go_wp2
 replace HO218 := mk_ (Kd.S_drew HO218.out)
 replace HO222 := mk_ (Kd.S_drew HO222.out)
 replace HO233 := mk_ (Kd.S_drew HO233.out)
 replace HO237 := mk_ (Kd.S_drew HO237.out)
 replace BK206 := mk_ (zq2 BK206.out)
 replace BK207 := mk_ (zq2 BK207.out)
 replace BK243 := mk_ (zq2 BK243.out)
 replace HB := mk_ (zq9 HB.out)
 refine start_ (n := 5) (S := fun w' => w'.cell? ⟨gb243, 0, none⟩ = some (.int .i64 t229) ∧ w'.cell? ⟨gb243, 1, none⟩ = some (.int .i64 t230) ∧ w'.cell? ⟨gb243, 2, none⟩ = some (.slice Ao88 t231.length co88) ∧ w'.cell? ⟨gb243, 3, none⟩ = some (.int .i64 t234) ∧ w'.cell? ⟨gb243, 4, none⟩ = some (.slice Ao89 t235.length co89) ∧ w'.cell? ⟨gb243, 5, none⟩ = some (.bool t238) ∧ w'.cell? ⟨gb243, 6, none⟩ = some (.int .i64 t239) ∧ w'.cell? ⟨gb243, 7, none⟩ = some (.bool t240) ∧ w'.cell? ⟨gb243, 8, none⟩ = some (.int .i64 t241) ∧ w'.cell? ⟨gb243, 9, none⟩ = some (.bool t242) ∧ w'.cell? ⟨gb207, 0, none⟩ = some (.int .i64 a1_0) ∧ w'.cell? ⟨gb207, 1, none⟩ = some (.int .i64 a1_1) ∧ w'.cell? ⟨gb207, 2, none⟩ = some (.slice A1_2 l1_2.length c1_2) ∧ w'.cell? ⟨gb207, 3, none⟩ = some (.int .i64 a1_3) ∧ w'.cell? ⟨gb207, 4, none⟩ = some (.slice A1_4 l1_4.length c1_4) ∧ w'.cell? ⟨gb207, 5, none⟩ = some (.bool a1_5) ∧ w'.cell? ⟨gb207, 6, none⟩ = some (.int .i64 a1_6) ∧ w'.cell? ⟨gb207, 7, none⟩ = some (.bool a1_7) ∧ w'.cell? ⟨gb207, 8, none⟩ = some (.int .i64 a1_8) ∧ w'.cell? ⟨gb207, 9, none⟩ = some (.bool a1_9)) (ds := []) #[false, false, false, false, false] (by kernel_rfl) rfl rfl ⟨(zr4 BK243.out 0).trans rfl, (zr4 BK243.out 1).trans rfl, (zr4 BK243.out 2).trans rfl, (zr4 BK243.out 3).trans rfl, (zr4 BK243.out 4).trans rfl, (zr4 BK243.out 5).trans rfl, (zr4 BK243.out 6).trans rfl, (zr4 BK243.out 7).trans rfl, (zr4 BK243.out 8).trans rfl, (zr4 BK243.out 9).trans rfl, (zr4 BK207.out 0).trans rfl, (zr4 BK207.out 1).trans rfl, (zr4 BK207.out 2).trans rfl, (zr4 BK207.out 3).trans rfl, (zr4 BK207.out 4).trans rfl, (zr4 BK207.out 5).trans rfl, (zr4 BK207.out 6).trans rfl, (zr4 BK207.out 7).trans rfl, (zr4 BK207.out 8).trans rfl, (zr4 BK207.out 9).trans rfl⟩ (fun hHeld => ?_)
 generalize w93.drew = w94 at HO218 HO222 HO233 HO237 BK206 BK207 BK243 HB hHeld ⊢
 refine take_ (i := 0) (N := some 28) (v := ?_) (a' := ?_) #[true, false, false, false, false] rfl rfl (by kernel_rfl) (fun _ _ _ h => h) (Or.inl ⟨by rfl, ?_⟩) hHeld ?_ ?_
 rotate_left
 · rintro w' ⟨s0, s1, s2, s3, s4, s5, s6, s7, s8, s9, s10, s11, s12, s13, s14, s15, s16, s17, s18, s19⟩
   go_simp
   with_reducible rfl
 rotate_left
 · simp only [Act.put, zs1, zs2, zs3, i64_w, i32_w]
   rfl
 refine take_ (i := 1) (N := some 29) (v := ?_) (a' := ?_) #[true, true, false, false, false] rfl rfl (by kernel_rfl) (fun _ _ _ h => h) (Or.inl ⟨by rfl, ?_⟩) hHeld ?_ ?_
 rotate_left
 · rintro w' ⟨s0, s1, s2, s3, s4, s5, s6, s7, s8, s9, s10, s11, s12, s13, s14, s15, s16, s17, s18, s19⟩
   go_simp
   with_reducible rfl
 rotate_left
 · simp only [Act.put, zs1, zs2, zs3, i64_w, i32_w]
   rfl
 refine one_ (i := 2) (N := some 30) #[true, true, true, false, false] rfl rfl (by kernel_rfl) (by decide) (fun K hK => ?_)
 refine goes_ Try.func50 (by kernel_rfl) rfl #[.agg #[.int .i64 a1_0, .int .i64 a1_1, .slice A1_2 l1_2.length c1_2, .int .i64 a1_3, .slice A1_4 l1_4.length c1_4, .bool a1_5, .int .i64 a1_6, .bool a1_7, .int .i64 a1_8, .bool a1_9]] (by rfl) rfl rfl (by (try simp only [List.map_toArray, List.map_cons, List.map_nil]); first | done | rfl | (simp only [List.length_drop, List.length_take]; rfl)) ?_
 with_reducible refine (laws_toTxState.calls k a1_0 a1_1 _ _ l1_2 a1_3 _ _ l1_4 a1_5 a1_6 a1_7 a1_8 a1_9 t250 t251 t252 t255 t256 t259 t260 t261 t262 t263 _ ?side1 ?side2 ?side3 ?side4 A40.out).mono ?_
 (case side1 => repeat (first | exact (Kd.C_below HR1_2.out HB.out) | (with_reducible refine Kd.C_alloc ?_ _) | (with_reducible refine Kd.C_drewN ?_ _) | (with_reducible refine Kd.C_drew ?_)))
 (case side2 => exact HC1_2.out)
 (case side3 => repeat (first | exact (Kd.C_below HR1_4.out HB.out) | (with_reducible refine Kd.C_alloc ?_ _) | (with_reducible refine Kd.C_drewN ?_ _) | (with_reducible refine Kd.C_drew ?_)))
 (case side4 => exact HC1_4.out)
 rintro e w95 ⟨v253, v257, rfl, ho0, ho1, hb⟩
 refine ⟨_, rfl, ?_⟩
 have HO254 := mk_ (Kd.S_lower (Kd.S_new' (Kd.S_new' (Kd.S_new' (Kd.S_new' ho0 (Kd.S_lt (by (with_reducible repeat (first | apply Kd.S_alloc | apply Kd.S_drewN | apply Kd.S_drew)); exact HO218.out))) (Kd.S_lt (by (with_reducible repeat (first | apply Kd.S_alloc | apply Kd.S_drewN | apply Kd.S_drew)); exact HO222.out))) (Kd.S_lt (by (with_reducible repeat (first | apply Kd.S_alloc | apply Kd.S_drewN | apply Kd.S_drew)); exact HO233.out))) (Kd.S_lt (by (with_reducible repeat (first | apply Kd.S_alloc | apply Kd.S_drewN | apply Kd.S_drew)); exact HO237.out))) (zr2 (by repeat (first | (with_reducible first | exact HB.out | apply zq7 | apply zq8 | apply zq9 | refine zr1 ?_ GE206.out | refine zr1 ?_ GE207.out | refine zr1 ?_ GE243.out) | exact HB.out))))
 have HO258 := mk_ (Kd.S_lower (Kd.S_new' (Kd.S_new' (Kd.S_new' (Kd.S_new' ho1 (Kd.S_lt (by (with_reducible repeat (first | apply Kd.S_alloc | apply Kd.S_drewN | apply Kd.S_drew)); exact HO218.out))) (Kd.S_lt (by (with_reducible repeat (first | apply Kd.S_alloc | apply Kd.S_drewN | apply Kd.S_drew)); exact HO222.out))) (Kd.S_lt (by (with_reducible repeat (first | apply Kd.S_alloc | apply Kd.S_drewN | apply Kd.S_drew)); exact HO233.out))) (Kd.S_lt (by (with_reducible repeat (first | apply Kd.S_alloc | apply Kd.S_drewN | apply Kd.S_drew)); exact HO237.out))) (zr2 (by repeat (first | (with_reducible first | exact HB.out | apply zq7 | apply zq8 | apply zq9 | refine zr1 ?_ GE206.out | refine zr1 ?_ GE207.out | refine zr1 ?_ GE243.out) | exact HB.out))))
 replace HO218 := mk_ (Kd.S_mono (Kd.S_told (Kd.S_told (Kd.S_old (by (with_reducible repeat (first | apply Kd.S_alloc | apply Kd.S_drewN | apply Kd.S_drew)); exact HO218.out) hb) (Kd.S_base ho0)) (Kd.S_base ho1)) (fun _ h_ => h_.1))
 replace HO222 := mk_ (Kd.S_mono (Kd.S_told (Kd.S_told (Kd.S_old (by (with_reducible repeat (first | apply Kd.S_alloc | apply Kd.S_drewN | apply Kd.S_drew)); exact HO222.out) hb) (Kd.S_base ho0)) (Kd.S_base ho1)) (fun _ h_ => h_.1))
 replace HO233 := mk_ (Kd.S_mono (Kd.S_told (Kd.S_told (Kd.S_old (by (with_reducible repeat (first | apply Kd.S_alloc | apply Kd.S_drewN | apply Kd.S_drew)); exact HO233.out) hb) (Kd.S_base ho0)) (Kd.S_base ho1)) (fun _ h_ => h_.1))
 replace HO237 := mk_ (Kd.S_mono (Kd.S_told (Kd.S_told (Kd.S_old (by (with_reducible repeat (first | apply Kd.S_alloc | apply Kd.S_drewN | apply Kd.S_drew)); exact HO237.out) hb) (Kd.S_base ho0)) (Kd.S_base ho1)) (fun _ h_ => h_.1))
 replace BK206 := mk_ (zq6 (by exact BK206.out) hb)
 replace BK207 := mk_ (zq6 (by exact BK207.out) hb)
 replace BK243 := mk_ (zq6 (by exact BK243.out) hb)
 replace HB := mk_ (zr3 (by repeat (first | (with_reducible first | exact HB.out | apply zq7 | apply zq8 | apply zq9 | refine zr1 ?_ GE206.out | refine zr1 ?_ GE207.out | refine zr1 ?_ GE243.out) | exact HB.out)) hb)
 (try clear hb)
 (try clear hb2)
 (try clear hk)
 (try clear hi)
 (try clear ho0)
 (try clear ho1)
 obtain ⟨Ao96, co96, eo96⟩ := Kd.S_slice HO254.out
 (first | subst eo96 | (injection eo96 with f1_ f2_ f3_; have f4_ := f1_.symm; have f5_ := f3_.symm; clear f1_ f2_ f3_; subst f4_; subst f5_))
 obtain ⟨Ao97, co97, eo97⟩ := Kd.S_slice HO258.out
 (first | subst eo97 | (injection eo97 with f1_ f2_ f3_; have f4_ := f1_.symm; have f5_ := f3_.symm; clear f1_ f2_ f3_; subst f4_; subst f5_))
 refine hK.out _ _ ⟨(zr4 BK243.out 0).trans rfl, (zr4 BK243.out 1).trans rfl, (zr4 BK243.out 2).trans rfl, (zr4 BK243.out 3).trans rfl, (zr4 BK243.out 4).trans rfl, (zr4 BK243.out 5).trans rfl, (zr4 BK243.out 6).trans rfl, (zr4 BK243.out 7).trans rfl, (zr4 BK243.out 8).trans rfl, (zr4 BK243.out 9).trans rfl, (zr4 BK207.out 0).trans rfl, (zr4 BK207.out 1).trans rfl, (zr4 BK207.out 2).trans rfl, (zr4 BK207.out 3).trans rfl, (zr4 BK207.out 4).trans rfl, (zr4 BK207.out 5).trans rfl, (zr4 BK207.out 6).trans rfl, (zr4 BK207.out 7).trans rfl, (zr4 BK207.out 8).trans rfl, (zr4 BK207.out 9).trans rfl⟩ (fun hHeld => ?_)
 clear hK K
 refine norm_ (a' := ?_) ?_ ?_
 rotate_left
 · show Act.put _ (some 30) _ = _
   simp only [Act.put, zs1, zs2, zs3, i64_w, i32_w]
   rfl
 refine one_ (i := 3) (N := some 31) #[true, true, true, true, false] rfl rfl (by kernel_rfl) (by decide) (fun K hK => ?_)
 refine goes_ Try.func52 (by kernel_rfl) rfl #[.agg #[.int .i64 t229, .int .i64 t230, .slice Ao88 t231.length co88, .int .i64 t234, .slice Ao89 t235.length co89, .bool t238, .int .i64 t239, .bool t240, .int .i64 t241, .bool t242], .agg #[.int .i64 t250, .int .i64 t251, .slice Ao96 t252.length co96, .int .i64 t255, .slice Ao97 t256.length co97, .bool t259, .int .i64 t260, .bool t261, .int .i64 t262, .bool t263]] (by rfl) rfl rfl (by (try simp only [List.map_toArray, List.map_cons, List.map_nil]); first | done | rfl | (simp only [List.length_drop, List.length_take]; rfl)) ?_
 with_reducible refine (laws_eqTxState.calls k t229 t230 _ _ t231 t234 _ _ t235 t238 t239 t240 t241 t242 t250 t251 _ _ t252 t255 _ _ t256 t259 t260 t261 t262 t263 false _ ?side1 ?side2 ?side3 ?side4 ?side5 ?side6 ?side7 ?side8 A41.out).mono ?_
 (case side1 => repeat (first | exact (Kd.S_reads' HO233.out).2.2 | (with_reducible refine Kd.C_alloc ?_ _) | (with_reducible refine Kd.C_drewN ?_ _) | (with_reducible refine Kd.C_drew ?_)))
 (case side2 => exact (Kd.S_reads' HO233.out).2.1)
 (case side3 => repeat (first | exact (Kd.S_reads' HO237.out).2.2 | (with_reducible refine Kd.C_alloc ?_ _) | (with_reducible refine Kd.C_drewN ?_ _) | (with_reducible refine Kd.C_drew ?_)))
 (case side4 => exact (Kd.S_reads' HO237.out).2.1)
 (case side5 => repeat (first | exact (Kd.S_reads' HO254.out).2.2 | (with_reducible refine Kd.C_alloc ?_ _) | (with_reducible refine Kd.C_drewN ?_ _) | (with_reducible refine Kd.C_drew ?_)))
 (case side6 => exact (Kd.S_reads' HO254.out).2.1)
 (case side7 => repeat (first | exact (Kd.S_reads' HO258.out).2.2 | (with_reducible refine Kd.C_alloc ?_ _) | (with_reducible refine Kd.C_drewN ?_ _) | (with_reducible refine Kd.C_drew ?_)))
 (case side8 => exact (Kd.S_reads' HO258.out).2.1)
 rintro e w98 ⟨rfl, hb⟩
 refine ⟨_, rfl, ?_⟩
 replace HO218 := mk_ (Kd.S_below (by (with_reducible repeat (first | apply Kd.S_alloc | apply Kd.S_drewN | apply Kd.S_drew)); exact HO218.out) hb)
 replace HO222 := mk_ (Kd.S_below (by (with_reducible repeat (first | apply Kd.S_alloc | apply Kd.S_drewN | apply Kd.S_drew)); exact HO222.out) hb)
 replace HO233 := mk_ (Kd.S_below (by (with_reducible repeat (first | apply Kd.S_alloc | apply Kd.S_drewN | apply Kd.S_drew)); exact HO233.out) hb)
 replace HO237 := mk_ (Kd.S_below (by (with_reducible repeat (first | apply Kd.S_alloc | apply Kd.S_drewN | apply Kd.S_drew)); exact HO237.out) hb)
 replace HO254 := mk_ (Kd.S_below (by (with_reducible repeat (first | apply Kd.S_alloc | apply Kd.S_drewN | apply Kd.S_drew)); exact HO254.out) hb)
 replace HO258 := mk_ (Kd.S_below (by (with_reducible repeat (first | apply Kd.S_alloc | apply Kd.S_drewN | apply Kd.S_drew)); exact HO258.out) hb)
 replace BK206 := mk_ (zq6 (by exact BK206.out) hb)
 replace BK207 := mk_ (zq6 (by exact BK207.out) hb)
 replace BK243 := mk_ (zq6 (by exact BK243.out) hb)
 replace HB := mk_ (zr3 (by repeat (first | (with_reducible first | exact HB.out | apply zq7 | apply zq8 | apply zq9 | refine zr1 ?_ GE206.out | refine zr1 ?_ GE207.out | refine zr1 ?_ GE243.out) | exact HB.out)) hb)
 (try clear hb)
 (try clear hb2)
 (try clear hk)
 (try clear hi)
 refine hK.out _ _ ⟨(zr4 BK243.out 0).trans rfl, (zr4 BK243.out 1).trans rfl, (zr4 BK243.out 2).trans rfl, (zr4 BK243.out 3).trans rfl, (zr4 BK243.out 4).trans rfl, (zr4 BK243.out 5).trans rfl, (zr4 BK243.out 6).trans rfl, (zr4 BK243.out 7).trans rfl, (zr4 BK243.out 8).trans rfl, (zr4 BK243.out 9).trans rfl, (zr4 BK207.out 0).trans rfl, (zr4 BK207.out 1).trans rfl, (zr4 BK207.out 2).trans rfl, (zr4 BK207.out 3).trans rfl, (zr4 BK207.out 4).trans rfl, (zr4 BK207.out 5).trans rfl, (zr4 BK207.out 6).trans rfl, (zr4 BK207.out 7).trans rfl, (zr4 BK207.out 8).trans rfl, (zr4 BK207.out 9).trans rfl⟩ (fun hHeld => ?_)
 clear hK K
 refine norm_ (a' := ?_) ?_ ?_
 rotate_left
 · show Act.put _ (some 31) _ = _
   simp only [Act.put, zs1, zs2, zs3, i64_w, i32_w]
   rfl
 refine pure_ (i := 4) (N := some 32) (v := ?_) (a' := ?_) #[true, true, true, true, true] rfl rfl (by kernel_rfl) (fun _ _ _ h => h) (Or.inl ⟨by rfl, ?_⟩) ?_ ?_
 rotate_left
 · intro w'
   go_simp
   with_reducible rfl
 rotate_left
 · simp only [Act.put, zs1, zs2, zs3, i64_w, i32_w]
   rfl
 refine done_ (by kernel_rfl) ?_
 try go_wp2
 go_ret
 exact ⟨by first | rfl | (simp [errW_none, errW_some] <;> rfl) | (simp [*, errW_none, errW_some] <;> rfl), by repeat (first | (with_reducible first | exact HB.out | apply zq7 | apply zq8 | apply zq9 | refine zr1 ?_ GE206.out | refine zr1 ?_ GE207.out | refine zr1 ?_ GE243.out) | exact HB.out)⟩

end Go.Proofs.Yteknaofnageihaa.QFnExactTxOk
