-- Written by a program of this session, a turned copy of the print (not by print.sh itself). Lean checks it.
import Derived.Test.YteknaofnageihaaQFnExactCrdTxOkx0
import Derived.Test.YteknaofnageihaaQFnExactCrdTxOkx1
import Derived.Test.YteknaofnageihaaQFnExactCrdTxOkx2
import Derived.Test.YteknaofnageihaaQFnExactCrdTxOkx3
import Derived.Test.YteknaofnageihaaQFnExactCrdTxOkx4
namespace Go.Proofs.Yteknaofnageihaa.QFnExactCrdTxOk
open Go.RowKit Go.Proofs.YteknaofnageihaaW.PrintWords Go.Proofs.YteknaofnageihaaW.PrintLast Go.Proofs.YteknaofnageihaaW.PrintMore Go.Proofs.YteknaofnageihaaLoc
attribute [local go_sem] max2_int min2_int max_two min_two max_three min_three max_four min_four   -- for this text's walks alone
set_option linter.unusedVariables false
set_option linter.unusedSimpArgs false

/-! ### laws_FnExactCrdTxOk: function 11 -/
def laws_FnExactCrdTxOk.f (k : Nat) (a0_0 : Int) (a0_1 : Int) (a0_2 : Int) (a0_3 : Int) (a0_4 : Int) (a1_0 : Int) (l1_1 : List (S47)) (a1_2 : Int) (a1_3 : Int) (a1_4 : Bool) : Option (Bool) := (laws_szCrdTx.f k a1_0 l1_1 a1_2 a1_3 a1_4 1048576).bind fun t190 => (if t190 < 0 then (some true) else ((laws_toCfgOpts.f a0_0 a0_1 a0_2 a0_3 a0_4).bind fun bt191 => ((laws_toCrdTx.f k a1_0 l1_1 a1_2 a1_3 a1_4).bind fun bt196 => ((spec_CrdTxOk.f k bt191.1 bt191.2.1 bt191.2.2.1 bt191.2.2.2.1 bt191.2.2.2.2 bt196.1 bt196.2.1 bt196.2.2.1 bt196.2.2.2.1 bt196.2.2.2.2).bind fun t203 => ((laws_toCrdTx.f k a1_0 l1_1 a1_2 a1_3 a1_4).bind fun bt204 => ((laws_toCfgOpts.f a0_0 a0_1 a0_2 a0_3 a0_4).bind fun bt212 => ((impl_CrdTxOk.f k bt212.1 bt212.2.1 bt212.2.2.1 bt212.2.2.2.1 bt212.2.2.2.2 bt204.1 bt204.2.1 bt204.2.2.1 bt204.2.2.2.1 bt204.2.2.2.2).bind fun t217 => (if (t217 != t203) = true then (some false) else ((laws_toCrdTx.f k a1_0 l1_1 a1_2 a1_3 a1_4).bind fun bt218 => ((laws_eqCrdTx.f k bt204.1 bt204.2.1 bt204.2.2.1 bt204.2.2.2.1 bt204.2.2.2.2 bt218.1 bt218.2.1 bt218.2.2.1 bt218.2.2.2.1 bt218.2.2.2.2).bind fun t225 => (if t225 = true then (some true) else (some false))))))))))))
theorem laws_FnExactCrdTxOk.mono : ∀ a0 a1 a2 a3 a4 a5 a6 a7 a8 a9 k, LeO (laws_FnExactCrdTxOk.f k a0 a1 a2 a3 a4 a5 a6 a7 a8 a9) (laws_FnExactCrdTxOk.f (k + 1) a0 a1 a2 a3 a4 a5 a6 a7 a8 a9) := by
 intro a0 a1 a2 a3 a4 a5 a6 a7 a8 a9 k
 unfold laws_FnExactCrdTxOk.f
 repeat' first
     | (with_reducible exact impl_CrdTxOk.mono _ _ _ _ _ _ _ _ _ _ _)
     | (with_reducible exact laws_eqCrdTx.mono _ _ _ _ _ _ _ _ _ _ _)
     | (with_reducible exact laws_szCrdTx.mono _ _ _ _ _ _ _)
     | (with_reducible exact laws_toCrdTx.mono _ _ _ _ _ _)
     | (with_reducible exact spec_CrdTxOk.mono _ _ _ _ _ _ _ _ _ _ _)
     | (with_reducible exact LeO.refl _)
     | (with_reducible exact LeO.none _)
     | (with_reducible refine LeO.ite ?_ ?_)
     | (with_reducible refine LeO.bind ?_ (fun _ => ?_))
     | exact impl_CrdTxOk.mono _ _ _ _ _ _ _ _ _ _ _
     | exact laws_eqCrdTx.mono _ _ _ _ _ _ _ _ _ _ _
     | exact laws_szCrdTx.mono _ _ _ _ _ _ _
     | exact laws_toCrdTx.mono _ _ _ _ _ _
     | exact spec_CrdTxOk.mono _ _ _ _ _ _ _ _ _ _ _
     | exact LeO.none _
     | refine LeO.ite ?_ ?_
     | refine LeO.bind ?_ (fun _ => ?_)
set_option maxHeartbeats 60000000 in
set_option maxRecDepth 100000 in
theorem laws_FnExactCrdTxOk.calls (k : Nat) (a0_0 : Int) (a0_1 : Int) (a0_2 : Int) (a0_3 : Int) (a0_4 : Int) (a1_0 : Int) (A1_1 : Option Addr) (c1_1 : Nat) (l1_1 : List (S47)) (a1_2 : Int) (a1_3 : Int) (a1_4 : Bool) (r : Bool) (w : World) (hr1_1 : Kd.C k47 w A1_1 l1_1.length l1_1) (hc1_1 : l1_1.length ≤ c1_1) (h : laws_FnExactCrdTxOk.f k a0_0 a0_1 a0_2 a0_3 a0_4 a1_0 l1_1 a1_2 a1_3 a1_4 = some r) :
    Calls Try.prog 11 #[.agg #[.int .i64 a0_0, .int .i64 a0_1, .int .i64 a0_2, .int .i64 a0_3, .int .i64 a0_4], .agg #[.int .i64 a1_0, .slice A1_1 l1_1.length c1_1, .int .i64 a1_2, .int .i64 a1_3, .bool a1_4]] w fun e w' => e = .returned (.bool r) ∧ Below w.heap.size w w' := by
 have hu60 := Try.underlying60
 have hu74 := Try.underlying74
 have hu78 := Try.underlying78
 have HR1_1 := mk_ hr1_1
 have HC1_1 := mk_ hc1_1
 clear hr1_1 hc1_1
 have HB := mk_ (Below.refl w.heap.size w)
 have H : ((laws_szCrdTx.f k a1_0 l1_1 a1_2 a1_3 a1_4 1048576).bind fun t190 => (if t190 < 0 then (some true) else ((laws_toCfgOpts.f a0_0 a0_1 a0_2 a0_3 a0_4).bind fun bt191 => ((laws_toCrdTx.f k a1_0 l1_1 a1_2 a1_3 a1_4).bind fun bt196 => ((spec_CrdTxOk.f k bt191.1 bt191.2.1 bt191.2.2.1 bt191.2.2.2.1 bt191.2.2.2.2 bt196.1 bt196.2.1 bt196.2.2.1 bt196.2.2.2.1 bt196.2.2.2.2).bind fun t203 => ((laws_toCrdTx.f k a1_0 l1_1 a1_2 a1_3 a1_4).bind fun bt204 => ((laws_toCfgOpts.f a0_0 a0_1 a0_2 a0_3 a0_4).bind fun bt212 => ((impl_CrdTxOk.f k bt212.1 bt212.2.1 bt212.2.2.1 bt212.2.2.2.1 bt212.2.2.2.2 bt204.1 bt204.2.1 bt204.2.2.1 bt204.2.2.2.1 bt204.2.2.2.2).bind fun t217 => (if (t217 != t203) = true then (some false) else ((laws_toCrdTx.f k a1_0 l1_1 a1_2 a1_3 a1_4).bind fun bt218 => ((laws_eqCrdTx.f k bt204.1 bt204.2.1 bt204.2.2.1 bt204.2.2.2.1 bt204.2.2.2.2 bt218.1 bt218.2.1 bt218.2.2.1 bt218.2.2.2.1 bt218.2.2.2.2).bind fun t225 => (if t225 = true then (some true) else (some false))))))))))))) = some r := h
 clear h
 replace H := Option.bind_eq_some_iff.mp H
 obtain ⟨t190, A30, H⟩ := H
 try dsimp only at H
 have A3 := mk_ A30
 clear A30
 by_cases c4 : t190 < 0
 · rw [if_pos c4] at H
   have c4b0 : decide (t190 < 0) = true := decide_eq_true c4
   clear c4
   obtain rfl := Option.some.inj H
   go_enter Try.func11, Try.ntmps11
   go_wp2_with (first | ((with_reducible refine gate_dst (N := 2) rfl ?_); refine box_event ?hg (N := 2) ?hd (cs := #[.int .i64 a0_0, .int .i64 a0_1, .int .i64 a0_2, .int .i64 a0_3, .int .i64 a0_4]) (t := 60) ?hr ?_; (case hd => rfl); (case hg => rfl); (case hr => first | (go_simp; done) | (go_simp; rfl)); intro gb188 hg w5 hbox hb; have BK188 := mk_ (hbox); have GW188 := mk_ ((by rw [hg]; exact (zr2 (by repeat (first | (with_reducible first | exact HB.out | apply zq7 | apply zq8 | apply zq9) | exact HB.out))) : w.heap.size ≤ gb188)); have GE188 := GW188; replace HB := mk_ (zr3 (by repeat (first | (with_reducible first | exact HB.out | apply zq7 | apply zq8 | apply zq9) | exact HB.out)) hb); clear hb hbox hg) | ((with_reducible refine gate_dst (N := 3) rfl ?_); refine box_event ?hg (N := 3) ?hd (cs := #[.int .i64 a1_0, .slice A1_1 l1_1.length c1_1, .int .i64 a1_2, .int .i64 a1_3, .bool a1_4]) (t := 74) ?hr ?_; (case hd => rfl); (case hg => rfl); (case hr => first | (go_simp; done) | (go_simp; rfl)); intro gb189 hg w6 hbox hb; have BK189 := mk_ (hbox); have GW189 := mk_ ((by rw [hg]; exact (zr2 (by repeat (first | (with_reducible first | exact HB.out | apply zq7 | apply zq8 | apply zq9 | refine zr1 ?_ GE188.out) | exact HB.out))) : w.heap.size ≤ gb189)); have GE189 := GW189; replace HB := mk_ (zr3 (by repeat (first | (with_reducible first | exact HB.out | apply zq7 | apply zq8 | apply zq9 | refine zr1 ?_ GE188.out) | exact HB.out)) hb); have NB188_189 := mk_ ((by rw [hg]; exact zm2 (zr6 (by exact BK188.out)) : gb188 ≠ gb189)); replace BK188 := mk_ (zq6 (by exact BK188.out) hb); have NB189_188 := mk_ NB188_189.out.symm; clear hb hbox hg; have hnb7 := NB189_188.out; have hnc7 := NB188_189.out; obtain ⟨hcz8_0, hcz8_1, hcz8_2, hcz8_3, hcz8_4⟩ := cz5 BK189.out; obtain ⟨hfz8_0, hfz8_1, hfz8_2, hfz8_3, hfz8_4⟩ := fz5 BK189.out) | ((with_reducible refine gate_callee (f := 53) rfl ?_); refine goesL_ (some 11) rfl rfl Try.func53 (by kernel_rfl) rfl #[.agg #[.int .i64 a1_0, .slice A1_1 l1_1.length c1_1, .int .i64 a1_2, .int .i64 a1_3, .bool a1_4], .int .i64 1048576] rfl (by (try simp only [List.map_toArray, List.map_cons, List.map_nil]); first | done | rfl | (simp only [List.length_drop, List.length_take]; rfl)) ?_; (with_reducible refine (laws_szCrdTx.calls k a1_0 _ _ l1_1 a1_2 a1_3 a1_4 1048576 t190 _ ?side1 ?side2 A3.out).mono ?_); (case side1 => repeat (first | exact (Kd.C_below HR1_1.out HB.out) | (with_reducible refine Kd.C_alloc ?_ _) | (with_reducible refine Kd.C_drewN ?_ _) | (with_reducible refine Kd.C_drew ?_))); (case side2 => exact HC1_1.out); rintro e w9 ⟨rfl, hb⟩; refine ⟨_, rfl, ?_⟩; replace BK188 := mk_ (zq6 (by exact BK188.out) hb); replace BK189 := mk_ (zq6 (by exact BK189.out) hb); replace HB := mk_ (zr3 (by repeat (first | (with_reducible first | exact HB.out | apply zq7 | apply zq8 | apply zq9 | refine zr1 ?_ GE188.out | refine zr1 ?_ GE189.out) | exact HB.out)) hb); (try clear hb); (try clear hb2); (try clear hk); (try clear hi)))
   go_ret
   exact ⟨by first | rfl | (simp [errW_none, errW_some] <;> rfl) | (simp [*, errW_none, errW_some] <;> rfl), by repeat (first | (with_reducible first | exact HB.out | apply zq7 | apply zq8 | apply zq9 | refine zr1 ?_ GE188.out | refine zr1 ?_ GE189.out) | exact HB.out)⟩
 rw [if_neg c4] at H
 have c4b0 : decide (t190 < 0) = false := decide_eq_false c4
 clear c4
 replace H := Option.bind_eq_some_iff.mp H
 obtain ⟨⟨t191, t192, t193, t194, t195⟩, A100, H⟩ := H
 try dsimp only at H
 have A10 := mk_ A100
 clear A100
 replace H := Option.bind_eq_some_iff.mp H
 obtain ⟨⟨t196, t197, t200, t201, t202⟩, A110, H⟩ := H
 try dsimp only at H
 have A11 := mk_ A110
 clear A110
 replace H := Option.bind_eq_some_iff.mp H
 obtain ⟨t203, A120, H⟩ := H
 try dsimp only at H
 have A12 := mk_ A120
 clear A120
 replace H := Option.bind_eq_some_iff.mp H
 obtain ⟨⟨t204, t205, t208, t209, t210⟩, A130, H⟩ := H
 try dsimp only at H
 have A13 := mk_ A130
 clear A130
 replace H := Option.bind_eq_some_iff.mp H
 obtain ⟨⟨t212, t213, t214, t215, t216⟩, A140, H⟩ := H
 try dsimp only at H
 have A14 := mk_ A140
 clear A140
 replace H := Option.bind_eq_some_iff.mp H
 obtain ⟨t217, A150, H⟩ := H
 try dsimp only at H
 have A15 := mk_ A150
 clear A150
 by_cases c16 : (t217 != t203) = true
 · rw [if_pos c16] at H
   have c16b0 : (t217 != t203) = true := c16
   (try (have c16b1 : decide (t217 = t203) = false := by simpa using c16))
   (try (have c16b2 : (t217 == t203) = false := by simpa using c16))
   (try (have c16b3 : ¬ (t217 = t203) := by simpa using c16))
   clear c16
   obtain rfl := Option.some.inj H
   go_enter Try.func11, Try.ntmps11
   try go_wp2_with (first | ((with_reducible refine gate_dst (N := 2) rfl ?_); refine box_event ?hg (N := 2) ?hd (cs := #[.int .i64 a0_0, .int .i64 a0_1, .int .i64 a0_2, .int .i64 a0_3, .int .i64 a0_4]) (t := 60) ?hr ?_; (case hd => rfl); (case hg => rfl); (case hr => first | (go_simp; done) | (go_simp; rfl)); intro gb188 hg w17 hbox hb; have BK188 := mk_ (hbox); have GW188 := mk_ ((by rw [hg]; exact (zr2 (by repeat (first | (with_reducible first | exact HB.out | apply zq7 | apply zq8 | apply zq9) | exact HB.out))) : w.heap.size ≤ gb188)); have GE188 := GW188; replace HB := mk_ (zr3 (by repeat (first | (with_reducible first | exact HB.out | apply zq7 | apply zq8 | apply zq9) | exact HB.out)) hb); clear hb hbox hg) | ((with_reducible refine gate_dst (N := 3) rfl ?_); refine box_event ?hg (N := 3) ?hd (cs := #[.int .i64 a1_0, .slice A1_1 l1_1.length c1_1, .int .i64 a1_2, .int .i64 a1_3, .bool a1_4]) (t := 74) ?hr ?_; (case hd => rfl); (case hg => rfl); (case hr => first | (go_simp; done) | (go_simp; rfl)); intro gb189 hg w18 hbox hb; have BK189 := mk_ (hbox); have GW189 := mk_ ((by rw [hg]; exact (zr2 (by repeat (first | (with_reducible first | exact HB.out | apply zq7 | apply zq8 | apply zq9 | refine zr1 ?_ GE188.out) | exact HB.out))) : w.heap.size ≤ gb189)); have GE189 := GW189; replace HB := mk_ (zr3 (by repeat (first | (with_reducible first | exact HB.out | apply zq7 | apply zq8 | apply zq9 | refine zr1 ?_ GE188.out) | exact HB.out)) hb); have NB188_189 := mk_ ((by rw [hg]; exact zm2 (zr6 (by exact BK188.out)) : gb188 ≠ gb189)); replace BK188 := mk_ (zq6 (by exact BK188.out) hb); have NB189_188 := mk_ NB188_189.out.symm; clear hb hbox hg; have hnb19 := NB189_188.out; have hnc19 := NB188_189.out; obtain ⟨hcz20_0, hcz20_1, hcz20_2, hcz20_3, hcz20_4⟩ := cz5 BK189.out; obtain ⟨hfz20_0, hfz20_1, hfz20_2, hfz20_3, hfz20_4⟩ := fz5 BK189.out) | ((with_reducible refine gate_callee (f := 53) rfl ?_); refine goesL_ (some 11) rfl rfl Try.func53 (by kernel_rfl) rfl #[.agg #[.int .i64 a1_0, .slice A1_1 l1_1.length c1_1, .int .i64 a1_2, .int .i64 a1_3, .bool a1_4], .int .i64 1048576] rfl (by (try simp only [List.map_toArray, List.map_cons, List.map_nil]); first | done | rfl | (simp only [List.length_drop, List.length_take]; rfl)) ?_; (with_reducible refine (laws_szCrdTx.calls k a1_0 _ _ l1_1 a1_2 a1_3 a1_4 1048576 t190 _ ?side1 ?side2 A3.out).mono ?_); (case side1 => repeat (first | exact (Kd.C_below HR1_1.out HB.out) | (with_reducible refine Kd.C_alloc ?_ _) | (with_reducible refine Kd.C_drewN ?_ _) | (with_reducible refine Kd.C_drew ?_))); (case side2 => exact HC1_1.out); rintro e w21 ⟨rfl, hb⟩; refine ⟨_, rfl, ?_⟩; replace BK188 := mk_ (zq6 (by exact BK188.out) hb); replace BK189 := mk_ (zq6 (by exact BK189.out) hb); replace HB := mk_ (zr3 (by repeat (first | (with_reducible first | exact HB.out | apply zq7 | apply zq8 | apply zq9 | refine zr1 ?_ GE188.out | refine zr1 ?_ GE189.out) | exact HB.out)) hb); (try clear hb); (try clear hb2); (try clear hk); (try clear hi)))
   replace BK188 := mk_ (zq2 BK188.out)
   replace BK189 := mk_ (zq2 BK189.out)
   replace HB := mk_ (zq9 HB.out)
   refine start_ (n := 6) (S := fun w' => w'.cell? ⟨gb188, 0, none⟩ = some (.int .i64 a0_0) ∧ w'.cell? ⟨gb188, 1, none⟩ = some (.int .i64 a0_1) ∧ w'.cell? ⟨gb188, 2, none⟩ = some (.int .i64 a0_2) ∧ w'.cell? ⟨gb188, 3, none⟩ = some (.int .i64 a0_3) ∧ w'.cell? ⟨gb188, 4, none⟩ = some (.int .i64 a0_4) ∧ w'.cell? ⟨gb189, 0, none⟩ = some (.int .i64 a1_0) ∧ w'.cell? ⟨gb189, 1, none⟩ = some (.slice A1_1 l1_1.length c1_1) ∧ w'.cell? ⟨gb189, 2, none⟩ = some (.int .i64 a1_2) ∧ w'.cell? ⟨gb189, 3, none⟩ = some (.int .i64 a1_3) ∧ w'.cell? ⟨gb189, 4, none⟩ = some (.bool a1_4)) (ds := []) (bm 6 0) (by kernel_rfl) rfl rfl ⟨(zr4 BK188.out 0).trans rfl, (zr4 BK188.out 1).trans rfl, (zr4 BK188.out 2).trans rfl, (zr4 BK188.out 3).trans rfl, (zr4 BK188.out 4).trans rfl, (zr4 BK189.out 0).trans rfl, (zr4 BK189.out 1).trans rfl, (zr4 BK189.out 2).trans rfl, (zr4 BK189.out 3).trans rfl, (zr4 BK189.out 4).trans rfl⟩ (fun hHeld => ?_)
   generalize w21.drew = w22 at BK188 BK189 HB hHeld ⊢
   refine take_ (i := 0) (N := some 14) (v := ?_) (a' := ?_) (bm 6 1) rfl rfl (by kernel_rfl) (fun _ _ _ h => h) (Or.inl ⟨by rfl, ?_⟩) hHeld ?_ ?_
   rotate_left
   · rintro w' ⟨s0, s1, s2, s3, s4, s5, s6, s7, s8, s9⟩
     go_simp
     with_reducible rfl
   rotate_left
   · simp only [Act.put, zs1, zs2, zs3, i64_w, i32_w]
     rfl
   refine take_ (i := 2) (N := some 16) (v := ?_) (a' := ?_) (bm 6 5) rfl rfl (by kernel_rfl) (fun _ _ _ h => h) (Or.inl ⟨by rfl, ?_⟩) hHeld ?_ ?_
   rotate_left
   · rintro w' ⟨s0, s1, s2, s3, s4, s5, s6, s7, s8, s9⟩
     go_simp
     with_reducible rfl
   rotate_left
   · simp only [Act.put, zs1, zs2, zs3, i64_w, i32_w]
     rfl
   refine one_ (i := 1) (N := some 15) (bm 6 7) rfl rfl (by kernel_rfl) (by decide) (fun K hK => ?_)
   refine goes_ Try.func49 (by kernel_rfl) rfl #[.agg #[.int .i64 a0_0, .int .i64 a0_1, .int .i64 a0_2, .int .i64 a0_3, .int .i64 a0_4]] (by rfl) rfl rfl (by (try simp only [List.map_toArray, List.map_cons, List.map_nil]); first | done | rfl | (simp only [List.length_drop, List.length_take]; rfl)) ?_
   with_reducible refine (laws_toCfgOpts.calls a0_0 a0_1 a0_2 a0_3 a0_4 t191 t192 t193 t194 t195 _ A10.out).mono ?_
   rintro e w23 ⟨rfl, hb⟩
   refine ⟨_, rfl, ?_⟩
   replace BK188 := mk_ (zq6 (by exact BK188.out) hb)
   replace BK189 := mk_ (zq6 (by exact BK189.out) hb)
   replace HB := mk_ (zr3 (by repeat (first | (with_reducible first | exact HB.out | apply zq7 | apply zq8 | apply zq9 | refine zr1 ?_ GE188.out | refine zr1 ?_ GE189.out) | exact HB.out)) hb)
   (try clear hb)
   (try clear hb2)
   (try clear hk)
   (try clear hi)
   refine hK.out _ _ ⟨(zr4 BK188.out 0).trans rfl, (zr4 BK188.out 1).trans rfl, (zr4 BK188.out 2).trans rfl, (zr4 BK188.out 3).trans rfl, (zr4 BK188.out 4).trans rfl, (zr4 BK189.out 0).trans rfl, (zr4 BK189.out 1).trans rfl, (zr4 BK189.out 2).trans rfl, (zr4 BK189.out 3).trans rfl, (zr4 BK189.out 4).trans rfl⟩ (fun hHeld => ?_)
   clear hK K
   refine norm_ (a' := ?_) ?_ ?_
   rotate_left
   · show Act.put _ (some 15) _ = _
     simp only [Act.put, zs1, zs2, zs3, i64_w, i32_w]
     rfl
   refine one_ (i := 3) (N := some 17) (bm 6 15) rfl rfl (by kernel_rfl) (by decide) (fun K hK => ?_)
   refine goes_ Try.func55 (by kernel_rfl) rfl #[.agg #[.int .i64 a1_0, .slice A1_1 l1_1.length c1_1, .int .i64 a1_2, .int .i64 a1_3, .bool a1_4]] (by rfl) rfl rfl (by (try simp only [List.map_toArray, List.map_cons, List.map_nil]); first | done | rfl | (simp only [List.length_drop, List.length_take]; rfl)) ?_
   with_reducible refine (laws_toCrdTx.calls k a1_0 _ _ l1_1 a1_2 a1_3 a1_4 t196 t197 t200 t201 t202 _ ?side1 ?side2 A11.out).mono ?_
   (case side1 => repeat (first | exact (Kd.C_below HR1_1.out HB.out) | (with_reducible refine Kd.C_alloc ?_ _) | (with_reducible refine Kd.C_drewN ?_ _) | (with_reducible refine Kd.C_drew ?_)))
   (case side2 => exact HC1_1.out)
   rintro e w24 ⟨v198, rfl, ho0, hb⟩
   refine ⟨_, rfl, ?_⟩
   have HO199 := mk_ (Kd.S_lower ho0 (zr2 (by repeat (first | (with_reducible first | exact HB.out | apply zq7 | apply zq8 | apply zq9 | refine zr1 ?_ GE188.out | refine zr1 ?_ GE189.out) | exact HB.out))))
   replace BK188 := mk_ (zq6 (by exact BK188.out) hb)
   replace BK189 := mk_ (zq6 (by exact BK189.out) hb)
   replace HB := mk_ (zr3 (by repeat (first | (with_reducible first | exact HB.out | apply zq7 | apply zq8 | apply zq9 | refine zr1 ?_ GE188.out | refine zr1 ?_ GE189.out) | exact HB.out)) hb)
   (try clear hb)
   (try clear hb2)
   (try clear hk)
   (try clear hi)
   (try clear ho0)
   obtain ⟨Ao25, co25, eo25⟩ := Kd.S_slice HO199.out
   (first | subst eo25 | (injection eo25 with f1_ f2_ f3_; have f4_ := f1_.symm; have f5_ := f3_.symm; clear f1_ f2_ f3_; subst f4_; subst f5_))
   refine hK.out _ _ ⟨(zr4 BK188.out 0).trans rfl, (zr4 BK188.out 1).trans rfl, (zr4 BK188.out 2).trans rfl, (zr4 BK188.out 3).trans rfl, (zr4 BK188.out 4).trans rfl, (zr4 BK189.out 0).trans rfl, (zr4 BK189.out 1).trans rfl, (zr4 BK189.out 2).trans rfl, (zr4 BK189.out 3).trans rfl, (zr4 BK189.out 4).trans rfl⟩ (fun hHeld => ?_)
   clear hK K
   refine norm_ (a' := ?_) ?_ ?_
   rotate_left
   · show Act.put _ (some 17) _ = _
     simp only [Act.put, zs1, zs2, zs3, i64_w, i32_w]
     rfl
   refine one_ (i := 4) (N := some 18) (bm 6 31) rfl rfl (by kernel_rfl) (by decide) (fun K hK => ?_)
   refine goes_ Try.func54 (by kernel_rfl) rfl #[.agg #[.int .i64 t191, .int .i64 t192, .int .i64 t193, .int .i64 t194, .int .i64 t195], .agg #[.int .i64 t196, .slice Ao25 t197.length co25, .int .i64 t200, .int .i64 t201, .bool t202]] (by rfl) rfl rfl (by (try simp only [List.map_toArray, List.map_cons, List.map_nil]); first | done | rfl | (simp only [List.length_drop, List.length_take]; rfl)) ?_
   with_reducible refine (spec_CrdTxOk.calls k t191 t192 t193 t194 t195 t196 _ _ t197 t200 t201 t202 t203 _ ?side1 ?side2 A12.out).mono ?_
   (case side1 => repeat (first | exact (Kd.S_reads' HO199.out).2.2 | (with_reducible refine Kd.C_alloc ?_ _) | (with_reducible refine Kd.C_drewN ?_ _) | (with_reducible refine Kd.C_drew ?_)))
   (case side2 => exact (Kd.S_reads' HO199.out).2.1)
   rintro e w26 ⟨rfl, hb⟩
   refine ⟨_, rfl, ?_⟩
   replace HO199 := mk_ (Kd.S_below (by (with_reducible repeat (first | apply Kd.S_alloc | apply Kd.S_drewN | apply Kd.S_drew)); exact HO199.out) hb)
   replace BK188 := mk_ (zq6 (by exact BK188.out) hb)
   replace BK189 := mk_ (zq6 (by exact BK189.out) hb)
   replace HB := mk_ (zr3 (by repeat (first | (with_reducible first | exact HB.out | apply zq7 | apply zq8 | apply zq9 | refine zr1 ?_ GE188.out | refine zr1 ?_ GE189.out) | exact HB.out)) hb)
   (try clear hb)
   (try clear hb2)
   (try clear hk)
   (try clear hi)
   refine hK.out _ _ ⟨(zr4 BK188.out 0).trans rfl, (zr4 BK188.out 1).trans rfl, (zr4 BK188.out 2).trans rfl, (zr4 BK188.out 3).trans rfl, (zr4 BK188.out 4).trans rfl, (zr4 BK189.out 0).trans rfl, (zr4 BK189.out 1).trans rfl, (zr4 BK189.out 2).trans rfl, (zr4 BK189.out 3).trans rfl, (zr4 BK189.out 4).trans rfl⟩ (fun hHeld => ?_)
   clear hK K
   refine norm_ (a' := ?_) ?_ ?_
   rotate_left
   · show Act.put _ (some 18) _ = _
     simp only [Act.put, zs1, zs2, zs3, i64_w, i32_w]
     rfl
   refine pure_ (i := 5) (N := some 6) (v := ?_) (a' := ?_) (bm 6 63) rfl rfl (by kernel_rfl) (fun _ _ _ h => h) (Or.inl ⟨by rfl, ?_⟩) ?_ ?_
   rotate_left
   · intro w'
     go_simp
     with_reducible rfl
   rotate_left
   · simp only [Act.put, zs1, zs2, zs3, i64_w, i32_w]
     rfl
   refine done_ (by kernel_rfl) ?_
   obtain ⟨hcz27_0, hcz27_1, hcz27_2, hcz27_3, hcz27_4⟩ := cz5 BK189.out
   obtain ⟨hfz27_0, hfz27_1, hfz27_2, hfz27_3, hfz27_4⟩ := fz5 BK189.out
   try go_wp2_with (first | ((with_reducible refine gate_callee (f := 55) rfl ?_); refine goesL_ (some 20) rfl rfl Try.func55 (by kernel_rfl) rfl #[.agg #[.int .i64 a1_0, .slice A1_1 l1_1.length c1_1, .int .i64 a1_2, .int .i64 a1_3, .bool a1_4]] rfl (by (try simp only [List.map_toArray, List.map_cons, List.map_nil]); first | done | rfl | (simp only [List.length_drop, List.length_take]; rfl)) ?_; (with_reducible refine (laws_toCrdTx.calls k a1_0 _ _ l1_1 a1_2 a1_3 a1_4 t204 t205 t208 t209 t210 _ ?side1 ?side2 A13.out).mono ?_); (case side1 => repeat (first | exact (Kd.C_below HR1_1.out HB.out) | (with_reducible refine Kd.C_alloc ?_ _) | (with_reducible refine Kd.C_drewN ?_ _) | (with_reducible refine Kd.C_drew ?_))); (case side2 => exact HC1_1.out); rintro e w28 ⟨v206, rfl, ho0, hb⟩; refine ⟨_, rfl, ?_⟩; have HO207 := mk_ (Kd.S_lower (Kd.S_new' ho0 (Kd.S_lt (by (with_reducible repeat (first | apply Kd.S_alloc | apply Kd.S_drewN | apply Kd.S_drew)); exact HO199.out))) (zr2 (by repeat (first | (with_reducible first | exact HB.out | apply zq7 | apply zq8 | apply zq9 | refine zr1 ?_ GE188.out | refine zr1 ?_ GE189.out) | exact HB.out)))); replace HO199 := mk_ (Kd.S_elder' (by (with_reducible repeat (first | apply Kd.S_alloc | apply Kd.S_drewN | apply Kd.S_drew)); exact HO199.out) (Kd.S_base ho0) hb); replace BK188 := mk_ (zq6 (by exact BK188.out) hb); replace BK189 := mk_ (zq6 (by exact BK189.out) hb); replace HB := mk_ (zr3 (by repeat (first | (with_reducible first | exact HB.out | apply zq7 | apply zq8 | apply zq9 | refine zr1 ?_ GE188.out | refine zr1 ?_ GE189.out) | exact HB.out)) hb); (try clear hb); (try clear hb2); (try clear hk); (try clear hi); (try clear ho0)) | ((with_reducible refine gate_dst (N := 7) rfl ?_); refine box_event ?hg (N := 7) ?hd (cs := #[.int .i64 0, .slice none 0 0, .int .i64 0, .int .i64 0, .bool false]) (t := 78) ?hr ?_; (case hd => rfl); (case hg => rfl); (case hr => first | (go_simp; done) | (go_simp; rfl)); intro gb211 hg w29 hbox hb; replace HO199 := mk_ (Kd.S_below (by (with_reducible repeat (first | apply Kd.S_alloc | apply Kd.S_drewN | apply Kd.S_drew)); exact HO199.out) hb); replace HO207 := mk_ (Kd.S_below (by (with_reducible repeat (first | apply Kd.S_alloc | apply Kd.S_drewN | apply Kd.S_drew)); exact HO207.out) hb); have BK211 := mk_ (hbox); have GW211 := mk_ ((by rw [hg]; exact (zr2 (by repeat (first | (with_reducible first | exact HB.out | apply zq7 | apply zq8 | apply zq9 | refine zr1 ?_ GE188.out | refine zr1 ?_ GE189.out) | exact HB.out))) : w.heap.size ≤ gb211)); have GE211 := GW211; replace HB := mk_ (zr3 (by repeat (first | (with_reducible first | exact HB.out | apply zq7 | apply zq8 | apply zq9 | refine zr1 ?_ GE188.out | refine zr1 ?_ GE189.out) | exact HB.out)) hb); have NB188_211 := mk_ ((by rw [hg]; exact zm2 (zr6 (by exact BK188.out)) : gb188 ≠ gb211)); replace BK188 := mk_ (zq6 (by exact BK188.out) hb); have NB211_188 := mk_ NB188_211.out.symm; have NB189_211 := mk_ ((by rw [hg]; exact zm2 (zr6 (by exact BK189.out)) : gb189 ≠ gb211)); replace BK189 := mk_ (zq6 (by exact BK189.out) hb); have NB211_189 := mk_ NB189_211.out.symm; clear hb hbox hg; have hnb30 := NB211_188.out; have hnc30 := NB188_211.out; have hnb31 := NB211_189.out; have hnc31 := NB189_211.out; obtain ⟨hcz32_0, hcz32_1, hcz32_2, hcz32_3, hcz32_4⟩ := cz5 BK211.out; obtain ⟨hfz32_0, hfz32_1, hfz32_2, hfz32_3, hfz32_4⟩ := fz5 BK211.out; obtain ⟨Ao33, co33, eo33⟩ := Kd.S_slice HO207.out; subst eo33))
   have n0_ : Aside0 (Kd.S k39 39 (((((w29.setCell ⟨gb211, 0, none⟩ (.int .i64 t204)).setCell ⟨gb211, 1, none⟩ (.slice Ao33 t205.length co33)).setCell ⟨gb211, 2, none⟩ (.int .i64 t208)).setCell ⟨gb211, 3, none⟩ (.int .i64 t209)).setCell ⟨gb211, 4, none⟩ (.bool t210)) w.heap.size (fun k_ => some k_ ≠ (.slice Ao33 t205.length co33 : Value).ownBlock) (.slice Ao25 t197.length co25) t197) := ⟨by (with_reducible repeat (first | apply Kd.S_alloc | apply Kd.S_drewN | apply Kd.S_drew)); exact Kd.S_mono (Kd.S_far (p := ⟨gb211, 4, none⟩) (Kd.S_far (p := ⟨gb211, 3, none⟩) (Kd.S_far (p := ⟨gb211, 2, none⟩) (Kd.S_far (p := ⟨gb211, 1, none⟩) (Kd.S_far (p := ⟨gb211, 0, none⟩) (Kd.S_types HO199.out BK211.out (by decide)) (fun _ hk => hk.2) (.int .i64 t204)) (fun _ hk => hk.2) (.slice Ao33 t205.length co33)) (fun _ hk => hk.2) (.int .i64 t208)) (fun _ hk => hk.2) (.int .i64 t209)) (fun _ hk => hk.2) (.bool t210)) (fun _ hk => hk.1.2)⟩
   have n1_ : Aside0 (Kd.S k39 39 (((((w29.setCell ⟨gb211, 0, none⟩ (.int .i64 t204)).setCell ⟨gb211, 1, none⟩ (.slice Ao33 t205.length co33)).setCell ⟨gb211, 2, none⟩ (.int .i64 t208)).setCell ⟨gb211, 3, none⟩ (.int .i64 t209)).setCell ⟨gb211, 4, none⟩ (.bool t210)) w.heap.size (fun k_ => some k_ ≠ (.slice Ao25 t197.length co25 : Value).ownBlock) (.slice Ao33 t205.length co33) t205) := ⟨by (with_reducible repeat (first | apply Kd.S_alloc | apply Kd.S_drewN | apply Kd.S_drew)); exact Kd.S_mono (Kd.S_far (p := ⟨gb211, 4, none⟩) (Kd.S_far (p := ⟨gb211, 3, none⟩) (Kd.S_far (p := ⟨gb211, 2, none⟩) (Kd.S_far (p := ⟨gb211, 1, none⟩) (Kd.S_far (p := ⟨gb211, 0, none⟩) (Kd.S_types HO207.out BK211.out (by decide)) (fun _ hk => hk.2) (.int .i64 t204)) (fun _ hk => hk.2) (.slice Ao33 t205.length co33)) (fun _ hk => hk.2) (.int .i64 t208)) (fun _ hk => hk.2) (.int .i64 t209)) (fun _ hk => hk.2) (.bool t210)) (fun _ hk => hk.1.2)⟩
   have n2_ : Aside0 ((((((w29.setCell ⟨gb211, 0, none⟩ (.int .i64 t204)).setCell ⟨gb211, 1, none⟩ (.slice Ao33 t205.length co33)).setCell ⟨gb211, 2, none⟩ (.int .i64 t208)).setCell ⟨gb211, 3, none⟩ (.int .i64 t209)).setCell ⟨gb211, 4, none⟩ (.bool t210)).heap[gb188]? = some (.cells #[.int .i64 a0_0, .int .i64 a0_1, .int .i64 a0_2, .int .i64 a0_3, .int .i64 a0_4] 60 (0, 0))) := ⟨by (with_reducible repeat (first | refine zq1 ?_ _ | refine zq2 ?_ | refine zq3 ?_ _)); refine fa5 ?_ NB188_211.out; (with_reducible repeat (first | refine zq1 ?_ _ | refine zq2 ?_ | refine zq3 ?_ _)); exact BK188.out⟩
   have n3_ : Aside0 ((((((w29.setCell ⟨gb211, 0, none⟩ (.int .i64 t204)).setCell ⟨gb211, 1, none⟩ (.slice Ao33 t205.length co33)).setCell ⟨gb211, 2, none⟩ (.int .i64 t208)).setCell ⟨gb211, 3, none⟩ (.int .i64 t209)).setCell ⟨gb211, 4, none⟩ (.bool t210)).heap[gb189]? = some (.cells #[.int .i64 a1_0, .slice A1_1 l1_1.length c1_1, .int .i64 a1_2, .int .i64 a1_3, .bool a1_4] 74 (0, 0))) := ⟨by (with_reducible repeat (first | refine zq1 ?_ _ | refine zq2 ?_ | refine zq3 ?_ _)); refine fa5 ?_ NB189_211.out; (with_reducible repeat (first | refine zq1 ?_ _ | refine zq2 ?_ | refine zq3 ?_ _)); exact BK189.out⟩
   have n4_ : Aside0 ((((((w29.setCell ⟨gb211, 0, none⟩ (.int .i64 t204)).setCell ⟨gb211, 1, none⟩ (.slice Ao33 t205.length co33)).setCell ⟨gb211, 2, none⟩ (.int .i64 t208)).setCell ⟨gb211, 3, none⟩ (.int .i64 t209)).setCell ⟨gb211, 4, none⟩ (.bool t210)).heap[gb211]? = some (.cells #[.int .i64 t204, .slice Ao33 t205.length co33, .int .i64 t208, .int .i64 t209, .bool t210] 78 (0, 0))) := ⟨by (with_reducible repeat (first | refine zq1 ?_ _ | refine zq2 ?_ | refine zq3 ?_ _)); apply pu5; (with_reducible repeat (first | refine zq1 ?_ _ | refine zq2 ?_ | refine zq3 ?_ _)); exact BK211.out⟩
   have n5_ : Aside0 (Below w.heap.size w (((((w29.setCell ⟨gb211, 0, none⟩ (.int .i64 t204)).setCell ⟨gb211, 1, none⟩ (.slice Ao33 t205.length co33)).setCell ⟨gb211, 2, none⟩ (.int .i64 t208)).setCell ⟨gb211, 3, none⟩ (.int .i64 t209)).setCell ⟨gb211, 4, none⟩ (.bool t210))) := ⟨by repeat (first | (with_reducible first | exact HB.out | apply zq7 | apply zq8 | apply zq9 | refine zr1 ?_ GE188.out | refine zr1 ?_ GE189.out | refine zr1 ?_ GE211.out) | exact HB.out)⟩
   (try clear HO199)
   (try clear HO207)
   (try clear BK188)
   (try clear BK189)
   (try clear BK211)
   (try clear HB)
   generalize (((((w29.setCell ⟨gb211, 0, none⟩ (.int .i64 t204)).setCell ⟨gb211, 1, none⟩ (.slice Ao33 t205.length co33)).setCell ⟨gb211, 2, none⟩ (.int .i64 t208)).setCell ⟨gb211, 3, none⟩ (.int .i64 t209)).setCell ⟨gb211, 4, none⟩ (.bool t210)) = w34 at n0_ n1_ n2_ n3_ n4_ n5_ ⊢
   have HO199 := n0_
   have HO207 := n1_
   have BK188 := n2_
   have BK189 := n3_
   have BK211 := n4_
   have HB := n5_
   clear n0_ n1_ n2_ n3_ n4_ n5_
   replace HO199 := mk_ (Kd.S_drew HO199.out)
   replace HO207 := mk_ (Kd.S_drew HO207.out)
   replace BK188 := mk_ (zq2 BK188.out)
   replace BK189 := mk_ (zq2 BK189.out)
   replace BK211 := mk_ (zq2 BK211.out)
   replace HB := mk_ (zq9 HB.out)
   refine start_ (n := 5) (S := fun w' => w'.cell? ⟨gb188, 0, none⟩ = some (.int .i64 a0_0) ∧ w'.cell? ⟨gb188, 1, none⟩ = some (.int .i64 a0_1) ∧ w'.cell? ⟨gb188, 2, none⟩ = some (.int .i64 a0_2) ∧ w'.cell? ⟨gb188, 3, none⟩ = some (.int .i64 a0_3) ∧ w'.cell? ⟨gb188, 4, none⟩ = some (.int .i64 a0_4) ∧ w'.cell? ⟨gb211, 0, none⟩ = some (.int .i64 t204) ∧ w'.cell? ⟨gb211, 1, none⟩ = some (.slice Ao33 t205.length co33) ∧ w'.cell? ⟨gb211, 2, none⟩ = some (.int .i64 t208) ∧ w'.cell? ⟨gb211, 3, none⟩ = some (.int .i64 t209) ∧ w'.cell? ⟨gb211, 4, none⟩ = some (.bool t210)) (ds := []) #[false, false, false, false, false] (by kernel_rfl) rfl rfl ⟨(zr4 BK188.out 0).trans rfl, (zr4 BK188.out 1).trans rfl, (zr4 BK188.out 2).trans rfl, (zr4 BK188.out 3).trans rfl, (zr4 BK188.out 4).trans rfl, (zr4 BK211.out 0).trans rfl, (zr4 BK211.out 1).trans rfl, (zr4 BK211.out 2).trans rfl, (zr4 BK211.out 3).trans rfl, (zr4 BK211.out 4).trans rfl⟩ (fun hHeld => ?_)
   generalize w34.drew = w35 at HO199 HO207 BK188 BK189 BK211 HB hHeld ⊢
   refine take_ (i := 0) (N := some 21) (v := ?_) (a' := ?_) #[true, false, false, false, false] rfl rfl (by kernel_rfl) (fun _ _ _ h => h) (Or.inl ⟨by rfl, ?_⟩) hHeld ?_ ?_
   rotate_left
   · rintro w' ⟨s0, s1, s2, s3, s4, s5, s6, s7, s8, s9⟩
     go_simp
     with_reducible rfl
   rotate_left
   · simp only [Act.put, zs1, zs2, zs3, i64_w, i32_w]
     rfl
   refine take_ (i := 2) (N := some 23) (v := ?_) (a' := ?_) #[true, false, true, false, false] rfl rfl (by kernel_rfl) (fun _ _ _ h => h) (Or.inl ⟨by rfl, ?_⟩) hHeld ?_ ?_
   rotate_left
   · rintro w' ⟨s0, s1, s2, s3, s4, s5, s6, s7, s8, s9⟩
     go_simp
     with_reducible rfl
   rotate_left
   · simp only [Act.put, zs1, zs2, zs3, i64_w, i32_w]
     rfl
   refine one_ (i := 1) (N := some 22) #[true, true, true, false, false] rfl rfl (by kernel_rfl) (by decide) (fun K hK => ?_)
   refine goes_ Try.func49 (by kernel_rfl) rfl #[.agg #[.int .i64 a0_0, .int .i64 a0_1, .int .i64 a0_2, .int .i64 a0_3, .int .i64 a0_4]] (by rfl) rfl rfl (by (try simp only [List.map_toArray, List.map_cons, List.map_nil]); first | done | rfl | (simp only [List.length_drop, List.length_take]; rfl)) ?_
   with_reducible refine (laws_toCfgOpts.calls a0_0 a0_1 a0_2 a0_3 a0_4 t212 t213 t214 t215 t216 _ A14.out).mono ?_
   rintro e w36 ⟨rfl, hb⟩
   refine ⟨_, rfl, ?_⟩
   replace HO199 := mk_ (Kd.S_below (by (with_reducible repeat (first | apply Kd.S_alloc | apply Kd.S_drewN | apply Kd.S_drew)); exact HO199.out) hb)
   replace HO207 := mk_ (Kd.S_below (by (with_reducible repeat (first | apply Kd.S_alloc | apply Kd.S_drewN | apply Kd.S_drew)); exact HO207.out) hb)
   replace BK188 := mk_ (zq6 (by exact BK188.out) hb)
   replace BK189 := mk_ (zq6 (by exact BK189.out) hb)
   replace BK211 := mk_ (zq6 (by exact BK211.out) hb)
   replace HB := mk_ (zr3 (by repeat (first | (with_reducible first | exact HB.out | apply zq7 | apply zq8 | apply zq9 | refine zr1 ?_ GE188.out | refine zr1 ?_ GE189.out | refine zr1 ?_ GE211.out) | exact HB.out)) hb)
   (try clear hb)
   (try clear hb2)
   (try clear hk)
   (try clear hi)
   refine hK.out _ _ ⟨(zr4 BK188.out 0).trans rfl, (zr4 BK188.out 1).trans rfl, (zr4 BK188.out 2).trans rfl, (zr4 BK188.out 3).trans rfl, (zr4 BK188.out 4).trans rfl, (zr4 BK211.out 0).trans rfl, (zr4 BK211.out 1).trans rfl, (zr4 BK211.out 2).trans rfl, (zr4 BK211.out 3).trans rfl, (zr4 BK211.out 4).trans rfl⟩ (fun hHeld => ?_)
   clear hK K
   refine norm_ (a' := ?_) ?_ ?_
   rotate_left
   · show Act.put _ (some 22) _ = _
     simp only [Act.put, zs1, zs2, zs3, i64_w, i32_w]
     rfl
   refine one_ (i := 3) (N := some 24) #[true, true, true, true, false] rfl rfl (by kernel_rfl) (by decide) (fun K hK => ?_)
   refine goes_ Try.func56 (by kernel_rfl) rfl #[.agg #[.int .i64 t212, .int .i64 t213, .int .i64 t214, .int .i64 t215, .int .i64 t216], .agg #[.int .i64 t204, .slice Ao33 t205.length co33, .int .i64 t208, .int .i64 t209, .bool t210]] (by rfl) rfl rfl (by (try simp only [List.map_toArray, List.map_cons, List.map_nil]); first | done | rfl | (simp only [List.length_drop, List.length_take]; rfl)) ?_
   with_reducible refine (impl_CrdTxOk.calls k t212 t213 t214 t215 t216 t204 _ _ t205 t208 t209 t210 t217 _ ?side1 ?side2 A15.out).mono ?_
   (case side1 => repeat (first | exact (Kd.S_reads' HO207.out).2.2 | (with_reducible refine Kd.C_alloc ?_ _) | (with_reducible refine Kd.C_drewN ?_ _) | (with_reducible refine Kd.C_drew ?_)))
   (case side2 => exact (Kd.S_reads' HO207.out).2.1)
   rintro e w37 ⟨rfl, hb⟩
   refine ⟨_, rfl, ?_⟩
   replace HO199 := mk_ (Kd.S_below (by (with_reducible repeat (first | apply Kd.S_alloc | apply Kd.S_drewN | apply Kd.S_drew)); exact HO199.out) hb)
   replace HO207 := mk_ (Kd.S_below (by (with_reducible repeat (first | apply Kd.S_alloc | apply Kd.S_drewN | apply Kd.S_drew)); exact HO207.out) hb)
   replace BK188 := mk_ (zq6 (by exact BK188.out) hb)
   replace BK189 := mk_ (zq6 (by exact BK189.out) hb)
   replace BK211 := mk_ (zq6 (by exact BK211.out) hb)
   replace HB := mk_ (zr3 (by repeat (first | (with_reducible first | exact HB.out | apply zq7 | apply zq8 | apply zq9 | refine zr1 ?_ GE188.out | refine zr1 ?_ GE189.out | refine zr1 ?_ GE211.out) | exact HB.out)) hb)
   (try clear hb)
   (try clear hb2)
   (try clear hk)
   (try clear hi)
   refine hK.out _ _ ⟨(zr4 BK188.out 0).trans rfl, (zr4 BK188.out 1).trans rfl, (zr4 BK188.out 2).trans rfl, (zr4 BK188.out 3).trans rfl, (zr4 BK188.out 4).trans rfl, (zr4 BK211.out 0).trans rfl, (zr4 BK211.out 1).trans rfl, (zr4 BK211.out 2).trans rfl, (zr4 BK211.out 3).trans rfl, (zr4 BK211.out 4).trans rfl⟩ (fun hHeld => ?_)
   clear hK K
   refine norm_ (a' := ?_) ?_ ?_
   rotate_left
   · show Act.put _ (some 24) _ = _
     simp only [Act.put, zs1, zs2, zs3, i64_w, i32_w]
     rfl
   refine pure_ (i := 4) (N := some 8) (v := ?_) (a' := ?_) #[true, true, true, true, true] rfl rfl (by kernel_rfl) (fun _ _ _ h => h) (Or.inl ⟨by rfl, ?_⟩) ?_ ?_
   rotate_left
   · intro w'
     go_simp
     with_reducible rfl
   rotate_left
   · simp only [Act.put, zs1, zs2, zs3, i64_w, i32_w]
     rfl
   refine done_ (by kernel_rfl) ?_
   try go_wp2
   go_ret
   exact ⟨by first | rfl | (simp [errW_none, errW_some] <;> rfl) | (simp [*, errW_none, errW_some] <;> rfl), by repeat (first | (with_reducible first | exact HB.out | apply zq7 | apply zq8 | apply zq9 | refine zr1 ?_ GE188.out | refine zr1 ?_ GE189.out | refine zr1 ?_ GE211.out) | exact HB.out)⟩
 rw [if_neg c16] at H
 have c16b0 : (t217 != t203) = false := by simpa using c16
 (try (have c16b1 : decide (t217 = t203) = true := by simpa using c16))
 (try (have c16b2 : (t217 == t203) = true := by simpa using c16))
 clear c16
 replace H := Option.bind_eq_some_iff.mp H
 obtain ⟨⟨t218, t219, t222, t223, t224⟩, A380, H⟩ := H
 try dsimp only at H
 have A38 := mk_ A380
 clear A380
 replace H := Option.bind_eq_some_iff.mp H
 obtain ⟨t225, A390, H⟩ := H
 try dsimp only at H
 have A39 := mk_ A390
 clear A390
 by_cases c40 : t225 = true
 · subst c40
   have H1 : (some true) = some r := by rw [if_pos rfl] at H; exact H
   clear H
   have H := H1
   clear H1
   obtain rfl := Option.some.inj H
   go_enter Try.func11, Try.ntmps11
   try go_wp2_with (first | ((with_reducible refine gate_dst (N := 2) rfl ?_); refine box_event ?hg (N := 2) ?hd (cs := #[.int .i64 a0_0, .int .i64 a0_1, .int .i64 a0_2, .int .i64 a0_3, .int .i64 a0_4]) (t := 60) ?hr ?_; (case hd => rfl); (case hg => rfl); (case hr => first | (go_simp; done) | (go_simp; rfl)); intro gb188 hg w41 hbox hb; have BK188 := mk_ (hbox); have GW188 := mk_ ((by rw [hg]; exact (zr2 (by repeat (first | (with_reducible first | exact HB.out | apply zq7 | apply zq8 | apply zq9) | exact HB.out))) : w.heap.size ≤ gb188)); have GE188 := GW188; replace HB := mk_ (zr3 (by repeat (first | (with_reducible first | exact HB.out | apply zq7 | apply zq8 | apply zq9) | exact HB.out)) hb); clear hb hbox hg) | ((with_reducible refine gate_dst (N := 3) rfl ?_); refine box_event ?hg (N := 3) ?hd (cs := #[.int .i64 a1_0, .slice A1_1 l1_1.length c1_1, .int .i64 a1_2, .int .i64 a1_3, .bool a1_4]) (t := 74) ?hr ?_; (case hd => rfl); (case hg => rfl); (case hr => first | (go_simp; done) | (go_simp; rfl)); intro gb189 hg w42 hbox hb; have BK189 := mk_ (hbox); have GW189 := mk_ ((by rw [hg]; exact (zr2 (by repeat (first | (with_reducible first | exact HB.out | apply zq7 | apply zq8 | apply zq9 | refine zr1 ?_ GE188.out) | exact HB.out))) : w.heap.size ≤ gb189)); have GE189 := GW189; replace HB := mk_ (zr3 (by repeat (first | (with_reducible first | exact HB.out | apply zq7 | apply zq8 | apply zq9 | refine zr1 ?_ GE188.out) | exact HB.out)) hb); have NB188_189 := mk_ ((by rw [hg]; exact zm2 (zr6 (by exact BK188.out)) : gb188 ≠ gb189)); replace BK188 := mk_ (zq6 (by exact BK188.out) hb); have NB189_188 := mk_ NB188_189.out.symm; clear hb hbox hg; have hnb43 := NB189_188.out; have hnc43 := NB188_189.out; obtain ⟨hcz44_0, hcz44_1, hcz44_2, hcz44_3, hcz44_4⟩ := cz5 BK189.out; obtain ⟨hfz44_0, hfz44_1, hfz44_2, hfz44_3, hfz44_4⟩ := fz5 BK189.out) | ((with_reducible refine gate_callee (f := 53) rfl ?_); refine goesL_ (some 11) rfl rfl Try.func53 (by kernel_rfl) rfl #[.agg #[.int .i64 a1_0, .slice A1_1 l1_1.length c1_1, .int .i64 a1_2, .int .i64 a1_3, .bool a1_4], .int .i64 1048576] rfl (by (try simp only [List.map_toArray, List.map_cons, List.map_nil]); first | done | rfl | (simp only [List.length_drop, List.length_take]; rfl)) ?_; (with_reducible refine (laws_szCrdTx.calls k a1_0 _ _ l1_1 a1_2 a1_3 a1_4 1048576 t190 _ ?side1 ?side2 A3.out).mono ?_); (case side1 => repeat (first | exact (Kd.C_below HR1_1.out HB.out) | (with_reducible refine Kd.C_alloc ?_ _) | (with_reducible refine Kd.C_drewN ?_ _) | (with_reducible refine Kd.C_drew ?_))); (case side2 => exact HC1_1.out); rintro e w45 ⟨rfl, hb⟩; refine ⟨_, rfl, ?_⟩; replace BK188 := mk_ (zq6 (by exact BK188.out) hb); replace BK189 := mk_ (zq6 (by exact BK189.out) hb); replace HB := mk_ (zr3 (by repeat (first | (with_reducible first | exact HB.out | apply zq7 | apply zq8 | apply zq9 | refine zr1 ?_ GE188.out | refine zr1 ?_ GE189.out) | exact HB.out)) hb); (try clear hb); (try clear hb2); (try clear hk); (try clear hi)))
   replace BK188 := mk_ (zq2 BK188.out)
   replace BK189 := mk_ (zq2 BK189.out)
   replace HB := mk_ (zq9 HB.out)
   refine start_ (n := 6) (S := fun w' => w'.cell? ⟨gb188, 0, none⟩ = some (.int .i64 a0_0) ∧ w'.cell? ⟨gb188, 1, none⟩ = some (.int .i64 a0_1) ∧ w'.cell? ⟨gb188, 2, none⟩ = some (.int .i64 a0_2) ∧ w'.cell? ⟨gb188, 3, none⟩ = some (.int .i64 a0_3) ∧ w'.cell? ⟨gb188, 4, none⟩ = some (.int .i64 a0_4) ∧ w'.cell? ⟨gb189, 0, none⟩ = some (.int .i64 a1_0) ∧ w'.cell? ⟨gb189, 1, none⟩ = some (.slice A1_1 l1_1.length c1_1) ∧ w'.cell? ⟨gb189, 2, none⟩ = some (.int .i64 a1_2) ∧ w'.cell? ⟨gb189, 3, none⟩ = some (.int .i64 a1_3) ∧ w'.cell? ⟨gb189, 4, none⟩ = some (.bool a1_4)) (ds := []) (bm 6 0) (by kernel_rfl) rfl rfl ⟨(zr4 BK188.out 0).trans rfl, (zr4 BK188.out 1).trans rfl, (zr4 BK188.out 2).trans rfl, (zr4 BK188.out 3).trans rfl, (zr4 BK188.out 4).trans rfl, (zr4 BK189.out 0).trans rfl, (zr4 BK189.out 1).trans rfl, (zr4 BK189.out 2).trans rfl, (zr4 BK189.out 3).trans rfl, (zr4 BK189.out 4).trans rfl⟩ (fun hHeld => ?_)
   generalize w45.drew = w46 at BK188 BK189 HB hHeld ⊢
   refine take_ (i := 0) (N := some 14) (v := ?_) (a' := ?_) (bm 6 1) rfl rfl (by kernel_rfl) (fun _ _ _ h => h) (Or.inl ⟨by rfl, ?_⟩) hHeld ?_ ?_
   rotate_left
   · rintro w' ⟨s0, s1, s2, s3, s4, s5, s6, s7, s8, s9⟩
     go_simp
     with_reducible rfl
   rotate_left
   · simp only [Act.put, zs1, zs2, zs3, i64_w, i32_w]
     rfl
   refine take_ (i := 2) (N := some 16) (v := ?_) (a' := ?_) (bm 6 5) rfl rfl (by kernel_rfl) (fun _ _ _ h => h) (Or.inl ⟨by rfl, ?_⟩) hHeld ?_ ?_
   rotate_left
   · rintro w' ⟨s0, s1, s2, s3, s4, s5, s6, s7, s8, s9⟩
     go_simp
     with_reducible rfl
   rotate_left
   · simp only [Act.put, zs1, zs2, zs3, i64_w, i32_w]
     rfl
   refine one_ (i := 1) (N := some 15) (bm 6 7) rfl rfl (by kernel_rfl) (by decide) (fun K hK => ?_)
   refine goes_ Try.func49 (by kernel_rfl) rfl #[.agg #[.int .i64 a0_0, .int .i64 a0_1, .int .i64 a0_2, .int .i64 a0_3, .int .i64 a0_4]] (by rfl) rfl rfl (by (try simp only [List.map_toArray, List.map_cons, List.map_nil]); first | done | rfl | (simp only [List.length_drop, List.length_take]; rfl)) ?_
   with_reducible refine (laws_toCfgOpts.calls a0_0 a0_1 a0_2 a0_3 a0_4 t191 t192 t193 t194 t195 _ A10.out).mono ?_
   rintro e w47 ⟨rfl, hb⟩
   refine ⟨_, rfl, ?_⟩
   replace BK188 := mk_ (zq6 (by exact BK188.out) hb)
   replace BK189 := mk_ (zq6 (by exact BK189.out) hb)
   replace HB := mk_ (zr3 (by repeat (first | (with_reducible first | exact HB.out | apply zq7 | apply zq8 | apply zq9 | refine zr1 ?_ GE188.out | refine zr1 ?_ GE189.out) | exact HB.out)) hb)
   (try clear hb)
   (try clear hb2)
   (try clear hk)
   (try clear hi)
   refine hK.out _ _ ⟨(zr4 BK188.out 0).trans rfl, (zr4 BK188.out 1).trans rfl, (zr4 BK188.out 2).trans rfl, (zr4 BK188.out 3).trans rfl, (zr4 BK188.out 4).trans rfl, (zr4 BK189.out 0).trans rfl, (zr4 BK189.out 1).trans rfl, (zr4 BK189.out 2).trans rfl, (zr4 BK189.out 3).trans rfl, (zr4 BK189.out 4).trans rfl⟩ (fun hHeld => ?_)
   clear hK K
   refine norm_ (a' := ?_) ?_ ?_
   rotate_left
   · show Act.put _ (some 15) _ = _
     simp only [Act.put, zs1, zs2, zs3, i64_w, i32_w]
     rfl
   refine one_ (i := 3) (N := some 17) (bm 6 15) rfl rfl (by kernel_rfl) (by decide) (fun K hK => ?_)
   refine goes_ Try.func55 (by kernel_rfl) rfl #[.agg #[.int .i64 a1_0, .slice A1_1 l1_1.length c1_1, .int .i64 a1_2, .int .i64 a1_3, .bool a1_4]] (by rfl) rfl rfl (by (try simp only [List.map_toArray, List.map_cons, List.map_nil]); first | done | rfl | (simp only [List.length_drop, List.length_take]; rfl)) ?_
   with_reducible refine (laws_toCrdTx.calls k a1_0 _ _ l1_1 a1_2 a1_3 a1_4 t196 t197 t200 t201 t202 _ ?side1 ?side2 A11.out).mono ?_
   (case side1 => repeat (first | exact (Kd.C_below HR1_1.out HB.out) | (with_reducible refine Kd.C_alloc ?_ _) | (with_reducible refine Kd.C_drewN ?_ _) | (with_reducible refine Kd.C_drew ?_)))
   (case side2 => exact HC1_1.out)
   rintro e w48 ⟨v198, rfl, ho0, hb⟩
   refine ⟨_, rfl, ?_⟩
   have HO199 := mk_ (Kd.S_lower ho0 (zr2 (by repeat (first | (with_reducible first | exact HB.out | apply zq7 | apply zq8 | apply zq9 | refine zr1 ?_ GE188.out | refine zr1 ?_ GE189.out) | exact HB.out))))
   replace BK188 := mk_ (zq6 (by exact BK188.out) hb)
   replace BK189 := mk_ (zq6 (by exact BK189.out) hb)
   replace HB := mk_ (zr3 (by repeat (first | (with_reducible first | exact HB.out | apply zq7 | apply zq8 | apply zq9 | refine zr1 ?_ GE188.out | refine zr1 ?_ GE189.out) | exact HB.out)) hb)
   (try clear hb)
   (try clear hb2)
   (try clear hk)
   (try clear hi)
   (try clear ho0)
   obtain ⟨Ao49, co49, eo49⟩ := Kd.S_slice HO199.out
   (first | subst eo49 | (injection eo49 with f1_ f2_ f3_; have f4_ := f1_.symm; have f5_ := f3_.symm; clear f1_ f2_ f3_; subst f4_; subst f5_))
   refine hK.out _ _ ⟨(zr4 BK188.out 0).trans rfl, (zr4 BK188.out 1).trans rfl, (zr4 BK188.out 2).trans rfl, (zr4 BK188.out 3).trans rfl, (zr4 BK188.out 4).trans rfl, (zr4 BK189.out 0).trans rfl, (zr4 BK189.out 1).trans rfl, (zr4 BK189.out 2).trans rfl, (zr4 BK189.out 3).trans rfl, (zr4 BK189.out 4).trans rfl⟩ (fun hHeld => ?_)
   clear hK K
   refine norm_ (a' := ?_) ?_ ?_
   rotate_left
   · show Act.put _ (some 17) _ = _
     simp only [Act.put, zs1, zs2, zs3, i64_w, i32_w]
     rfl
   refine one_ (i := 4) (N := some 18) (bm 6 31) rfl rfl (by kernel_rfl) (by decide) (fun K hK => ?_)
   refine goes_ Try.func54 (by kernel_rfl) rfl #[.agg #[.int .i64 t191, .int .i64 t192, .int .i64 t193, .int .i64 t194, .int .i64 t195], .agg #[.int .i64 t196, .slice Ao49 t197.length co49, .int .i64 t200, .int .i64 t201, .bool t202]] (by rfl) rfl rfl (by (try simp only [List.map_toArray, List.map_cons, List.map_nil]); first | done | rfl | (simp only [List.length_drop, List.length_take]; rfl)) ?_
   with_reducible refine (spec_CrdTxOk.calls k t191 t192 t193 t194 t195 t196 _ _ t197 t200 t201 t202 t203 _ ?side1 ?side2 A12.out).mono ?_
   (case side1 => repeat (first | exact (Kd.S_reads' HO199.out).2.2 | (with_reducible refine Kd.C_alloc ?_ _) | (with_reducible refine Kd.C_drewN ?_ _) | (with_reducible refine Kd.C_drew ?_)))
   (case side2 => exact (Kd.S_reads' HO199.out).2.1)
   rintro e w50 ⟨rfl, hb⟩
   refine ⟨_, rfl, ?_⟩
   replace HO199 := mk_ (Kd.S_below (by (with_reducible repeat (first | apply Kd.S_alloc | apply Kd.S_drewN | apply Kd.S_drew)); exact HO199.out) hb)
   replace BK188 := mk_ (zq6 (by exact BK188.out) hb)
   replace BK189 := mk_ (zq6 (by exact BK189.out) hb)
   replace HB := mk_ (zr3 (by repeat (first | (with_reducible first | exact HB.out | apply zq7 | apply zq8 | apply zq9 | refine zr1 ?_ GE188.out | refine zr1 ?_ GE189.out) | exact HB.out)) hb)
   (try clear hb)
   (try clear hb2)
   (try clear hk)
   (try clear hi)
   refine hK.out _ _ ⟨(zr4 BK188.out 0).trans rfl, (zr4 BK188.out 1).trans rfl, (zr4 BK188.out 2).trans rfl, (zr4 BK188.out 3).trans rfl, (zr4 BK188.out 4).trans rfl, (zr4 BK189.out 0).trans rfl, (zr4 BK189.out 1).trans rfl, (zr4 BK189.out 2).trans rfl, (zr4 BK189.out 3).trans rfl, (zr4 BK189.out 4).trans rfl⟩ (fun hHeld => ?_)
   clear hK K
   refine norm_ (a' := ?_) ?_ ?_
   rotate_left
   · show Act.put _ (some 18) _ = _
     simp only [Act.put, zs1, zs2, zs3, i64_w, i32_w]
     rfl
   refine pure_ (i := 5) (N := some 6) (v := ?_) (a' := ?_) (bm 6 63) rfl rfl (by kernel_rfl) (fun _ _ _ h => h) (Or.inl ⟨by rfl, ?_⟩) ?_ ?_
   rotate_left
   · intro w'
     go_simp
     with_reducible rfl
   rotate_left
   · simp only [Act.put, zs1, zs2, zs3, i64_w, i32_w]
     rfl
   refine done_ (by kernel_rfl) ?_
   obtain ⟨hcz51_0, hcz51_1, hcz51_2, hcz51_3, hcz51_4⟩ := cz5 BK189.out
   obtain ⟨hfz51_0, hfz51_1, hfz51_2, hfz51_3, hfz51_4⟩ := fz5 BK189.out
   try go_wp2_with (first | ((with_reducible refine gate_callee (f := 55) rfl ?_); refine goesL_ (some 20) rfl rfl Try.func55 (by kernel_rfl) rfl #[.agg #[.int .i64 a1_0, .slice A1_1 l1_1.length c1_1, .int .i64 a1_2, .int .i64 a1_3, .bool a1_4]] rfl (by (try simp only [List.map_toArray, List.map_cons, List.map_nil]); first | done | rfl | (simp only [List.length_drop, List.length_take]; rfl)) ?_; (with_reducible refine (laws_toCrdTx.calls k a1_0 _ _ l1_1 a1_2 a1_3 a1_4 t204 t205 t208 t209 t210 _ ?side1 ?side2 A13.out).mono ?_); (case side1 => repeat (first | exact (Kd.C_below HR1_1.out HB.out) | (with_reducible refine Kd.C_alloc ?_ _) | (with_reducible refine Kd.C_drewN ?_ _) | (with_reducible refine Kd.C_drew ?_))); (case side2 => exact HC1_1.out); rintro e w52 ⟨v206, rfl, ho0, hb⟩; refine ⟨_, rfl, ?_⟩; have HO207 := mk_ (Kd.S_lower (Kd.S_new' ho0 (Kd.S_lt (by (with_reducible repeat (first | apply Kd.S_alloc | apply Kd.S_drewN | apply Kd.S_drew)); exact HO199.out))) (zr2 (by repeat (first | (with_reducible first | exact HB.out | apply zq7 | apply zq8 | apply zq9 | refine zr1 ?_ GE188.out | refine zr1 ?_ GE189.out) | exact HB.out)))); replace HO199 := mk_ (Kd.S_elder' (by (with_reducible repeat (first | apply Kd.S_alloc | apply Kd.S_drewN | apply Kd.S_drew)); exact HO199.out) (Kd.S_base ho0) hb); replace BK188 := mk_ (zq6 (by exact BK188.out) hb); replace BK189 := mk_ (zq6 (by exact BK189.out) hb); replace HB := mk_ (zr3 (by repeat (first | (with_reducible first | exact HB.out | apply zq7 | apply zq8 | apply zq9 | refine zr1 ?_ GE188.out | refine zr1 ?_ GE189.out) | exact HB.out)) hb); (try clear hb); (try clear hb2); (try clear hk); (try clear hi); (try clear ho0)) | ((with_reducible refine gate_dst (N := 7) rfl ?_); refine box_event ?hg (N := 7) ?hd (cs := #[.int .i64 0, .slice none 0 0, .int .i64 0, .int .i64 0, .bool false]) (t := 78) ?hr ?_; (case hd => rfl); (case hg => rfl); (case hr => first | (go_simp; done) | (go_simp; rfl)); intro gb211 hg w53 hbox hb; replace HO199 := mk_ (Kd.S_below (by (with_reducible repeat (first | apply Kd.S_alloc | apply Kd.S_drewN | apply Kd.S_drew)); exact HO199.out) hb); replace HO207 := mk_ (Kd.S_below (by (with_reducible repeat (first | apply Kd.S_alloc | apply Kd.S_drewN | apply Kd.S_drew)); exact HO207.out) hb); have BK211 := mk_ (hbox); have GW211 := mk_ ((by rw [hg]; exact (zr2 (by repeat (first | (with_reducible first | exact HB.out | apply zq7 | apply zq8 | apply zq9 | refine zr1 ?_ GE188.out | refine zr1 ?_ GE189.out) | exact HB.out))) : w.heap.size ≤ gb211)); have GE211 := GW211; replace HB := mk_ (zr3 (by repeat (first | (with_reducible first | exact HB.out | apply zq7 | apply zq8 | apply zq9 | refine zr1 ?_ GE188.out | refine zr1 ?_ GE189.out) | exact HB.out)) hb); have NB188_211 := mk_ ((by rw [hg]; exact zm2 (zr6 (by exact BK188.out)) : gb188 ≠ gb211)); replace BK188 := mk_ (zq6 (by exact BK188.out) hb); have NB211_188 := mk_ NB188_211.out.symm; have NB189_211 := mk_ ((by rw [hg]; exact zm2 (zr6 (by exact BK189.out)) : gb189 ≠ gb211)); replace BK189 := mk_ (zq6 (by exact BK189.out) hb); have NB211_189 := mk_ NB189_211.out.symm; clear hb hbox hg; have hnb54 := NB211_188.out; have hnc54 := NB188_211.out; have hnb55 := NB211_189.out; have hnc55 := NB189_211.out; obtain ⟨hcz56_0, hcz56_1, hcz56_2, hcz56_3, hcz56_4⟩ := cz5 BK211.out; obtain ⟨hfz56_0, hfz56_1, hfz56_2, hfz56_3, hfz56_4⟩ := fz5 BK211.out; obtain ⟨Ao57, co57, eo57⟩ := Kd.S_slice HO207.out; subst eo57))
   have n0_ : Aside0 (Kd.S k39 39 (((((w53.setCell ⟨gb211, 0, none⟩ (.int .i64 t204)).setCell ⟨gb211, 1, none⟩ (.slice Ao57 t205.length co57)).setCell ⟨gb211, 2, none⟩ (.int .i64 t208)).setCell ⟨gb211, 3, none⟩ (.int .i64 t209)).setCell ⟨gb211, 4, none⟩ (.bool t210)) w.heap.size (fun k_ => some k_ ≠ (.slice Ao57 t205.length co57 : Value).ownBlock) (.slice Ao49 t197.length co49) t197) := ⟨by (with_reducible repeat (first | apply Kd.S_alloc | apply Kd.S_drewN | apply Kd.S_drew)); exact Kd.S_mono (Kd.S_far (p := ⟨gb211, 4, none⟩) (Kd.S_far (p := ⟨gb211, 3, none⟩) (Kd.S_far (p := ⟨gb211, 2, none⟩) (Kd.S_far (p := ⟨gb211, 1, none⟩) (Kd.S_far (p := ⟨gb211, 0, none⟩) (Kd.S_types HO199.out BK211.out (by decide)) (fun _ hk => hk.2) (.int .i64 t204)) (fun _ hk => hk.2) (.slice Ao57 t205.length co57)) (fun _ hk => hk.2) (.int .i64 t208)) (fun _ hk => hk.2) (.int .i64 t209)) (fun _ hk => hk.2) (.bool t210)) (fun _ hk => hk.1.2)⟩
   have n1_ : Aside0 (Kd.S k39 39 (((((w53.setCell ⟨gb211, 0, none⟩ (.int .i64 t204)).setCell ⟨gb211, 1, none⟩ (.slice Ao57 t205.length co57)).setCell ⟨gb211, 2, none⟩ (.int .i64 t208)).setCell ⟨gb211, 3, none⟩ (.int .i64 t209)).setCell ⟨gb211, 4, none⟩ (.bool t210)) w.heap.size (fun k_ => some k_ ≠ (.slice Ao49 t197.length co49 : Value).ownBlock) (.slice Ao57 t205.length co57) t205) := ⟨by (with_reducible repeat (first | apply Kd.S_alloc | apply Kd.S_drewN | apply Kd.S_drew)); exact Kd.S_mono (Kd.S_far (p := ⟨gb211, 4, none⟩) (Kd.S_far (p := ⟨gb211, 3, none⟩) (Kd.S_far (p := ⟨gb211, 2, none⟩) (Kd.S_far (p := ⟨gb211, 1, none⟩) (Kd.S_far (p := ⟨gb211, 0, none⟩) (Kd.S_types HO207.out BK211.out (by decide)) (fun _ hk => hk.2) (.int .i64 t204)) (fun _ hk => hk.2) (.slice Ao57 t205.length co57)) (fun _ hk => hk.2) (.int .i64 t208)) (fun _ hk => hk.2) (.int .i64 t209)) (fun _ hk => hk.2) (.bool t210)) (fun _ hk => hk.1.2)⟩
   have n2_ : Aside0 ((((((w53.setCell ⟨gb211, 0, none⟩ (.int .i64 t204)).setCell ⟨gb211, 1, none⟩ (.slice Ao57 t205.length co57)).setCell ⟨gb211, 2, none⟩ (.int .i64 t208)).setCell ⟨gb211, 3, none⟩ (.int .i64 t209)).setCell ⟨gb211, 4, none⟩ (.bool t210)).heap[gb188]? = some (.cells #[.int .i64 a0_0, .int .i64 a0_1, .int .i64 a0_2, .int .i64 a0_3, .int .i64 a0_4] 60 (0, 0))) := ⟨by (with_reducible repeat (first | refine zq1 ?_ _ | refine zq2 ?_ | refine zq3 ?_ _)); refine fa5 ?_ NB188_211.out; (with_reducible repeat (first | refine zq1 ?_ _ | refine zq2 ?_ | refine zq3 ?_ _)); exact BK188.out⟩
   have n3_ : Aside0 ((((((w53.setCell ⟨gb211, 0, none⟩ (.int .i64 t204)).setCell ⟨gb211, 1, none⟩ (.slice Ao57 t205.length co57)).setCell ⟨gb211, 2, none⟩ (.int .i64 t208)).setCell ⟨gb211, 3, none⟩ (.int .i64 t209)).setCell ⟨gb211, 4, none⟩ (.bool t210)).heap[gb189]? = some (.cells #[.int .i64 a1_0, .slice A1_1 l1_1.length c1_1, .int .i64 a1_2, .int .i64 a1_3, .bool a1_4] 74 (0, 0))) := ⟨by (with_reducible repeat (first | refine zq1 ?_ _ | refine zq2 ?_ | refine zq3 ?_ _)); refine fa5 ?_ NB189_211.out; (with_reducible repeat (first | refine zq1 ?_ _ | refine zq2 ?_ | refine zq3 ?_ _)); exact BK189.out⟩
   have n4_ : Aside0 ((((((w53.setCell ⟨gb211, 0, none⟩ (.int .i64 t204)).setCell ⟨gb211, 1, none⟩ (.slice Ao57 t205.length co57)).setCell ⟨gb211, 2, none⟩ (.int .i64 t208)).setCell ⟨gb211, 3, none⟩ (.int .i64 t209)).setCell ⟨gb211, 4, none⟩ (.bool t210)).heap[gb211]? = some (.cells #[.int .i64 t204, .slice Ao57 t205.length co57, .int .i64 t208, .int .i64 t209, .bool t210] 78 (0, 0))) := ⟨by (with_reducible repeat (first | refine zq1 ?_ _ | refine zq2 ?_ | refine zq3 ?_ _)); apply pu5; (with_reducible repeat (first | refine zq1 ?_ _ | refine zq2 ?_ | refine zq3 ?_ _)); exact BK211.out⟩
   have n5_ : Aside0 (Below w.heap.size w (((((w53.setCell ⟨gb211, 0, none⟩ (.int .i64 t204)).setCell ⟨gb211, 1, none⟩ (.slice Ao57 t205.length co57)).setCell ⟨gb211, 2, none⟩ (.int .i64 t208)).setCell ⟨gb211, 3, none⟩ (.int .i64 t209)).setCell ⟨gb211, 4, none⟩ (.bool t210))) := ⟨by repeat (first | (with_reducible first | exact HB.out | apply zq7 | apply zq8 | apply zq9 | refine zr1 ?_ GE188.out | refine zr1 ?_ GE189.out | refine zr1 ?_ GE211.out) | exact HB.out)⟩
   (try clear HO199)
   (try clear HO207)
   (try clear BK188)
   (try clear BK189)
   (try clear BK211)
   (try clear HB)
   generalize (((((w53.setCell ⟨gb211, 0, none⟩ (.int .i64 t204)).setCell ⟨gb211, 1, none⟩ (.slice Ao57 t205.length co57)).setCell ⟨gb211, 2, none⟩ (.int .i64 t208)).setCell ⟨gb211, 3, none⟩ (.int .i64 t209)).setCell ⟨gb211, 4, none⟩ (.bool t210)) = w58 at n0_ n1_ n2_ n3_ n4_ n5_ ⊢
   have HO199 := n0_
   have HO207 := n1_
   have BK188 := n2_
   have BK189 := n3_
   have BK211 := n4_
   have HB := n5_
   clear n0_ n1_ n2_ n3_ n4_ n5_
   replace HO199 := mk_ (Kd.S_drew HO199.out)
   replace HO207 := mk_ (Kd.S_drew HO207.out)
   replace BK188 := mk_ (zq2 BK188.out)
   replace BK189 := mk_ (zq2 BK189.out)
   replace BK211 := mk_ (zq2 BK211.out)
   replace HB := mk_ (zq9 HB.out)
   refine start_ (n := 5) (S := fun w' => w'.cell? ⟨gb188, 0, none⟩ = some (.int .i64 a0_0) ∧ w'.cell? ⟨gb188, 1, none⟩ = some (.int .i64 a0_1) ∧ w'.cell? ⟨gb188, 2, none⟩ = some (.int .i64 a0_2) ∧ w'.cell? ⟨gb188, 3, none⟩ = some (.int .i64 a0_3) ∧ w'.cell? ⟨gb188, 4, none⟩ = some (.int .i64 a0_4) ∧ w'.cell? ⟨gb211, 0, none⟩ = some (.int .i64 t204) ∧ w'.cell? ⟨gb211, 1, none⟩ = some (.slice Ao57 t205.length co57) ∧ w'.cell? ⟨gb211, 2, none⟩ = some (.int .i64 t208) ∧ w'.cell? ⟨gb211, 3, none⟩ = some (.int .i64 t209) ∧ w'.cell? ⟨gb211, 4, none⟩ = some (.bool t210)) (ds := []) #[false, false, false, false, false] (by kernel_rfl) rfl rfl ⟨(zr4 BK188.out 0).trans rfl, (zr4 BK188.out 1).trans rfl, (zr4 BK188.out 2).trans rfl, (zr4 BK188.out 3).trans rfl, (zr4 BK188.out 4).trans rfl, (zr4 BK211.out 0).trans rfl, (zr4 BK211.out 1).trans rfl, (zr4 BK211.out 2).trans rfl, (zr4 BK211.out 3).trans rfl, (zr4 BK211.out 4).trans rfl⟩ (fun hHeld => ?_)
   generalize w58.drew = w59 at HO199 HO207 BK188 BK189 BK211 HB hHeld ⊢
   refine take_ (i := 0) (N := some 21) (v := ?_) (a' := ?_) #[true, false, false, false, false] rfl rfl (by kernel_rfl) (fun _ _ _ h => h) (Or.inl ⟨by rfl, ?_⟩) hHeld ?_ ?_
   rotate_left
   · rintro w' ⟨s0, s1, s2, s3, s4, s5, s6, s7, s8, s9⟩
     go_simp
     with_reducible rfl
   rotate_left
   · simp only [Act.put, zs1, zs2, zs3, i64_w, i32_w]
     rfl
   refine take_ (i := 2) (N := some 23) (v := ?_) (a' := ?_) #[true, false, true, false, false] rfl rfl (by kernel_rfl) (fun _ _ _ h => h) (Or.inl ⟨by rfl, ?_⟩) hHeld ?_ ?_
   rotate_left
   · rintro w' ⟨s0, s1, s2, s3, s4, s5, s6, s7, s8, s9⟩
     go_simp
     with_reducible rfl
   rotate_left
   · simp only [Act.put, zs1, zs2, zs3, i64_w, i32_w]
     rfl
   refine one_ (i := 1) (N := some 22) #[true, true, true, false, false] rfl rfl (by kernel_rfl) (by decide) (fun K hK => ?_)
   refine goes_ Try.func49 (by kernel_rfl) rfl #[.agg #[.int .i64 a0_0, .int .i64 a0_1, .int .i64 a0_2, .int .i64 a0_3, .int .i64 a0_4]] (by rfl) rfl rfl (by (try simp only [List.map_toArray, List.map_cons, List.map_nil]); first | done | rfl | (simp only [List.length_drop, List.length_take]; rfl)) ?_
   with_reducible refine (laws_toCfgOpts.calls a0_0 a0_1 a0_2 a0_3 a0_4 t212 t213 t214 t215 t216 _ A14.out).mono ?_
   rintro e w60 ⟨rfl, hb⟩
   refine ⟨_, rfl, ?_⟩
   replace HO199 := mk_ (Kd.S_below (by (with_reducible repeat (first | apply Kd.S_alloc | apply Kd.S_drewN | apply Kd.S_drew)); exact HO199.out) hb)
   replace HO207 := mk_ (Kd.S_below (by (with_reducible repeat (first | apply Kd.S_alloc | apply Kd.S_drewN | apply Kd.S_drew)); exact HO207.out) hb)
   replace BK188 := mk_ (zq6 (by exact BK188.out) hb)
   replace BK189 := mk_ (zq6 (by exact BK189.out) hb)
   replace BK211 := mk_ (zq6 (by exact BK211.out) hb)
   replace HB := mk_ (zr3 (by repeat (first | (with_reducible first | exact HB.out | apply zq7 | apply zq8 | apply zq9 | refine zr1 ?_ GE188.out | refine zr1 ?_ GE189.out | refine zr1 ?_ GE211.out) | exact HB.out)) hb)
   (try clear hb)
   (try clear hb2)
   (try clear hk)
   (try clear hi)
   refine hK.out _ _ ⟨(zr4 BK188.out 0).trans rfl, (zr4 BK188.out 1).trans rfl, (zr4 BK188.out 2).trans rfl, (zr4 BK188.out 3).trans rfl, (zr4 BK188.out 4).trans rfl, (zr4 BK211.out 0).trans rfl, (zr4 BK211.out 1).trans rfl, (zr4 BK211.out 2).trans rfl, (zr4 BK211.out 3).trans rfl, (zr4 BK211.out 4).trans rfl⟩ (fun hHeld => ?_)
   clear hK K
   refine norm_ (a' := ?_) ?_ ?_
   rotate_left
   · show Act.put _ (some 22) _ = _
     simp only [Act.put, zs1, zs2, zs3, i64_w, i32_w]
     rfl
   refine one_ (i := 3) (N := some 24) #[true, true, true, true, false] rfl rfl (by kernel_rfl) (by decide) (fun K hK => ?_)
   refine goes_ Try.func56 (by kernel_rfl) rfl #[.agg #[.int .i64 t212, .int .i64 t213, .int .i64 t214, .int .i64 t215, .int .i64 t216], .agg #[.int .i64 t204, .slice Ao57 t205.length co57, .int .i64 t208, .int .i64 t209, .bool t210]] (by rfl) rfl rfl (by (try simp only [List.map_toArray, List.map_cons, List.map_nil]); first | done | rfl | (simp only [List.length_drop, List.length_take]; rfl)) ?_
   with_reducible refine (impl_CrdTxOk.calls k t212 t213 t214 t215 t216 t204 _ _ t205 t208 t209 t210 t217 _ ?side1 ?side2 A15.out).mono ?_
   (case side1 => repeat (first | exact (Kd.S_reads' HO207.out).2.2 | (with_reducible refine Kd.C_alloc ?_ _) | (with_reducible refine Kd.C_drewN ?_ _) | (with_reducible refine Kd.C_drew ?_)))
   (case side2 => exact (Kd.S_reads' HO207.out).2.1)
   rintro e w61 ⟨rfl, hb⟩
   refine ⟨_, rfl, ?_⟩
   replace HO199 := mk_ (Kd.S_below (by (with_reducible repeat (first | apply Kd.S_alloc | apply Kd.S_drewN | apply Kd.S_drew)); exact HO199.out) hb)
   replace HO207 := mk_ (Kd.S_below (by (with_reducible repeat (first | apply Kd.S_alloc | apply Kd.S_drewN | apply Kd.S_drew)); exact HO207.out) hb)
   replace BK188 := mk_ (zq6 (by exact BK188.out) hb)
   replace BK189 := mk_ (zq6 (by exact BK189.out) hb)
   replace BK211 := mk_ (zq6 (by exact BK211.out) hb)
   replace HB := mk_ (zr3 (by repeat (first | (with_reducible first | exact HB.out | apply zq7 | apply zq8 | apply zq9 | refine zr1 ?_ GE188.out | refine zr1 ?_ GE189.out | refine zr1 ?_ GE211.out) | exact HB.out)) hb)
   (try clear hb)
   (try clear hb2)
   (try clear hk)
   (try clear hi)
   refine hK.out _ _ ⟨(zr4 BK188.out 0).trans rfl, (zr4 BK188.out 1).trans rfl, (zr4 BK188.out 2).trans rfl, (zr4 BK188.out 3).trans rfl, (zr4 BK188.out 4).trans rfl, (zr4 BK211.out 0).trans rfl, (zr4 BK211.out 1).trans rfl, (zr4 BK211.out 2).trans rfl, (zr4 BK211.out 3).trans rfl, (zr4 BK211.out 4).trans rfl⟩ (fun hHeld => ?_)
   clear hK K
   refine norm_ (a' := ?_) ?_ ?_
   rotate_left
   · show Act.put _ (some 24) _ = _
     simp only [Act.put, zs1, zs2, zs3, i64_w, i32_w]
     rfl
   refine pure_ (i := 4) (N := some 8) (v := ?_) (a' := ?_) #[true, true, true, true, true] rfl rfl (by kernel_rfl) (fun _ _ _ h => h) (Or.inl ⟨by rfl, ?_⟩) ?_ ?_
   rotate_left
   · intro w'
     go_simp
     with_reducible rfl
   rotate_left
   · simp only [Act.put, zs1, zs2, zs3, i64_w, i32_w]
     rfl
   refine done_ (by kernel_rfl) ?_
   try go_wp2
   replace HO199 := mk_ (Kd.S_drew HO199.out)
   replace HO207 := mk_ (Kd.S_drew HO207.out)
   replace BK188 := mk_ (zq2 BK188.out)
   replace BK189 := mk_ (zq2 BK189.out)
   replace BK211 := mk_ (zq2 BK211.out)
   replace HB := mk_ (zq9 HB.out)
   refine start_ (n := 5) (S := fun w' => w'.cell? ⟨gb211, 0, none⟩ = some (.int .i64 t204) ∧ w'.cell? ⟨gb211, 1, none⟩ = some (.slice Ao57 t205.length co57) ∧ w'.cell? ⟨gb211, 2, none⟩ = some (.int .i64 t208) ∧ w'.cell? ⟨gb211, 3, none⟩ = some (.int .i64 t209) ∧ w'.cell? ⟨gb211, 4, none⟩ = some (.bool t210) ∧ w'.cell? ⟨gb189, 0, none⟩ = some (.int .i64 a1_0) ∧ w'.cell? ⟨gb189, 1, none⟩ = some (.slice A1_1 l1_1.length c1_1) ∧ w'.cell? ⟨gb189, 2, none⟩ = some (.int .i64 a1_2) ∧ w'.cell? ⟨gb189, 3, none⟩ = some (.int .i64 a1_3) ∧ w'.cell? ⟨gb189, 4, none⟩ = some (.bool a1_4)) (ds := []) #[false, false, false, false, false] (by kernel_rfl) rfl rfl ⟨(zr4 BK211.out 0).trans rfl, (zr4 BK211.out 1).trans rfl, (zr4 BK211.out 2).trans rfl, (zr4 BK211.out 3).trans rfl, (zr4 BK211.out 4).trans rfl, (zr4 BK189.out 0).trans rfl, (zr4 BK189.out 1).trans rfl, (zr4 BK189.out 2).trans rfl, (zr4 BK189.out 3).trans rfl, (zr4 BK189.out 4).trans rfl⟩ (fun hHeld => ?_)
   generalize w61.drew = w62 at HO199 HO207 BK188 BK189 BK211 HB hHeld ⊢
   refine take_ (i := 0) (N := some 28) (v := ?_) (a' := ?_) #[true, false, false, false, false] rfl rfl (by kernel_rfl) (fun _ _ _ h => h) (Or.inl ⟨by rfl, ?_⟩) hHeld ?_ ?_
   rotate_left
   · rintro w' ⟨s0, s1, s2, s3, s4, s5, s6, s7, s8, s9⟩
     go_simp
     with_reducible rfl
   rotate_left
   · simp only [Act.put, zs1, zs2, zs3, i64_w, i32_w]
     rfl
   refine take_ (i := 1) (N := some 29) (v := ?_) (a' := ?_) #[true, true, false, false, false] rfl rfl (by kernel_rfl) (fun _ _ _ h => h) (Or.inl ⟨by rfl, ?_⟩) hHeld ?_ ?_
   rotate_left
   · rintro w' ⟨s0, s1, s2, s3, s4, s5, s6, s7, s8, s9⟩
     go_simp
     with_reducible rfl
   rotate_left
   · simp only [Act.put, zs1, zs2, zs3, i64_w, i32_w]
     rfl
   refine one_ (i := 2) (N := some 30) #[true, true, true, false, false] rfl rfl (by kernel_rfl) (by decide) (fun K hK => ?_)
   refine goes_ Try.func55 (by kernel_rfl) rfl #[.agg #[.int .i64 a1_0, .slice A1_1 l1_1.length c1_1, .int .i64 a1_2, .int .i64 a1_3, .bool a1_4]] (by rfl) rfl rfl (by (try simp only [List.map_toArray, List.map_cons, List.map_nil]); first | done | rfl | (simp only [List.length_drop, List.length_take]; rfl)) ?_
   with_reducible refine (laws_toCrdTx.calls k a1_0 _ _ l1_1 a1_2 a1_3 a1_4 t218 t219 t222 t223 t224 _ ?side1 ?side2 A38.out).mono ?_
   (case side1 => repeat (first | exact (Kd.C_below HR1_1.out HB.out) | (with_reducible refine Kd.C_alloc ?_ _) | (with_reducible refine Kd.C_drewN ?_ _) | (with_reducible refine Kd.C_drew ?_)))
   (case side2 => exact HC1_1.out)
   rintro e w63 ⟨v220, rfl, ho0, hb⟩
   refine ⟨_, rfl, ?_⟩
   have HO221 := mk_ (Kd.S_lower (Kd.S_new' (Kd.S_new' ho0 (Kd.S_lt (by (with_reducible repeat (first | apply Kd.S_alloc | apply Kd.S_drewN | apply Kd.S_drew)); exact HO199.out))) (Kd.S_lt (by (with_reducible repeat (first | apply Kd.S_alloc | apply Kd.S_drewN | apply Kd.S_drew)); exact HO207.out))) (zr2 (by repeat (first | (with_reducible first | exact HB.out | apply zq7 | apply zq8 | apply zq9 | refine zr1 ?_ GE188.out | refine zr1 ?_ GE189.out | refine zr1 ?_ GE211.out) | exact HB.out))))
   replace HO199 := mk_ (Kd.S_elder' (by (with_reducible repeat (first | apply Kd.S_alloc | apply Kd.S_drewN | apply Kd.S_drew)); exact HO199.out) (Kd.S_base ho0) hb)
   replace HO207 := mk_ (Kd.S_elder' (by (with_reducible repeat (first | apply Kd.S_alloc | apply Kd.S_drewN | apply Kd.S_drew)); exact HO207.out) (Kd.S_base ho0) hb)
   replace BK188 := mk_ (zq6 (by exact BK188.out) hb)
   replace BK189 := mk_ (zq6 (by exact BK189.out) hb)
   replace BK211 := mk_ (zq6 (by exact BK211.out) hb)
   replace HB := mk_ (zr3 (by repeat (first | (with_reducible first | exact HB.out | apply zq7 | apply zq8 | apply zq9 | refine zr1 ?_ GE188.out | refine zr1 ?_ GE189.out | refine zr1 ?_ GE211.out) | exact HB.out)) hb)
   (try clear hb)
   (try clear hb2)
   (try clear hk)
   (try clear hi)
   (try clear ho0)
   obtain ⟨Ao64, co64, eo64⟩ := Kd.S_slice HO221.out
   (first | subst eo64 | (injection eo64 with f1_ f2_ f3_; have f4_ := f1_.symm; have f5_ := f3_.symm; clear f1_ f2_ f3_; subst f4_; subst f5_))
   refine hK.out _ _ ⟨(zr4 BK211.out 0).trans rfl, (zr4 BK211.out 1).trans rfl, (zr4 BK211.out 2).trans rfl, (zr4 BK211.out 3).trans rfl, (zr4 BK211.out 4).trans rfl, (zr4 BK189.out 0).trans rfl, (zr4 BK189.out 1).trans rfl, (zr4 BK189.out 2).trans rfl, (zr4 BK189.out 3).trans rfl, (zr4 BK189.out 4).trans rfl⟩ (fun hHeld => ?_)
   clear hK K
   refine norm_ (a' := ?_) ?_ ?_
   rotate_left
   · show Act.put _ (some 30) _ = _
     simp only [Act.put, zs1, zs2, zs3, i64_w, i32_w]
     rfl
   refine one_ (i := 3) (N := some 31) #[true, true, true, true, false] rfl rfl (by kernel_rfl) (by decide) (fun K hK => ?_)
   refine goes_ Try.func57 (by kernel_rfl) rfl #[.agg #[.int .i64 t204, .slice Ao57 t205.length co57, .int .i64 t208, .int .i64 t209, .bool t210], .agg #[.int .i64 t218, .slice Ao64 t219.length co64, .int .i64 t222, .int .i64 t223, .bool t224]] (by rfl) rfl rfl (by (try simp only [List.map_toArray, List.map_cons, List.map_nil]); first | done | rfl | (simp only [List.length_drop, List.length_take]; rfl)) ?_
   with_reducible refine (laws_eqCrdTx.calls k t204 _ _ t205 t208 t209 t210 t218 _ _ t219 t222 t223 t224 true _ ?side1 ?side2 ?side3 ?side4 A39.out).mono ?_
   (case side1 => repeat (first | exact (Kd.S_reads' HO207.out).2.2 | (with_reducible refine Kd.C_alloc ?_ _) | (with_reducible refine Kd.C_drewN ?_ _) | (with_reducible refine Kd.C_drew ?_)))
   (case side2 => exact (Kd.S_reads' HO207.out).2.1)
   (case side3 => repeat (first | exact (Kd.S_reads' HO221.out).2.2 | (with_reducible refine Kd.C_alloc ?_ _) | (with_reducible refine Kd.C_drewN ?_ _) | (with_reducible refine Kd.C_drew ?_)))
   (case side4 => exact (Kd.S_reads' HO221.out).2.1)
   rintro e w65 ⟨rfl, hb⟩
   refine ⟨_, rfl, ?_⟩
   replace HO199 := mk_ (Kd.S_below (by (with_reducible repeat (first | apply Kd.S_alloc | apply Kd.S_drewN | apply Kd.S_drew)); exact HO199.out) hb)
   replace HO207 := mk_ (Kd.S_below (by (with_reducible repeat (first | apply Kd.S_alloc | apply Kd.S_drewN | apply Kd.S_drew)); exact HO207.out) hb)
   replace HO221 := mk_ (Kd.S_below (by (with_reducible repeat (first | apply Kd.S_alloc | apply Kd.S_drewN | apply Kd.S_drew)); exact HO221.out) hb)
   replace BK188 := mk_ (zq6 (by exact BK188.out) hb)
   replace BK189 := mk_ (zq6 (by exact BK189.out) hb)
   replace BK211 := mk_ (zq6 (by exact BK211.out) hb)
   replace HB := mk_ (zr3 (by repeat (first | (with_reducible first | exact HB.out | apply zq7 | apply zq8 | apply zq9 | refine zr1 ?_ GE188.out | refine zr1 ?_ GE189.out | refine zr1 ?_ GE211.out) | exact HB.out)) hb)
   (try clear hb)
   (try clear hb2)
   (try clear hk)
   (try clear hi)
   refine hK.out _ _ ⟨(zr4 BK211.out 0).trans rfl, (zr4 BK211.out 1).trans rfl, (zr4 BK211.out 2).trans rfl, (zr4 BK211.out 3).trans rfl, (zr4 BK211.out 4).trans rfl, (zr4 BK189.out 0).trans rfl, (zr4 BK189.out 1).trans rfl, (zr4 BK189.out 2).trans rfl, (zr4 BK189.out 3).trans rfl, (zr4 BK189.out 4).trans rfl⟩ (fun hHeld => ?_)
   clear hK K
   refine norm_ (a' := ?_) ?_ ?_
   rotate_left
   · show Act.put _ (some 31) _ = _
     simp only [Act.put, zs1, zs2, zs3, i64_w, i32_w]
     rfl
   refine pure_ (i := 4) (N := some 32) (v := ?_) (a' := ?_) #[true, true, true, true, true] rfl rfl (by kernel_rfl) (fun _ _ _ h => h) (Or.inl ⟨by rfl, ?_⟩) ?_ ?_
   rotate_left
   · intro w'
     go_simp
     with_reducible rfl
   rotate_left
   · simp only [Act.put, zs1, zs2, zs3, i64_w, i32_w]
     rfl
   refine done_ (by kernel_rfl) ?_
   try go_wp2
   go_ret
   exact ⟨by first | rfl | (simp [errW_none, errW_some] <;> rfl) | (simp [*, errW_none, errW_some] <;> rfl), by repeat (first | (with_reducible first | exact HB.out | apply zq7 | apply zq8 | apply zq9 | refine zr1 ?_ GE188.out | refine zr1 ?_ GE189.out | refine zr1 ?_ GE211.out) | exact HB.out)⟩
 replace c40 := Bool.eq_false_iff.mpr c40
 subst c40
 have H1 : (some false) = some r := by rw [if_neg (show ¬ (false = true) by decide)] at H; exact H
 clear H
 have H := H1
 clear H1
 obtain rfl := Option.some.inj H
 go_enter Try.func11, Try.ntmps11
 try go_wp2_with (first | ((with_reducible refine gate_dst (N := 2) rfl ?_); refine box_event ?hg (N := 2) ?hd (cs := #[.int .i64 a0_0, .int .i64 a0_1, .int .i64 a0_2, .int .i64 a0_3, .int .i64 a0_4]) (t := 60) ?hr ?_; (case hd => rfl); (case hg => rfl); (case hr => first | (go_simp; done) | (go_simp; rfl)); intro gb188 hg w66 hbox hb; have BK188 := mk_ (hbox); have GW188 := mk_ ((by rw [hg]; exact (zr2 (by repeat (first | (with_reducible first | exact HB.out | apply zq7 | apply zq8 | apply zq9) | exact HB.out))) : w.heap.size ≤ gb188)); have GE188 := GW188; replace HB := mk_ (zr3 (by repeat (first | (with_reducible first | exact HB.out | apply zq7 | apply zq8 | apply zq9) | exact HB.out)) hb); clear hb hbox hg) | ((with_reducible refine gate_dst (N := 3) rfl ?_); refine box_event ?hg (N := 3) ?hd (cs := #[.int .i64 a1_0, .slice A1_1 l1_1.length c1_1, .int .i64 a1_2, .int .i64 a1_3, .bool a1_4]) (t := 74) ?hr ?_; (case hd => rfl); (case hg => rfl); (case hr => first | (go_simp; done) | (go_simp; rfl)); intro gb189 hg w67 hbox hb; have BK189 := mk_ (hbox); have GW189 := mk_ ((by rw [hg]; exact (zr2 (by repeat (first | (with_reducible first | exact HB.out | apply zq7 | apply zq8 | apply zq9 | refine zr1 ?_ GE188.out) | exact HB.out))) : w.heap.size ≤ gb189)); have GE189 := GW189; replace HB := mk_ (zr3 (by repeat (first | (with_reducible first | exact HB.out | apply zq7 | apply zq8 | apply zq9 | refine zr1 ?_ GE188.out) | exact HB.out)) hb); have NB188_189 := mk_ ((by rw [hg]; exact zm2 (zr6 (by exact BK188.out)) : gb188 ≠ gb189)); replace BK188 := mk_ (zq6 (by exact BK188.out) hb); have NB189_188 := mk_ NB188_189.out.symm; clear hb hbox hg; have hnb68 := NB189_188.out; have hnc68 := NB188_189.out; obtain ⟨hcz69_0, hcz69_1, hcz69_2, hcz69_3, hcz69_4⟩ := cz5 BK189.out; obtain ⟨hfz69_0, hfz69_1, hfz69_2, hfz69_3, hfz69_4⟩ := fz5 BK189.out) | ((with_reducible refine gate_callee (f := 53) rfl ?_); refine goesL_ (some 11) rfl rfl Try.func53 (by kernel_rfl) rfl #[.agg #[.int .i64 a1_0, .slice A1_1 l1_1.length c1_1, .int .i64 a1_2, .int .i64 a1_3, .bool a1_4], .int .i64 1048576] rfl (by (try simp only [List.map_toArray, List.map_cons, List.map_nil]); first | done | rfl | (simp only [List.length_drop, List.length_take]; rfl)) ?_; (with_reducible refine (laws_szCrdTx.calls k a1_0 _ _ l1_1 a1_2 a1_3 a1_4 1048576 t190 _ ?side1 ?side2 A3.out).mono ?_); (case side1 => repeat (first | exact (Kd.C_below HR1_1.out HB.out) | (with_reducible refine Kd.C_alloc ?_ _) | (with_reducible refine Kd.C_drewN ?_ _) | (with_reducible refine Kd.C_drew ?_))); (case side2 => exact HC1_1.out); rintro e w70 ⟨rfl, hb⟩; refine ⟨_, rfl, ?_⟩; replace BK188 := mk_ (zq6 (by exact BK188.out) hb); replace BK189 := mk_ (zq6 (by exact BK189.out) hb); replace HB := mk_ (zr3 (by repeat (first | (with_reducible first | exact HB.out | apply zq7 | apply zq8 | apply zq9 | refine zr1 ?_ GE188.out | refine zr1 ?_ GE189.out) | exact HB.out)) hb); (try clear hb); (try clear hb2); (try clear hk); (try clear hi)))
 replace BK188 := mk_ (zq2 BK188.out)
 replace BK189 := mk_ (zq2 BK189.out)
 replace HB := mk_ (zq9 HB.out)
 refine start_ (n := 6) (S := fun w' => w'.cell? ⟨gb188, 0, none⟩ = some (.int .i64 a0_0) ∧ w'.cell? ⟨gb188, 1, none⟩ = some (.int .i64 a0_1) ∧ w'.cell? ⟨gb188, 2, none⟩ = some (.int .i64 a0_2) ∧ w'.cell? ⟨gb188, 3, none⟩ = some (.int .i64 a0_3) ∧ w'.cell? ⟨gb188, 4, none⟩ = some (.int .i64 a0_4) ∧ w'.cell? ⟨gb189, 0, none⟩ = some (.int .i64 a1_0) ∧ w'.cell? ⟨gb189, 1, none⟩ = some (.slice A1_1 l1_1.length c1_1) ∧ w'.cell? ⟨gb189, 2, none⟩ = some (.int .i64 a1_2) ∧ w'.cell? ⟨gb189, 3, none⟩ = some (.int .i64 a1_3) ∧ w'.cell? ⟨gb189, 4, none⟩ = some (.bool a1_4)) (ds := []) (bm 6 0) (by kernel_rfl) rfl rfl ⟨(zr4 BK188.out 0).trans rfl, (zr4 BK188.out 1).trans rfl, (zr4 BK188.out 2).trans rfl, (zr4 BK188.out 3).trans rfl, (zr4 BK188.out 4).trans rfl, (zr4 BK189.out 0).trans rfl, (zr4 BK189.out 1).trans rfl, (zr4 BK189.out 2).trans rfl, (zr4 BK189.out 3).trans rfl, (zr4 BK189.out 4).trans rfl⟩ (fun hHeld => ?_)
 generalize w70.drew = w71 at BK188 BK189 HB hHeld ⊢
 refine take_ (i := 0) (N := some 14) (v := ?_) (a' := ?_) (bm 6 1) rfl rfl (by kernel_rfl) (fun _ _ _ h => h) (Or.inl ⟨by rfl, ?_⟩) hHeld ?_ ?_
 rotate_left
 · rintro w' ⟨s0, s1, s2, s3, s4, s5, s6, s7, s8, s9⟩
   go_simp
   with_reducible rfl
 rotate_left
 · simp only [Act.put, zs1, zs2, zs3, i64_w, i32_w]
   rfl
 refine take_ (i := 2) (N := some 16) (v := ?_) (a' := ?_) (bm 6 5) rfl rfl (by kernel_rfl) (fun _ _ _ h => h) (Or.inl ⟨by rfl, ?_⟩) hHeld ?_ ?_
 rotate_left
 · rintro w' ⟨s0, s1, s2, s3, s4, s5, s6, s7, s8, s9⟩
   go_simp
   with_reducible rfl
 rotate_left
 · simp only [Act.put, zs1, zs2, zs3, i64_w, i32_w]
   rfl
 refine one_ (i := 1) (N := some 15) (bm 6 7) rfl rfl (by kernel_rfl) (by decide) (fun K hK => ?_)
 refine goes_ Try.func49 (by kernel_rfl) rfl #[.agg #[.int .i64 a0_0, .int .i64 a0_1, .int .i64 a0_2, .int .i64 a0_3, .int .i64 a0_4]] (by rfl) rfl rfl (by (try simp only [List.map_toArray, List.map_cons, List.map_nil]); first | done | rfl | (simp only [List.length_drop, List.length_take]; rfl)) ?_
 with_reducible refine (laws_toCfgOpts.calls a0_0 a0_1 a0_2 a0_3 a0_4 t191 t192 t193 t194 t195 _ A10.out).mono ?_
 rintro e w72 ⟨rfl, hb⟩
 refine ⟨_, rfl, ?_⟩
 replace BK188 := mk_ (zq6 (by exact BK188.out) hb)
 replace BK189 := mk_ (zq6 (by exact BK189.out) hb)
 replace HB := mk_ (zr3 (by repeat (first | (with_reducible first | exact HB.out | apply zq7 | apply zq8 | apply zq9 | refine zr1 ?_ GE188.out | refine zr1 ?_ GE189.out) | exact HB.out)) hb)
 (try clear hb)
 (try clear hb2)
 (try clear hk)
 (try clear hi)
 refine hK.out _ _ ⟨(zr4 BK188.out 0).trans rfl, (zr4 BK188.out 1).trans rfl, (zr4 BK188.out 2).trans rfl, (zr4 BK188.out 3).trans rfl, (zr4 BK188.out 4).trans rfl, (zr4 BK189.out 0).trans rfl, (zr4 BK189.out 1).trans rfl, (zr4 BK189.out 2).trans rfl, (zr4 BK189.out 3).trans rfl, (zr4 BK189.out 4).trans rfl⟩ (fun hHeld => ?_)
 clear hK K
 refine norm_ (a' := ?_) ?_ ?_
 rotate_left
 · show Act.put _ (some 15) _ = _
   simp only [Act.put, zs1, zs2, zs3, i64_w, i32_w]
   rfl
 refine one_ (i := 3) (N := some 17) (bm 6 15) rfl rfl (by kernel_rfl) (by decide) (fun K hK => ?_)
 refine goes_ Try.func55 (by kernel_rfl) rfl #[.agg #[.int .i64 a1_0, .slice A1_1 l1_1.length c1_1, .int .i64 a1_2, .int .i64 a1_3, .bool a1_4]] (by rfl) rfl rfl (by (try simp only [List.map_toArray, List.map_cons, List.map_nil]); first | done | rfl | (simp only [List.length_drop, List.length_take]; rfl)) ?_
 with_reducible refine (laws_toCrdTx.calls k a1_0 _ _ l1_1 a1_2 a1_3 a1_4 t196 t197 t200 t201 t202 _ ?side1 ?side2 A11.out).mono ?_
 (case side1 => repeat (first | exact (Kd.C_below HR1_1.out HB.out) | (with_reducible refine Kd.C_alloc ?_ _) | (with_reducible refine Kd.C_drewN ?_ _) | (with_reducible refine Kd.C_drew ?_)))
 (case side2 => exact HC1_1.out)
 rintro e w73 ⟨v198, rfl, ho0, hb⟩
 refine ⟨_, rfl, ?_⟩
 have HO199 := mk_ (Kd.S_lower ho0 (zr2 (by repeat (first | (with_reducible first | exact HB.out | apply zq7 | apply zq8 | apply zq9 | refine zr1 ?_ GE188.out | refine zr1 ?_ GE189.out) | exact HB.out))))
 replace BK188 := mk_ (zq6 (by exact BK188.out) hb)
 replace BK189 := mk_ (zq6 (by exact BK189.out) hb)
 replace HB := mk_ (zr3 (by repeat (first | (with_reducible first | exact HB.out | apply zq7 | apply zq8 | apply zq9 | refine zr1 ?_ GE188.out | refine zr1 ?_ GE189.out) | exact HB.out)) hb)
 (try clear hb)
 (try clear hb2)
 (try clear hk)
 (try clear hi)
 (try clear ho0)
 obtain ⟨Ao74, co74, eo74⟩ := Kd.S_slice HO199.out
 (first | subst eo74 | (injection eo74 with f1_ f2_ f3_; have f4_ := f1_.symm; have f5_ := f3_.symm; clear f1_ f2_ f3_; subst f4_; subst f5_))
 refine hK.out _ _ ⟨(zr4 BK188.out 0).trans rfl, (zr4 BK188.out 1).trans rfl, (zr4 BK188.out 2).trans rfl, (zr4 BK188.out 3).trans rfl, (zr4 BK188.out 4).trans rfl, (zr4 BK189.out 0).trans rfl, (zr4 BK189.out 1).trans rfl, (zr4 BK189.out 2).trans rfl, (zr4 BK189.out 3).trans rfl, (zr4 BK189.out 4).trans rfl⟩ (fun hHeld => ?_)
 clear hK K
 refine norm_ (a' := ?_) ?_ ?_
 rotate_left
 · show Act.put _ (some 17) _ = _
   simp only [Act.put, zs1, zs2, zs3, i64_w, i32_w]
   rfl
 refine one_ (i := 4) (N := some 18) (bm 6 31) rfl rfl (by kernel_rfl) (by decide) (fun K hK => ?_)
 refine goes_ Try.func54 (by kernel_rfl) rfl #[.agg #[.int .i64 t191, .int .i64 t192, .int .i64 t193, .int .i64 t194, .int .i64 t195], .agg #[.int .i64 t196, .slice Ao74 t197.length co74, .int .i64 t200, .int .i64 t201, .bool t202]] (by rfl) rfl rfl (by (try simp only [List.map_toArray, List.map_cons, List.map_nil]); first | done | rfl | (simp only [List.length_drop, List.length_take]; rfl)) ?_
 with_reducible refine (spec_CrdTxOk.calls k t191 t192 t193 t194 t195 t196 _ _ t197 t200 t201 t202 t203 _ ?side1 ?side2 A12.out).mono ?_
 (case side1 => repeat (first | exact (Kd.S_reads' HO199.out).2.2 | (with_reducible refine Kd.C_alloc ?_ _) | (with_reducible refine Kd.C_drewN ?_ _) | (with_reducible refine Kd.C_drew ?_)))
 (case side2 => exact (Kd.S_reads' HO199.out).2.1)
 rintro e w75 ⟨rfl, hb⟩
 refine ⟨_, rfl, ?_⟩
 replace HO199 := mk_ (Kd.S_below (by (with_reducible repeat (first | apply Kd.S_alloc | apply Kd.S_drewN | apply Kd.S_drew)); exact HO199.out) hb)
 replace BK188 := mk_ (zq6 (by exact BK188.out) hb)
 replace BK189 := mk_ (zq6 (by exact BK189.out) hb)
 replace HB := mk_ (zr3 (by repeat (first | (with_reducible first | exact HB.out | apply zq7 | apply zq8 | apply zq9 | refine zr1 ?_ GE188.out | refine zr1 ?_ GE189.out) | exact HB.out)) hb)
 (try clear hb)
 (try clear hb2)
 (try clear hk)
 (try clear hi)
 refine hK.out _ _ ⟨(zr4 BK188.out 0).trans rfl, (zr4 BK188.out 1).trans rfl, (zr4 BK188.out 2).trans rfl, (zr4 BK188.out 3).trans rfl, (zr4 BK188.out 4).trans rfl, (zr4 BK189.out 0).trans rfl, (zr4 BK189.out 1).trans rfl, (zr4 BK189.out 2).trans rfl, (zr4 BK189.out 3).trans rfl, (zr4 BK189.out 4).trans rfl⟩ (fun hHeld => ?_)
 clear hK K
 refine norm_ (a' := ?_) ?_ ?_
 rotate_left
 · show Act.put _ (some 18) _ = _
   simp only [Act.put, zs1, zs2, zs3, i64_w, i32_w]
   rfl
 refine pure_ (i := 5) (N := some 6) (v := ?_) (a' := ?_) (bm 6 63) rfl rfl (by kernel_rfl) (fun _ _ _ h => h) (Or.inl ⟨by rfl, ?_⟩) ?_ ?_
 rotate_left
 · intro w'
   go_simp
   with_reducible rfl
 rotate_left
 · simp only [Act.put, zs1, zs2, zs3, i64_w, i32_w]
   rfl
 refine done_ (by kernel_rfl) ?_
 obtain ⟨hcz76_0, hcz76_1, hcz76_2, hcz76_3, hcz76_4⟩ := cz5 BK189.out
 obtain ⟨hfz76_0, hfz76_1, hfz76_2, hfz76_3, hfz76_4⟩ := fz5 BK189.out
 try go_wp2_with (first | ((with_reducible refine gate_callee (f := 55) rfl ?_); refine goesL_ (some 20) rfl rfl Try.func55 (by kernel_rfl) rfl #[.agg #[.int .i64 a1_0, .slice A1_1 l1_1.length c1_1, .int .i64 a1_2, .int .i64 a1_3, .bool a1_4]] rfl (by (try simp only [List.map_toArray, List.map_cons, List.map_nil]); first | done | rfl | (simp only [List.length_drop, List.length_take]; rfl)) ?_; (with_reducible refine (laws_toCrdTx.calls k a1_0 _ _ l1_1 a1_2 a1_3 a1_4 t204 t205 t208 t209 t210 _ ?side1 ?side2 A13.out).mono ?_); (case side1 => repeat (first | exact (Kd.C_below HR1_1.out HB.out) | (with_reducible refine Kd.C_alloc ?_ _) | (with_reducible refine Kd.C_drewN ?_ _) | (with_reducible refine Kd.C_drew ?_))); (case side2 => exact HC1_1.out); rintro e w77 ⟨v206, rfl, ho0, hb⟩; refine ⟨_, rfl, ?_⟩; have HO207 := mk_ (Kd.S_lower (Kd.S_new' ho0 (Kd.S_lt (by (with_reducible repeat (first | apply Kd.S_alloc | apply Kd.S_drewN | apply Kd.S_drew)); exact HO199.out))) (zr2 (by repeat (first | (with_reducible first | exact HB.out | apply zq7 | apply zq8 | apply zq9 | refine zr1 ?_ GE188.out | refine zr1 ?_ GE189.out) | exact HB.out)))); replace HO199 := mk_ (Kd.S_elder' (by (with_reducible repeat (first | apply Kd.S_alloc | apply Kd.S_drewN | apply Kd.S_drew)); exact HO199.out) (Kd.S_base ho0) hb); replace BK188 := mk_ (zq6 (by exact BK188.out) hb); replace BK189 := mk_ (zq6 (by exact BK189.out) hb); replace HB := mk_ (zr3 (by repeat (first | (with_reducible first | exact HB.out | apply zq7 | apply zq8 | apply zq9 | refine zr1 ?_ GE188.out | refine zr1 ?_ GE189.out) | exact HB.out)) hb); (try clear hb); (try clear hb2); (try clear hk); (try clear hi); (try clear ho0)) | ((with_reducible refine gate_dst (N := 7) rfl ?_); refine box_event ?hg (N := 7) ?hd (cs := #[.int .i64 0, .slice none 0 0, .int .i64 0, .int .i64 0, .bool false]) (t := 78) ?hr ?_; (case hd => rfl); (case hg => rfl); (case hr => first | (go_simp; done) | (go_simp; rfl)); intro gb211 hg w78 hbox hb; replace HO199 := mk_ (Kd.S_below (by (with_reducible repeat (first | apply Kd.S_alloc | apply Kd.S_drewN | apply Kd.S_drew)); exact HO199.out) hb); replace HO207 := mk_ (Kd.S_below (by (with_reducible repeat (first | apply Kd.S_alloc | apply Kd.S_drewN | apply Kd.S_drew)); exact HO207.out) hb); have BK211 := mk_ (hbox); have GW211 := mk_ ((by rw [hg]; exact (zr2 (by repeat (first | (with_reducible first | exact HB.out | apply zq7 | apply zq8 | apply zq9 | refine zr1 ?_ GE188.out | refine zr1 ?_ GE189.out) | exact HB.out))) : w.heap.size ≤ gb211)); have GE211 := GW211; replace HB := mk_ (zr3 (by repeat (first | (with_reducible first | exact HB.out | apply zq7 | apply zq8 | apply zq9 | refine zr1 ?_ GE188.out | refine zr1 ?_ GE189.out) | exact HB.out)) hb); have NB188_211 := mk_ ((by rw [hg]; exact zm2 (zr6 (by exact BK188.out)) : gb188 ≠ gb211)); replace BK188 := mk_ (zq6 (by exact BK188.out) hb); have NB211_188 := mk_ NB188_211.out.symm; have NB189_211 := mk_ ((by rw [hg]; exact zm2 (zr6 (by exact BK189.out)) : gb189 ≠ gb211)); replace BK189 := mk_ (zq6 (by exact BK189.out) hb); have NB211_189 := mk_ NB189_211.out.symm; clear hb hbox hg; have hnb79 := NB211_188.out; have hnc79 := NB188_211.out; have hnb80 := NB211_189.out; have hnc80 := NB189_211.out; obtain ⟨hcz81_0, hcz81_1, hcz81_2, hcz81_3, hcz81_4⟩ := cz5 BK211.out; obtain ⟨hfz81_0, hfz81_1, hfz81_2, hfz81_3, hfz81_4⟩ := fz5 BK211.out; obtain ⟨Ao82, co82, eo82⟩ := Kd.S_slice HO207.out; subst eo82))
 have n0_ : Aside0 (Kd.S k39 39 (((((w78.setCell ⟨gb211, 0, none⟩ (.int .i64 t204)).setCell ⟨gb211, 1, none⟩ (.slice Ao82 t205.length co82)).setCell ⟨gb211, 2, none⟩ (.int .i64 t208)).setCell ⟨gb211, 3, none⟩ (.int .i64 t209)).setCell ⟨gb211, 4, none⟩ (.bool t210)) w.heap.size (fun k_ => some k_ ≠ (.slice Ao82 t205.length co82 : Value).ownBlock) (.slice Ao74 t197.length co74) t197) := ⟨by (with_reducible repeat (first | apply Kd.S_alloc | apply Kd.S_drewN | apply Kd.S_drew)); exact Kd.S_mono (Kd.S_far (p := ⟨gb211, 4, none⟩) (Kd.S_far (p := ⟨gb211, 3, none⟩) (Kd.S_far (p := ⟨gb211, 2, none⟩) (Kd.S_far (p := ⟨gb211, 1, none⟩) (Kd.S_far (p := ⟨gb211, 0, none⟩) (Kd.S_types HO199.out BK211.out (by decide)) (fun _ hk => hk.2) (.int .i64 t204)) (fun _ hk => hk.2) (.slice Ao82 t205.length co82)) (fun _ hk => hk.2) (.int .i64 t208)) (fun _ hk => hk.2) (.int .i64 t209)) (fun _ hk => hk.2) (.bool t210)) (fun _ hk => hk.1.2)⟩
 have n1_ : Aside0 (Kd.S k39 39 (((((w78.setCell ⟨gb211, 0, none⟩ (.int .i64 t204)).setCell ⟨gb211, 1, none⟩ (.slice Ao82 t205.length co82)).setCell ⟨gb211, 2, none⟩ (.int .i64 t208)).setCell ⟨gb211, 3, none⟩ (.int .i64 t209)).setCell ⟨gb211, 4, none⟩ (.bool t210)) w.heap.size (fun k_ => some k_ ≠ (.slice Ao74 t197.length co74 : Value).ownBlock) (.slice Ao82 t205.length co82) t205) := ⟨by (with_reducible repeat (first | apply Kd.S_alloc | apply Kd.S_drewN | apply Kd.S_drew)); exact Kd.S_mono (Kd.S_far (p := ⟨gb211, 4, none⟩) (Kd.S_far (p := ⟨gb211, 3, none⟩) (Kd.S_far (p := ⟨gb211, 2, none⟩) (Kd.S_far (p := ⟨gb211, 1, none⟩) (Kd.S_far (p := ⟨gb211, 0, none⟩) (Kd.S_types HO207.out BK211.out (by decide)) (fun _ hk => hk.2) (.int .i64 t204)) (fun _ hk => hk.2) (.slice Ao82 t205.length co82)) (fun _ hk => hk.2) (.int .i64 t208)) (fun _ hk => hk.2) (.int .i64 t209)) (fun _ hk => hk.2) (.bool t210)) (fun _ hk => hk.1.2)⟩
 have n2_ : Aside0 ((((((w78.setCell ⟨gb211, 0, none⟩ (.int .i64 t204)).setCell ⟨gb211, 1, none⟩ (.slice Ao82 t205.length co82)).setCell ⟨gb211, 2, none⟩ (.int .i64 t208)).setCell ⟨gb211, 3, none⟩ (.int .i64 t209)).setCell ⟨gb211, 4, none⟩ (.bool t210)).heap[gb188]? = some (.cells #[.int .i64 a0_0, .int .i64 a0_1, .int .i64 a0_2, .int .i64 a0_3, .int .i64 a0_4] 60 (0, 0))) := ⟨by (with_reducible repeat (first | refine zq1 ?_ _ | refine zq2 ?_ | refine zq3 ?_ _)); refine fa5 ?_ NB188_211.out; (with_reducible repeat (first | refine zq1 ?_ _ | refine zq2 ?_ | refine zq3 ?_ _)); exact BK188.out⟩
 have n3_ : Aside0 ((((((w78.setCell ⟨gb211, 0, none⟩ (.int .i64 t204)).setCell ⟨gb211, 1, none⟩ (.slice Ao82 t205.length co82)).setCell ⟨gb211, 2, none⟩ (.int .i64 t208)).setCell ⟨gb211, 3, none⟩ (.int .i64 t209)).setCell ⟨gb211, 4, none⟩ (.bool t210)).heap[gb189]? = some (.cells #[.int .i64 a1_0, .slice A1_1 l1_1.length c1_1, .int .i64 a1_2, .int .i64 a1_3, .bool a1_4] 74 (0, 0))) := ⟨by (with_reducible repeat (first | refine zq1 ?_ _ | refine zq2 ?_ | refine zq3 ?_ _)); refine fa5 ?_ NB189_211.out; (with_reducible repeat (first | refine zq1 ?_ _ | refine zq2 ?_ | refine zq3 ?_ _)); exact BK189.out⟩
 have n4_ : Aside0 ((((((w78.setCell ⟨gb211, 0, none⟩ (.int .i64 t204)).setCell ⟨gb211, 1, none⟩ (.slice Ao82 t205.length co82)).setCell ⟨gb211, 2, none⟩ (.int .i64 t208)).setCell ⟨gb211, 3, none⟩ (.int .i64 t209)).setCell ⟨gb211, 4, none⟩ (.bool t210)).heap[gb211]? = some (.cells #[.int .i64 t204, .slice Ao82 t205.length co82, .int .i64 t208, .int .i64 t209, .bool t210] 78 (0, 0))) := ⟨by (with_reducible repeat (first | refine zq1 ?_ _ | refine zq2 ?_ | refine zq3 ?_ _)); apply pu5; (with_reducible repeat (first | refine zq1 ?_ _ | refine zq2 ?_ | refine zq3 ?_ _)); exact BK211.out⟩
 have n5_ : Aside0 (Below w.heap.size w (((((w78.setCell ⟨gb211, 0, none⟩ (.int .i64 t204)).setCell ⟨gb211, 1, none⟩ (.slice Ao82 t205.length co82)).setCell ⟨gb211, 2, none⟩ (.int .i64 t208)).setCell ⟨gb211, 3, none⟩ (.int .i64 t209)).setCell ⟨gb211, 4, none⟩ (.bool t210))) := ⟨by repeat (first | (with_reducible first | exact HB.out | apply zq7 | apply zq8 | apply zq9 | refine zr1 ?_ GE188.out | refine zr1 ?_ GE189.out | refine zr1 ?_ GE211.out) | exact HB.out)⟩
 (try clear HO199)
 (try clear HO207)
 (try clear BK188)
 (try clear BK189)
 (try clear BK211)
 (try clear HB)
 generalize (((((w78.setCell ⟨gb211, 0, none⟩ (.int .i64 t204)).setCell ⟨gb211, 1, none⟩ (.slice Ao82 t205.length co82)).setCell ⟨gb211, 2, none⟩ (.int .i64 t208)).setCell ⟨gb211, 3, none⟩ (.int .i64 t209)).setCell ⟨gb211, 4, none⟩ (.bool t210)) = w83 at n0_ n1_ n2_ n3_ n4_ n5_ ⊢
 have HO199 := n0_
 have HO207 := n1_
 have BK188 := n2_
 have BK189 := n3_
 have BK211 := n4_
 have HB := n5_
 clear n0_ n1_ n2_ n3_ n4_ n5_
 replace HO199 := mk_ (Kd.S_drew HO199.out)
 replace HO207 := mk_ (Kd.S_drew HO207.out)
 replace BK188 := mk_ (zq2 BK188.out)
 replace BK189 := mk_ (zq2 BK189.out)
 replace BK211 := mk_ (zq2 BK211.out)
 replace HB := mk_ (zq9 HB.out)
 refine start_ (n := 5) (S := fun w' => w'.cell? ⟨gb188, 0, none⟩ = some (.int .i64 a0_0) ∧ w'.cell? ⟨gb188, 1, none⟩ = some (.int .i64 a0_1) ∧ w'.cell? ⟨gb188, 2, none⟩ = some (.int .i64 a0_2) ∧ w'.cell? ⟨gb188, 3, none⟩ = some (.int .i64 a0_3) ∧ w'.cell? ⟨gb188, 4, none⟩ = some (.int .i64 a0_4) ∧ w'.cell? ⟨gb211, 0, none⟩ = some (.int .i64 t204) ∧ w'.cell? ⟨gb211, 1, none⟩ = some (.slice Ao82 t205.length co82) ∧ w'.cell? ⟨gb211, 2, none⟩ = some (.int .i64 t208) ∧ w'.cell? ⟨gb211, 3, none⟩ = some (.int .i64 t209) ∧ w'.cell? ⟨gb211, 4, none⟩ = some (.bool t210)) (ds := []) #[false, false, false, false, false] (by kernel_rfl) rfl rfl ⟨(zr4 BK188.out 0).trans rfl, (zr4 BK188.out 1).trans rfl, (zr4 BK188.out 2).trans rfl, (zr4 BK188.out 3).trans rfl, (zr4 BK188.out 4).trans rfl, (zr4 BK211.out 0).trans rfl, (zr4 BK211.out 1).trans rfl, (zr4 BK211.out 2).trans rfl, (zr4 BK211.out 3).trans rfl, (zr4 BK211.out 4).trans rfl⟩ (fun hHeld => ?_)
 generalize w83.drew = w84 at HO199 HO207 BK188 BK189 BK211 HB hHeld ⊢
 refine take_ (i := 0) (N := some 21) (v := ?_) (a' := ?_) #[true, false, false, false, false] rfl rfl (by kernel_rfl) (fun _ _ _ h => h) (Or.inl ⟨by rfl, ?_⟩) hHeld ?_ ?_
 rotate_left
 · rintro w' ⟨s0, s1, s2, s3, s4, s5, s6, s7, s8, s9⟩
   go_simp
   with_reducible rfl
 rotate_left
 · simp only [Act.put, zs1, zs2, zs3, i64_w, i32_w]
   rfl
 refine take_ (i := 2) (N := some 23) (v := ?_) (a' := ?_) #[true, false, true, false, false] rfl rfl (by kernel_rfl) (fun _ _ _ h => h) (Or.inl ⟨by rfl, ?_⟩) hHeld ?_ ?_
 rotate_left
 · rintro w' ⟨s0, s1, s2, s3, s4, s5, s6, s7, s8, s9⟩
   go_simp
   with_reducible rfl
 rotate_left
 · simp only [Act.put, zs1, zs2, zs3, i64_w, i32_w]
   rfl
 refine one_ (i := 1) (N := some 22) #[true, true, true, false, false] rfl rfl (by kernel_rfl) (by decide) (fun K hK => ?_)
 refine goes_ Try.func49 (by kernel_rfl) rfl #[.agg #[.int .i64 a0_0, .int .i64 a0_1, .int .i64 a0_2, .int .i64 a0_3, .int .i64 a0_4]] (by rfl) rfl rfl (by (try simp only [List.map_toArray, List.map_cons, List.map_nil]); first | done | rfl | (simp only [List.length_drop, List.length_take]; rfl)) ?_
 with_reducible refine (laws_toCfgOpts.calls a0_0 a0_1 a0_2 a0_3 a0_4 t212 t213 t214 t215 t216 _ A14.out).mono ?_
 rintro e w85 ⟨rfl, hb⟩
 refine ⟨_, rfl, ?_⟩
 replace HO199 := mk_ (Kd.S_below (by (with_reducible repeat (first | apply Kd.S_alloc | apply Kd.S_drewN | apply Kd.S_drew)); exact HO199.out) hb)
 replace HO207 := mk_ (Kd.S_below (by (with_reducible repeat (first | apply Kd.S_alloc | apply Kd.S_drewN | apply Kd.S_drew)); exact HO207.out) hb)
 replace BK188 := mk_ (zq6 (by exact BK188.out) hb)
 replace BK189 := mk_ (zq6 (by exact BK189.out) hb)
 replace BK211 := mk_ (zq6 (by exact BK211.out) hb)
 replace HB := mk_ (zr3 (by repeat (first | (with_reducible first | exact HB.out | apply zq7 | apply zq8 | apply zq9 | refine zr1 ?_ GE188.out | refine zr1 ?_ GE189.out | refine zr1 ?_ GE211.out) | exact HB.out)) hb)
 (try clear hb)
 (try clear hb2)
 (try clear hk)
 (try clear hi)
 refine hK.out _ _ ⟨(zr4 BK188.out 0).trans rfl, (zr4 BK188.out 1).trans rfl, (zr4 BK188.out 2).trans rfl, (zr4 BK188.out 3).trans rfl, (zr4 BK188.out 4).trans rfl, (zr4 BK211.out 0).trans rfl, (zr4 BK211.out 1).trans rfl, (zr4 BK211.out 2).trans rfl, (zr4 BK211.out 3).trans rfl, (zr4 BK211.out 4).trans rfl⟩ (fun hHeld => ?_)
 clear hK K
 refine norm_ (a' := ?_) ?_ ?_
 rotate_left
 · show Act.put _ (some 22) _ = _
   simp only [Act.put, zs1, zs2, zs3, i64_w, i32_w]
   rfl
 refine one_ (i := 3) (N := some 24) #[true, true, true, true, false] rfl rfl (by kernel_rfl) (by decide) (fun K hK => ?_)
 refine goes_ Try.func56 (by kernel_rfl) rfl #[.agg #[.int .i64 t212, .int .i64 t213, .int .i64 t214, .int .i64 t215, .int .i64 t216], .agg #[.int .i64 t204, .slice Ao82 t205.length co82, .int .i64 t208, .int .i64 t209, .bool t210]] (by rfl) rfl rfl (by (try simp only [List.map_toArray, List.map_cons, List.map_nil]); first | done | rfl | (simp only [List.length_drop, List.length_take]; rfl)) ?_
 with_reducible refine (impl_CrdTxOk.calls k t212 t213 t214 t215 t216 t204 _ _ t205 t208 t209 t210 t217 _ ?side1 ?side2 A15.out).mono ?_
 (case side1 => repeat (first | exact (Kd.S_reads' HO207.out).2.2 | (with_reducible refine Kd.C_alloc ?_ _) | (with_reducible refine Kd.C_drewN ?_ _) | (with_reducible refine Kd.C_drew ?_)))
 (case side2 => exact (Kd.S_reads' HO207.out).2.1)
 rintro e w86 ⟨rfl, hb⟩
 refine ⟨_, rfl, ?_⟩
 replace HO199 := mk_ (Kd.S_below (by (with_reducible repeat (first | apply Kd.S_alloc | apply Kd.S_drewN | apply Kd.S_drew)); exact HO199.out) hb)
 replace HO207 := mk_ (Kd.S_below (by (with_reducible repeat (first | apply Kd.S_alloc | apply Kd.S_drewN | apply Kd.S_drew)); exact HO207.out) hb)
 replace BK188 := mk_ (zq6 (by exact BK188.out) hb)
 replace BK189 := mk_ (zq6 (by exact BK189.out) hb)
 replace BK211 := mk_ (zq6 (by exact BK211.out) hb)
 replace HB := mk_ (zr3 (by repeat (first | (with_reducible first | exact HB.out | apply zq7 | apply zq8 | apply zq9 | refine zr1 ?_ GE188.out | refine zr1 ?_ GE189.out | refine zr1 ?_ GE211.out) | exact HB.out)) hb)
 (try clear hb)
 (try clear hb2)
 (try clear hk)
 (try clear hi)
 refine hK.out _ _ ⟨(zr4 BK188.out 0).trans rfl, (zr4 BK188.out 1).trans rfl, (zr4 BK188.out 2).trans rfl, (zr4 BK188.out 3).trans rfl, (zr4 BK188.out 4).trans rfl, (zr4 BK211.out 0).trans rfl, (zr4 BK211.out 1).trans rfl, (zr4 BK211.out 2).trans rfl, (zr4 BK211.out 3).trans rfl, (zr4 BK211.out 4).trans rfl⟩ (fun hHeld => ?_)
 clear hK K
 refine norm_ (a' := ?_) ?_ ?_
 rotate_left
 · show Act.put _ (some 24) _ = _
   simp only [Act.put, zs1, zs2, zs3, i64_w, i32_w]
   rfl
 refine pure_ (i := 4) (N := some 8) (v := ?_) (a' := ?_) #[true, true, true, true, true] rfl rfl (by kernel_rfl) (fun _ _ _ h => h) (Or.inl ⟨by rfl, ?_⟩) ?_ ?_
 rotate_left
 · intro w'
   go_simp
   with_reducible rfl
 rotate_left
 · simp only [Act.put, zs1, zs2, zs3, i64_w, i32_w]
   rfl
 refine done_ (by kernel_rfl) ?_
 try go_wp2
 replace HO199 := mk_ (Kd.S_drew HO199.out)
 replace HO207 := mk_ (Kd.S_drew HO207.out)
 replace BK188 := mk_ (zq2 BK188.out)
 replace BK189 := mk_ (zq2 BK189.out)
 replace BK211 := mk_ (zq2 BK211.out)
 replace HB := mk_ (zq9 HB.out)
 refine start_ (n := 5) (S := fun w' => w'.cell? ⟨gb211, 0, none⟩ = some (.int .i64 t204) ∧ w'.cell? ⟨gb211, 1, none⟩ = some (.slice Ao82 t205.length co82) ∧ w'.cell? ⟨gb211, 2, none⟩ = some (.int .i64 t208) ∧ w'.cell? ⟨gb211, 3, none⟩ = some (.int .i64 t209) ∧ w'.cell? ⟨gb211, 4, none⟩ = some (.bool t210) ∧ w'.cell? ⟨gb189, 0, none⟩ = some (.int .i64 a1_0) ∧ w'.cell? ⟨gb189, 1, none⟩ = some (.slice A1_1 l1_1.length c1_1) ∧ w'.cell? ⟨gb189, 2, none⟩ = some (.int .i64 a1_2) ∧ w'.cell? ⟨gb189, 3, none⟩ = some (.int .i64 a1_3) ∧ w'.cell? ⟨gb189, 4, none⟩ = some (.bool a1_4)) (ds := []) #[false, false, false, false, false] (by kernel_rfl) rfl rfl ⟨(zr4 BK211.out 0).trans rfl, (zr4 BK211.out 1).trans rfl, (zr4 BK211.out 2).trans rfl, (zr4 BK211.out 3).trans rfl, (zr4 BK211.out 4).trans rfl, (zr4 BK189.out 0).trans rfl, (zr4 BK189.out 1).trans rfl, (zr4 BK189.out 2).trans rfl, (zr4 BK189.out 3).trans rfl, (zr4 BK189.out 4).trans rfl⟩ (fun hHeld => ?_)
 generalize w86.drew = w87 at HO199 HO207 BK188 BK189 BK211 HB hHeld ⊢
 refine take_ (i := 0) (N := some 28) (v := ?_) (a' := ?_) #[true, false, false, false, false] rfl rfl (by kernel_rfl) (fun _ _ _ h => h) (Or.inl ⟨by rfl, ?_⟩) hHeld ?_ ?_
 rotate_left
 · rintro w' ⟨s0, s1, s2, s3, s4, s5, s6, s7, s8, s9⟩
   go_simp
   with_reducible rfl
 rotate_left
 · simp only [Act.put, zs1, zs2, zs3, i64_w, i32_w]
   rfl
 refine take_ (i := 1) (N := some 29) (v := ?_) (a' := ?_) #[true, true, false, false, false] rfl rfl (by kernel_rfl) (fun _ _ _ h => h) (Or.inl ⟨by rfl, ?_⟩) hHeld ?_ ?_
 rotate_left
 · rintro w' ⟨s0, s1, s2, s3, s4, s5, s6, s7, s8, s9⟩
   go_simp
   with_reducible rfl
 rotate_left
 · simp only [Act.put, zs1, zs2, zs3, i64_w, i32_w]
   rfl
 refine one_ (i := 2) (N := some 30) #[true, true, true, false, false] rfl rfl (by kernel_rfl) (by decide) (fun K hK => ?_)
 refine goes_ Try.func55 (by kernel_rfl) rfl #[.agg #[.int .i64 a1_0, .slice A1_1 l1_1.length c1_1, .int .i64 a1_2, .int .i64 a1_3, .bool a1_4]] (by rfl) rfl rfl (by (try simp only [List.map_toArray, List.map_cons, List.map_nil]); first | done | rfl | (simp only [List.length_drop, List.length_take]; rfl)) ?_
 with_reducible refine (laws_toCrdTx.calls k a1_0 _ _ l1_1 a1_2 a1_3 a1_4 t218 t219 t222 t223 t224 _ ?side1 ?side2 A38.out).mono ?_
 (case side1 => repeat (first | exact (Kd.C_below HR1_1.out HB.out) | (with_reducible refine Kd.C_alloc ?_ _) | (with_reducible refine Kd.C_drewN ?_ _) | (with_reducible refine Kd.C_drew ?_)))
 (case side2 => exact HC1_1.out)
 rintro e w88 ⟨v220, rfl, ho0, hb⟩
 refine ⟨_, rfl, ?_⟩
 have HO221 := mk_ (Kd.S_lower (Kd.S_new' (Kd.S_new' ho0 (Kd.S_lt (by (with_reducible repeat (first | apply Kd.S_alloc | apply Kd.S_drewN | apply Kd.S_drew)); exact HO199.out))) (Kd.S_lt (by (with_reducible repeat (first | apply Kd.S_alloc | apply Kd.S_drewN | apply Kd.S_drew)); exact HO207.out))) (zr2 (by repeat (first | (with_reducible first | exact HB.out | apply zq7 | apply zq8 | apply zq9 | refine zr1 ?_ GE188.out | refine zr1 ?_ GE189.out | refine zr1 ?_ GE211.out) | exact HB.out))))
 replace HO199 := mk_ (Kd.S_elder' (by (with_reducible repeat (first | apply Kd.S_alloc | apply Kd.S_drewN | apply Kd.S_drew)); exact HO199.out) (Kd.S_base ho0) hb)
 replace HO207 := mk_ (Kd.S_elder' (by (with_reducible repeat (first | apply Kd.S_alloc | apply Kd.S_drewN | apply Kd.S_drew)); exact HO207.out) (Kd.S_base ho0) hb)
 replace BK188 := mk_ (zq6 (by exact BK188.out) hb)
 replace BK189 := mk_ (zq6 (by exact BK189.out) hb)
 replace BK211 := mk_ (zq6 (by exact BK211.out) hb)
 replace HB := mk_ (zr3 (by repeat (first | (with_reducible first | exact HB.out | apply zq7 | apply zq8 | apply zq9 | refine zr1 ?_ GE188.out | refine zr1 ?_ GE189.out | refine zr1 ?_ GE211.out) | exact HB.out)) hb)
 (try clear hb)
 (try clear hb2)
 (try clear hk)
 (try clear hi)
 (try clear ho0)
 obtain ⟨Ao89, co89, eo89⟩ := Kd.S_slice HO221.out
 (first | subst eo89 | (injection eo89 with f1_ f2_ f3_; have f4_ := f1_.symm; have f5_ := f3_.symm; clear f1_ f2_ f3_; subst f4_; subst f5_))
 refine hK.out _ _ ⟨(zr4 BK211.out 0).trans rfl, (zr4 BK211.out 1).trans rfl, (zr4 BK211.out 2).trans rfl, (zr4 BK211.out 3).trans rfl, (zr4 BK211.out 4).trans rfl, (zr4 BK189.out 0).trans rfl, (zr4 BK189.out 1).trans rfl, (zr4 BK189.out 2).trans rfl, (zr4 BK189.out 3).trans rfl, (zr4 BK189.out 4).trans rfl⟩ (fun hHeld => ?_)
 clear hK K
 refine norm_ (a' := ?_) ?_ ?_
 rotate_left
 · show Act.put _ (some 30) _ = _
   simp only [Act.put, zs1, zs2, zs3, i64_w, i32_w]
   rfl
 refine one_ (i := 3) (N := some 31) #[true, true, true, true, false] rfl rfl (by kernel_rfl) (by decide) (fun K hK => ?_)
 refine goes_ Try.func57 (by kernel_rfl) rfl #[.agg #[.int .i64 t204, .slice Ao82 t205.length co82, .int .i64 t208, .int .i64 t209, .bool t210], .agg #[.int .i64 t218, .slice Ao89 t219.length co89, .int .i64 t222, .int .i64 t223, .bool t224]] (by rfl) rfl rfl (by (try simp only [List.map_toArray, List.map_cons, List.map_nil]); first | done | rfl | (simp only [List.length_drop, List.length_take]; rfl)) ?_
 with_reducible refine (laws_eqCrdTx.calls k t204 _ _ t205 t208 t209 t210 t218 _ _ t219 t222 t223 t224 false _ ?side1 ?side2 ?side3 ?side4 A39.out).mono ?_
 (case side1 => repeat (first | exact (Kd.S_reads' HO207.out).2.2 | (with_reducible refine Kd.C_alloc ?_ _) | (with_reducible refine Kd.C_drewN ?_ _) | (with_reducible refine Kd.C_drew ?_)))
 (case side2 => exact (Kd.S_reads' HO207.out).2.1)
 (case side3 => repeat (first | exact (Kd.S_reads' HO221.out).2.2 | (with_reducible refine Kd.C_alloc ?_ _) | (with_reducible refine Kd.C_drewN ?_ _) | (with_reducible refine Kd.C_drew ?_)))
 (case side4 => exact (Kd.S_reads' HO221.out).2.1)
 rintro e w90 ⟨rfl, hb⟩
 refine ⟨_, rfl, ?_⟩
 replace HO199 := mk_ (Kd.S_below (by (with_reducible repeat (first | apply Kd.S_alloc | apply Kd.S_drewN | apply Kd.S_drew)); exact HO199.out) hb)
 replace HO207 := mk_ (Kd.S_below (by (with_reducible repeat (first | apply Kd.S_alloc | apply Kd.S_drewN | apply Kd.S_drew)); exact HO207.out) hb)
 replace HO221 := mk_ (Kd.S_below (by (with_reducible repeat (first | apply Kd.S_alloc | apply Kd.S_drewN | apply Kd.S_drew)); exact HO221.out) hb)
 replace BK188 := mk_ (zq6 (by exact BK188.out) hb)
 replace BK189 := mk_ (zq6 (by exact BK189.out) hb)
 replace BK211 := mk_ (zq6 (by exact BK211.out) hb)
 replace HB := mk_ (zr3 (by repeat (first | (with_reducible first | exact HB.out | apply zq7 | apply zq8 | apply zq9 | refine zr1 ?_ GE188.out | refine zr1 ?_ GE189.out | refine zr1 ?_ GE211.out) | exact HB.out)) hb)
 (try clear hb)
 (try clear hb2)
 (try clear hk)
 (try clear hi)
 refine hK.out _ _ ⟨(zr4 BK211.out 0).trans rfl, (zr4 BK211.out 1).trans rfl, (zr4 BK211.out 2).trans rfl, (zr4 BK211.out 3).trans rfl, (zr4 BK211.out 4).trans rfl, (zr4 BK189.out 0).trans rfl, (zr4 BK189.out 1).trans rfl, (zr4 BK189.out 2).trans rfl, (zr4 BK189.out 3).trans rfl, (zr4 BK189.out 4).trans rfl⟩ (fun hHeld => ?_)
 clear hK K
 refine norm_ (a' := ?_) ?_ ?_
 rotate_left
 · show Act.put _ (some 31) _ = _
   simp only [Act.put, zs1, zs2, zs3, i64_w, i32_w]
   rfl
 refine pure_ (i := 4) (N := some 32) (v := ?_) (a' := ?_) #[true, true, true, true, true] rfl rfl (by kernel_rfl) (fun _ _ _ h => h) (Or.inl ⟨by rfl, ?_⟩) ?_ ?_
 rotate_left
 · intro w'
   go_simp
   with_reducible rfl
 rotate_left
 · simp only [Act.put, zs1, zs2, zs3, i64_w, i32_w]
   rfl
 refine done_ (by kernel_rfl) ?_
 try go_wp2
 go_ret
 exact ⟨by first | rfl | (simp [errW_none, errW_some] <;> rfl) | (simp [*, errW_none, errW_some] <;> rfl), by repeat (first | (with_reducible first | exact HB.out | apply zq7 | apply zq8 | apply zq9 | refine zr1 ?_ GE188.out | refine zr1 ?_ GE189.out | refine zr1 ?_ GE211.out) | exact HB.out)⟩

end Go.Proofs.Yteknaofnageihaa.QFnExactCrdTxOk
