-- Written by a program of this session, a turned copy of the print (not by print.sh itself). Lean checks it.
import Derived.Test.YteknaofnageihaaQFnSegPutx0
import Derived.Test.YteknaofnageihaaQFnSegPutx1
import Derived.Test.YteknaofnageihaaQFnSegPutx2
import Derived.Test.YteknaofnageihaaQFnSegPutx3
import Derived.Test.YteknaofnageihaaQFnSegPutx5
import Derived.Test.YteknaofnageihaaQFnSegPutx7
namespace Go.Proofs.Yteknaofnageihaa.QFnSegPut
open Go.RowKit Go.Proofs.YteknaofnageihaaW.PrintWords Go.Proofs.YteknaofnageihaaW.PrintLast Go.Proofs.YteknaofnageihaaW.PrintMore Go.Proofs.YteknaofnageihaaLoc
attribute [local go_sem] max2_int min2_int max_two min_two max_three min_three max_four min_four   -- for this text's walks alone
set_option linter.unusedVariables false
set_option linter.unusedSimpArgs false

/-! ### laws_FnSegPut: function 9 -/
mutual
def laws_FnSegPut.j0 : Nat → List Int → Int → Bool → Int → List Int → Int → Int → List Int → Int → List Int → Option (Bool)
  | 0, _, _, _, _, _, _, _, _, _, _ => none
  | k + 1, x6, x7, x48, x362000, x362001, x363000, x363001, x363002, x372000, x372001 => if x48 = true then (some false) else ((spec_JoinOk.f x362000 x362001).bind fun t383 => (if t383 = true then ((spec_PartOk.f k x363000 x363001 x363002).bind fun t384 => (laws_FnSegPut.j1 k x6 x7 (!t384) x362000 x362001 x363000 x363001 x363002 x372000 x372001)) else (laws_FnSegPut.j1 k x6 x7 true x362000 x362001 x363000 x363001 x363002 x372000 x372001)))
def laws_FnSegPut.j1 : Nat → List Int → Int → Bool → Int → List Int → Int → Int → List Int → Int → List Int → Option (Bool)
  | 0, _, _, _, _, _, _, _, _, _, _ => none
  | k + 1, x6, x7, x56, x362000, x362001, x363000, x363001, x363002, x372000, x372001 => if x56 = true then (if x7 = 0 then ((laws_liJoin.f k x372000 x372001 0 ([] : List Int)).bind fun t385 => (if t385 = true then ((laws_liOk.f).bind fun t386 => (some t386)) else (some false))) else (some false)) else ((some (([] : List Int) : List Int)).bind fun y387 => (if y387.length + x362001.length < 140737488355328 then ((some (y387 ++ x362001 : List Int)).bind fun y390 => (if y390.length + x363002.length < 140737488355328 then ((some (y390 ++ x363002 : List Int)).bind fun y393 => (if x7 = 1 then ((impl_JoinOk.f x372000 x372001).bind fun t396 => (if t396 = true then ((laws_liBytes.f k x372001 y393).bind fun t397 => (if t397 = true then (some ((x6.length : Int) == 0)) else (some false))) else (some false))) else (if x7 = 2 then ((laws_liJoin.f k x372000 x372001 0 ([] : List Int)).bind fun t398 => (if t398 = true then ((laws_liBytes.f k x6 y393).bind fun t399 => (if t399 = true then (if x362000 = 0 then (some true) else (some ((x6.length : Int) == x362000))) else (some false))) else (some false))) else (if x7 = 3 then ((laws_liJoin.f k x372000 x372001 0 ([] : List Int)).bind fun t400 => (if t400 = true then (some ((x6.length : Int) == 0)) else (some false))) else (some false))))) else (none))) else (none)))
end
def laws_FnSegPut.f (k : Nat) (l0 : List Int) : Option (Bool) := if (l0.length : Int) > 1048576 then (some true) else ((spec_DrawSegPut.f k l0).bind fun bt352 => ((impl_SegPut.f k bt352.1 bt352.2.1 bt352.2.2.1 bt352.2.2.2.1 bt352.2.2.2.2).bind fun bt363 => ((spec_SegPut.f k bt352.1 bt352.2.1 bt352.2.2.1 bt352.2.2.2.1 bt352.2.2.2.2).bind fun bt372 => ((laws_liJoin.f k bt363.1 bt363.2.1 bt372.1 bt372.2.1).bind fun t381 => (if t381 = true then ((laws_liBytes.f k bt363.2.2.1 bt372.2.2.1).bind fun t382 => (if t382 = true then (laws_FnSegPut.j0 k bt363.2.2.1 bt363.2.2.2 (bt363.2.2.2 != bt372.2.2.2) bt352.1 bt352.2.1 bt352.2.2.1 bt352.2.2.2.1 bt352.2.2.2.2 bt363.1 bt363.2.1) else (laws_FnSegPut.j0 k bt363.2.2.1 bt363.2.2.2 true bt352.1 bt352.2.1 bt352.2.2.1 bt352.2.2.2.1 bt352.2.2.2.2 bt363.1 bt363.2.1))) else (laws_FnSegPut.j0 k bt363.2.2.1 bt363.2.2.2 true bt352.1 bt352.2.1 bt352.2.2.1 bt352.2.2.2.1 bt352.2.2.2.2 bt363.1 bt363.2.1))))))
theorem laws_FnSegPut.mono_l : ∀ k, (∀ y0 y1 y2 y3 y4 y5 y6 y7 y8 y9, LeO (laws_FnSegPut.j0 k y0 y1 y2 y3 y4 y5 y6 y7 y8 y9) (laws_FnSegPut.j0 (k + 1) y0 y1 y2 y3 y4 y5 y6 y7 y8 y9)) ∧ (∀ y0 y1 y2 y3 y4 y5 y6 y7 y8 y9, LeO (laws_FnSegPut.j1 k y0 y1 y2 y3 y4 y5 y6 y7 y8 y9) (laws_FnSegPut.j1 (k + 1) y0 y1 y2 y3 y4 y5 y6 y7 y8 y9))
  | 0 => ⟨fun _ _ _ _ _ _ _ _ _ _ r h => by simp [laws_FnSegPut.j0] at h, fun _ _ _ _ _ _ _ _ _ _ r h => by simp [laws_FnSegPut.j1] at h⟩
  | k + 1 => by
    obtain ⟨ih0, ih1⟩ := laws_FnSegPut.mono_l k
    refine ⟨?_, ?_⟩
    · intro y0 y1 y2 y3 y4 y5 y6 y7 y8 y9
      unfold laws_FnSegPut.j0
      repeat' first
      | (with_reducible exact ih0 _ _ _ _ _ _ _ _ _ _)
      | (with_reducible exact ih1 _ _ _ _ _ _ _ _ _ _)
      | (with_reducible exact impl_SegPut.mono _ _ _ _ _ _)
      | (with_reducible exact laws_liBytes.mono _ _ _)
      | (with_reducible exact laws_liJoin.mono _ _ _ _ _)
      | (with_reducible exact spec_DrawSegPut.mono _ _)
      | (with_reducible exact spec_PartOk.mono _ _ _ _)
      | (with_reducible exact spec_SegPut.mono _ _ _ _ _ _)
      | (with_reducible exact LeO.refl _)
      | (with_reducible exact LeO.none _)
      | (with_reducible refine LeO.ite ?_ ?_)
      | (with_reducible refine LeO.bind ?_ (fun _ => ?_))
      | exact ih0 _ _ _ _ _ _ _ _ _ _
      | exact ih1 _ _ _ _ _ _ _ _ _ _
      | exact impl_SegPut.mono _ _ _ _ _ _
      | exact laws_liBytes.mono _ _ _
      | exact laws_liJoin.mono _ _ _ _ _
      | exact spec_DrawSegPut.mono _ _
      | exact spec_PartOk.mono _ _ _ _
      | exact spec_SegPut.mono _ _ _ _ _ _
      | exact LeO.none _
      | refine LeO.ite ?_ ?_
      | refine LeO.bind ?_ (fun _ => ?_)
    · intro y0 y1 y2 y3 y4 y5 y6 y7 y8 y9
      unfold laws_FnSegPut.j1
      repeat' first
      | (with_reducible exact ih0 _ _ _ _ _ _ _ _ _ _)
      | (with_reducible exact ih1 _ _ _ _ _ _ _ _ _ _)
      | (with_reducible exact impl_SegPut.mono _ _ _ _ _ _)
      | (with_reducible exact laws_liBytes.mono _ _ _)
      | (with_reducible exact laws_liJoin.mono _ _ _ _ _)
      | (with_reducible exact spec_DrawSegPut.mono _ _)
      | (with_reducible exact spec_PartOk.mono _ _ _ _)
      | (with_reducible exact spec_SegPut.mono _ _ _ _ _ _)
      | (with_reducible exact LeO.refl _)
      | (with_reducible exact LeO.none _)
      | (with_reducible refine LeO.ite ?_ ?_)
      | (with_reducible refine LeO.bind ?_ (fun _ => ?_))
      | exact ih0 _ _ _ _ _ _ _ _ _ _
      | exact ih1 _ _ _ _ _ _ _ _ _ _
      | exact impl_SegPut.mono _ _ _ _ _ _
      | exact laws_liBytes.mono _ _ _
      | exact laws_liJoin.mono _ _ _ _ _
      | exact spec_DrawSegPut.mono _ _
      | exact spec_PartOk.mono _ _ _ _
      | exact spec_SegPut.mono _ _ _ _ _ _
      | exact LeO.none _
      | refine LeO.ite ?_ ?_
      | refine LeO.bind ?_ (fun _ => ?_)
theorem laws_FnSegPut.mono : ∀ a0 k, LeO (laws_FnSegPut.f k a0) (laws_FnSegPut.f (k + 1) a0) := by
 intro a0 k
 obtain ⟨ih0, ih1⟩ := laws_FnSegPut.mono_l k
 unfold laws_FnSegPut.f
 repeat' first
     | (with_reducible exact ih0 _ _ _ _ _ _ _ _ _ _)
     | (with_reducible exact ih1 _ _ _ _ _ _ _ _ _ _)
     | (with_reducible exact impl_SegPut.mono _ _ _ _ _ _)
     | (with_reducible exact laws_liBytes.mono _ _ _)
     | (with_reducible exact laws_liJoin.mono _ _ _ _ _)
     | (with_reducible exact spec_DrawSegPut.mono _ _)
     | (with_reducible exact spec_PartOk.mono _ _ _ _)
     | (with_reducible exact spec_SegPut.mono _ _ _ _ _ _)
     | (with_reducible exact LeO.refl _)
     | (with_reducible exact LeO.none _)
     | (with_reducible refine LeO.ite ?_ ?_)
     | (with_reducible refine LeO.bind ?_ (fun _ => ?_))
     | exact ih0 _ _ _ _ _ _ _ _ _ _
     | exact ih1 _ _ _ _ _ _ _ _ _ _
     | exact impl_SegPut.mono _ _ _ _ _ _
     | exact laws_liBytes.mono _ _ _
     | exact laws_liJoin.mono _ _ _ _ _
     | exact spec_DrawSegPut.mono _ _
     | exact spec_PartOk.mono _ _ _ _
     | exact spec_SegPut.mono _ _ _ _ _ _
     | exact LeO.none _
     | refine LeO.ite ?_ ?_
     | refine LeO.bind ?_ (fun _ => ?_)
def laws_FnSegPut.T10 : Bool × List (List Nat × List Nat) := (true, [([], []), ([], []), ([1], [1]), ([0, 2], [0, 2]), ([], []), ([4], [4]), ([3, 5, 3], [3, 5]), ([6, 6, 0, 1, 2, 3, 4, 5, 6], [6])])
def laws_FnSegPut.B10 : List Nat := [0, 0, 2, 7, 0, 16, 63, 127]
theorem laws_FnSegPut.tab10 : rtab .any (opsOf Try.f9 10) = laws_FnSegPut.T10 := by kernel_rfl
theorem laws_FnSegPut.bits10 : waitsOk laws_FnSegPut.T10.2 laws_FnSegPut.B10 = true := by kernel_rfl
set_option maxHeartbeats 60000000 in
set_option maxRecDepth 100000 in
theorem laws_FnSegPut.calls (k : Nat) (A0 : Option Addr) (c0 : Nat) (l0 : List Int) (r : Bool) (w : World) (hr0 : Kd.C (Kd.int .u8) w A0 l0.length l0) (hc0 : l0.length ≤ c0) (h : laws_FnSegPut.f k l0 = some r) :
  Calls Try.prog 9 #[.slice A0 l0.length c0] w fun e w' => e = .returned (.bool r) ∧ Below w.heap.size w w' := by
 have hu35 := Try.underlying35
 have hu39 := Try.underlying39
 have HR0 := mk_ hr0
 have HC0 := mk_ hc0
 clear hr0 hc0
 have HB := mk_ (Below.refl w.heap.size w)
 have H : (if (l0.length : Int) > 1048576 then (some true) else ((spec_DrawSegPut.f k l0).bind fun bt352 => ((impl_SegPut.f k bt352.1 bt352.2.1 bt352.2.2.1 bt352.2.2.2.1 bt352.2.2.2.2).bind fun bt363 => ((spec_SegPut.f k bt352.1 bt352.2.1 bt352.2.2.1 bt352.2.2.2.1 bt352.2.2.2.2).bind fun bt372 => ((laws_liJoin.f k bt363.1 bt363.2.1 bt372.1 bt372.2.1).bind fun t381 => (if t381 = true then ((laws_liBytes.f k bt363.2.2.1 bt372.2.2.1).bind fun t382 => (if t382 = true then (laws_FnSegPut.j0 k bt363.2.2.1 bt363.2.2.2 (bt363.2.2.2 != bt372.2.2.2) bt352.1 bt352.2.1 bt352.2.2.1 bt352.2.2.2.1 bt352.2.2.2.2 bt363.1 bt363.2.1) else (laws_FnSegPut.j0 k bt363.2.2.1 bt363.2.2.2 true bt352.1 bt352.2.1 bt352.2.2.1 bt352.2.2.2.1 bt352.2.2.2.2 bt363.1 bt363.2.1))) else (laws_FnSegPut.j0 k bt363.2.2.1 bt363.2.2.2 true bt352.1 bt352.2.1 bt352.2.2.1 bt352.2.2.2.1 bt352.2.2.2.2 bt363.1 bt363.2.1))))))) = some r := h
 clear h
 by_cases c2 : (l0.length : Int) > 1048576
 ·rw [if_pos c2] at H
  have c2b0 : decide (1048576 < (l0.length : Int)) = true := decide_eq_true c2
  have c2b1 : decide (1048576 < l0.length) = true := decide_eq_true (by omega)
  clear c2
  obtain rfl := Option.some.inj H
  go_enter Try.func9, Try.ntmps9
  go_wp2
  go_ret
  exact ⟨by first|rfl|(simp [errW_none, errW_some] <;> rfl)|(simp [*, errW_none, errW_some] <;> rfl), by repeat (first|(with_reducible first|exact HB.out|apply zq7|apply zq8|apply zq9)|exact HB.out)⟩
 ·rw [if_neg c2] at H
  have c2b0 : decide (1048576 < (l0.length : Int)) = false := decide_eq_false c2
  have c2b1 : decide (1048576 < l0.length) = false := decide_eq_false (by omega)
  clear c2
  replace H := Option.bind_eq_some_iff.mp H
  obtain ⟨⟨t352, t353, t356, t357, t358⟩, A30, H⟩ := H
  try dsimp only at H
  have A3 := mk_ A30
  clear A30
  replace H := Option.bind_eq_some_iff.mp H
  obtain ⟨⟨t363, t364, t367, t370⟩, A40, H⟩ := H
  try dsimp only at H
  have A4 := mk_ A40
  clear A40
  replace H := Option.bind_eq_some_iff.mp H
  obtain ⟨⟨t372, t373, t376, t379⟩, A50, H⟩ := H
  try dsimp only at H
  have A5 := mk_ A50
  clear A50
  have HC6 := mk_ H
  clear H
  go_enter Try.func9, Try.ntmps9
  go_upto_region 6 with (first|((with_reducible refine gate_callee (f := 43) rfl ?_);refine goesL_ (some 17) rfl rfl Try.func43 (by kernel_rfl) rfl #[.slice A0 l0.length c0] rfl (by (try simp only [List.map_toArray, List.map_cons, List.map_nil]);first|done|rfl|(simp only [List.length_drop, List.length_take];rfl)) ?_;(with_reducible refine (spec_DrawSegPut.calls k _ _ l0 t352 t353 t356 t357 t358 _ ?side1 ?side2 A3.out).mono ?_);(case side1 => repeat (first|exact HR0.out|(with_reducible refine Kd.C_alloc ?_ _)|(with_reducible refine Kd.C_drewN ?_ _)|(with_reducible refine Kd.C_drew ?_)));(case side2 => exact HC0.out);rintro e w7 ⟨v354, v359, rfl, ho0, ho1, hb⟩;refine ⟨_, rfl, ?_⟩;have HO355 := mk_ (Kd.R_lower ho0 (zr2 (by repeat (first|(with_reducible first|exact HB.out|apply zq7|apply zq8|apply zq9)|exact HB.out))));have HO360 := mk_ (Kd.R_lower ho1 (zr2 (by repeat (first|(with_reducible first|exact HB.out|apply zq7|apply zq8|apply zq9)|exact HB.out))));replace HB := mk_ (zr3 (by repeat (first|(with_reducible first|exact HB.out|apply zq7|apply zq8|apply zq9)|exact HB.out)) hb);(try clear hb);(try clear hb2);(try clear hk);(try clear hi);(try clear ho0);(try clear ho1))|((with_reducible refine gate_dst (N := 3) rfl ?_);(try (refine gate_guard (by rfl) ?_;dsimp only));refine box_event ?hg (N := 3) ?hd (cs := #[.int .i64 0, .slice none 0 0]) (t := 35) ?hr ?_;(case hd => rfl);(case hg => rfl);(case hr => first|(go_simp;done)|(go_simp;rfl));intro gb361 hg w8 hbox hb;replace HO355 := mk_ (Kd.R_below (by (with_reducible repeat (first|apply yr0|apply yr1|apply yr2));exact HO355.out) hb);replace HO360 := mk_ (Kd.R_below (by (with_reducible repeat (first|apply yr0|apply yr1|apply yr2));exact HO360.out) hb);have BK361 := mk_ (hbox);have GW361 := mk_ ((by rw [hg];exact (zr2 (by repeat (first|(with_reducible first|exact HB.out|apply zq7|apply zq8|apply zq9)|exact HB.out))) : w.heap.size ≤ gb361));have GE361 := GW361;replace HB := mk_ (zr3 (by repeat (first|(with_reducible first|exact HB.out|apply zq7|apply zq8|apply zq9)|exact HB.out)) hb);clear hb hbox hg)|((with_reducible refine gate_dst (N := 4) rfl ?_);(try (refine gate_guard (by rfl) ?_;dsimp only));refine box_event ?hg (N := 4) ?hd (cs := #[.int .i64 0, .int .i64 0, .slice none 0 0]) (t := 39) ?hr ?_;(case hd => rfl);(case hg => rfl);(case hr => first|(go_simp;done)|(go_simp;rfl));intro gb362 hg w9 hbox hb;replace HO355 := mk_ (Kd.R_below (by (with_reducible repeat (first|apply yr0|apply yr1|apply yr2));exact HO355.out) hb);replace HO360 := mk_ (Kd.R_below (by (with_reducible repeat (first|apply yr0|apply yr1|apply yr2));exact HO360.out) hb);have BK362 := mk_ (hbox);have GW362 := mk_ ((by rw [hg];exact (zr2 (by repeat (first|(with_reducible first|exact HB.out|apply zq7|apply zq8|apply zq9|refine zr1 ?_ GE361.out)|exact HB.out))) : w.heap.size ≤ gb362));have GE362 := GW362;replace HB := mk_ (zr3 (by repeat (first|(with_reducible first|exact HB.out|apply zq7|apply zq8|apply zq9|refine zr1 ?_ GE361.out)|exact HB.out)) hb);have NB361_362 := mk_ ((by rw [hg];exact zm2 (zr6 (by exact BK361.out)) : gb361 ≠ gb362));replace BK361 := mk_ (zq6 (by exact BK361.out) hb);have NB362_361 := mk_ NB361_362.out.symm;clear hb hbox hg;have hnb10 := NB361_362.out;have hnc10 := NB362_361.out;obtain ⟨hcz11_0, hcz11_1⟩ := cz2 BK361.out;obtain ⟨hfz11_0, hfz11_1⟩ := fz2 BK361.out;obtain ⟨Ao12, co12, eo12⟩ := Kd.R_slice HO355.out;subst eo12;obtain ⟨hcz13_0, hcz13_1, hcz13_2⟩ := cz3 BK362.out;obtain ⟨hfz13_0, hfz13_1, hfz13_2⟩ := fz3 BK362.out;obtain ⟨Ao14, co14, eo14⟩ := Kd.R_slice HO360.out;subst eo14)|((with_reducible refine gate_callee (f := 26) rfl ?_);refine goesL_ (some 23) rfl rfl Try.func26 (by kernel_rfl) rfl #[.agg #[.int .i64 t352, .slice Ao12 t353.length co12], .agg #[.int .i64 t356, .int .i64 t357, .slice Ao14 t358.length co14]] rfl (by (try simp only [List.map_toArray, List.map_cons, List.map_nil]);first|done|rfl|(simp only [List.length_drop, List.length_take];rfl)) ?_;(with_reducible refine (impl_SegPut.calls k t352 _ _ t353 t356 t357 _ _ t358 t363 t364 t367 t370 _ ?side1 ?side2 ?side3 ?side4 A4.out).mono ?_);(case side1 => refine (Kd.R_reads' (e := 5) (base := w.heap.size) (ok := fun k_ => some k_ ≠ (.slice Ao14 t358.length co14 : Value).ownBlock) (n := t353.length) (c := co12) ?_).2.2;exact (by (with_reducible repeat (first|apply yr0|apply yr1|apply yr2));exact (Kd.R_mono (Kd.R_mono (Kd.R_far (p := ⟨gb362, 2, none⟩) (Kd.R_far (p := ⟨gb362, 1, none⟩) (Kd.R_far (p := ⟨gb362, 0, none⟩) (Kd.R_far (p := ⟨gb361, 1, none⟩) (Kd.R_far (p := ⟨gb361, 0, none⟩) (Kd.R_types (Kd.R_types HO355.out BK361.out (by decide)) BK362.out (by decide)) (fun _ hk => hk.1.2) (.int .i64 t352)) (fun _ hk => hk.1.2) (.slice Ao12 t353.length co12)) (fun _ hk => hk.2) (.int .i64 t356)) (fun _ hk => hk.2) (.int .i64 t357)) (fun _ hk => hk.2) (.slice Ao14 t358.length co14)) (fun _ h_ => h_.1)) (fun _ h_ => h_.1))));(case side2 => exact (Kd.R_reads' HO355.out).2.1);(case side3 => refine (Kd.R_reads' (e := 5) (base := w.heap.size) (ok := fun k_ => some k_ ≠ (.slice Ao12 t353.length co12 : Value).ownBlock) (n := t358.length) (c := co14) ?_).2.2;exact (by (with_reducible repeat (first|apply yr0|apply yr1|apply yr2));exact (Kd.R_mono (Kd.R_mono (Kd.R_far (p := ⟨gb362, 2, none⟩) (Kd.R_far (p := ⟨gb362, 1, none⟩) (Kd.R_far (p := ⟨gb362, 0, none⟩) (Kd.R_far (p := ⟨gb361, 1, none⟩) (Kd.R_far (p := ⟨gb361, 0, none⟩) (Kd.R_types (Kd.R_types HO360.out BK361.out (by decide)) BK362.out (by decide)) (fun _ hk => hk.1.2) (.int .i64 t352)) (fun _ hk => hk.1.2) (.slice Ao12 t353.length co12)) (fun _ hk => hk.2) (.int .i64 t356)) (fun _ hk => hk.2) (.int .i64 t357)) (fun _ hk => hk.2) (.slice Ao14 t358.length co14)) (fun _ h_ => h_.1)) (fun _ h_ => h_.1))));(case side4 => exact (Kd.R_reads' HO360.out).2.1);rintro e w15 ⟨v365, v368, rfl, ho0, ho1, hb⟩;refine ⟨_, rfl, ?_⟩;have HO366 := mk_ (Kd.V_lower (Kd.V_mono (ok' := fun k_ => some k_ ≠ (.slice Ao12 t353.length co12 : Value).ownBlock ∧ some k_ ≠ (.slice Ao14 t358.length co14 : Value).ownBlock ∧ k_ ≠ gb361 ∧ k_ ≠ gb362) ho0 (fun k_ hk_ => ⟨(Kd.fresh' (Kd.R_lt (by (with_reducible repeat (first|apply yr0|apply yr1|apply yr2));exact (Kd.R_mono (Kd.R_mono (Kd.R_far (p := ⟨gb362, 2, none⟩) (Kd.R_far (p := ⟨gb362, 1, none⟩) (Kd.R_far (p := ⟨gb362, 0, none⟩) (Kd.R_far (p := ⟨gb361, 1, none⟩) (Kd.R_far (p := ⟨gb361, 0, none⟩) (Kd.R_types (Kd.R_types HO355.out BK361.out (by decide)) BK362.out (by decide)) (fun _ hk => hk.1.2) (.int .i64 t352)) (fun _ hk => hk.1.2) (.slice Ao12 t353.length co12)) (fun _ hk => hk.2) (.int .i64 t356)) (fun _ hk => hk.2) (.int .i64 t357)) (fun _ hk => hk.2) (.slice Ao14 t358.length co14)) (fun _ h_ => h_.1)) (fun _ h_ => h_.1)))) k_ hk_), (Kd.fresh' (Kd.R_lt (by (with_reducible repeat (first|apply yr0|apply yr1|apply yr2));exact (Kd.R_mono (Kd.R_mono (Kd.R_far (p := ⟨gb362, 2, none⟩) (Kd.R_far (p := ⟨gb362, 1, none⟩) (Kd.R_far (p := ⟨gb362, 0, none⟩) (Kd.R_far (p := ⟨gb361, 1, none⟩) (Kd.R_far (p := ⟨gb361, 0, none⟩) (Kd.R_types (Kd.R_types HO360.out BK361.out (by decide)) BK362.out (by decide)) (fun _ hk => hk.1.2) (.int .i64 t352)) (fun _ hk => hk.1.2) (.slice Ao12 t353.length co12)) (fun _ hk => hk.2) (.int .i64 t356)) (fun _ hk => hk.2) (.int .i64 t357)) (fun _ hk => hk.2) (.slice Ao14 t358.length co14)) (fun _ h_ => h_.1)) (fun _ h_ => h_.1)))) k_ hk_), (Kd.freshB (g := gb361) (o := .cells #[.int .i64 t352, .slice Ao12 t353.length co12] 35 (0, 0)) (by (with_reducible repeat (first|refine zq1 ?_ _|refine zq2 ?_|refine zq3 ?_ _));refine fa3 ?_ NB361_362.out;(with_reducible repeat (first|refine zq1 ?_ _|refine zq2 ?_|refine zq3 ?_ _));apply pu2;(with_reducible repeat (first|refine zq1 ?_ _|refine zq2 ?_|refine zq3 ?_ _));exact BK361.out) k_ hk_), (Kd.freshB (g := gb362) (o := .cells #[.int .i64 t356, .int .i64 t357, .slice Ao14 t358.length co14] 39 (0, 0)) (by (with_reducible repeat (first|refine zq1 ?_ _|refine zq2 ?_|refine zq3 ?_ _));apply pu3;(with_reducible repeat (first|refine zq1 ?_ _|refine zq2 ?_|refine zq3 ?_ _));refine fa2 ?_ NB362_361.out;(with_reducible repeat (first|refine zq1 ?_ _|refine zq2 ?_|refine zq3 ?_ _));exact BK362.out) k_ hk_)⟩)) (zr2 (by repeat (first|(with_reducible first|exact HB.out|apply zq7|apply zq8|apply zq9|refine zr1 ?_ GE361.out|refine zr1 ?_ GE362.out)|exact HB.out))));have HO369 := mk_ (Kd.V_lower (Kd.V_mono (ok' := fun k_ => some k_ ≠ (.slice Ao12 t353.length co12 : Value).ownBlock ∧ some k_ ≠ (.slice Ao14 t358.length co14 : Value).ownBlock ∧ k_ ≠ gb361 ∧ k_ ≠ gb362) ho1 (fun k_ hk_ => ⟨(Kd.fresh' (Kd.R_lt (by (with_reducible repeat (first|apply yr0|apply yr1|apply yr2));exact (Kd.R_mono (Kd.R_mono (Kd.R_far (p := ⟨gb362, 2, none⟩) (Kd.R_far (p := ⟨gb362, 1, none⟩) (Kd.R_far (p := ⟨gb362, 0, none⟩) (Kd.R_far (p := ⟨gb361, 1, none⟩) (Kd.R_far (p := ⟨gb361, 0, none⟩) (Kd.R_types (Kd.R_types HO355.out BK361.out (by decide)) BK362.out (by decide)) (fun _ hk => hk.1.2) (.int .i64 t352)) (fun _ hk => hk.1.2) (.slice Ao12 t353.length co12)) (fun _ hk => hk.2) (.int .i64 t356)) (fun _ hk => hk.2) (.int .i64 t357)) (fun _ hk => hk.2) (.slice Ao14 t358.length co14)) (fun _ h_ => h_.1)) (fun _ h_ => h_.1)))) k_ hk_), (Kd.fresh' (Kd.R_lt (by (with_reducible repeat (first|apply yr0|apply yr1|apply yr2));exact (Kd.R_mono (Kd.R_mono (Kd.R_far (p := ⟨gb362, 2, none⟩) (Kd.R_far (p := ⟨gb362, 1, none⟩) (Kd.R_far (p := ⟨gb362, 0, none⟩) (Kd.R_far (p := ⟨gb361, 1, none⟩) (Kd.R_far (p := ⟨gb361, 0, none⟩) (Kd.R_types (Kd.R_types HO360.out BK361.out (by decide)) BK362.out (by decide)) (fun _ hk => hk.1.2) (.int .i64 t352)) (fun _ hk => hk.1.2) (.slice Ao12 t353.length co12)) (fun _ hk => hk.2) (.int .i64 t356)) (fun _ hk => hk.2) (.int .i64 t357)) (fun _ hk => hk.2) (.slice Ao14 t358.length co14)) (fun _ h_ => h_.1)) (fun _ h_ => h_.1)))) k_ hk_), (Kd.freshB (g := gb361) (o := .cells #[.int .i64 t352, .slice Ao12 t353.length co12] 35 (0, 0)) (by (with_reducible repeat (first|refine zq1 ?_ _|refine zq2 ?_|refine zq3 ?_ _));refine fa3 ?_ NB361_362.out;(with_reducible repeat (first|refine zq1 ?_ _|refine zq2 ?_|refine zq3 ?_ _));apply pu2;(with_reducible repeat (first|refine zq1 ?_ _|refine zq2 ?_|refine zq3 ?_ _));exact BK361.out) k_ hk_), (Kd.freshB (g := gb362) (o := .cells #[.int .i64 t356, .int .i64 t357, .slice Ao14 t358.length co14] 39 (0, 0)) (by (with_reducible repeat (first|refine zq1 ?_ _|refine zq2 ?_|refine zq3 ?_ _));apply pu3;(with_reducible repeat (first|refine zq1 ?_ _|refine zq2 ?_|refine zq3 ?_ _));refine fa2 ?_ NB362_361.out;(with_reducible repeat (first|refine zq1 ?_ _|refine zq2 ?_|refine zq3 ?_ _));exact BK362.out) k_ hk_)⟩)) (zr2 (by repeat (first|(with_reducible first|exact HB.out|apply zq7|apply zq8|apply zq9|refine zr1 ?_ GE361.out|refine zr1 ?_ GE362.out)|exact HB.out))));replace HO355 := mk_ (Kd.R_below (by (with_reducible repeat (first|apply yr0|apply yr1|apply yr2));exact (Kd.R_mono (Kd.R_mono (Kd.R_far (p := ⟨gb362, 2, none⟩) (Kd.R_far (p := ⟨gb362, 1, none⟩) (Kd.R_far (p := ⟨gb362, 0, none⟩) (Kd.R_far (p := ⟨gb361, 1, none⟩) (Kd.R_far (p := ⟨gb361, 0, none⟩) (Kd.R_types (Kd.R_types HO355.out BK361.out (by decide)) BK362.out (by decide)) (fun _ hk => hk.1.2) (.int .i64 t352)) (fun _ hk => hk.1.2) (.slice Ao12 t353.length co12)) (fun _ hk => hk.2) (.int .i64 t356)) (fun _ hk => hk.2) (.int .i64 t357)) (fun _ hk => hk.2) (.slice Ao14 t358.length co14)) (fun _ h_ => h_.1)) (fun _ h_ => h_.1))) hb);replace HO360 := mk_ (Kd.R_below (by (with_reducible repeat (first|apply yr0|apply yr1|apply yr2));exact (Kd.R_mono (Kd.R_mono (Kd.R_far (p := ⟨gb362, 2, none⟩) (Kd.R_far (p := ⟨gb362, 1, none⟩) (Kd.R_far (p := ⟨gb362, 0, none⟩) (Kd.R_far (p := ⟨gb361, 1, none⟩) (Kd.R_far (p := ⟨gb361, 0, none⟩) (Kd.R_types (Kd.R_types HO360.out BK361.out (by decide)) BK362.out (by decide)) (fun _ hk => hk.1.2) (.int .i64 t352)) (fun _ hk => hk.1.2) (.slice Ao12 t353.length co12)) (fun _ hk => hk.2) (.int .i64 t356)) (fun _ hk => hk.2) (.int .i64 t357)) (fun _ hk => hk.2) (.slice Ao14 t358.length co14)) (fun _ h_ => h_.1)) (fun _ h_ => h_.1))) hb);replace BK361 := mk_ (zq6 (g := gb361) (o := .cells #[.int .i64 t352, .slice Ao12 t353.length co12] 35 (0, 0)) (by (with_reducible repeat (first|refine zq1 ?_ _|refine zq2 ?_|refine zq3 ?_ _));refine fa3 ?_ NB361_362.out;(with_reducible repeat (first|refine zq1 ?_ _|refine zq2 ?_|refine zq3 ?_ _));apply pu2;(with_reducible repeat (first|refine zq1 ?_ _|refine zq2 ?_|refine zq3 ?_ _));exact BK361.out) hb);replace BK362 := mk_ (zq6 (g := gb362) (o := .cells #[.int .i64 t356, .int .i64 t357, .slice Ao14 t358.length co14] 39 (0, 0)) (by (with_reducible repeat (first|refine zq1 ?_ _|refine zq2 ?_|refine zq3 ?_ _));apply pu3;(with_reducible repeat (first|refine zq1 ?_ _|refine zq2 ?_|refine zq3 ?_ _));refine fa2 ?_ NB362_361.out;(with_reducible repeat (first|refine zq1 ?_ _|refine zq2 ?_|refine zq3 ?_ _));exact BK362.out) hb);replace HB := mk_ (zr3 (by repeat (first|(with_reducible first|exact HB.out|apply zq7|apply zq8|apply zq9|refine zr1 ?_ GE361.out|refine zr1 ?_ GE362.out)|exact HB.out)) hb);(try clear hb);(try clear hb2);(try clear hk);(try clear hi);(try clear ho0);(try clear ho1))|((with_reducible refine gate_dst (N := 5) rfl ?_);(try (refine gate_guard (by rfl) ?_;dsimp only));refine box_event ?hg (N := 5) ?hd (cs := #[.int .i64 0, .slice none 0 0]) (t := 35) ?hr ?_;(case hd => rfl);(case hg => rfl);(case hr => first|(go_simp;done)|(go_simp;rfl));intro gb371 hg w16 hbox hb;replace HO355 := mk_ (Kd.R_below (by (with_reducible repeat (first|apply yr0|apply yr1|apply yr2));exact HO355.out) hb);replace HO360 := mk_ (Kd.R_below (by (with_reducible repeat (first|apply yr0|apply yr1|apply yr2));exact HO360.out) hb);replace HO366 := mk_ (Kd.V_below (Kd.V_elderB (by (with_reducible repeat (first|apply yv0|apply yv1|apply yv2));exact HO366.out) gb371 (Nat.le_of_eq hg.symm)) hb);replace HO369 := mk_ (Kd.V_below (Kd.V_elderB (by (with_reducible repeat (first|apply yv0|apply yv1|apply yv2));exact HO369.out) gb371 (Nat.le_of_eq hg.symm)) hb);have BK371 := mk_ (hbox);have GW371 := mk_ ((by rw [hg];exact (zr2 (by repeat (first|(with_reducible first|exact HB.out|apply zq7|apply zq8|apply zq9|refine zr1 ?_ GE361.out|refine zr1 ?_ GE362.out)|exact HB.out))) : w.heap.size ≤ gb371));have GE371 := GW371;replace HB := mk_ (zr3 (by repeat (first|(with_reducible first|exact HB.out|apply zq7|apply zq8|apply zq9|refine zr1 ?_ GE361.out|refine zr1 ?_ GE362.out)|exact HB.out)) hb);have NB361_371 := mk_ ((by rw [hg];exact zm2 (zr6 (by exact BK361.out)) : gb361 ≠ gb371));replace BK361 := mk_ (zq6 (by exact BK361.out) hb);have NB371_361 := mk_ NB361_371.out.symm;have NB362_371 := mk_ ((by rw [hg];exact zm2 (zr6 (by exact BK362.out)) : gb362 ≠ gb371));replace BK362 := mk_ (zq6 (by exact BK362.out) hb);have NB371_362 := mk_ NB362_371.out.symm;clear hb hbox hg;have hnb17 := NB371_361.out;have hnc17 := NB361_371.out;have hnb18 := NB371_362.out;have hnc18 := NB362_371.out;obtain ⟨hcz19_0, hcz19_1⟩ := cz2 BK371.out;obtain ⟨hfz19_0, hfz19_1⟩ := fz2 BK371.out;obtain ⟨Ao20, co20, eo20⟩ := Kd.V_slice HO366.out;subst eo20;obtain ⟨hcz21_0, hcz21_1⟩ := cz2 BK361.out;obtain ⟨hfz21_0, hfz21_1⟩ := fz2 BK361.out;obtain ⟨hcz22_0, hcz22_1, hcz22_2⟩ := cz3 BK362.out;obtain ⟨hfz22_0, hfz22_1, hfz22_2⟩ := fz3 BK362.out)|((with_reducible refine gate_callee (f := 34) rfl ?_);refine goesL_ (some 30) rfl rfl Try.func34 (by kernel_rfl) rfl #[.agg #[.int .i64 t352, .slice Ao12 t353.length co12], .agg #[.int .i64 t356, .int .i64 t357, .slice Ao14 t358.length co14]] rfl (by (try simp only [List.map_toArray, List.map_cons, List.map_nil]);first|done|rfl|(simp only [List.length_drop, List.length_take];rfl)) ?_;(with_reducible refine (spec_SegPut.calls k t352 _ _ t353 t356 t357 _ _ t358 t372 t373 t376 t379 _ ?side1 ?side2 ?side3 ?side4 A5.out).mono ?_);(case side1 => refine (Kd.R_reads' (e := 5) (base := w.heap.size) (ok := fun k_ => some k_ ≠ (.slice Ao14 t358.length co14 : Value).ownBlock) (n := t353.length) (c := co12) ?_).2.2;exact (by (with_reducible repeat (first|apply yr0|apply yr1|apply yr2));exact (Kd.R_mono (Kd.R_far (p := ⟨gb371, 1, none⟩) (Kd.R_far (p := ⟨gb371, 0, none⟩) (Kd.R_types HO355.out BK371.out (by decide)) (fun _ hk => hk.2) (.int .i64 t363)) (fun _ hk => hk.2) (.slice Ao20 t364.length co20)) (fun _ h_ => h_.1))));(case side2 => exact (Kd.R_reads' HO355.out).2.1);(case side3 => refine (Kd.R_reads' (e := 5) (base := w.heap.size) (ok := fun k_ => some k_ ≠ (.slice Ao12 t353.length co12 : Value).ownBlock) (n := t358.length) (c := co14) ?_).2.2;exact (by (with_reducible repeat (first|apply yr0|apply yr1|apply yr2));exact (Kd.R_mono (Kd.R_far (p := ⟨gb371, 1, none⟩) (Kd.R_far (p := ⟨gb371, 0, none⟩) (Kd.R_types HO360.out BK371.out (by decide)) (fun _ hk => hk.2) (.int .i64 t363)) (fun _ hk => hk.2) (.slice Ao20 t364.length co20)) (fun _ h_ => h_.1))));(case side4 => exact (Kd.R_reads' HO360.out).2.1);rintro e w23 ⟨v374, v377, rfl, ho0, ho1, hb⟩;refine ⟨_, rfl, ?_⟩;replace HO366 := mk_ (Kd.V_mono (Kd.V_told (Kd.V_told (Kd.V_old (by (with_reducible repeat (first|apply yv0|apply yv1|apply yv2));exact (Kd.V_mono (Kd.V_far (p := ⟨gb371, 1, none⟩) (Kd.V_far (p := ⟨gb371, 0, none⟩) (Kd.V_mono HO366.out (fun k_ hk => (⟨hk, hk.2⟩ : _ ∧ k_ ≠ gb371))) (fun _ hk => hk.2) (.int .i64 t363)) (fun _ hk => hk.2) (.slice Ao20 t364.length co20)) (fun _ h_ => h_.1))) hb) (Kd.R_base ho0)) (Kd.R_base ho1)) (fun _ h_ => h_.1));replace HO369 := mk_ (Kd.V_mono (Kd.V_told (Kd.V_told (Kd.V_old (by (with_reducible repeat (first|apply yv0|apply yv1|apply yv2));exact (Kd.V_mono (Kd.V_far (p := ⟨gb371, 1, none⟩) (Kd.V_far (p := ⟨gb371, 0, none⟩) (Kd.V_mono HO369.out (fun k_ hk => (⟨hk, hk.2⟩ : _ ∧ k_ ≠ gb371))) (fun _ hk => hk.2) (.int .i64 t363)) (fun _ hk => hk.2) (.slice Ao20 t364.length co20)) (fun _ h_ => h_.1))) hb) (Kd.R_base ho0)) (Kd.R_base ho1)) (fun _ h_ => h_.1));have HO375 := mk_ (Kd.R_lower (Kd.R_new' (Kd.R_new' ho0 (Kd.R_lt (by (with_reducible repeat (first|apply yr0|apply yr1|apply yr2));exact (Kd.R_mono (Kd.R_far (p := ⟨gb371, 1, none⟩) (Kd.R_far (p := ⟨gb371, 0, none⟩) (Kd.R_types HO355.out BK371.out (by decide)) (fun _ hk => hk.2) (.int .i64 t363)) (fun _ hk => hk.2) (.slice Ao20 t364.length co20)) (fun _ h_ => h_.1))))) (Kd.R_lt (by (with_reducible repeat (first|apply yr0|apply yr1|apply yr2));exact (Kd.R_mono (Kd.R_far (p := ⟨gb371, 1, none⟩) (Kd.R_far (p := ⟨gb371, 0, none⟩) (Kd.R_types HO360.out BK371.out (by decide)) (fun _ hk => hk.2) (.int .i64 t363)) (fun _ hk => hk.2) (.slice Ao20 t364.length co20)) (fun _ h_ => h_.1))))) (zr2 (by repeat (first|(with_reducible first|exact HB.out|apply zq7|apply zq8|apply zq9|refine zr1 ?_ GE361.out|refine zr1 ?_ GE362.out|refine zr1 ?_ GE371.out)|exact HB.out))));have HO378 := mk_ (Kd.R_lower (Kd.R_new' (Kd.R_new' ho1 (Kd.R_lt (by (with_reducible repeat (first|apply yr0|apply yr1|apply yr2));exact (Kd.R_mono (Kd.R_far (p := ⟨gb371, 1, none⟩) (Kd.R_far (p := ⟨gb371, 0, none⟩) (Kd.R_types HO355.out BK371.out (by decide)) (fun _ hk => hk.2) (.int .i64 t363)) (fun _ hk => hk.2) (.slice Ao20 t364.length co20)) (fun _ h_ => h_.1))))) (Kd.R_lt (by (with_reducible repeat (first|apply yr0|apply yr1|apply yr2));exact (Kd.R_mono (Kd.R_far (p := ⟨gb371, 1, none⟩) (Kd.R_far (p := ⟨gb371, 0, none⟩) (Kd.R_types HO360.out BK371.out (by decide)) (fun _ hk => hk.2) (.int .i64 t363)) (fun _ hk => hk.2) (.slice Ao20 t364.length co20)) (fun _ h_ => h_.1))))) (zr2 (by repeat (first|(with_reducible first|exact HB.out|apply zq7|apply zq8|apply zq9|refine zr1 ?_ GE361.out|refine zr1 ?_ GE362.out|refine zr1 ?_ GE371.out)|exact HB.out))));replace HO355 := mk_ (Kd.R_mono (Kd.R_told (Kd.R_told (Kd.R_old (by (with_reducible repeat (first|apply yr0|apply yr1|apply yr2));exact (Kd.R_mono (Kd.R_far (p := ⟨gb371, 1, none⟩) (Kd.R_far (p := ⟨gb371, 0, none⟩) (Kd.R_types HO355.out BK371.out (by decide)) (fun _ hk => hk.2) (.int .i64 t363)) (fun _ hk => hk.2) (.slice Ao20 t364.length co20)) (fun _ h_ => h_.1))) hb) (Kd.R_base ho0)) (Kd.R_base ho1)) (fun _ h_ => h_.1));replace HO360 := mk_ (Kd.R_mono (Kd.R_told (Kd.R_told (Kd.R_old (by (with_reducible repeat (first|apply yr0|apply yr1|apply yr2));exact (Kd.R_mono (Kd.R_far (p := ⟨gb371, 1, none⟩) (Kd.R_far (p := ⟨gb371, 0, none⟩) (Kd.R_types HO360.out BK371.out (by decide)) (fun _ hk => hk.2) (.int .i64 t363)) (fun _ hk => hk.2) (.slice Ao20 t364.length co20)) (fun _ h_ => h_.1))) hb) (Kd.R_base ho0)) (Kd.R_base ho1)) (fun _ h_ => h_.1));replace BK361 := mk_ (zq6 (g := gb361) (o := .cells #[.int .i64 t352, .slice Ao12 t353.length co12] 35 (0, 0)) (by (with_reducible repeat (first|refine zq1 ?_ _|refine zq2 ?_|refine zq3 ?_ _));refine fa2 ?_ NB361_371.out;(with_reducible repeat (first|refine zq1 ?_ _|refine zq2 ?_|refine zq3 ?_ _));exact BK361.out) hb);replace BK362 := mk_ (zq6 (g := gb362) (o := .cells #[.int .i64 t356, .int .i64 t357, .slice Ao14 t358.length co14] 39 (0, 0)) (by (with_reducible repeat (first|refine zq1 ?_ _|refine zq2 ?_|refine zq3 ?_ _));refine fa2 ?_ NB362_371.out;(with_reducible repeat (first|refine zq1 ?_ _|refine zq2 ?_|refine zq3 ?_ _));exact BK362.out) hb);replace BK371 := mk_ (zq6 (g := gb371) (o := .cells #[.int .i64 t363, .slice Ao20 t364.length co20] 35 (0, 0)) (by (with_reducible repeat (first|refine zq1 ?_ _|refine zq2 ?_|refine zq3 ?_ _));apply pu2;(with_reducible repeat (first|refine zq1 ?_ _|refine zq2 ?_|refine zq3 ?_ _));exact BK371.out) hb);replace HB := mk_ (zr3 (by repeat (first|(with_reducible first|exact HB.out|apply zq7|apply zq8|apply zq9|refine zr1 ?_ GE361.out|refine zr1 ?_ GE362.out|refine zr1 ?_ GE371.out)|exact HB.out)) hb);(try clear hb);(try clear hb2);(try clear hk);(try clear hi);(try clear ho0);(try clear ho1))|((with_reducible refine gate_dst (N := 8) rfl ?_);(try (refine gate_guard (by rfl) ?_;dsimp only));refine box_event ?hg (N := 8) ?hd (cs := #[.int .i64 0, .slice none 0 0]) (t := 35) ?hr ?_;(case hd => rfl);(case hg => rfl);(case hr => first|(go_simp;done)|(go_simp;rfl));intro gb380 hg w24 hbox hb;replace HO355 := mk_ (Kd.R_below (by (with_reducible repeat (first|apply yr0|apply yr1|apply yr2));exact HO355.out) hb);replace HO360 := mk_ (Kd.R_below (by (with_reducible repeat (first|apply yr0|apply yr1|apply yr2));exact HO360.out) hb);replace HO366 := mk_ (Kd.V_below (Kd.V_elderB (by (with_reducible repeat (first|apply yv0|apply yv1|apply yv2));exact HO366.out) gb380 (Nat.le_of_eq hg.symm)) hb);replace HO369 := mk_ (Kd.V_below (Kd.V_elderB (by (with_reducible repeat (first|apply yv0|apply yv1|apply yv2));exact HO369.out) gb380 (Nat.le_of_eq hg.symm)) hb);replace HO375 := mk_ (Kd.R_below (by (with_reducible repeat (first|apply yr0|apply yr1|apply yr2));exact HO375.out) hb);replace HO378 := mk_ (Kd.R_below (by (with_reducible repeat (first|apply yr0|apply yr1|apply yr2));exact HO378.out) hb);have BK380 := mk_ (hbox);have GW380 := mk_ ((by rw [hg];exact (zr2 (by repeat (first|(with_reducible first|exact HB.out|apply zq7|apply zq8|apply zq9|refine zr1 ?_ GE361.out|refine zr1 ?_ GE362.out|refine zr1 ?_ GE371.out)|exact HB.out))) : w.heap.size ≤ gb380));have GE380 := GW380;replace HB := mk_ (zr3 (by repeat (first|(with_reducible first|exact HB.out|apply zq7|apply zq8|apply zq9|refine zr1 ?_ GE361.out|refine zr1 ?_ GE362.out|refine zr1 ?_ GE371.out)|exact HB.out)) hb);have NB361_380 := mk_ ((by rw [hg];exact zm2 (zr6 (by exact BK361.out)) : gb361 ≠ gb380));replace BK361 := mk_ (zq6 (by exact BK361.out) hb);have NB380_361 := mk_ NB361_380.out.symm;have NB362_380 := mk_ ((by rw [hg];exact zm2 (zr6 (by exact BK362.out)) : gb362 ≠ gb380));replace BK362 := mk_ (zq6 (by exact BK362.out) hb);have NB380_362 := mk_ NB362_380.out.symm;have NB371_380 := mk_ ((by rw [hg];exact zm2 (zr6 (by exact BK371.out)) : gb371 ≠ gb380));replace BK371 := mk_ (zq6 (by exact BK371.out) hb);have NB380_371 := mk_ NB371_380.out.symm;clear hb hbox hg;have hnb25 := NB380_361.out;have hnc25 := NB361_380.out;have hnb26 := NB380_362.out;have hnc26 := NB362_380.out;have hnb27 := NB380_371.out;have hnc27 := NB371_380.out;obtain ⟨hcz28_0, hcz28_1⟩ := cz2 BK380.out;obtain ⟨hfz28_0, hfz28_1⟩ := fz2 BK380.out;obtain ⟨Ao29, co29, eo29⟩ := Kd.R_slice HO375.out;subst eo29))
  (try simp only [Act.put, List.setIfInBounds_toArray, List.set_cons_zero, List.set_cons_succ])
  go_cut [48] (fun v48 wc => ∃ (kq : Nat) (x48_5 : Bool), v48 = .bool x48_5 ∧ Aside0 (laws_FnSegPut.j0 kq t367 t370 x48_5 t352 t353 t356 t357 t358 t363 t364 = some r) ∧ Aside0 (kq ≤ k) ∧ Aside0 (Kd.V (Kd.int .u8) 5 wc w.heap.size (fun k_ => some k_ ≠ ((.slice Ao12 t353.length co12) : Value).ownBlock ∧ some k_ ≠ ((.slice Ao14 t358.length co14) : Value).ownBlock ∧ some k_ ≠ ((.slice Ao29 t373.length co29) : Value).ownBlock ∧ k_ ≠ gb361 ∧ k_ ≠ gb362 ∧ k_ ≠ gb371 ∧ k_ ≠ gb380) v368 t367) ∧ Aside0 (Kd.R (Kd.int .u8) 5 wc w.heap.size (fun k_ => some k_ ≠ ((.slice Ao14 t358.length co14) : Value).ownBlock ∧ some k_ ≠ ((.slice Ao29 t373.length co29) : Value).ownBlock) (.slice Ao12 t353.length co12) t353) ∧ Aside0 (Kd.R (Kd.int .u8) 5 wc w.heap.size (fun k_ => some k_ ≠ ((.slice Ao12 t353.length co12) : Value).ownBlock ∧ some k_ ≠ ((.slice Ao29 t373.length co29) : Value).ownBlock) (.slice Ao14 t358.length co14) t358) ∧ Aside0 (Kd.V (Kd.int .u8) 5 wc w.heap.size (fun k_ => some k_ ≠ ((.slice Ao12 t353.length co12) : Value).ownBlock ∧ some k_ ≠ ((.slice Ao14 t358.length co14) : Value).ownBlock ∧ some k_ ≠ ((.slice Ao29 t373.length co29) : Value).ownBlock ∧ k_ ≠ gb361 ∧ k_ ≠ gb362 ∧ k_ ≠ gb371 ∧ k_ ≠ gb380) (.slice Ao20 t364.length co20) t364) ∧ Aside0 (Kd.R (Kd.int .u8) 5 wc w.heap.size (fun k_ => some k_ ≠ ((.slice Ao12 t353.length co12) : Value).ownBlock ∧ some k_ ≠ ((.slice Ao14 t358.length co14) : Value).ownBlock) (.slice Ao29 t373.length co29) t373) ∧ Aside0 (wc.heap[gb361]? = some (.cells #[.int .i64 t352, (.slice Ao12 t353.length co12)] 35 (0, 0))) ∧ Aside0 (wc.heap[gb362]? = some (.cells #[.int .i64 t356, .int .i64 t357, (.slice Ao14 t358.length co14)] 39 (0, 0))) ∧ Aside0 (wc.heap[gb371]? = some (.cells #[.int .i64 t363, (.slice Ao20 t364.length co20)] 35 (0, 0))) ∧ Aside0 (wc.heap[gb380]? = some (.cells #[.int .i64 t372, (.slice Ao29 t373.length co29)] 35 (0, 0))) ∧ Aside0 (Below w.heap.size w wc))
  case first =>
   have H := HC6.out
   clear HC6
   replace H := Option.bind_eq_some_iff.mp H
   obtain ⟨t381, A300, H⟩ := H
   try dsimp only at H
   have A30 := mk_ A300
   clear A300
   by_cases c31 : t381 = true
   ·subst c31
    have H1 : ((laws_liBytes.f k t367 t376).bind fun t382 => (if t382 = true then (laws_FnSegPut.j0 k t367 t370 (t370 != t379) t352 t353 t356 t357 t358 t363 t364) else (laws_FnSegPut.j0 k t367 t370 true t352 t353 t356 t357 t358 t363 t364))) = some r := by rw [if_pos rfl] at H;exact H
    clear H
    have H := H1
    clear H1
    replace H := Option.bind_eq_some_iff.mp H
    obtain ⟨t382, A320, H⟩ := H
    try dsimp only at H
    have A32 := mk_ A320
    clear A320
    by_cases c33 : t382 = true
    ·subst c33
     have H1 : (laws_FnSegPut.j0 k t367 t370 (t370 != t379) t352 t353 t356 t357 t358 t363 t364) = some r := by rw [if_pos rfl] at H;exact H
     clear H
     have H := H1
     clear H1
     have H' := mk_ H
     clear H
     have hnb34 := NB371_361.out
     have hnc34 := NB361_371.out
     have hnb35 := NB371_362.out
     have hnc35 := NB362_371.out
     have hnb36 := NB371_380.out
     have hnc36 := NB380_371.out
     obtain ⟨hcz37_0, hcz37_1⟩ := cz2 BK371.out
     obtain ⟨hfz37_0, hfz37_1⟩ := fz2 BK371.out
     have hnb38 := NB380_361.out
     have hnc38 := NB361_380.out
     have hnb39 := NB380_362.out
     have hnc39 := NB362_380.out
     obtain ⟨hcz40_0, hcz40_1⟩ := cz2 BK380.out
     obtain ⟨hfz40_0, hfz40_1⟩ := fz2 BK380.out
     go_wp2_with (first|((with_reducible refine gate_callee (f := 29) rfl ?_);refine goesL_ (some 36) rfl rfl Try.func29 (by kernel_rfl) rfl #[.agg #[.int .i64 t363, .slice Ao20 t364.length co20], .agg #[.int .i64 t372, .slice Ao29 t373.length co29]] rfl (by (try simp only [List.map_toArray, List.map_cons, List.map_nil]);first|done|rfl|(simp only [List.length_drop, List.length_take];rfl)) ?_;(with_reducible refine (laws_liJoin.calls k t363 _ _ t364 t372 _ _ t373 true _ ?side1 ?side2 ?side3 ?side4 A30.out).mono ?_);(case side1 => refine (Kd.V_reads' (e := 5) (base := w.heap.size) (ok := fun k_ => (((((some k_ ≠ (.slice Ao12 t353.length co12 : Value).ownBlock ∧ (some k_ ≠ (.slice Ao14 t358.length co14 : Value).ownBlock ∧ (k_ ≠ gb361 ∧ k_ ≠ gb362))) ∧ k_ ≠ gb371) ∧ some k_ ≠ (.slice Ao29 t373.length co29 : Value).ownBlock) ∧ some k_ ≠ (v377 : Value).ownBlock) ∧ k_ ≠ gb380)) (n := t364.length) (c := co20) ?_).2.2;exact (by (with_reducible repeat (first|apply yv0|apply yv1|apply yv2));exact (Kd.V_mono (Kd.V_far (p := ⟨gb380, 1, none⟩) (Kd.V_far (p := ⟨gb380, 0, none⟩) (Kd.V_mono HO366.out (fun k_ hk => (⟨hk, hk.2⟩ : _ ∧ k_ ≠ gb380))) (fun _ hk => hk.2) (.int .i64 t372)) (fun _ hk => hk.2) (.slice Ao29 t373.length co29)) (fun _ h_ => h_.1))));(case side2 => exact (Kd.V_reads' HO366.out).2.1);(case side3 => refine (Kd.R_reads' (e := 5) (base := w.heap.size) (ok := fun k_ => ((some k_ ≠ (v377 : Value).ownBlock ∧ some k_ ≠ (.slice Ao12 t353.length co12 : Value).ownBlock) ∧ some k_ ≠ (.slice Ao14 t358.length co14 : Value).ownBlock)) (n := t373.length) (c := co29) ?_).2.2;exact (by (with_reducible repeat (first|apply yr0|apply yr1|apply yr2));exact (Kd.R_mono (Kd.R_far (p := ⟨gb380, 1, none⟩) (Kd.R_far (p := ⟨gb380, 0, none⟩) (Kd.R_types HO375.out BK380.out (by decide)) (fun _ hk => hk.2) (.int .i64 t372)) (fun _ hk => hk.2) (.slice Ao29 t373.length co29)) (fun _ h_ => h_.1))));(case side4 => exact (Kd.R_reads' HO375.out).2.1);rintro e w41 ⟨rfl, hb⟩;refine ⟨_, rfl, ?_⟩;replace HO355 := mk_ (Kd.R_below (by (with_reducible repeat (first|apply yr0|apply yr1|apply yr2));exact (Kd.R_mono (Kd.R_far (p := ⟨gb380, 1, none⟩) (Kd.R_far (p := ⟨gb380, 0, none⟩) (Kd.R_types HO355.out BK380.out (by decide)) (fun _ hk => hk.2) (.int .i64 t372)) (fun _ hk => hk.2) (.slice Ao29 t373.length co29)) (fun _ h_ => h_.1))) hb);replace HO360 := mk_ (Kd.R_below (by (with_reducible repeat (first|apply yr0|apply yr1|apply yr2));exact (Kd.R_mono (Kd.R_far (p := ⟨gb380, 1, none⟩) (Kd.R_far (p := ⟨gb380, 0, none⟩) (Kd.R_types HO360.out BK380.out (by decide)) (fun _ hk => hk.2) (.int .i64 t372)) (fun _ hk => hk.2) (.slice Ao29 t373.length co29)) (fun _ h_ => h_.1))) hb);replace HO366 := mk_ (Kd.V_below (by (with_reducible repeat (first|apply yv0|apply yv1|apply yv2));exact (Kd.V_mono (Kd.V_far (p := ⟨gb380, 1, none⟩) (Kd.V_far (p := ⟨gb380, 0, none⟩) (Kd.V_mono HO366.out (fun k_ hk => (⟨hk, hk.2⟩ : _ ∧ k_ ≠ gb380))) (fun _ hk => hk.2) (.int .i64 t372)) (fun _ hk => hk.2) (.slice Ao29 t373.length co29)) (fun _ h_ => h_.1))) hb);replace HO369 := mk_ (Kd.V_below (by (with_reducible repeat (first|apply yv0|apply yv1|apply yv2));exact (Kd.V_mono (Kd.V_far (p := ⟨gb380, 1, none⟩) (Kd.V_far (p := ⟨gb380, 0, none⟩) (Kd.V_mono HO369.out (fun k_ hk => (⟨hk, hk.2⟩ : _ ∧ k_ ≠ gb380))) (fun _ hk => hk.2) (.int .i64 t372)) (fun _ hk => hk.2) (.slice Ao29 t373.length co29)) (fun _ h_ => h_.1))) hb);replace HO375 := mk_ (Kd.R_below (by (with_reducible repeat (first|apply yr0|apply yr1|apply yr2));exact (Kd.R_mono (Kd.R_far (p := ⟨gb380, 1, none⟩) (Kd.R_far (p := ⟨gb380, 0, none⟩) (Kd.R_types HO375.out BK380.out (by decide)) (fun _ hk => hk.2) (.int .i64 t372)) (fun _ hk => hk.2) (.slice Ao29 t373.length co29)) (fun _ h_ => h_.1))) hb);replace HO378 := mk_ (Kd.R_below (by (with_reducible repeat (first|apply yr0|apply yr1|apply yr2));exact (Kd.R_mono (Kd.R_far (p := ⟨gb380, 1, none⟩) (Kd.R_far (p := ⟨gb380, 0, none⟩) (Kd.R_types HO378.out BK380.out (by decide)) (fun _ hk => hk.2) (.int .i64 t372)) (fun _ hk => hk.2) (.slice Ao29 t373.length co29)) (fun _ h_ => h_.1))) hb);replace BK361 := mk_ (zq6 (g := gb361) (o := .cells #[.int .i64 t352, .slice Ao12 t353.length co12] 35 (0, 0)) (by (with_reducible repeat (first|refine zq1 ?_ _|refine zq2 ?_|refine zq3 ?_ _));refine fa2 ?_ NB361_380.out;(with_reducible repeat (first|refine zq1 ?_ _|refine zq2 ?_|refine zq3 ?_ _));exact BK361.out) hb);replace BK362 := mk_ (zq6 (g := gb362) (o := .cells #[.int .i64 t356, .int .i64 t357, .slice Ao14 t358.length co14] 39 (0, 0)) (by (with_reducible repeat (first|refine zq1 ?_ _|refine zq2 ?_|refine zq3 ?_ _));refine fa2 ?_ NB362_380.out;(with_reducible repeat (first|refine zq1 ?_ _|refine zq2 ?_|refine zq3 ?_ _));exact BK362.out) hb);replace BK371 := mk_ (zq6 (g := gb371) (o := .cells #[.int .i64 t363, .slice Ao20 t364.length co20] 35 (0, 0)) (by (with_reducible repeat (first|refine zq1 ?_ _|refine zq2 ?_|refine zq3 ?_ _));refine fa2 ?_ NB371_380.out;(with_reducible repeat (first|refine zq1 ?_ _|refine zq2 ?_|refine zq3 ?_ _));exact BK371.out) hb);replace BK380 := mk_ (zq6 (g := gb380) (o := .cells #[.int .i64 t372, .slice Ao29 t373.length co29] 35 (0, 0)) (by (with_reducible repeat (first|refine zq1 ?_ _|refine zq2 ?_|refine zq3 ?_ _));apply pu2;(with_reducible repeat (first|refine zq1 ?_ _|refine zq2 ?_|refine zq3 ?_ _));exact BK380.out) hb);replace HB := mk_ (zr3 (by repeat (first|(with_reducible first|exact HB.out|apply zq7|apply zq8|apply zq9|refine zr1 ?_ GE361.out|refine zr1 ?_ GE362.out|refine zr1 ?_ GE371.out|refine zr1 ?_ GE380.out)|exact HB.out)) hb);(try clear hb);(try clear hb2);(try clear hk);(try clear hi);obtain ⟨Ao42, co42, eo42⟩ := Kd.V_slice HO369.out;subst eo42;obtain ⟨Ao43, co43, eo43⟩ := Kd.R_slice HO378.out;subst eo43)|(go_at_call 28;(with_reducible refine (laws_liBytes.calls k _ _ t367 _ _ t376 true _ ?side1 ?side2 ?side3 ?side4 A32.out).mono ?_);(case side1 => repeat (first|exact (Kd.V_reads' HO369.out).2.2|(with_reducible refine Kd.C_alloc ?_ _)|(with_reducible refine Kd.C_drewN ?_ _)|(with_reducible refine Kd.C_drew ?_)));(case side2 => exact (Kd.V_reads' HO369.out).2.1);(case side3 => repeat (first|exact (Kd.R_reads' HO378.out).2.2|(with_reducible refine Kd.C_alloc ?_ _)|(with_reducible refine Kd.C_drewN ?_ _)|(with_reducible refine Kd.C_drew ?_)));(case side4 => exact (Kd.R_reads' HO378.out).2.1);rintro e w' ⟨rfl, ⟨nd, rfl⟩⟩))
     go_meet
     case rel => exact ⟨_, ((t370 != t379)), (by first|rfl|(simp;done)|(simp [*];done)), H', ⟨by first|omega|exact Nat.le_refl _⟩, ⟨by (with_reducible repeat (first|apply yv0|apply yv1|apply yv2));exact Kd.V_mono HO369.out (fun _ hk => ⟨hk.1.1.1.1.1, ⟨hk.1.1.1.1.2.1, ⟨hk.1.1.2, ⟨hk.1.1.1.1.2.2.1, ⟨hk.1.1.1.1.2.2.2, ⟨hk.1.1.1.2, hk.2⟩⟩⟩⟩⟩⟩)⟩, ⟨by (with_reducible repeat (first|apply yr0|apply yr1|apply yr2));exact Kd.R_mono HO355.out (fun _ hk => ⟨hk.1.1, hk.1.2⟩)⟩, ⟨by (with_reducible repeat (first|apply yr0|apply yr1|apply yr2));exact Kd.R_mono HO360.out (fun _ hk => ⟨hk.1.1, hk.1.2⟩)⟩, ⟨by (with_reducible repeat (first|apply yv0|apply yv1|apply yv2));exact Kd.V_mono HO366.out (fun _ hk => ⟨hk.1.1.1.1.1, ⟨hk.1.1.1.1.2.1, ⟨hk.1.1.2, ⟨hk.1.1.1.1.2.2.1, ⟨hk.1.1.1.1.2.2.2, ⟨hk.1.1.1.2, hk.2⟩⟩⟩⟩⟩⟩)⟩, ⟨by (with_reducible repeat (first|apply yr0|apply yr1|apply yr2));exact Kd.R_mono HO375.out (fun _ hk => ⟨hk.1.2, hk.2⟩)⟩, ⟨by (with_reducible repeat (first|refine zq1 ?_ _|refine zq2 ?_|refine zq3 ?_ _));exact BK361.out⟩, ⟨by (with_reducible repeat (first|refine zq1 ?_ _|refine zq2 ?_|refine zq3 ?_ _));exact BK362.out⟩, ⟨by (with_reducible repeat (first|refine zq1 ?_ _|refine zq2 ?_|refine zq3 ?_ _));exact BK371.out⟩, ⟨by (with_reducible repeat (first|refine zq1 ?_ _|refine zq2 ?_|refine zq3 ?_ _));exact BK380.out⟩, ⟨by repeat (first|(with_reducible first|exact HB.out|apply zq7|apply zq8|apply zq9|refine zr1 ?_ GE361.out|refine zr1 ?_ GE362.out|refine zr1 ?_ GE371.out|refine zr1 ?_ GE380.out)|exact HB.out)⟩⟩
    ·replace c33 := Bool.eq_false_iff.mpr c33
     subst c33
     have H1 : (laws_FnSegPut.j0 k t367 t370 true t352 t353 t356 t357 t358 t363 t364) = some r := by rw [if_neg (show ¬ (false = true) by decide)] at H;exact H
     clear H
     have H := H1
     clear H1
     have H' := mk_ H
     clear H
     have hnb44 := NB371_361.out
     have hnc44 := NB361_371.out
     have hnb45 := NB371_362.out
     have hnc45 := NB362_371.out
     have hnb46 := NB371_380.out
     have hnc46 := NB380_371.out
     obtain ⟨hcz47_0, hcz47_1⟩ := cz2 BK371.out
     obtain ⟨hfz47_0, hfz47_1⟩ := fz2 BK371.out
     have hnb48 := NB380_361.out
     have hnc48 := NB361_380.out
     have hnb49 := NB380_362.out
     have hnc49 := NB362_380.out
     obtain ⟨hcz50_0, hcz50_1⟩ := cz2 BK380.out
     obtain ⟨hfz50_0, hfz50_1⟩ := fz2 BK380.out
     go_wp2_with (first|((with_reducible refine gate_callee (f := 29) rfl ?_);refine goesL_ (some 36) rfl rfl Try.func29 (by kernel_rfl) rfl #[.agg #[.int .i64 t363, .slice Ao20 t364.length co20], .agg #[.int .i64 t372, .slice Ao29 t373.length co29]] rfl (by (try simp only [List.map_toArray, List.map_cons, List.map_nil]);first|done|rfl|(simp only [List.length_drop, List.length_take];rfl)) ?_;(with_reducible refine (laws_liJoin.calls k t363 _ _ t364 t372 _ _ t373 true _ ?side1 ?side2 ?side3 ?side4 A30.out).mono ?_);(case side1 => refine (Kd.V_reads' (e := 5) (base := w.heap.size) (ok := fun k_ => (((((some k_ ≠ (.slice Ao12 t353.length co12 : Value).ownBlock ∧ (some k_ ≠ (.slice Ao14 t358.length co14 : Value).ownBlock ∧ (k_ ≠ gb361 ∧ k_ ≠ gb362))) ∧ k_ ≠ gb371) ∧ some k_ ≠ (.slice Ao29 t373.length co29 : Value).ownBlock) ∧ some k_ ≠ (v377 : Value).ownBlock) ∧ k_ ≠ gb380)) (n := t364.length) (c := co20) ?_).2.2;exact (by (with_reducible repeat (first|apply yv0|apply yv1|apply yv2));exact (Kd.V_mono (Kd.V_far (p := ⟨gb380, 1, none⟩) (Kd.V_far (p := ⟨gb380, 0, none⟩) (Kd.V_mono HO366.out (fun k_ hk => (⟨hk, hk.2⟩ : _ ∧ k_ ≠ gb380))) (fun _ hk => hk.2) (.int .i64 t372)) (fun _ hk => hk.2) (.slice Ao29 t373.length co29)) (fun _ h_ => h_.1))));(case side2 => exact (Kd.V_reads' HO366.out).2.1);(case side3 => refine (Kd.R_reads' (e := 5) (base := w.heap.size) (ok := fun k_ => ((some k_ ≠ (v377 : Value).ownBlock ∧ some k_ ≠ (.slice Ao12 t353.length co12 : Value).ownBlock) ∧ some k_ ≠ (.slice Ao14 t358.length co14 : Value).ownBlock)) (n := t373.length) (c := co29) ?_).2.2;exact (by (with_reducible repeat (first|apply yr0|apply yr1|apply yr2));exact (Kd.R_mono (Kd.R_far (p := ⟨gb380, 1, none⟩) (Kd.R_far (p := ⟨gb380, 0, none⟩) (Kd.R_types HO375.out BK380.out (by decide)) (fun _ hk => hk.2) (.int .i64 t372)) (fun _ hk => hk.2) (.slice Ao29 t373.length co29)) (fun _ h_ => h_.1))));(case side4 => exact (Kd.R_reads' HO375.out).2.1);rintro e w51 ⟨rfl, hb⟩;refine ⟨_, rfl, ?_⟩;replace HO355 := mk_ (Kd.R_below (by (with_reducible repeat (first|apply yr0|apply yr1|apply yr2));exact (Kd.R_mono (Kd.R_far (p := ⟨gb380, 1, none⟩) (Kd.R_far (p := ⟨gb380, 0, none⟩) (Kd.R_types HO355.out BK380.out (by decide)) (fun _ hk => hk.2) (.int .i64 t372)) (fun _ hk => hk.2) (.slice Ao29 t373.length co29)) (fun _ h_ => h_.1))) hb);replace HO360 := mk_ (Kd.R_below (by (with_reducible repeat (first|apply yr0|apply yr1|apply yr2));exact (Kd.R_mono (Kd.R_far (p := ⟨gb380, 1, none⟩) (Kd.R_far (p := ⟨gb380, 0, none⟩) (Kd.R_types HO360.out BK380.out (by decide)) (fun _ hk => hk.2) (.int .i64 t372)) (fun _ hk => hk.2) (.slice Ao29 t373.length co29)) (fun _ h_ => h_.1))) hb);replace HO366 := mk_ (Kd.V_below (by (with_reducible repeat (first|apply yv0|apply yv1|apply yv2));exact (Kd.V_mono (Kd.V_far (p := ⟨gb380, 1, none⟩) (Kd.V_far (p := ⟨gb380, 0, none⟩) (Kd.V_mono HO366.out (fun k_ hk => (⟨hk, hk.2⟩ : _ ∧ k_ ≠ gb380))) (fun _ hk => hk.2) (.int .i64 t372)) (fun _ hk => hk.2) (.slice Ao29 t373.length co29)) (fun _ h_ => h_.1))) hb);replace HO369 := mk_ (Kd.V_below (by (with_reducible repeat (first|apply yv0|apply yv1|apply yv2));exact (Kd.V_mono (Kd.V_far (p := ⟨gb380, 1, none⟩) (Kd.V_far (p := ⟨gb380, 0, none⟩) (Kd.V_mono HO369.out (fun k_ hk => (⟨hk, hk.2⟩ : _ ∧ k_ ≠ gb380))) (fun _ hk => hk.2) (.int .i64 t372)) (fun _ hk => hk.2) (.slice Ao29 t373.length co29)) (fun _ h_ => h_.1))) hb);replace HO375 := mk_ (Kd.R_below (by (with_reducible repeat (first|apply yr0|apply yr1|apply yr2));exact (Kd.R_mono (Kd.R_far (p := ⟨gb380, 1, none⟩) (Kd.R_far (p := ⟨gb380, 0, none⟩) (Kd.R_types HO375.out BK380.out (by decide)) (fun _ hk => hk.2) (.int .i64 t372)) (fun _ hk => hk.2) (.slice Ao29 t373.length co29)) (fun _ h_ => h_.1))) hb);replace HO378 := mk_ (Kd.R_below (by (with_reducible repeat (first|apply yr0|apply yr1|apply yr2));exact (Kd.R_mono (Kd.R_far (p := ⟨gb380, 1, none⟩) (Kd.R_far (p := ⟨gb380, 0, none⟩) (Kd.R_types HO378.out BK380.out (by decide)) (fun _ hk => hk.2) (.int .i64 t372)) (fun _ hk => hk.2) (.slice Ao29 t373.length co29)) (fun _ h_ => h_.1))) hb);replace BK361 := mk_ (zq6 (g := gb361) (o := .cells #[.int .i64 t352, .slice Ao12 t353.length co12] 35 (0, 0)) (by (with_reducible repeat (first|refine zq1 ?_ _|refine zq2 ?_|refine zq3 ?_ _));refine fa2 ?_ NB361_380.out;(with_reducible repeat (first|refine zq1 ?_ _|refine zq2 ?_|refine zq3 ?_ _));exact BK361.out) hb);replace BK362 := mk_ (zq6 (g := gb362) (o := .cells #[.int .i64 t356, .int .i64 t357, .slice Ao14 t358.length co14] 39 (0, 0)) (by (with_reducible repeat (first|refine zq1 ?_ _|refine zq2 ?_|refine zq3 ?_ _));refine fa2 ?_ NB362_380.out;(with_reducible repeat (first|refine zq1 ?_ _|refine zq2 ?_|refine zq3 ?_ _));exact BK362.out) hb);replace BK371 := mk_ (zq6 (g := gb371) (o := .cells #[.int .i64 t363, .slice Ao20 t364.length co20] 35 (0, 0)) (by (with_reducible repeat (first|refine zq1 ?_ _|refine zq2 ?_|refine zq3 ?_ _));refine fa2 ?_ NB371_380.out;(with_reducible repeat (first|refine zq1 ?_ _|refine zq2 ?_|refine zq3 ?_ _));exact BK371.out) hb);replace BK380 := mk_ (zq6 (g := gb380) (o := .cells #[.int .i64 t372, .slice Ao29 t373.length co29] 35 (0, 0)) (by (with_reducible repeat (first|refine zq1 ?_ _|refine zq2 ?_|refine zq3 ?_ _));apply pu2;(with_reducible repeat (first|refine zq1 ?_ _|refine zq2 ?_|refine zq3 ?_ _));exact BK380.out) hb);replace HB := mk_ (zr3 (by repeat (first|(with_reducible first|exact HB.out|apply zq7|apply zq8|apply zq9|refine zr1 ?_ GE361.out|refine zr1 ?_ GE362.out|refine zr1 ?_ GE371.out|refine zr1 ?_ GE380.out)|exact HB.out)) hb);(try clear hb);(try clear hb2);(try clear hk);(try clear hi);obtain ⟨Ao52, co52, eo52⟩ := Kd.V_slice HO369.out;subst eo52;obtain ⟨Ao53, co53, eo53⟩ := Kd.R_slice HO378.out;subst eo53)|(go_at_call 28;(with_reducible refine (laws_liBytes.calls k _ _ t367 _ _ t376 false _ ?side1 ?side2 ?side3 ?side4 A32.out).mono ?_);(case side1 => repeat (first|exact (Kd.V_reads' HO369.out).2.2|(with_reducible refine Kd.C_alloc ?_ _)|(with_reducible refine Kd.C_drewN ?_ _)|(with_reducible refine Kd.C_drew ?_)));(case side2 => exact (Kd.V_reads' HO369.out).2.1);(case side3 => repeat (first|exact (Kd.R_reads' HO378.out).2.2|(with_reducible refine Kd.C_alloc ?_ _)|(with_reducible refine Kd.C_drewN ?_ _)|(with_reducible refine Kd.C_drew ?_)));(case side4 => exact (Kd.R_reads' HO378.out).2.1);rintro e w' ⟨rfl, ⟨nd, rfl⟩⟩))
     go_meet
     case rel => exact ⟨_, (true), (by first|rfl|(simp;done)|(simp [*];done)), H', ⟨by first|omega|exact Nat.le_refl _⟩, ⟨by (with_reducible repeat (first|apply yv0|apply yv1|apply yv2));exact Kd.V_mono HO369.out (fun _ hk => ⟨hk.1.1.1.1.1, ⟨hk.1.1.1.1.2.1, ⟨hk.1.1.2, ⟨hk.1.1.1.1.2.2.1, ⟨hk.1.1.1.1.2.2.2, ⟨hk.1.1.1.2, hk.2⟩⟩⟩⟩⟩⟩)⟩, ⟨by (with_reducible repeat (first|apply yr0|apply yr1|apply yr2));exact Kd.R_mono HO355.out (fun _ hk => ⟨hk.1.1, hk.1.2⟩)⟩, ⟨by (with_reducible repeat (first|apply yr0|apply yr1|apply yr2));exact Kd.R_mono HO360.out (fun _ hk => ⟨hk.1.1, hk.1.2⟩)⟩, ⟨by (with_reducible repeat (first|apply yv0|apply yv1|apply yv2));exact Kd.V_mono HO366.out (fun _ hk => ⟨hk.1.1.1.1.1, ⟨hk.1.1.1.1.2.1, ⟨hk.1.1.2, ⟨hk.1.1.1.1.2.2.1, ⟨hk.1.1.1.1.2.2.2, ⟨hk.1.1.1.2, hk.2⟩⟩⟩⟩⟩⟩)⟩, ⟨by (with_reducible repeat (first|apply yr0|apply yr1|apply yr2));exact Kd.R_mono HO375.out (fun _ hk => ⟨hk.1.2, hk.2⟩)⟩, ⟨by (with_reducible repeat (first|refine zq1 ?_ _|refine zq2 ?_|refine zq3 ?_ _));exact BK361.out⟩, ⟨by (with_reducible repeat (first|refine zq1 ?_ _|refine zq2 ?_|refine zq3 ?_ _));exact BK362.out⟩, ⟨by (with_reducible repeat (first|refine zq1 ?_ _|refine zq2 ?_|refine zq3 ?_ _));exact BK371.out⟩, ⟨by (with_reducible repeat (first|refine zq1 ?_ _|refine zq2 ?_|refine zq3 ?_ _));exact BK380.out⟩, ⟨by repeat (first|(with_reducible first|exact HB.out|apply zq7|apply zq8|apply zq9|refine zr1 ?_ GE361.out|refine zr1 ?_ GE362.out|refine zr1 ?_ GE371.out|refine zr1 ?_ GE380.out)|exact HB.out)⟩⟩
   ·replace c31 := Bool.eq_false_iff.mpr c31
    subst c31
    have H1 : (laws_FnSegPut.j0 k t367 t370 true t352 t353 t356 t357 t358 t363 t364) = some r := by rw [if_neg (show ¬ (false = true) by decide)] at H;exact H
    clear H
    have H := H1
    clear H1
    have H' := mk_ H
    clear H
    have hnb54 := NB371_361.out
    have hnc54 := NB361_371.out
    have hnb55 := NB371_362.out
    have hnc55 := NB362_371.out
    have hnb56 := NB371_380.out
    have hnc56 := NB380_371.out
    obtain ⟨hcz57_0, hcz57_1⟩ := cz2 BK371.out
    obtain ⟨hfz57_0, hfz57_1⟩ := fz2 BK371.out
    have hnb58 := NB380_361.out
    have hnc58 := NB361_380.out
    have hnb59 := NB380_362.out
    have hnc59 := NB362_380.out
    obtain ⟨hcz60_0, hcz60_1⟩ := cz2 BK380.out
    obtain ⟨hfz60_0, hfz60_1⟩ := fz2 BK380.out
    go_wp2_with (first|((with_reducible refine gate_callee (f := 29) rfl ?_);refine goesL_ (some 36) rfl rfl Try.func29 (by kernel_rfl) rfl #[.agg #[.int .i64 t363, .slice Ao20 t364.length co20], .agg #[.int .i64 t372, .slice Ao29 t373.length co29]] rfl (by (try simp only [List.map_toArray, List.map_cons, List.map_nil]);first|done|rfl|(simp only [List.length_drop, List.length_take];rfl)) ?_;(with_reducible refine (laws_liJoin.calls k t363 _ _ t364 t372 _ _ t373 false _ ?side1 ?side2 ?side3 ?side4 A30.out).mono ?_);(case side1 => refine (Kd.V_reads' (e := 5) (base := w.heap.size) (ok := fun k_ => (((((some k_ ≠ (.slice Ao12 t353.length co12 : Value).ownBlock ∧ (some k_ ≠ (.slice Ao14 t358.length co14 : Value).ownBlock ∧ (k_ ≠ gb361 ∧ k_ ≠ gb362))) ∧ k_ ≠ gb371) ∧ some k_ ≠ (.slice Ao29 t373.length co29 : Value).ownBlock) ∧ some k_ ≠ (v377 : Value).ownBlock) ∧ k_ ≠ gb380)) (n := t364.length) (c := co20) ?_).2.2;exact (by (with_reducible repeat (first|apply yv0|apply yv1|apply yv2));exact (Kd.V_mono (Kd.V_far (p := ⟨gb380, 1, none⟩) (Kd.V_far (p := ⟨gb380, 0, none⟩) (Kd.V_mono HO366.out (fun k_ hk => (⟨hk, hk.2⟩ : _ ∧ k_ ≠ gb380))) (fun _ hk => hk.2) (.int .i64 t372)) (fun _ hk => hk.2) (.slice Ao29 t373.length co29)) (fun _ h_ => h_.1))));(case side2 => exact (Kd.V_reads' HO366.out).2.1);(case side3 => refine (Kd.R_reads' (e := 5) (base := w.heap.size) (ok := fun k_ => ((some k_ ≠ (v377 : Value).ownBlock ∧ some k_ ≠ (.slice Ao12 t353.length co12 : Value).ownBlock) ∧ some k_ ≠ (.slice Ao14 t358.length co14 : Value).ownBlock)) (n := t373.length) (c := co29) ?_).2.2;exact (by (with_reducible repeat (first|apply yr0|apply yr1|apply yr2));exact (Kd.R_mono (Kd.R_far (p := ⟨gb380, 1, none⟩) (Kd.R_far (p := ⟨gb380, 0, none⟩) (Kd.R_types HO375.out BK380.out (by decide)) (fun _ hk => hk.2) (.int .i64 t372)) (fun _ hk => hk.2) (.slice Ao29 t373.length co29)) (fun _ h_ => h_.1))));(case side4 => exact (Kd.R_reads' HO375.out).2.1);rintro e w61 ⟨rfl, hb⟩;refine ⟨_, rfl, ?_⟩;replace HO355 := mk_ (Kd.R_below (by (with_reducible repeat (first|apply yr0|apply yr1|apply yr2));exact (Kd.R_mono (Kd.R_far (p := ⟨gb380, 1, none⟩) (Kd.R_far (p := ⟨gb380, 0, none⟩) (Kd.R_types HO355.out BK380.out (by decide)) (fun _ hk => hk.2) (.int .i64 t372)) (fun _ hk => hk.2) (.slice Ao29 t373.length co29)) (fun _ h_ => h_.1))) hb);replace HO360 := mk_ (Kd.R_below (by (with_reducible repeat (first|apply yr0|apply yr1|apply yr2));exact (Kd.R_mono (Kd.R_far (p := ⟨gb380, 1, none⟩) (Kd.R_far (p := ⟨gb380, 0, none⟩) (Kd.R_types HO360.out BK380.out (by decide)) (fun _ hk => hk.2) (.int .i64 t372)) (fun _ hk => hk.2) (.slice Ao29 t373.length co29)) (fun _ h_ => h_.1))) hb);replace HO366 := mk_ (Kd.V_below (by (with_reducible repeat (first|apply yv0|apply yv1|apply yv2));exact (Kd.V_mono (Kd.V_far (p := ⟨gb380, 1, none⟩) (Kd.V_far (p := ⟨gb380, 0, none⟩) (Kd.V_mono HO366.out (fun k_ hk => (⟨hk, hk.2⟩ : _ ∧ k_ ≠ gb380))) (fun _ hk => hk.2) (.int .i64 t372)) (fun _ hk => hk.2) (.slice Ao29 t373.length co29)) (fun _ h_ => h_.1))) hb);replace HO369 := mk_ (Kd.V_below (by (with_reducible repeat (first|apply yv0|apply yv1|apply yv2));exact (Kd.V_mono (Kd.V_far (p := ⟨gb380, 1, none⟩) (Kd.V_far (p := ⟨gb380, 0, none⟩) (Kd.V_mono HO369.out (fun k_ hk => (⟨hk, hk.2⟩ : _ ∧ k_ ≠ gb380))) (fun _ hk => hk.2) (.int .i64 t372)) (fun _ hk => hk.2) (.slice Ao29 t373.length co29)) (fun _ h_ => h_.1))) hb);replace HO375 := mk_ (Kd.R_below (by (with_reducible repeat (first|apply yr0|apply yr1|apply yr2));exact (Kd.R_mono (Kd.R_far (p := ⟨gb380, 1, none⟩) (Kd.R_far (p := ⟨gb380, 0, none⟩) (Kd.R_types HO375.out BK380.out (by decide)) (fun _ hk => hk.2) (.int .i64 t372)) (fun _ hk => hk.2) (.slice Ao29 t373.length co29)) (fun _ h_ => h_.1))) hb);replace HO378 := mk_ (Kd.R_below (by (with_reducible repeat (first|apply yr0|apply yr1|apply yr2));exact (Kd.R_mono (Kd.R_far (p := ⟨gb380, 1, none⟩) (Kd.R_far (p := ⟨gb380, 0, none⟩) (Kd.R_types HO378.out BK380.out (by decide)) (fun _ hk => hk.2) (.int .i64 t372)) (fun _ hk => hk.2) (.slice Ao29 t373.length co29)) (fun _ h_ => h_.1))) hb);replace BK361 := mk_ (zq6 (g := gb361) (o := .cells #[.int .i64 t352, .slice Ao12 t353.length co12] 35 (0, 0)) (by (with_reducible repeat (first|refine zq1 ?_ _|refine zq2 ?_|refine zq3 ?_ _));refine fa2 ?_ NB361_380.out;(with_reducible repeat (first|refine zq1 ?_ _|refine zq2 ?_|refine zq3 ?_ _));exact BK361.out) hb);replace BK362 := mk_ (zq6 (g := gb362) (o := .cells #[.int .i64 t356, .int .i64 t357, .slice Ao14 t358.length co14] 39 (0, 0)) (by (with_reducible repeat (first|refine zq1 ?_ _|refine zq2 ?_|refine zq3 ?_ _));refine fa2 ?_ NB362_380.out;(with_reducible repeat (first|refine zq1 ?_ _|refine zq2 ?_|refine zq3 ?_ _));exact BK362.out) hb);replace BK371 := mk_ (zq6 (g := gb371) (o := .cells #[.int .i64 t363, .slice Ao20 t364.length co20] 35 (0, 0)) (by (with_reducible repeat (first|refine zq1 ?_ _|refine zq2 ?_|refine zq3 ?_ _));refine fa2 ?_ NB371_380.out;(with_reducible repeat (first|refine zq1 ?_ _|refine zq2 ?_|refine zq3 ?_ _));exact BK371.out) hb);replace BK380 := mk_ (zq6 (g := gb380) (o := .cells #[.int .i64 t372, .slice Ao29 t373.length co29] 35 (0, 0)) (by (with_reducible repeat (first|refine zq1 ?_ _|refine zq2 ?_|refine zq3 ?_ _));apply pu2;(with_reducible repeat (first|refine zq1 ?_ _|refine zq2 ?_|refine zq3 ?_ _));exact BK380.out) hb);replace HB := mk_ (zr3 (by repeat (first|(with_reducible first|exact HB.out|apply zq7|apply zq8|apply zq9|refine zr1 ?_ GE361.out|refine zr1 ?_ GE362.out|refine zr1 ?_ GE371.out|refine zr1 ?_ GE380.out)|exact HB.out)) hb);(try clear hb);(try clear hb2);(try clear hk);(try clear hi)))
    go_meet
    case rel => exact ⟨_, (true), (by first|rfl|(simp;done)|(simp [*];done)), H', ⟨by first|omega|exact Nat.le_refl _⟩, ⟨by (with_reducible repeat (first|apply yv0|apply yv1|apply yv2));exact Kd.V_mono HO369.out (fun _ hk => ⟨hk.1.1.1.1.1, ⟨hk.1.1.1.1.2.1, ⟨hk.1.1.2, ⟨hk.1.1.1.1.2.2.1, ⟨hk.1.1.1.1.2.2.2, ⟨hk.1.1.1.2, hk.2⟩⟩⟩⟩⟩⟩)⟩, ⟨by (with_reducible repeat (first|apply yr0|apply yr1|apply yr2));exact Kd.R_mono HO355.out (fun _ hk => ⟨hk.1.1, hk.1.2⟩)⟩, ⟨by (with_reducible repeat (first|apply yr0|apply yr1|apply yr2));exact Kd.R_mono HO360.out (fun _ hk => ⟨hk.1.1, hk.1.2⟩)⟩, ⟨by (with_reducible repeat (first|apply yv0|apply yv1|apply yv2));exact Kd.V_mono HO366.out (fun _ hk => ⟨hk.1.1.1.1.1, ⟨hk.1.1.1.1.2.1, ⟨hk.1.1.2, ⟨hk.1.1.1.1.2.2.1, ⟨hk.1.1.1.1.2.2.2, ⟨hk.1.1.1.2, hk.2⟩⟩⟩⟩⟩⟩)⟩, ⟨by (with_reducible repeat (first|apply yr0|apply yr1|apply yr2));exact Kd.R_mono HO375.out (fun _ hk => ⟨hk.1.2, hk.2⟩)⟩, ⟨by (with_reducible repeat (first|refine zq1 ?_ _|refine zq2 ?_|refine zq3 ?_ _));exact BK361.out⟩, ⟨by (with_reducible repeat (first|refine zq1 ?_ _|refine zq2 ?_|refine zq3 ?_ _));exact BK362.out⟩, ⟨by (with_reducible repeat (first|refine zq1 ?_ _|refine zq2 ?_|refine zq3 ?_ _));exact BK371.out⟩, ⟨by (with_reducible repeat (first|refine zq1 ?_ _|refine zq2 ?_|refine zq3 ?_ _));exact BK380.out⟩, ⟨by repeat (first|(with_reducible first|exact HB.out|apply zq7|apply zq8|apply zq9|refine zr1 ?_ GE361.out|refine zr1 ?_ GE362.out|refine zr1 ?_ GE371.out|refine zr1 ?_ GE380.out)|exact HB.out)⟩⟩
  case rest =>
   clear HC6
   try clear c1
   try clear c2
   try clear c2b0
   try clear c2b1
   try clear p2
   try clear c3
   try clear c4
   try clear c5
   try clear c9
   try clear c10
   try clear c17
   try clear c18
   try clear c25
   try clear c26
   try clear c27
   try clear c29
   try clear c31
   try clear c33
   try clear c34
   try clear c35
   try clear c36
   try clear c38
   try clear c39
   try clear c43
   try clear c44
   try clear c45
   try clear c46
   try clear c48
   try clear c49
   try clear c54
   try clear c55
   try clear c56
   try clear c58
   try clear c59
   try clear hcz11_0 hcz11_1
   try clear hcz13_0 hcz13_1 hcz13_2
   try clear hcz19_0 hcz19_1
   try clear hcz21_0 hcz21_1
   try clear hcz22_0 hcz22_1 hcz22_2
   try clear hcz28_0 hcz28_1
   try clear hcz37_0 hcz37_1
   try clear hcz40_0 hcz40_1
   try clear hcz47_0 hcz47_1
   try clear hcz50_0 hcz50_1
   try clear hcz57_0 hcz57_1
   try clear hcz60_0 hcz60_1
   try clear hfz11_0 hfz11_1
   try clear hfz13_0 hfz13_1 hfz13_2
   try clear hfz19_0 hfz19_1
   try clear hfz21_0 hfz21_1
   try clear hfz22_0 hfz22_1 hfz22_2
   try clear hfz28_0 hfz28_1
   try clear hfz37_0 hfz37_1
   try clear hfz40_0 hfz40_1
   try clear hfz47_0 hfz47_1
   try clear hfz50_0 hfz50_1
   try clear hfz57_0 hfz57_1
   try clear hfz60_0 hfz60_1
   obtain ⟨kq, x48_5, rfl, HA, HJ5, he, ha, HO_363002, HO_372001, hc, BK361, BK362, BK371, BK380, HB⟩ := hcut
   cases kq with
  |zero => exact absurd HA.out (by simp [laws_FnSegPut.j0])
  |succ kj5 =>
    have H := HA.out
    clear HA
    simp only [laws_FnSegPut.j0] at H
    by_cases c62 : x48_5 = true
    ·subst c62
     have H1 : (some false) = some r := by rw [if_pos rfl] at H;exact H
     clear H
     have H := H1
     clear H1
     obtain rfl := Option.some.inj H
     go_wp2
     go_ret
     exact ⟨by first|rfl|(simp [errW_none, errW_some] <;> rfl)|(simp [*, errW_none, errW_some] <;> rfl), by repeat (first|(with_reducible first|exact HB.out|apply zq7|apply zq8|apply zq9|refine zr1 ?_ GE361.out|refine zr1 ?_ GE362.out|refine zr1 ?_ GE371.out|refine zr1 ?_ GE380.out)|exact HB.out)⟩
    ·replace c62 := Bool.eq_false_iff.mpr c62
     subst c62
     have H1 : ((spec_JoinOk.f t352 t353).bind fun t383 => (if t383 = true then ((spec_PartOk.f kj5 t356 t357 t358).bind fun t384 => (laws_FnSegPut.j1 kj5 t367 t370 (!t384) t352 t353 t356 t357 t358 t363 t364)) else (laws_FnSegPut.j1 kj5 t367 t370 true t352 t353 t356 t357 t358 t363 t364))) = some r := by rw [if_neg (show ¬ (false = true) by decide)] at H;exact H
     clear H
     have H := H1
     clear H1
     have HC63 := mk_ H
     clear H
     go_upto_region 8 with (fail)
     go_cut [56] (fun v56 wc => ∃ (kq : Nat) (x56_62 : Bool), v56 = .bool x56_62 ∧ Aside0 (laws_FnSegPut.j1 kq t367 t370 x56_62 t352 t353 t356 t357 t358 t363 t364 = some r) ∧ Aside0 (kq ≤ kj5) ∧ Aside0 (Kd.V (Kd.int .u8) 5 wc w.heap.size (fun k_ => some k_ ≠ ((.slice Ao12 t353.length co12) : Value).ownBlock ∧ some k_ ≠ ((.slice Ao14 t358.length co14) : Value).ownBlock ∧ some k_ ≠ ((.slice Ao29 t373.length co29) : Value).ownBlock ∧ k_ ≠ gb361 ∧ k_ ≠ gb362 ∧ k_ ≠ gb371 ∧ k_ ≠ gb380) v368 t367) ∧ Aside0 (Kd.R (Kd.int .u8) 5 wc w.heap.size (fun k_ => some k_ ≠ ((.slice Ao14 t358.length co14) : Value).ownBlock ∧ some k_ ≠ ((.slice Ao29 t373.length co29) : Value).ownBlock) (.slice Ao12 t353.length co12) t353) ∧ Aside0 (Kd.R (Kd.int .u8) 5 wc w.heap.size (fun k_ => some k_ ≠ ((.slice Ao12 t353.length co12) : Value).ownBlock ∧ some k_ ≠ ((.slice Ao29 t373.length co29) : Value).ownBlock) (.slice Ao14 t358.length co14) t358) ∧ Aside0 (Kd.V (Kd.int .u8) 5 wc w.heap.size (fun k_ => some k_ ≠ ((.slice Ao12 t353.length co12) : Value).ownBlock ∧ some k_ ≠ ((.slice Ao14 t358.length co14) : Value).ownBlock ∧ some k_ ≠ ((.slice Ao29 t373.length co29) : Value).ownBlock ∧ k_ ≠ gb361 ∧ k_ ≠ gb362 ∧ k_ ≠ gb371 ∧ k_ ≠ gb380) (.slice Ao20 t364.length co20) t364) ∧ Aside0 (Kd.R (Kd.int .u8) 5 wc w.heap.size (fun k_ => some k_ ≠ ((.slice Ao12 t353.length co12) : Value).ownBlock ∧ some k_ ≠ ((.slice Ao14 t358.length co14) : Value).ownBlock) (.slice Ao29 t373.length co29) t373) ∧ Aside0 (wc.heap[gb361]? = some (.cells #[.int .i64 t352, (.slice Ao12 t353.length co12)] 35 (0, 0))) ∧ Aside0 (wc.heap[gb362]? = some (.cells #[.int .i64 t356, .int .i64 t357, (.slice Ao14 t358.length co14)] 39 (0, 0))) ∧ Aside0 (wc.heap[gb371]? = some (.cells #[.int .i64 t363, (.slice Ao20 t364.length co20)] 35 (0, 0))) ∧ Aside0 (wc.heap[gb380]? = some (.cells #[.int .i64 t372, (.slice Ao29 t373.length co29)] 35 (0, 0))) ∧ Aside0 (Below w.heap.size w wc))
     case first =>
      have H := HC63.out
      clear HC63
      replace H := Option.bind_eq_some_iff.mp H
      obtain ⟨t383, A640, H⟩ := H
      try dsimp only at H
      have A64 := mk_ A640
      clear A640
      by_cases c65 : t383 = true
      ·subst c65
       have H1 : ((spec_PartOk.f kj5 t356 t357 t358).bind fun t384 => (laws_FnSegPut.j1 kj5 t367 t370 (!t384) t352 t353 t356 t357 t358 t363 t364)) = some r := by rw [if_pos rfl] at H;exact H
       clear H
       have H := H1
       clear H1
       replace H := Option.bind_eq_some_iff.mp H
       obtain ⟨t384, A660, H⟩ := H
       try dsimp only at H
       have A66 := mk_ A660
       clear A660
       have H' := mk_ H
       clear H
       have hnb67 := NB361_362.out
       have hnc67 := NB362_361.out
       have hnb68 := NB361_371.out
       have hnc68 := NB371_361.out
       have hnb69 := NB361_380.out
       have hnc69 := NB380_361.out
       obtain ⟨hcz70_0, hcz70_1⟩ := cz2 BK361.out
       obtain ⟨hfz70_0, hfz70_1⟩ := fz2 BK361.out
       go_wp2_with (first|((with_reducible refine gate_callee (f := 44) rfl ?_);refine goesL_ (some 50) rfl rfl Try.func44 (by kernel_rfl) rfl #[.agg #[.int .i64 t352, .slice Ao12 t353.length co12]] rfl (by (try simp only [List.map_toArray, List.map_cons, List.map_nil]);first|done|rfl|(simp only [List.length_drop, List.length_take];rfl)) ?_;(with_reducible refine (spec_JoinOk.calls t352 _ _ t353 true _ ?side1 ?side2 A64.out).mono ?_);(case side1 => repeat (first|exact (Kd.R_reads' ha.out).2.2|(with_reducible refine Kd.C_alloc ?_ _)|(with_reducible refine Kd.C_drewN ?_ _)|(with_reducible refine Kd.C_drew ?_)));(case side2 => exact (Kd.R_reads' ha.out).2.1);rintro e w71 ⟨rfl, hb⟩;refine ⟨_, rfl, ?_⟩;replace he := mk_ (Kd.V_below (by (with_reducible repeat (first|apply yv0|apply yv1|apply yv2));exact he.out) hb);replace ha := mk_ (Kd.R_below (by (with_reducible repeat (first|apply yr0|apply yr1|apply yr2));exact ha.out) hb);replace HO_363002 := mk_ (Kd.R_below (by (with_reducible repeat (first|apply yr0|apply yr1|apply yr2));exact HO_363002.out) hb);replace HO_372001 := mk_ (Kd.V_below (by (with_reducible repeat (first|apply yv0|apply yv1|apply yv2));exact HO_372001.out) hb);replace hc := mk_ (Kd.R_below (by (with_reducible repeat (first|apply yr0|apply yr1|apply yr2));exact hc.out) hb);replace BK361 := mk_ (zq6 (by exact BK361.out) hb);replace BK362 := mk_ (zq6 (by exact BK362.out) hb);replace BK371 := mk_ (zq6 (by exact BK371.out) hb);replace BK380 := mk_ (zq6 (by exact BK380.out) hb);replace HB := mk_ (zr3 (by repeat (first|(with_reducible first|exact HB.out|apply zq7|apply zq8|apply zq9|refine zr1 ?_ GE361.out|refine zr1 ?_ GE362.out|refine zr1 ?_ GE371.out|refine zr1 ?_ GE380.out)|exact HB.out)) hb);(try clear hb);(try clear hb2);(try clear hk);(try clear hi);have hnb72 := NB362_371.out;have hnc72 := NB371_362.out;have hnb73 := NB362_380.out;have hnc73 := NB380_362.out;obtain ⟨hcz74_0, hcz74_1, hcz74_2⟩ := cz3 BK362.out;obtain ⟨hfz74_0, hfz74_1, hfz74_2⟩ := fz3 BK362.out)|(go_at_call 45;(with_reducible refine (spec_PartOk.calls kj5 t356 t357 _ _ t358 t384 _ ?side1 ?side2 A66.out).mono ?_);(case side1 => repeat (first|exact (Kd.R_reads' HO_363002.out).2.2|(with_reducible refine Kd.C_alloc ?_ _)|(with_reducible refine Kd.C_drewN ?_ _)|(with_reducible refine Kd.C_drew ?_)));(case side2 => exact (Kd.R_reads' HO_363002.out).2.1);rintro e w75 ⟨rfl, hb⟩;replace he := mk_ (Kd.V_below (by (with_reducible repeat (first|apply yv0|apply yv1|apply yv2));exact he.out) hb);replace ha := mk_ (Kd.R_below (by (with_reducible repeat (first|apply yr0|apply yr1|apply yr2));exact ha.out) hb);replace HO_363002 := mk_ (Kd.R_below (by (with_reducible repeat (first|apply yr0|apply yr1|apply yr2));exact HO_363002.out) hb);replace HO_372001 := mk_ (Kd.V_below (by (with_reducible repeat (first|apply yv0|apply yv1|apply yv2));exact HO_372001.out) hb);replace hc := mk_ (Kd.R_below (by (with_reducible repeat (first|apply yr0|apply yr1|apply yr2));exact hc.out) hb);replace BK361 := mk_ (zq6 (by exact BK361.out) hb);replace BK362 := mk_ (zq6 (by exact BK362.out) hb);replace BK371 := mk_ (zq6 (by exact BK371.out) hb);replace BK380 := mk_ (zq6 (by exact BK380.out) hb);replace HB := mk_ (zr3 (by repeat (first|(with_reducible first|exact HB.out|apply zq7|apply zq8|apply zq9|refine zr1 ?_ GE361.out|refine zr1 ?_ GE362.out|refine zr1 ?_ GE371.out|refine zr1 ?_ GE380.out)|exact HB.out)) hb);(try clear hb);(try clear hb2);(try clear hk);(try clear hi)))
       go_meet
       case rel => exact ⟨_, (!t384), (by first|rfl|(simp;done)|(simp [*];done)), H', ⟨by have := HJ5.out;first|omega|exact Nat.le_refl _⟩, ⟨by (with_reducible repeat (first|apply yv0|apply yv1|apply yv2));exact he.out⟩, ⟨by (with_reducible repeat (first|apply yr0|apply yr1|apply yr2));exact ha.out⟩, ⟨by (with_reducible repeat (first|apply yr0|apply yr1|apply yr2));exact HO_363002.out⟩, ⟨by (with_reducible repeat (first|apply yv0|apply yv1|apply yv2));exact HO_372001.out⟩, ⟨by (with_reducible repeat (first|apply yr0|apply yr1|apply yr2));exact hc.out⟩, ⟨by (with_reducible repeat (first|refine zq1 ?_ _|refine zq2 ?_|refine zq3 ?_ _));exact BK361.out⟩, ⟨by (with_reducible repeat (first|refine zq1 ?_ _|refine zq2 ?_|refine zq3 ?_ _));exact BK362.out⟩, ⟨by (with_reducible repeat (first|refine zq1 ?_ _|refine zq2 ?_|refine zq3 ?_ _));exact BK371.out⟩, ⟨by (with_reducible repeat (first|refine zq1 ?_ _|refine zq2 ?_|refine zq3 ?_ _));exact BK380.out⟩, ⟨by repeat (first|(with_reducible first|exact HB.out|apply zq7|apply zq8|apply zq9|refine zr1 ?_ GE361.out|refine zr1 ?_ GE362.out|refine zr1 ?_ GE371.out|refine zr1 ?_ GE380.out)|exact HB.out)⟩⟩
      ·replace c65 := Bool.eq_false_iff.mpr c65
       subst c65
       have H1 : (laws_FnSegPut.j1 kj5 t367 t370 true t352 t353 t356 t357 t358 t363 t364) = some r := by rw [if_neg (show ¬ (false = true) by decide)] at H;exact H
       clear H
       have H := H1
       clear H1
       have H' := mk_ H
       clear H
       have hnb76 := NB361_362.out
       have hnc76 := NB362_361.out
       have hnb77 := NB361_371.out
       have hnc77 := NB371_361.out
       have hnb78 := NB361_380.out
       have hnc78 := NB380_361.out
       obtain ⟨hcz79_0, hcz79_1⟩ := cz2 BK361.out
       obtain ⟨hfz79_0, hfz79_1⟩ := fz2 BK361.out
       go_wp2_with (first|((with_reducible refine gate_callee (f := 44) rfl ?_);refine goesL_ (some 50) rfl rfl Try.func44 (by kernel_rfl) rfl #[.agg #[.int .i64 t352, .slice Ao12 t353.length co12]] rfl (by (try simp only [List.map_toArray, List.map_cons, List.map_nil]);first|done|rfl|(simp only [List.length_drop, List.length_take];rfl)) ?_;(with_reducible refine (spec_JoinOk.calls t352 _ _ t353 false _ ?side1 ?side2 A64.out).mono ?_);(case side1 => repeat (first|exact (Kd.R_reads' ha.out).2.2|(with_reducible refine Kd.C_alloc ?_ _)|(with_reducible refine Kd.C_drewN ?_ _)|(with_reducible refine Kd.C_drew ?_)));(case side2 => exact (Kd.R_reads' ha.out).2.1);rintro e w80 ⟨rfl, hb⟩;refine ⟨_, rfl, ?_⟩;replace he := mk_ (Kd.V_below (by (with_reducible repeat (first|apply yv0|apply yv1|apply yv2));exact he.out) hb);replace ha := mk_ (Kd.R_below (by (with_reducible repeat (first|apply yr0|apply yr1|apply yr2));exact ha.out) hb);replace HO_363002 := mk_ (Kd.R_below (by (with_reducible repeat (first|apply yr0|apply yr1|apply yr2));exact HO_363002.out) hb);replace HO_372001 := mk_ (Kd.V_below (by (with_reducible repeat (first|apply yv0|apply yv1|apply yv2));exact HO_372001.out) hb);replace hc := mk_ (Kd.R_below (by (with_reducible repeat (first|apply yr0|apply yr1|apply yr2));exact hc.out) hb);replace BK361 := mk_ (zq6 (by exact BK361.out) hb);replace BK362 := mk_ (zq6 (by exact BK362.out) hb);replace BK371 := mk_ (zq6 (by exact BK371.out) hb);replace BK380 := mk_ (zq6 (by exact BK380.out) hb);replace HB := mk_ (zr3 (by repeat (first|(with_reducible first|exact HB.out|apply zq7|apply zq8|apply zq9|refine zr1 ?_ GE361.out|refine zr1 ?_ GE362.out|refine zr1 ?_ GE371.out|refine zr1 ?_ GE380.out)|exact HB.out)) hb);(try clear hb);(try clear hb2);(try clear hk);(try clear hi)))
       go_meet
       case rel => exact ⟨_, (true), (by first|rfl|(simp;done)|(simp [*];done)), H', ⟨by have := HJ5.out;first|omega|exact Nat.le_refl _⟩, ⟨by (with_reducible repeat (first|apply yv0|apply yv1|apply yv2));exact he.out⟩, ⟨by (with_reducible repeat (first|apply yr0|apply yr1|apply yr2));exact ha.out⟩, ⟨by (with_reducible repeat (first|apply yr0|apply yr1|apply yr2));exact HO_363002.out⟩, ⟨by (with_reducible repeat (first|apply yv0|apply yv1|apply yv2));exact HO_372001.out⟩, ⟨by (with_reducible repeat (first|apply yr0|apply yr1|apply yr2));exact hc.out⟩, ⟨by (with_reducible repeat (first|refine zq1 ?_ _|refine zq2 ?_|refine zq3 ?_ _));exact BK361.out⟩, ⟨by (with_reducible repeat (first|refine zq1 ?_ _|refine zq2 ?_|refine zq3 ?_ _));exact BK362.out⟩, ⟨by (with_reducible repeat (first|refine zq1 ?_ _|refine zq2 ?_|refine zq3 ?_ _));exact BK371.out⟩, ⟨by (with_reducible repeat (first|refine zq1 ?_ _|refine zq2 ?_|refine zq3 ?_ _));exact BK380.out⟩, ⟨by repeat (first|(with_reducible first|exact HB.out|apply zq7|apply zq8|apply zq9|refine zr1 ?_ GE361.out|refine zr1 ?_ GE362.out|refine zr1 ?_ GE371.out|refine zr1 ?_ GE380.out)|exact HB.out)⟩⟩
     case rest =>
      clear HC63
      try clear c1
      try clear c2
      try clear c2b0
      try clear c2b1
      try clear p2
      try clear c3
      try clear c4
      try clear c5
      try clear c6
      try clear c7
      try clear c9
      try clear c10
      try clear c17
      try clear c18
      try clear c25
      try clear c26
      try clear c27
      try clear c29
      try clear c31
      try clear c33
      try clear c34
      try clear c35
      try clear c36
      try clear c38
      try clear c39
      try clear c43
      try clear c44
      try clear c45
      try clear c46
      try clear c48
      try clear c49
      try clear c54
      try clear c55
      try clear c56
      try clear c58
      try clear c59
      try clear c62
      try clear c65
      try clear c67
      try clear c68
      try clear c69
      try clear c72
      try clear c73
      try clear c76
      try clear c77
      try clear c78
      try clear hcz11_0 hcz11_1
      try clear hcz13_0 hcz13_1 hcz13_2
      try clear hcz19_0 hcz19_1
      try clear hcz21_0 hcz21_1
      try clear hcz22_0 hcz22_1 hcz22_2
      try clear hcz28_0 hcz28_1
      try clear hcz37_0 hcz37_1
      try clear hcz40_0 hcz40_1
      try clear hcz47_0 hcz47_1
      try clear hcz50_0 hcz50_1
      try clear hcz57_0 hcz57_1
      try clear hcz60_0 hcz60_1
      try clear hcz70_0 hcz70_1
      try clear hcz74_0 hcz74_1 hcz74_2
      try clear hcz79_0 hcz79_1
      try clear hfz11_0 hfz11_1
      try clear hfz13_0 hfz13_1 hfz13_2
      try clear hfz19_0 hfz19_1
      try clear hfz21_0 hfz21_1
      try clear hfz22_0 hfz22_1 hfz22_2
      try clear hfz28_0 hfz28_1
      try clear hfz37_0 hfz37_1
      try clear hfz40_0 hfz40_1
      try clear hfz47_0 hfz47_1
      try clear hfz50_0 hfz50_1
      try clear hfz57_0 hfz57_1
      try clear hfz60_0 hfz60_1
      try clear hfz70_0 hfz70_1
      try clear hfz74_0 hfz74_1 hfz74_2
      try clear hfz79_0 hfz79_1
      try clear p2
      obtain ⟨kq, x56_62, rfl, HA, HJ62, he, ha, HO_363002, HO_372001, hc, BK361, BK362, BK371, BK380, HB⟩ := hcut
      cases kq with
     |zero => exact absurd HA.out (by simp [laws_FnSegPut.j1])
     |succ kj62 =>
       have H := HA.out
       clear HA
       simp only [laws_FnSegPut.j1] at H
       by_cases c81 : x56_62 = true
       ·subst c81
        have H1 : (if t370 = 0 then ((laws_liJoin.f kj62 t363 t364 0 ([] : List Int)).bind fun t385 => (if t385 = true then ((laws_liOk.f).bind fun t386 => (some t386)) else (some false))) else (some false)) = some r := by rw [if_pos rfl] at H;exact H
        clear H
        have H := H1
        clear H1
        by_cases c82 : t370 = 0
        ·rw [if_pos c82] at H
         have c82b0 : (t370 == 0) = true := beq_iff_eq.mpr c82
         have c82b1 : (t370 != 0) = false := bne_eq_false_iff_eq.mpr c82
         clear c82
         replace H := Option.bind_eq_some_iff.mp H
         obtain ⟨t385, A830, H⟩ := H
         try dsimp only at H
         have A83 := mk_ A830
         clear A830
         by_cases c84 : t385 = true
         ·subst c84
          have H1 : ((laws_liOk.f).bind fun t386 => (some t386)) = some r := by rw [if_pos rfl] at H;exact H
          clear H
          have H := H1
          clear H1
          replace H := Option.bind_eq_some_iff.mp H
          obtain ⟨t386, A850, H⟩ := H
          try dsimp only at H
          have A85 := mk_ A850
          clear A850
          obtain rfl := Option.some.inj H
          have hnb86 := NB371_361.out
          have hnc86 := NB361_371.out
          have hnb87 := NB371_362.out
          have hnc87 := NB362_371.out
          have hnb88 := NB371_380.out
          have hnc88 := NB380_371.out
          obtain ⟨hcz89_0, hcz89_1⟩ := cz2 BK371.out
          obtain ⟨hfz89_0, hfz89_1⟩ := fz2 BK371.out
          go_wp2_with (first|(go_at_call 29;(refine (laws_liJoin.calls kj62 t363 _ _ t364 0 _ _ ([] : List Int) true _ ?side1 ?side2 ?side3 ?side4 A83.out).mono ?_);(case side1 => repeat (first|exact (Kd.V_reads' HO_372001.out).2.2|(with_reducible refine Kd.C_alloc ?_ _)|(with_reducible refine Kd.C_drewN ?_ _)|(with_reducible refine Kd.C_drew ?_)));(case side2 => exact (Kd.V_reads' HO_372001.out).2.1);(case side3 => exact Kd.C_nil _ _);(case side4 => exact Nat.le_refl _);rintro e w90 ⟨rfl, hb⟩;replace he := mk_ (Kd.V_below (by (with_reducible repeat (first|apply yv0|apply yv1|apply yv2));exact he.out) hb);replace ha := mk_ (Kd.R_below (by (with_reducible repeat (first|apply yr0|apply yr1|apply yr2));exact ha.out) hb);replace HO_363002 := mk_ (Kd.R_below (by (with_reducible repeat (first|apply yr0|apply yr1|apply yr2));exact HO_363002.out) hb);replace HO_372001 := mk_ (Kd.V_below (by (with_reducible repeat (first|apply yv0|apply yv1|apply yv2));exact HO_372001.out) hb);replace hc := mk_ (Kd.R_below (by (with_reducible repeat (first|apply yr0|apply yr1|apply yr2));exact hc.out) hb);replace BK361 := mk_ (zq6 (by exact BK361.out) hb);replace BK362 := mk_ (zq6 (by exact BK362.out) hb);replace BK371 := mk_ (zq6 (by exact BK371.out) hb);replace BK380 := mk_ (zq6 (by exact BK380.out) hb);replace HB := mk_ (zr3 (by repeat (first|(with_reducible first|exact HB.out|apply zq7|apply zq8|apply zq9|refine zr1 ?_ GE361.out|refine zr1 ?_ GE362.out|refine zr1 ?_ GE371.out|refine zr1 ?_ GE380.out)|exact HB.out)) hb);(try clear hb);(try clear hb2);(try clear hk);(try clear hi))|(go_at_call 25;(with_reducible refine (laws_liOk.calls  t386 _ A85.out).mono ?_);rintro e w91 ⟨rfl, hb⟩;replace he := mk_ (Kd.V_below (by (with_reducible repeat (first|apply yv0|apply yv1|apply yv2));exact he.out) hb);replace ha := mk_ (Kd.R_below (by (with_reducible repeat (first|apply yr0|apply yr1|apply yr2));exact ha.out) hb);replace HO_363002 := mk_ (Kd.R_below (by (with_reducible repeat (first|apply yr0|apply yr1|apply yr2));exact HO_363002.out) hb);replace HO_372001 := mk_ (Kd.V_below (by (with_reducible repeat (first|apply yv0|apply yv1|apply yv2));exact HO_372001.out) hb);replace hc := mk_ (Kd.R_below (by (with_reducible repeat (first|apply yr0|apply yr1|apply yr2));exact hc.out) hb);replace BK361 := mk_ (zq6 (by exact BK361.out) hb);replace BK362 := mk_ (zq6 (by exact BK362.out) hb);replace BK371 := mk_ (zq6 (by exact BK371.out) hb);replace BK380 := mk_ (zq6 (by exact BK380.out) hb);replace HB := mk_ (zr3 (by repeat (first|(with_reducible first|exact HB.out|apply zq7|apply zq8|apply zq9|refine zr1 ?_ GE361.out|refine zr1 ?_ GE362.out|refine zr1 ?_ GE371.out|refine zr1 ?_ GE380.out)|exact HB.out)) hb);(try clear hb);(try clear hb2);(try clear hk);(try clear hi)))
          go_ret
          exact ⟨by first|rfl|(simp [errW_none, errW_some] <;> rfl)|(simp [*, errW_none, errW_some] <;> rfl), by repeat (first|(with_reducible first|exact HB.out|apply zq7|apply zq8|apply zq9|refine zr1 ?_ GE361.out|refine zr1 ?_ GE362.out|refine zr1 ?_ GE371.out|refine zr1 ?_ GE380.out)|exact HB.out)⟩
         ·replace c84 := Bool.eq_false_iff.mpr c84
          subst c84
          have H1 : (some false) = some r := by rw [if_neg (show ¬ (false = true) by decide)] at H;exact H
          clear H
          have H := H1
          clear H1
          obtain rfl := Option.some.inj H
          have hnb92 := NB371_361.out
          have hnc92 := NB361_371.out
          have hnb93 := NB371_362.out
          have hnc93 := NB362_371.out
          have hnb94 := NB371_380.out
          have hnc94 := NB380_371.out
          obtain ⟨hcz95_0, hcz95_1⟩ := cz2 BK371.out
          obtain ⟨hfz95_0, hfz95_1⟩ := fz2 BK371.out
          go_wp2_with (first|(go_at_call 29;(refine (laws_liJoin.calls kj62 t363 _ _ t364 0 _ _ ([] : List Int) false _ ?side1 ?side2 ?side3 ?side4 A83.out).mono ?_);(case side1 => repeat (first|exact (Kd.V_reads' HO_372001.out).2.2|(with_reducible refine Kd.C_alloc ?_ _)|(with_reducible refine Kd.C_drewN ?_ _)|(with_reducible refine Kd.C_drew ?_)));(case side2 => exact (Kd.V_reads' HO_372001.out).2.1);(case side3 => exact Kd.C_nil _ _);(case side4 => exact Nat.le_refl _);rintro e w96 ⟨rfl, hb⟩;replace he := mk_ (Kd.V_below (by (with_reducible repeat (first|apply yv0|apply yv1|apply yv2));exact he.out) hb);replace ha := mk_ (Kd.R_below (by (with_reducible repeat (first|apply yr0|apply yr1|apply yr2));exact ha.out) hb);replace HO_363002 := mk_ (Kd.R_below (by (with_reducible repeat (first|apply yr0|apply yr1|apply yr2));exact HO_363002.out) hb);replace HO_372001 := mk_ (Kd.V_below (by (with_reducible repeat (first|apply yv0|apply yv1|apply yv2));exact HO_372001.out) hb);replace hc := mk_ (Kd.R_below (by (with_reducible repeat (first|apply yr0|apply yr1|apply yr2));exact hc.out) hb);replace BK361 := mk_ (zq6 (by exact BK361.out) hb);replace BK362 := mk_ (zq6 (by exact BK362.out) hb);replace BK371 := mk_ (zq6 (by exact BK371.out) hb);replace BK380 := mk_ (zq6 (by exact BK380.out) hb);replace HB := mk_ (zr3 (by repeat (first|(with_reducible first|exact HB.out|apply zq7|apply zq8|apply zq9|refine zr1 ?_ GE361.out|refine zr1 ?_ GE362.out|refine zr1 ?_ GE371.out|refine zr1 ?_ GE380.out)|exact HB.out)) hb);(try clear hb);(try clear hb2);(try clear hk);(try clear hi)))
          go_ret
          exact ⟨by first|rfl|(simp [errW_none, errW_some] <;> rfl)|(simp [*, errW_none, errW_some] <;> rfl), by repeat (first|(with_reducible first|exact HB.out|apply zq7|apply zq8|apply zq9|refine zr1 ?_ GE361.out|refine zr1 ?_ GE362.out|refine zr1 ?_ GE371.out|refine zr1 ?_ GE380.out)|exact HB.out)⟩
        ·rw [if_neg c82] at H
         have c82b0 : (t370 == 0) = false := beq_eq_false_iff_ne.mpr c82
         have c82b1 : (t370 != 0) = true := bne_iff_ne.mpr c82
         obtain rfl := Option.some.inj H
         go_wp2
         go_ret
         exact ⟨by first|rfl|(simp [errW_none, errW_some] <;> rfl)|(simp [*, errW_none, errW_some] <;> rfl), by repeat (first|(with_reducible first|exact HB.out|apply zq7|apply zq8|apply zq9|refine zr1 ?_ GE361.out|refine zr1 ?_ GE362.out|refine zr1 ?_ GE371.out|refine zr1 ?_ GE380.out)|exact HB.out)⟩
       ·replace c81 := Bool.eq_false_iff.mpr c81
        subst c81
        have H1 : ((some (([] : List Int) : List Int)).bind fun y387 => (if y387.length + t353.length < 140737488355328 then ((some (y387 ++ t353 : List Int)).bind fun y390 => (if y390.length + t358.length < 140737488355328 then ((some (y390 ++ t358 : List Int)).bind fun y393 => (if t370 = 1 then ((impl_JoinOk.f t363 t364).bind fun t396 => (if t396 = true then ((laws_liBytes.f kj62 t364 y393).bind fun t397 => (if t397 = true then (some ((t367.length : Int) == 0)) else (some false))) else (some false))) else (if t370 = 2 then ((laws_liJoin.f kj62 t363 t364 0 ([] : List Int)).bind fun t398 => (if t398 = true then ((laws_liBytes.f kj62 t367 y393).bind fun t399 => (if t399 = true then (if t352 = 0 then (some true) else (some ((t367.length : Int) == t352))) else (some false))) else (some false))) else (if t370 = 3 then ((laws_liJoin.f kj62 t363 t364 0 ([] : List Int)).bind fun t400 => (if t400 = true then (some ((t367.length : Int) == 0)) else (some false))) else (some false))))) else (none))) else (none))) = some r := by rw [if_neg (show ¬ (false = true) by decide)] at H;exact H
        clear H
        have H := H1
        clear H1
        obtain ⟨y387, hy387⟩ : ∃ y_ : List Int, y_ = (([] : List Int)) := ⟨_, rfl⟩
        replace H : (if y387.length + t353.length < 140737488355328 then ((some (y387 ++ t353 : List Int)).bind fun y390 => (if y390.length + t358.length < 140737488355328 then ((some (y390 ++ t358 : List Int)).bind fun y393 => (if t370 = 1 then ((impl_JoinOk.f t363 t364).bind fun t396 => (if t396 = true then ((laws_liBytes.f kj62 t364 y393).bind fun t397 => (if t397 = true then (some ((t367.length : Int) == 0)) else (some false))) else (some false))) else (if t370 = 2 then ((laws_liJoin.f kj62 t363 t364 0 ([] : List Int)).bind fun t398 => (if t398 = true then ((laws_liBytes.f kj62 t367 y393).bind fun t399 => (if t399 = true then (if t352 = 0 then (some true) else (some ((t367.length : Int) == t352))) else (some false))) else (some false))) else (if t370 = 3 then ((laws_liJoin.f kj62 t363 t364 0 ([] : List Int)).bind fun t400 => (if t400 = true then (some ((t367.length : Int) == 0)) else (some false))) else (some false))))) else (none))) else (none)) = some r := by first|(rw [hy387];with_reducible exact H)|(have H2_ := (Option.bind_some _ _).symm.trans H;rw [hy387];with_reducible exact H2_)|(have H2_ := (Option.bind_some _ _).symm.trans H;with_reducible exact H2_)|with_reducible exact H|(rw [hy387];exact H)|exact H
        have Ny387 := mk_ hy387
        clear hy387
        by_cases c97 : y387.length + t353.length < 140737488355328
        ·rw [if_pos c97] at H
         have LMc97 := mk_ c97
         clear c97
         obtain ⟨y390, hy390⟩ : ∃ y_ : List Int, y_ = (y387 ++ t353) := ⟨_, rfl⟩
         replace H : (if y390.length + t358.length < 140737488355328 then ((some (y390 ++ t358 : List Int)).bind fun y393 => (if t370 = 1 then ((impl_JoinOk.f t363 t364).bind fun t396 => (if t396 = true then ((laws_liBytes.f kj62 t364 y393).bind fun t397 => (if t397 = true then (some ((t367.length : Int) == 0)) else (some false))) else (some false))) else (if t370 = 2 then ((laws_liJoin.f kj62 t363 t364 0 ([] : List Int)).bind fun t398 => (if t398 = true then ((laws_liBytes.f kj62 t367 y393).bind fun t399 => (if t399 = true then (if t352 = 0 then (some true) else (some ((t367.length : Int) == t352))) else (some false))) else (some false))) else (if t370 = 3 then ((laws_liJoin.f kj62 t363 t364 0 ([] : List Int)).bind fun t400 => (if t400 = true then (some ((t367.length : Int) == 0)) else (some false))) else (some false))))) else (none)) = some r := by first|(rw [hy390];with_reducible exact H)|(have H2_ := (Option.bind_some _ _).symm.trans H;rw [hy390];with_reducible exact H2_)|(have H2_ := (Option.bind_some _ _).symm.trans H;with_reducible exact H2_)|with_reducible exact H|(rw [hy390];exact H)|exact H
         have Ny390 := mk_ hy390
         clear hy390
         by_cases c98 : y390.length + t358.length < 140737488355328
         ·rw [if_pos c98] at H
          have LMc98 := mk_ c98
          clear c98
          obtain ⟨y393, hy393⟩ : ∃ y_ : List Int, y_ = (y390 ++ t358) := ⟨_, rfl⟩
          replace H : (if t370 = 1 then ((impl_JoinOk.f t363 t364).bind fun t396 => (if t396 = true then ((laws_liBytes.f kj62 t364 y393).bind fun t397 => (if t397 = true then (some ((t367.length : Int) == 0)) else (some false))) else (some false))) else (if t370 = 2 then ((laws_liJoin.f kj62 t363 t364 0 ([] : List Int)).bind fun t398 => (if t398 = true then ((laws_liBytes.f kj62 t367 y393).bind fun t399 => (if t399 = true then (if t352 = 0 then (some true) else (some ((t367.length : Int) == t352))) else (some false))) else (some false))) else (if t370 = 3 then ((laws_liJoin.f kj62 t363 t364 0 ([] : List Int)).bind fun t400 => (if t400 = true then (some ((t367.length : Int) == 0)) else (some false))) else (some false)))) = some r := by first|(rw [hy393];with_reducible exact H)|(have H2_ := (Option.bind_some _ _).symm.trans H;rw [hy393];with_reducible exact H2_)|(have H2_ := (Option.bind_some _ _).symm.trans H;with_reducible exact H2_)|with_reducible exact H|(rw [hy393];exact H)|exact H
          have Ny393 := mk_ hy393
          clear hy393
          by_cases c99 : t370 = 1
          ·rw [if_pos c99] at H
           have c99b0 : (t370 == 1) = true := beq_iff_eq.mpr c99
           have c99b1 : (t370 != 1) = false := bne_eq_false_iff_eq.mpr c99
           clear c99
           replace H := Option.bind_eq_some_iff.mp H
           obtain ⟨t396, A1000, H⟩ := H
           try dsimp only at H
           have A100 := mk_ A1000
           clear A1000
           by_cases c101 : t396 = true
           ·subst c101
            have H1 : ((laws_liBytes.f kj62 t364 y393).bind fun t397 => (if t397 = true then (some ((t367.length : Int) == 0)) else (some false))) = some r := by rw [if_pos rfl] at H;exact H
            clear H
            have H := H1
            clear H1
            replace H := Option.bind_eq_some_iff.mp H
            obtain ⟨t397, A1020, H⟩ := H
            try dsimp only at H
            have A102 := mk_ A1020
            clear A1020
            by_cases c103 : t397 = true
            ·subst c103
             have H1 : (some ((t367.length : Int) == 0)) = some r := by rw [if_pos rfl] at H;exact H
             clear H
             have H := H1
             clear H1
             obtain rfl := Option.some.inj H
             try go_wp2
             replace he := mk_ (Kd.V_drew he.out)
             replace ha := mk_ (Kd.R_drew ha.out)
             replace HO_363002 := mk_ (Kd.R_drew HO_363002.out)
             replace HO_372001 := mk_ (Kd.V_drew HO_372001.out)
             replace hc := mk_ (Kd.R_drew hc.out)
             replace BK361 := mk_ (zq2 BK361.out)
             replace BK362 := mk_ (zq2 BK362.out)
             replace BK371 := mk_ (zq2 BK371.out)
             replace BK380 := mk_ (zq2 BK380.out)
             replace HB := mk_ (zq9 HB.out)
             refine start_ (n := 8) (S := fun w' => w'.cell? ⟨gb361, 0, none⟩ = some (.int .i64 t352) ∧ w'.cell? ⟨gb361, 1, none⟩ = some (.slice Ao12 t353.length co12) ∧ w'.cell? ⟨gb362, 0, none⟩ = some (.int .i64 t356) ∧ w'.cell? ⟨gb362, 1, none⟩ = some (.int .i64 t357) ∧ w'.cell? ⟨gb362, 2, none⟩ = some (.slice Ao14 t358.length co14)) (ds := []) (bm 8 0) (by kernel_rfl) rfl rfl ⟨(zr4 BK361.out 0).trans rfl, (zr4 BK361.out 1).trans rfl, (zr4 BK362.out 0).trans rfl, (zr4 BK362.out 1).trans rfl, (zr4 BK362.out 2).trans rfl⟩ (fun hHeld => ?_);refine with_tabW laws_FnSegPut.tab10 laws_FnSegPut.bits10 (fun HT_ HW_ => ?_)
             generalize wc.drew = w104 at he ha HO_363002 HO_372001 hc BK361 BK362 BK371 BK380 HB hHeld ⊢
             refine pA 1 (some 68) (bm 8 2) rfl rfl HT_.out (by kernel_rfl) (fun _ _ _ h => h) (by rfl) (by intro w';go_simp;with_reducible rfl) (by simp only [Act.put, zs1, zs2, zs3, i64_w, i32_w];rfl) ?_
             refine pA 4 (some 71) (bm 8 18) rfl rfl HT_.out (by kernel_rfl) (fun _ _ _ h => h) (by rfl) (by intro w';go_simp;with_reducible rfl) (by simp only [Act.put, zs1, zs2, zs3, i64_w, i32_w];rfl) ?_
             refine tA 2 (some 69) (bm 8 22) rfl rfl HT_.out HW_.out (by kernel_rfl) (fun _ _ _ h => h) (by rfl) hHeld (by rintro w' ⟨s0, s1, s2, s3, s4⟩;go_simp;with_reducible rfl) (by simp only [Act.put, zs1, zs2, zs3, i64_w, i32_w];rfl) ?_
             refine tA 5 (some 72) (bm 8 54) rfl rfl HT_.out HW_.out (by kernel_rfl) (fun _ _ _ h => h) (by rfl) hHeld (by rintro w' ⟨s0, s1, s2, s3, s4⟩;go_simp;with_reducible rfl) (by simp only [Act.put, zs1, zs2, zs3, i64_w, i32_w];rfl) ?_
             refine one_ (i := 0) (N := some 67) (bm 8 55) rfl rfl (one_of HT_.out (by kernel_rfl)) (by decide) (fun K hK => ?_)
             refine Kd.R_lit_step (Kd.int .u8) _ 5 ?hg (N := 67) ?hd (xs := ([] : List Int)) (inner := []) (ok := fun _ => True) (okp := fun _ => True) ?hr ?hp (fun _ hk => hk) trivial (Below.refl _ _) (Nat.le_refl _) (by simp) ?_;(case hd => rfl);(case hg => rfl);(case hr => first|(go_simp;done)|(go_simp;rfl));(case hp => exact (Reps.none _ _))
             intro v388 w105 ho106 hb hg_ hnew_
             clear hg_ hnew_
             (first|rw [← Ny387.out] at ho106|(simp only [Int.reduceToNat] at ho106;rw [← Ny387.out] at ho106))
             replace he := mk_ (Kd.V_elder' (by (with_reducible repeat (first|apply yv0|apply yv1|apply yv2));exact he.out) (Kd.R_base ho106) hb)
             replace HO_372001 := mk_ (Kd.V_elder' (by (with_reducible repeat (first|apply yv0|apply yv1|apply yv2));exact HO_372001.out) (Kd.R_base ho106) hb)
             have HO389 := mk_ (Kd.R_lower (Kd.R_new' (Kd.R_new' (Kd.R_new' ho106 (Kd.R_lt (by (with_reducible repeat (first|apply yr0|apply yr1|apply yr2));exact ha.out))) (Kd.R_lt (by (with_reducible repeat (first|apply yr0|apply yr1|apply yr2));exact HO_363002.out))) (Kd.R_lt (by (with_reducible repeat (first|apply yr0|apply yr1|apply yr2));exact hc.out))) (zr2 (by repeat (first|(with_reducible first|exact HB.out|apply zq7|apply zq8|apply zq9|refine zr1 ?_ GE361.out|refine zr1 ?_ GE362.out|refine zr1 ?_ GE371.out|refine zr1 ?_ GE380.out)|exact HB.out))))
             replace ha := mk_ (Kd.R_elder' (by (with_reducible repeat (first|apply yr0|apply yr1|apply yr2));exact ha.out) (Kd.R_base ho106) hb)
             replace HO_363002 := mk_ (Kd.R_elder' (by (with_reducible repeat (first|apply yr0|apply yr1|apply yr2));exact HO_363002.out) (Kd.R_base ho106) hb)
             replace hc := mk_ (Kd.R_elder' (by (with_reducible repeat (first|apply yr0|apply yr1|apply yr2));exact hc.out) (Kd.R_base ho106) hb)
             replace BK361 := mk_ (zq6 (by exact BK361.out) hb)
             replace BK362 := mk_ (zq6 (by exact BK362.out) hb)
             replace BK371 := mk_ (zq6 (by exact BK371.out) hb)
             replace BK380 := mk_ (zq6 (by exact BK380.out) hb)
             replace HB := mk_ (zr3 (by repeat (first|(with_reducible first|exact HB.out|apply zq7|apply zq8|apply zq9|refine zr1 ?_ GE361.out|refine zr1 ?_ GE362.out|refine zr1 ?_ GE371.out|refine zr1 ?_ GE380.out)|exact HB.out)) hb)
             clear hb ho106
             refine hK.out _ _ ⟨(zr4 BK361.out 0).trans rfl, (zr4 BK361.out 1).trans rfl, (zr4 BK362.out 0).trans rfl, (zr4 BK362.out 1).trans rfl, (zr4 BK362.out 2).trans rfl⟩ (fun hHeld => ?_)
             clear hK K
             refine norm_ (a' := ?_) ?_ ?_
             rotate_left
             ·show Act.put _ (some 67) _ = _
              simp only [Act.put, zs1, zs2, zs3, i64_w, i32_w]
              rfl
             refine one_ (i := 3) (N := some 70) (bm 8 63) rfl rfl (one_of HT_.out (by kernel_rfl)) (by decide) (fun K hK => ?_)
             refine Kd.R_append_rows_step (Kd.int .u8) (w0 := w) w.heap.size (by rfl) (.tmp 67) (.tmp 69) 22 5 (.int .u8 0) 1 rfl Try.underlying22 info5 rfl (by decide) (by omega) v388 y387 t353 _ _ _ (fun k_ => some k_ ≠ (.slice Ao12 t353.length co12 : Value).ownBlock ∧ some k_ ≠ (.slice Ao14 t358.length co14 : Value).ownBlock ∧ some k_ ≠ (.slice Ao29 t373.length co29 : Value).ownBlock) (fun _ => False) rfl rfl ?aO ?aR (fun _ _ h => h) (fun _ h => h.elim) ?aF ?aB ?aS ?aL ?_
             (case aR => repeat (first|exact (Kd.R_reads' ha.out).2.2|(with_reducible refine Kd.C_alloc ?_ _)|(with_reducible refine Kd.C_drewN ?_ _)|(with_reducible refine Kd.C_drew ?_)))
             (case aB => exact (by repeat (first|(with_reducible first|exact HB.out|apply zq7|apply zq8|apply zq9|refine zr1 ?_ GE361.out|refine zr1 ?_ GE362.out|refine zr1 ?_ GE371.out|refine zr1 ?_ GE380.out)|exact HB.out)))
             (case aF => exact (fun k_ hk => ⟨Kd.fresh' (Kd.R_lt (by (with_reducible repeat (first|apply yr0|apply yr1|apply yr2));exact ha.out)) k_ hk, Kd.fresh' (Kd.R_lt (by (with_reducible repeat (first|apply yr0|apply yr1|apply yr2));exact HO_363002.out)) k_ hk, Kd.fresh' (Kd.R_lt (by (with_reducible repeat (first|apply yr0|apply yr1|apply yr2));exact hc.out)) k_ hk⟩))
             (case aO => exact (by (with_reducible repeat (first|apply yr0|apply yr1|apply yr2));exact Kd.R_mono HO389.out (fun _ hk => ⟨hk.1.1.2, ⟨hk.1.2, hk.2⟩⟩)))
             (case aS => exact (zr2 (by repeat (first|(with_reducible first|exact HB.out|apply zq7|apply zq8|apply zq9|refine zr1 ?_ GE361.out|refine zr1 ?_ GE362.out|refine zr1 ?_ GE371.out|refine zr1 ?_ GE380.out)|exact HB.out))))
             (case aL => have := LMc97.out;omega)
             intro v391 w107 ho hb hg hat
             rw [← Ny390.out] at ho
             have n0_ := mk_ (Kd.V_afterv (ok := (fun k_ => some k_ ≠ (.slice Ao12 t353.length co12 : Value).ownBlock ∧ some k_ ≠ (.slice Ao14 t358.length co14 : Value).ownBlock ∧ some k_ ≠ (.slice Ao29 t373.length co29 : Value).ownBlock ∧ k_ ≠ gb361 ∧ k_ ≠ gb362 ∧ k_ ≠ gb371 ∧ k_ ≠ gb380)) (by (with_reducible repeat (first|apply yv0|apply yv1|apply yv2));exact he.out) hg hat)
             have n1_ := mk_ (Kd.R_after (ok := (fun k_ => some k_ ≠ (.slice Ao14 t358.length co14 : Value).ownBlock ∧ some k_ ≠ (.slice Ao29 t373.length co29 : Value).ownBlock)) (by (with_reducible repeat (first|apply yr0|apply yr1|apply yr2));exact ha.out) hg hat)
             have n2_ := mk_ (Kd.R_after (ok := (fun k_ => some k_ ≠ (.slice Ao12 t353.length co12 : Value).ownBlock ∧ some k_ ≠ (.slice Ao29 t373.length co29 : Value).ownBlock)) (by (with_reducible repeat (first|apply yr0|apply yr1|apply yr2));exact HO_363002.out) hg hat)
             have n3_ := mk_ (Kd.V_afterv (ok := (fun k_ => some k_ ≠ (.slice Ao12 t353.length co12 : Value).ownBlock ∧ some k_ ≠ (.slice Ao14 t358.length co14 : Value).ownBlock ∧ some k_ ≠ (.slice Ao29 t373.length co29 : Value).ownBlock ∧ k_ ≠ gb361 ∧ k_ ≠ gb362 ∧ k_ ≠ gb371 ∧ k_ ≠ gb380)) (by (with_reducible repeat (first|apply yv0|apply yv1|apply yv2));exact HO_372001.out) hg hat)
             have n4_ := mk_ (Kd.R_after (ok := (fun k_ => some k_ ≠ (.slice Ao12 t353.length co12 : Value).ownBlock ∧ some k_ ≠ (.slice Ao14 t358.length co14 : Value).ownBlock)) (by (with_reducible repeat (first|apply yr0|apply yr1|apply yr2));exact hc.out) hg hat)
             have n5_ := mk_ (blk_grown (g := gb361) (o := .cells #[.int .i64 t352, .slice Ao12 t353.length co12] 35 (0, 0)) (by exact BK361.out) hg (Kd.R_ne HO389.out BK361.out (by decide)))
             have n6_ := mk_ (blk_grown (g := gb362) (o := .cells #[.int .i64 t356, .int .i64 t357, .slice Ao14 t358.length co14] 39 (0, 0)) (by exact BK362.out) hg (Kd.R_ne HO389.out BK362.out (by decide)))
             have n7_ := mk_ (blk_grown (g := gb371) (o := .cells #[.int .i64 t363, .slice Ao20 t364.length co20] 35 (0, 0)) (by exact BK371.out) hg (Kd.R_ne HO389.out BK371.out (by decide)))
             have n8_ := mk_ (blk_grown (g := gb380) (o := .cells #[.int .i64 t372, .slice Ao29 t373.length co29] 35 (0, 0)) (by exact BK380.out) hg (Kd.R_ne HO389.out BK380.out (by decide)))
             have n9_ := mk_ (hb)
             have n10_ := mk_ (ho)
             clear he
             clear ha
             clear HO_363002
             clear HO_372001
             clear hc
             clear BK361
             clear BK362
             clear BK371
             clear BK380
             clear HB
             clear HO389
             have he := n0_
             have ha := n1_
             have HO_363002 := n2_
             have HO_372001 := n3_
             have hc := n4_
             have BK361 := n5_
             have BK362 := n6_
             have BK371 := n7_
             have BK380 := n8_
             have HB := n9_
             have HO392 := n10_
             clear n0_ n1_ n2_ n3_ n4_ n5_ n6_ n7_ n8_ n9_ n10_
             clear ho hb hg hat
             refine hK.out _ _ ⟨(zr4 BK361.out 0).trans rfl, (zr4 BK361.out 1).trans rfl, (zr4 BK362.out 0).trans rfl, (zr4 BK362.out 1).trans rfl, (zr4 BK362.out 2).trans rfl⟩ (fun hHeld => ?_)
             clear hK K
             refine norm_ (a' := ?_) ?_ ?_
             rotate_left
             ·show Act.put _ (some 70) _ = _
              simp only [Act.put, zs1, zs2, zs3, i64_w, i32_w]
              rfl
             refine one_ (i := 6) (N := some 73) (bm 8 127) rfl rfl (one_of HT_.out (by kernel_rfl)) (by decide) (fun K hK => ?_)
             refine Kd.R_append_rows_step (Kd.int .u8) (w0 := w) w.heap.size (by rfl) (.tmp 70) (.tmp 72) 22 5 (.int .u8 0) 1 rfl Try.underlying22 info5 rfl (by decide) (by omega) v391 y390 t358 _ _ _ (fun k_ => some k_ ≠ (.slice Ao12 t353.length co12 : Value).ownBlock ∧ some k_ ≠ (.slice Ao14 t358.length co14 : Value).ownBlock ∧ some k_ ≠ (.slice Ao29 t373.length co29 : Value).ownBlock) (fun _ => False) rfl rfl ?aO ?aR (fun _ _ h => h) (fun _ h => h.elim) ?aF ?aB ?aS ?aL ?_
             (case aR => repeat (first|exact (Kd.R_reads' HO_363002.out).2.2|(with_reducible refine Kd.C_alloc ?_ _)|(with_reducible refine Kd.C_drewN ?_ _)|(with_reducible refine Kd.C_drew ?_)))
             (case aB => exact (by repeat (first|(with_reducible first|exact HB.out|apply zq7|apply zq8|apply zq9|refine zr1 ?_ GE361.out|refine zr1 ?_ GE362.out|refine zr1 ?_ GE371.out|refine zr1 ?_ GE380.out)|exact HB.out)))
             (case aF => exact (fun k_ hk => ⟨Kd.fresh' (Kd.R_lt (by (with_reducible repeat (first|apply yr0|apply yr1|apply yr2));exact ha.out)) k_ hk, Kd.fresh' (Kd.R_lt (by (with_reducible repeat (first|apply yr0|apply yr1|apply yr2));exact HO_363002.out)) k_ hk, Kd.fresh' (Kd.R_lt (by (with_reducible repeat (first|apply yr0|apply yr1|apply yr2));exact hc.out)) k_ hk⟩))
             (case aO => exact (by (with_reducible repeat (first|apply yr0|apply yr1|apply yr2));exact HO392.out))
             (case aS => exact (zr2 (by repeat (first|(with_reducible first|exact HB.out|apply zq7|apply zq8|apply zq9|refine zr1 ?_ GE361.out|refine zr1 ?_ GE362.out|refine zr1 ?_ GE371.out|refine zr1 ?_ GE380.out)|exact HB.out))))
             (case aL => have := LMc98.out;omega)
             intro v394 w108 ho hb hg hat
             rw [← Ny393.out] at ho
             have n0_ := mk_ (Kd.V_afterv (ok := (fun k_ => some k_ ≠ (.slice Ao12 t353.length co12 : Value).ownBlock ∧ some k_ ≠ (.slice Ao14 t358.length co14 : Value).ownBlock ∧ some k_ ≠ (.slice Ao29 t373.length co29 : Value).ownBlock ∧ k_ ≠ gb361 ∧ k_ ≠ gb362 ∧ k_ ≠ gb371 ∧ k_ ≠ gb380)) (by (with_reducible repeat (first|apply yv0|apply yv1|apply yv2));exact he.out) hg hat)
             have n1_ := mk_ (Kd.R_after (ok := (fun k_ => some k_ ≠ (.slice Ao14 t358.length co14 : Value).ownBlock ∧ some k_ ≠ (.slice Ao29 t373.length co29 : Value).ownBlock)) (by (with_reducible repeat (first|apply yr0|apply yr1|apply yr2));exact ha.out) hg hat)
             have n2_ := mk_ (Kd.R_after (ok := (fun k_ => some k_ ≠ (.slice Ao12 t353.length co12 : Value).ownBlock ∧ some k_ ≠ (.slice Ao29 t373.length co29 : Value).ownBlock)) (by (with_reducible repeat (first|apply yr0|apply yr1|apply yr2));exact HO_363002.out) hg hat)
             have n3_ := mk_ (Kd.V_afterv (ok := (fun k_ => some k_ ≠ (.slice Ao12 t353.length co12 : Value).ownBlock ∧ some k_ ≠ (.slice Ao14 t358.length co14 : Value).ownBlock ∧ some k_ ≠ (.slice Ao29 t373.length co29 : Value).ownBlock ∧ k_ ≠ gb361 ∧ k_ ≠ gb362 ∧ k_ ≠ gb371 ∧ k_ ≠ gb380)) (by (with_reducible repeat (first|apply yv0|apply yv1|apply yv2));exact HO_372001.out) hg hat)
             have n4_ := mk_ (Kd.R_after (ok := (fun k_ => some k_ ≠ (.slice Ao12 t353.length co12 : Value).ownBlock ∧ some k_ ≠ (.slice Ao14 t358.length co14 : Value).ownBlock)) (by (with_reducible repeat (first|apply yr0|apply yr1|apply yr2));exact hc.out) hg hat)
             have n5_ := mk_ (blk_grown (g := gb361) (o := .cells #[.int .i64 t352, .slice Ao12 t353.length co12] 35 (0, 0)) (by exact BK361.out) hg (Kd.R_ne HO392.out BK361.out (by decide)))
             have n6_ := mk_ (blk_grown (g := gb362) (o := .cells #[.int .i64 t356, .int .i64 t357, .slice Ao14 t358.length co14] 39 (0, 0)) (by exact BK362.out) hg (Kd.R_ne HO392.out BK362.out (by decide)))
             have n7_ := mk_ (blk_grown (g := gb371) (o := .cells #[.int .i64 t363, .slice Ao20 t364.length co20] 35 (0, 0)) (by exact BK371.out) hg (Kd.R_ne HO392.out BK371.out (by decide)))
             have n8_ := mk_ (blk_grown (g := gb380) (o := .cells #[.int .i64 t372, .slice Ao29 t373.length co29] 35 (0, 0)) (by exact BK380.out) hg (Kd.R_ne HO392.out BK380.out (by decide)))
             have n9_ := mk_ (hb)
             have n10_ := mk_ (ho)
             clear he
             clear ha
             clear HO_363002
             clear HO_372001
             clear hc
             clear BK361
             clear BK362
             clear BK371
             clear BK380
             clear HB
             clear HO392
             have he := n0_
             have ha := n1_
             have HO_363002 := n2_
             have HO_372001 := n3_
             have hc := n4_
             have BK361 := n5_
             have BK362 := n6_
             have BK371 := n7_
             have BK380 := n8_
             have HB := n9_
             have HO395 := n10_
             clear n0_ n1_ n2_ n3_ n4_ n5_ n6_ n7_ n8_ n9_ n10_
             clear ho hb hg hat
             refine hK.out _ _ ⟨(zr4 BK361.out 0).trans rfl, (zr4 BK361.out 1).trans rfl, (zr4 BK362.out 0).trans rfl, (zr4 BK362.out 1).trans rfl, (zr4 BK362.out 2).trans rfl⟩ (fun hHeld => ?_)
             clear hK K
             refine norm_ (a' := ?_) ?_ ?_
             rotate_left
             ·show Act.put _ (some 73) _ = _
              simp only [Act.put, zs1, zs2, zs3, i64_w, i32_w]
              rfl
             refine pA 7 (some 11) (bm 8 255) rfl rfl HT_.out (by kernel_rfl) (fun _ _ _ h => h) (by rfl) (by intro w';go_simp;with_reducible rfl) (by simp only [Act.put, zs1, zs2, zs3, i64_w, i32_w];rfl) ?_
             refine done_ (done_of HT_.out (by kernel_rfl)) ?_
             have hnb109 := NB371_361.out
             have hnc109 := NB361_371.out
             have hnb110 := NB371_362.out
             have hnc110 := NB362_371.out
             have hnb111 := NB371_380.out
             have hnc111 := NB380_371.out
             obtain ⟨hcz112_0, hcz112_1⟩ := cz2 BK371.out
             obtain ⟨hfz112_0, hfz112_1⟩ := fz2 BK371.out
             try go_wp2_with (first|((with_reducible refine gate_callee (f := 46) rfl ?_);refine goesL_ (some 78) rfl rfl Try.func46 (by kernel_rfl) rfl #[.agg #[.int .i64 t363, .slice Ao20 t364.length co20]] rfl (by (try simp only [List.map_toArray, List.map_cons, List.map_nil]);first|done|rfl|(simp only [List.length_drop, List.length_take];rfl)) ?_;(with_reducible refine (impl_JoinOk.calls t363 _ _ t364 true _ ?side1 ?side2 A100.out).mono ?_);(case side1 => repeat (first|exact (Kd.V_reads' HO_372001.out).2.2|(with_reducible refine Kd.C_alloc ?_ _)|(with_reducible refine Kd.C_drewN ?_ _)|(with_reducible refine Kd.C_drew ?_)));(case side2 => exact (Kd.V_reads' HO_372001.out).2.1);rintro e w113 ⟨rfl, hb⟩;refine ⟨_, rfl, ?_⟩;replace he := mk_ (Kd.V_below (by (with_reducible repeat (first|apply yv0|apply yv1|apply yv2));exact he.out) hb);replace ha := mk_ (Kd.R_below (by (with_reducible repeat (first|apply yr0|apply yr1|apply yr2));exact ha.out) hb);replace HO_363002 := mk_ (Kd.R_below (by (with_reducible repeat (first|apply yr0|apply yr1|apply yr2));exact HO_363002.out) hb);replace HO_372001 := mk_ (Kd.V_below (by (with_reducible repeat (first|apply yv0|apply yv1|apply yv2));exact HO_372001.out) hb);replace hc := mk_ (Kd.R_below (by (with_reducible repeat (first|apply yr0|apply yr1|apply yr2));exact hc.out) hb);replace HO395 := mk_ (Kd.R_below (by (with_reducible repeat (first|apply yr0|apply yr1|apply yr2));exact HO395.out) hb);replace BK361 := mk_ (zq6 (by exact BK361.out) hb);replace BK362 := mk_ (zq6 (by exact BK362.out) hb);replace BK371 := mk_ (zq6 (by exact BK371.out) hb);replace BK380 := mk_ (zq6 (by exact BK380.out) hb);replace HB := mk_ (zr3 (by repeat (first|(with_reducible first|exact HB.out|apply zq7|apply zq8|apply zq9|refine zr1 ?_ GE361.out|refine zr1 ?_ GE362.out|refine zr1 ?_ GE371.out|refine zr1 ?_ GE380.out)|exact HB.out)) hb);(try clear hb);(try clear hb2);(try clear hk);(try clear hi);obtain ⟨hcz114_0, hcz114_1⟩ := cz2 BK371.out;obtain ⟨hfz114_0, hfz114_1⟩ := fz2 BK371.out;obtain ⟨Ao115, co115, eo115⟩ := Kd.R_slice HO395.out;subst eo115)|(go_at_call 28;(with_reducible refine (laws_liBytes.calls kj62 _ _ t364 _ _ y393 true _ ?side1 ?side2 ?side3 ?side4 A102.out).mono ?_);(case side1 => repeat (first|exact (Kd.V_reads' HO_372001.out).2.2|(with_reducible refine Kd.C_alloc ?_ _)|(with_reducible refine Kd.C_drewN ?_ _)|(with_reducible refine Kd.C_drew ?_)));(case side2 => exact (Kd.V_reads' HO_372001.out).2.1);(case side3 => repeat (first|exact (Kd.R_reads' HO395.out).2.2|(with_reducible refine Kd.C_alloc ?_ _)|(with_reducible refine Kd.C_drewN ?_ _)|(with_reducible refine Kd.C_drew ?_)));(case side4 => exact (Kd.R_reads' HO395.out).2.1);rintro e w' ⟨rfl, ⟨nd, rfl⟩⟩;obtain ⟨Ao116, co116, eo116⟩ := Kd.V_slice he.out;subst eo116))
             go_ret
             exact ⟨by first|rfl|(simp [errW_none, errW_some] <;> rfl)|(simp [*, errW_none, errW_some] <;> rfl), by repeat (first|(with_reducible first|exact HB.out|apply zq7|apply zq8|apply zq9|refine zr1 ?_ GE361.out|refine zr1 ?_ GE362.out|refine zr1 ?_ GE371.out|refine zr1 ?_ GE380.out)|exact HB.out)⟩
            ·replace c103 := Bool.eq_false_iff.mpr c103
             subst c103
             have H1 : (some false) = some r := by rw [if_neg (show ¬ (false = true) by decide)] at H;exact H
             clear H
             have H := H1
             clear H1
             obtain rfl := Option.some.inj H
             try go_wp2
             replace he := mk_ (Kd.V_drew he.out)
             replace ha := mk_ (Kd.R_drew ha.out)
             replace HO_363002 := mk_ (Kd.R_drew HO_363002.out)
             replace HO_372001 := mk_ (Kd.V_drew HO_372001.out)
             replace hc := mk_ (Kd.R_drew hc.out)
             replace BK361 := mk_ (zq2 BK361.out)
             replace BK362 := mk_ (zq2 BK362.out)
             replace BK371 := mk_ (zq2 BK371.out)
             replace BK380 := mk_ (zq2 BK380.out)
             replace HB := mk_ (zq9 HB.out)
             refine start_ (n := 8) (S := fun w' => w'.cell? ⟨gb361, 0, none⟩ = some (.int .i64 t352) ∧ w'.cell? ⟨gb361, 1, none⟩ = some (.slice Ao12 t353.length co12) ∧ w'.cell? ⟨gb362, 0, none⟩ = some (.int .i64 t356) ∧ w'.cell? ⟨gb362, 1, none⟩ = some (.int .i64 t357) ∧ w'.cell? ⟨gb362, 2, none⟩ = some (.slice Ao14 t358.length co14)) (ds := []) (bm 8 0) (by kernel_rfl) rfl rfl ⟨(zr4 BK361.out 0).trans rfl, (zr4 BK361.out 1).trans rfl, (zr4 BK362.out 0).trans rfl, (zr4 BK362.out 1).trans rfl, (zr4 BK362.out 2).trans rfl⟩ (fun hHeld => ?_);refine with_tabW laws_FnSegPut.tab10 laws_FnSegPut.bits10 (fun HT_ HW_ => ?_)
             generalize wc.drew = w117 at he ha HO_363002 HO_372001 hc BK361 BK362 BK371 BK380 HB hHeld ⊢
             refine pA 1 (some 68) (bm 8 2) rfl rfl HT_.out (by kernel_rfl) (fun _ _ _ h => h) (by rfl) (by intro w';go_simp;with_reducible rfl) (by simp only [Act.put, zs1, zs2, zs3, i64_w, i32_w];rfl) ?_
             refine pA 4 (some 71) (bm 8 18) rfl rfl HT_.out (by kernel_rfl) (fun _ _ _ h => h) (by rfl) (by intro w';go_simp;with_reducible rfl) (by simp only [Act.put, zs1, zs2, zs3, i64_w, i32_w];rfl) ?_
             refine tA 2 (some 69) (bm 8 22) rfl rfl HT_.out HW_.out (by kernel_rfl) (fun _ _ _ h => h) (by rfl) hHeld (by rintro w' ⟨s0, s1, s2, s3, s4⟩;go_simp;with_reducible rfl) (by simp only [Act.put, zs1, zs2, zs3, i64_w, i32_w];rfl) ?_
             refine tA 5 (some 72) (bm 8 54) rfl rfl HT_.out HW_.out (by kernel_rfl) (fun _ _ _ h => h) (by rfl) hHeld (by rintro w' ⟨s0, s1, s2, s3, s4⟩;go_simp;with_reducible rfl) (by simp only [Act.put, zs1, zs2, zs3, i64_w, i32_w];rfl) ?_
             refine one_ (i := 0) (N := some 67) (bm 8 55) rfl rfl (one_of HT_.out (by kernel_rfl)) (by decide) (fun K hK => ?_)
             refine Kd.R_lit_step (Kd.int .u8) _ 5 ?hg (N := 67) ?hd (xs := ([] : List Int)) (inner := []) (ok := fun _ => True) (okp := fun _ => True) ?hr ?hp (fun _ hk => hk) trivial (Below.refl _ _) (Nat.le_refl _) (by simp) ?_;(case hd => rfl);(case hg => rfl);(case hr => first|(go_simp;done)|(go_simp;rfl));(case hp => exact (Reps.none _ _))
             intro v388 w118 ho119 hb hg_ hnew_
             clear hg_ hnew_
             (first|rw [← Ny387.out] at ho119|(simp only [Int.reduceToNat] at ho119;rw [← Ny387.out] at ho119))
             replace he := mk_ (Kd.V_elder' (by (with_reducible repeat (first|apply yv0|apply yv1|apply yv2));exact he.out) (Kd.R_base ho119) hb)
             replace HO_372001 := mk_ (Kd.V_elder' (by (with_reducible repeat (first|apply yv0|apply yv1|apply yv2));exact HO_372001.out) (Kd.R_base ho119) hb)
             have HO389 := mk_ (Kd.R_lower (Kd.R_new' (Kd.R_new' (Kd.R_new' ho119 (Kd.R_lt (by (with_reducible repeat (first|apply yr0|apply yr1|apply yr2));exact ha.out))) (Kd.R_lt (by (with_reducible repeat (first|apply yr0|apply yr1|apply yr2));exact HO_363002.out))) (Kd.R_lt (by (with_reducible repeat (first|apply yr0|apply yr1|apply yr2));exact hc.out))) (zr2 (by repeat (first|(with_reducible first|exact HB.out|apply zq7|apply zq8|apply zq9|refine zr1 ?_ GE361.out|refine zr1 ?_ GE362.out|refine zr1 ?_ GE371.out|refine zr1 ?_ GE380.out)|exact HB.out))))
             replace ha := mk_ (Kd.R_elder' (by (with_reducible repeat (first|apply yr0|apply yr1|apply yr2));exact ha.out) (Kd.R_base ho119) hb)
             replace HO_363002 := mk_ (Kd.R_elder' (by (with_reducible repeat (first|apply yr0|apply yr1|apply yr2));exact HO_363002.out) (Kd.R_base ho119) hb)
             replace hc := mk_ (Kd.R_elder' (by (with_reducible repeat (first|apply yr0|apply yr1|apply yr2));exact hc.out) (Kd.R_base ho119) hb)
             replace BK361 := mk_ (zq6 (by exact BK361.out) hb)
             replace BK362 := mk_ (zq6 (by exact BK362.out) hb)
             replace BK371 := mk_ (zq6 (by exact BK371.out) hb)
             replace BK380 := mk_ (zq6 (by exact BK380.out) hb)
             replace HB := mk_ (zr3 (by repeat (first|(with_reducible first|exact HB.out|apply zq7|apply zq8|apply zq9|refine zr1 ?_ GE361.out|refine zr1 ?_ GE362.out|refine zr1 ?_ GE371.out|refine zr1 ?_ GE380.out)|exact HB.out)) hb)
             clear hb ho119
             refine hK.out _ _ ⟨(zr4 BK361.out 0).trans rfl, (zr4 BK361.out 1).trans rfl, (zr4 BK362.out 0).trans rfl, (zr4 BK362.out 1).trans rfl, (zr4 BK362.out 2).trans rfl⟩ (fun hHeld => ?_)
             clear hK K
             refine norm_ (a' := ?_) ?_ ?_
             rotate_left
             ·show Act.put _ (some 67) _ = _
              simp only [Act.put, zs1, zs2, zs3, i64_w, i32_w]
              rfl
             refine one_ (i := 3) (N := some 70) (bm 8 63) rfl rfl (one_of HT_.out (by kernel_rfl)) (by decide) (fun K hK => ?_)
             refine Kd.R_append_rows_step (Kd.int .u8) (w0 := w) w.heap.size (by rfl) (.tmp 67) (.tmp 69) 22 5 (.int .u8 0) 1 rfl Try.underlying22 info5 rfl (by decide) (by omega) v388 y387 t353 _ _ _ (fun k_ => some k_ ≠ (.slice Ao12 t353.length co12 : Value).ownBlock ∧ some k_ ≠ (.slice Ao14 t358.length co14 : Value).ownBlock ∧ some k_ ≠ (.slice Ao29 t373.length co29 : Value).ownBlock) (fun _ => False) rfl rfl ?aO ?aR (fun _ _ h => h) (fun _ h => h.elim) ?aF ?aB ?aS ?aL ?_
             (case aR => repeat (first|exact (Kd.R_reads' ha.out).2.2|(with_reducible refine Kd.C_alloc ?_ _)|(with_reducible refine Kd.C_drewN ?_ _)|(with_reducible refine Kd.C_drew ?_)))
             (case aB => exact (by repeat (first|(with_reducible first|exact HB.out|apply zq7|apply zq8|apply zq9|refine zr1 ?_ GE361.out|refine zr1 ?_ GE362.out|refine zr1 ?_ GE371.out|refine zr1 ?_ GE380.out)|exact HB.out)))
             (case aF => exact (fun k_ hk => ⟨Kd.fresh' (Kd.R_lt (by (with_reducible repeat (first|apply yr0|apply yr1|apply yr2));exact ha.out)) k_ hk, Kd.fresh' (Kd.R_lt (by (with_reducible repeat (first|apply yr0|apply yr1|apply yr2));exact HO_363002.out)) k_ hk, Kd.fresh' (Kd.R_lt (by (with_reducible repeat (first|apply yr0|apply yr1|apply yr2));exact hc.out)) k_ hk⟩))
             (case aO => exact (by (with_reducible repeat (first|apply yr0|apply yr1|apply yr2));exact Kd.R_mono HO389.out (fun _ hk => ⟨hk.1.1.2, ⟨hk.1.2, hk.2⟩⟩)))
             (case aS => exact (zr2 (by repeat (first|(with_reducible first|exact HB.out|apply zq7|apply zq8|apply zq9|refine zr1 ?_ GE361.out|refine zr1 ?_ GE362.out|refine zr1 ?_ GE371.out|refine zr1 ?_ GE380.out)|exact HB.out))))
             (case aL => have := LMc97.out;omega)
             intro v391 w120 ho hb hg hat
             rw [← Ny390.out] at ho
             have n0_ := mk_ (Kd.V_afterv (ok := (fun k_ => some k_ ≠ (.slice Ao12 t353.length co12 : Value).ownBlock ∧ some k_ ≠ (.slice Ao14 t358.length co14 : Value).ownBlock ∧ some k_ ≠ (.slice Ao29 t373.length co29 : Value).ownBlock ∧ k_ ≠ gb361 ∧ k_ ≠ gb362 ∧ k_ ≠ gb371 ∧ k_ ≠ gb380)) (by (with_reducible repeat (first|apply yv0|apply yv1|apply yv2));exact he.out) hg hat)
             have n1_ := mk_ (Kd.R_after (ok := (fun k_ => some k_ ≠ (.slice Ao14 t358.length co14 : Value).ownBlock ∧ some k_ ≠ (.slice Ao29 t373.length co29 : Value).ownBlock)) (by (with_reducible repeat (first|apply yr0|apply yr1|apply yr2));exact ha.out) hg hat)
             have n2_ := mk_ (Kd.R_after (ok := (fun k_ => some k_ ≠ (.slice Ao12 t353.length co12 : Value).ownBlock ∧ some k_ ≠ (.slice Ao29 t373.length co29 : Value).ownBlock)) (by (with_reducible repeat (first|apply yr0|apply yr1|apply yr2));exact HO_363002.out) hg hat)
             have n3_ := mk_ (Kd.V_afterv (ok := (fun k_ => some k_ ≠ (.slice Ao12 t353.length co12 : Value).ownBlock ∧ some k_ ≠ (.slice Ao14 t358.length co14 : Value).ownBlock ∧ some k_ ≠ (.slice Ao29 t373.length co29 : Value).ownBlock ∧ k_ ≠ gb361 ∧ k_ ≠ gb362 ∧ k_ ≠ gb371 ∧ k_ ≠ gb380)) (by (with_reducible repeat (first|apply yv0|apply yv1|apply yv2));exact HO_372001.out) hg hat)
             have n4_ := mk_ (Kd.R_after (ok := (fun k_ => some k_ ≠ (.slice Ao12 t353.length co12 : Value).ownBlock ∧ some k_ ≠ (.slice Ao14 t358.length co14 : Value).ownBlock)) (by (with_reducible repeat (first|apply yr0|apply yr1|apply yr2));exact hc.out) hg hat)
             have n5_ := mk_ (blk_grown (g := gb361) (o := .cells #[.int .i64 t352, .slice Ao12 t353.length co12] 35 (0, 0)) (by exact BK361.out) hg (Kd.R_ne HO389.out BK361.out (by decide)))
             have n6_ := mk_ (blk_grown (g := gb362) (o := .cells #[.int .i64 t356, .int .i64 t357, .slice Ao14 t358.length co14] 39 (0, 0)) (by exact BK362.out) hg (Kd.R_ne HO389.out BK362.out (by decide)))
             have n7_ := mk_ (blk_grown (g := gb371) (o := .cells #[.int .i64 t363, .slice Ao20 t364.length co20] 35 (0, 0)) (by exact BK371.out) hg (Kd.R_ne HO389.out BK371.out (by decide)))
             have n8_ := mk_ (blk_grown (g := gb380) (o := .cells #[.int .i64 t372, .slice Ao29 t373.length co29] 35 (0, 0)) (by exact BK380.out) hg (Kd.R_ne HO389.out BK380.out (by decide)))
             have n9_ := mk_ (hb)
             have n10_ := mk_ (ho)
             clear he
             clear ha
             clear HO_363002
             clear HO_372001
             clear hc
             clear BK361
             clear BK362
             clear BK371
             clear BK380
             clear HB
             clear HO389
             have he := n0_
             have ha := n1_
             have HO_363002 := n2_
             have HO_372001 := n3_
             have hc := n4_
             have BK361 := n5_
             have BK362 := n6_
             have BK371 := n7_
             have BK380 := n8_
             have HB := n9_
             have HO392 := n10_
             clear n0_ n1_ n2_ n3_ n4_ n5_ n6_ n7_ n8_ n9_ n10_
             clear ho hb hg hat
             refine hK.out _ _ ⟨(zr4 BK361.out 0).trans rfl, (zr4 BK361.out 1).trans rfl, (zr4 BK362.out 0).trans rfl, (zr4 BK362.out 1).trans rfl, (zr4 BK362.out 2).trans rfl⟩ (fun hHeld => ?_)
             clear hK K
             refine norm_ (a' := ?_) ?_ ?_
             rotate_left
             ·show Act.put _ (some 70) _ = _
              simp only [Act.put, zs1, zs2, zs3, i64_w, i32_w]
              rfl
             refine one_ (i := 6) (N := some 73) (bm 8 127) rfl rfl (one_of HT_.out (by kernel_rfl)) (by decide) (fun K hK => ?_)
             refine Kd.R_append_rows_step (Kd.int .u8) (w0 := w) w.heap.size (by rfl) (.tmp 70) (.tmp 72) 22 5 (.int .u8 0) 1 rfl Try.underlying22 info5 rfl (by decide) (by omega) v391 y390 t358 _ _ _ (fun k_ => some k_ ≠ (.slice Ao12 t353.length co12 : Value).ownBlock ∧ some k_ ≠ (.slice Ao14 t358.length co14 : Value).ownBlock ∧ some k_ ≠ (.slice Ao29 t373.length co29 : Value).ownBlock) (fun _ => False) rfl rfl ?aO ?aR (fun _ _ h => h) (fun _ h => h.elim) ?aF ?aB ?aS ?aL ?_
             (case aR => repeat (first|exact (Kd.R_reads' HO_363002.out).2.2|(with_reducible refine Kd.C_alloc ?_ _)|(with_reducible refine Kd.C_drewN ?_ _)|(with_reducible refine Kd.C_drew ?_)))
             (case aB => exact (by repeat (first|(with_reducible first|exact HB.out|apply zq7|apply zq8|apply zq9|refine zr1 ?_ GE361.out|refine zr1 ?_ GE362.out|refine zr1 ?_ GE371.out|refine zr1 ?_ GE380.out)|exact HB.out)))
             (case aF => exact (fun k_ hk => ⟨Kd.fresh' (Kd.R_lt (by (with_reducible repeat (first|apply yr0|apply yr1|apply yr2));exact ha.out)) k_ hk, Kd.fresh' (Kd.R_lt (by (with_reducible repeat (first|apply yr0|apply yr1|apply yr2));exact HO_363002.out)) k_ hk, Kd.fresh' (Kd.R_lt (by (with_reducible repeat (first|apply yr0|apply yr1|apply yr2));exact hc.out)) k_ hk⟩))
             (case aO => exact (by (with_reducible repeat (first|apply yr0|apply yr1|apply yr2));exact HO392.out))
             (case aS => exact (zr2 (by repeat (first|(with_reducible first|exact HB.out|apply zq7|apply zq8|apply zq9|refine zr1 ?_ GE361.out|refine zr1 ?_ GE362.out|refine zr1 ?_ GE371.out|refine zr1 ?_ GE380.out)|exact HB.out))))
             (case aL => have := LMc98.out;omega)
             intro v394 w121 ho hb hg hat
             rw [← Ny393.out] at ho
             have n0_ := mk_ (Kd.V_afterv (ok := (fun k_ => some k_ ≠ (.slice Ao12 t353.length co12 : Value).ownBlock ∧ some k_ ≠ (.slice Ao14 t358.length co14 : Value).ownBlock ∧ some k_ ≠ (.slice Ao29 t373.length co29 : Value).ownBlock ∧ k_ ≠ gb361 ∧ k_ ≠ gb362 ∧ k_ ≠ gb371 ∧ k_ ≠ gb380)) (by (with_reducible repeat (first|apply yv0|apply yv1|apply yv2));exact he.out) hg hat)
             have n1_ := mk_ (Kd.R_after (ok := (fun k_ => some k_ ≠ (.slice Ao14 t358.length co14 : Value).ownBlock ∧ some k_ ≠ (.slice Ao29 t373.length co29 : Value).ownBlock)) (by (with_reducible repeat (first|apply yr0|apply yr1|apply yr2));exact ha.out) hg hat)
             have n2_ := mk_ (Kd.R_after (ok := (fun k_ => some k_ ≠ (.slice Ao12 t353.length co12 : Value).ownBlock ∧ some k_ ≠ (.slice Ao29 t373.length co29 : Value).ownBlock)) (by (with_reducible repeat (first|apply yr0|apply yr1|apply yr2));exact HO_363002.out) hg hat)
             have n3_ := mk_ (Kd.V_afterv (ok := (fun k_ => some k_ ≠ (.slice Ao12 t353.length co12 : Value).ownBlock ∧ some k_ ≠ (.slice Ao14 t358.length co14 : Value).ownBlock ∧ some k_ ≠ (.slice Ao29 t373.length co29 : Value).ownBlock ∧ k_ ≠ gb361 ∧ k_ ≠ gb362 ∧ k_ ≠ gb371 ∧ k_ ≠ gb380)) (by (with_reducible repeat (first|apply yv0|apply yv1|apply yv2));exact HO_372001.out) hg hat)
             have n4_ := mk_ (Kd.R_after (ok := (fun k_ => some k_ ≠ (.slice Ao12 t353.length co12 : Value).ownBlock ∧ some k_ ≠ (.slice Ao14 t358.length co14 : Value).ownBlock)) (by (with_reducible repeat (first|apply yr0|apply yr1|apply yr2));exact hc.out) hg hat)
             have n5_ := mk_ (blk_grown (g := gb361) (o := .cells #[.int .i64 t352, .slice Ao12 t353.length co12] 35 (0, 0)) (by exact BK361.out) hg (Kd.R_ne HO392.out BK361.out (by decide)))
             have n6_ := mk_ (blk_grown (g := gb362) (o := .cells #[.int .i64 t356, .int .i64 t357, .slice Ao14 t358.length co14] 39 (0, 0)) (by exact BK362.out) hg (Kd.R_ne HO392.out BK362.out (by decide)))
             have n7_ := mk_ (blk_grown (g := gb371) (o := .cells #[.int .i64 t363, .slice Ao20 t364.length co20] 35 (0, 0)) (by exact BK371.out) hg (Kd.R_ne HO392.out BK371.out (by decide)))
             have n8_ := mk_ (blk_grown (g := gb380) (o := .cells #[.int .i64 t372, .slice Ao29 t373.length co29] 35 (0, 0)) (by exact BK380.out) hg (Kd.R_ne HO392.out BK380.out (by decide)))
             have n9_ := mk_ (hb)
             have n10_ := mk_ (ho)
             clear he
             clear ha
             clear HO_363002
             clear HO_372001
             clear hc
             clear BK361
             clear BK362
             clear BK371
             clear BK380
             clear HB
             clear HO392
             have he := n0_
             have ha := n1_
             have HO_363002 := n2_
             have HO_372001 := n3_
             have hc := n4_
             have BK361 := n5_
             have BK362 := n6_
             have BK371 := n7_
             have BK380 := n8_
             have HB := n9_
             have HO395 := n10_
             clear n0_ n1_ n2_ n3_ n4_ n5_ n6_ n7_ n8_ n9_ n10_
             clear ho hb hg hat
             refine hK.out _ _ ⟨(zr4 BK361.out 0).trans rfl, (zr4 BK361.out 1).trans rfl, (zr4 BK362.out 0).trans rfl, (zr4 BK362.out 1).trans rfl, (zr4 BK362.out 2).trans rfl⟩ (fun hHeld => ?_)
             clear hK K
             refine norm_ (a' := ?_) ?_ ?_
             rotate_left
             ·show Act.put _ (some 73) _ = _
              simp only [Act.put, zs1, zs2, zs3, i64_w, i32_w]
              rfl
             refine pA 7 (some 11) (bm 8 255) rfl rfl HT_.out (by kernel_rfl) (fun _ _ _ h => h) (by rfl) (by intro w';go_simp;with_reducible rfl) (by simp only [Act.put, zs1, zs2, zs3, i64_w, i32_w];rfl) ?_
             refine done_ (done_of HT_.out (by kernel_rfl)) ?_
             have hnb122 := NB371_361.out
             have hnc122 := NB361_371.out
             have hnb123 := NB371_362.out
             have hnc123 := NB362_371.out
             have hnb124 := NB371_380.out
             have hnc124 := NB380_371.out
             obtain ⟨hcz125_0, hcz125_1⟩ := cz2 BK371.out
             obtain ⟨hfz125_0, hfz125_1⟩ := fz2 BK371.out
             try go_wp2_with (first|((with_reducible refine gate_callee (f := 46) rfl ?_);refine goesL_ (some 78) rfl rfl Try.func46 (by kernel_rfl) rfl #[.agg #[.int .i64 t363, .slice Ao20 t364.length co20]] rfl (by (try simp only [List.map_toArray, List.map_cons, List.map_nil]);first|done|rfl|(simp only [List.length_drop, List.length_take];rfl)) ?_;(with_reducible refine (impl_JoinOk.calls t363 _ _ t364 true _ ?side1 ?side2 A100.out).mono ?_);(case side1 => repeat (first|exact (Kd.V_reads' HO_372001.out).2.2|(with_reducible refine Kd.C_alloc ?_ _)|(with_reducible refine Kd.C_drewN ?_ _)|(with_reducible refine Kd.C_drew ?_)));(case side2 => exact (Kd.V_reads' HO_372001.out).2.1);rintro e w126 ⟨rfl, hb⟩;refine ⟨_, rfl, ?_⟩;replace he := mk_ (Kd.V_below (by (with_reducible repeat (first|apply yv0|apply yv1|apply yv2));exact he.out) hb);replace ha := mk_ (Kd.R_below (by (with_reducible repeat (first|apply yr0|apply yr1|apply yr2));exact ha.out) hb);replace HO_363002 := mk_ (Kd.R_below (by (with_reducible repeat (first|apply yr0|apply yr1|apply yr2));exact HO_363002.out) hb);replace HO_372001 := mk_ (Kd.V_below (by (with_reducible repeat (first|apply yv0|apply yv1|apply yv2));exact HO_372001.out) hb);replace hc := mk_ (Kd.R_below (by (with_reducible repeat (first|apply yr0|apply yr1|apply yr2));exact hc.out) hb);replace HO395 := mk_ (Kd.R_below (by (with_reducible repeat (first|apply yr0|apply yr1|apply yr2));exact HO395.out) hb);replace BK361 := mk_ (zq6 (by exact BK361.out) hb);replace BK362 := mk_ (zq6 (by exact BK362.out) hb);replace BK371 := mk_ (zq6 (by exact BK371.out) hb);replace BK380 := mk_ (zq6 (by exact BK380.out) hb);replace HB := mk_ (zr3 (by repeat (first|(with_reducible first|exact HB.out|apply zq7|apply zq8|apply zq9|refine zr1 ?_ GE361.out|refine zr1 ?_ GE362.out|refine zr1 ?_ GE371.out|refine zr1 ?_ GE380.out)|exact HB.out)) hb);(try clear hb);(try clear hb2);(try clear hk);(try clear hi);obtain ⟨hcz127_0, hcz127_1⟩ := cz2 BK371.out;obtain ⟨hfz127_0, hfz127_1⟩ := fz2 BK371.out;obtain ⟨Ao128, co128, eo128⟩ := Kd.R_slice HO395.out;subst eo128)|(go_at_call 28;(with_reducible refine (laws_liBytes.calls kj62 _ _ t364 _ _ y393 false _ ?side1 ?side2 ?side3 ?side4 A102.out).mono ?_);(case side1 => repeat (first|exact (Kd.V_reads' HO_372001.out).2.2|(with_reducible refine Kd.C_alloc ?_ _)|(with_reducible refine Kd.C_drewN ?_ _)|(with_reducible refine Kd.C_drew ?_)));(case side2 => exact (Kd.V_reads' HO_372001.out).2.1);(case side3 => repeat (first|exact (Kd.R_reads' HO395.out).2.2|(with_reducible refine Kd.C_alloc ?_ _)|(with_reducible refine Kd.C_drewN ?_ _)|(with_reducible refine Kd.C_drew ?_)));(case side4 => exact (Kd.R_reads' HO395.out).2.1);rintro e w' ⟨rfl, ⟨nd, rfl⟩⟩))
             go_ret
             exact ⟨by first|rfl|(simp [errW_none, errW_some] <;> rfl)|(simp [*, errW_none, errW_some] <;> rfl), by repeat (first|(with_reducible first|exact HB.out|apply zq7|apply zq8|apply zq9|refine zr1 ?_ GE361.out|refine zr1 ?_ GE362.out|refine zr1 ?_ GE371.out|refine zr1 ?_ GE380.out)|exact HB.out)⟩
           ·replace c101 := Bool.eq_false_iff.mpr c101
            subst c101
            have H1 : (some false) = some r := by rw [if_neg (show ¬ (false = true) by decide)] at H;exact H
            clear H
            have H := H1
            clear H1
            obtain rfl := Option.some.inj H
            try go_wp2
            replace he := mk_ (Kd.V_drew he.out)
            replace ha := mk_ (Kd.R_drew ha.out)
            replace HO_363002 := mk_ (Kd.R_drew HO_363002.out)
            replace HO_372001 := mk_ (Kd.V_drew HO_372001.out)
            replace hc := mk_ (Kd.R_drew hc.out)
            replace BK361 := mk_ (zq2 BK361.out)
            replace BK362 := mk_ (zq2 BK362.out)
            replace BK371 := mk_ (zq2 BK371.out)
            replace BK380 := mk_ (zq2 BK380.out)
            replace HB := mk_ (zq9 HB.out)
            refine start_ (n := 8) (S := fun w' => w'.cell? ⟨gb361, 0, none⟩ = some (.int .i64 t352) ∧ w'.cell? ⟨gb361, 1, none⟩ = some (.slice Ao12 t353.length co12) ∧ w'.cell? ⟨gb362, 0, none⟩ = some (.int .i64 t356) ∧ w'.cell? ⟨gb362, 1, none⟩ = some (.int .i64 t357) ∧ w'.cell? ⟨gb362, 2, none⟩ = some (.slice Ao14 t358.length co14)) (ds := []) (bm 8 0) (by kernel_rfl) rfl rfl ⟨(zr4 BK361.out 0).trans rfl, (zr4 BK361.out 1).trans rfl, (zr4 BK362.out 0).trans rfl, (zr4 BK362.out 1).trans rfl, (zr4 BK362.out 2).trans rfl⟩ (fun hHeld => ?_);refine with_tabW laws_FnSegPut.tab10 laws_FnSegPut.bits10 (fun HT_ HW_ => ?_)
            generalize wc.drew = w129 at he ha HO_363002 HO_372001 hc BK361 BK362 BK371 BK380 HB hHeld ⊢
            refine pA 1 (some 68) (bm 8 2) rfl rfl HT_.out (by kernel_rfl) (fun _ _ _ h => h) (by rfl) (by intro w';go_simp;with_reducible rfl) (by simp only [Act.put, zs1, zs2, zs3, i64_w, i32_w];rfl) ?_
            refine pA 4 (some 71) (bm 8 18) rfl rfl HT_.out (by kernel_rfl) (fun _ _ _ h => h) (by rfl) (by intro w';go_simp;with_reducible rfl) (by simp only [Act.put, zs1, zs2, zs3, i64_w, i32_w];rfl) ?_
            refine tA 2 (some 69) (bm 8 22) rfl rfl HT_.out HW_.out (by kernel_rfl) (fun _ _ _ h => h) (by rfl) hHeld (by rintro w' ⟨s0, s1, s2, s3, s4⟩;go_simp;with_reducible rfl) (by simp only [Act.put, zs1, zs2, zs3, i64_w, i32_w];rfl) ?_
            refine tA 5 (some 72) (bm 8 54) rfl rfl HT_.out HW_.out (by kernel_rfl) (fun _ _ _ h => h) (by rfl) hHeld (by rintro w' ⟨s0, s1, s2, s3, s4⟩;go_simp;with_reducible rfl) (by simp only [Act.put, zs1, zs2, zs3, i64_w, i32_w];rfl) ?_
            refine one_ (i := 0) (N := some 67) (bm 8 55) rfl rfl (one_of HT_.out (by kernel_rfl)) (by decide) (fun K hK => ?_)
            refine Kd.R_lit_step (Kd.int .u8) _ 5 ?hg (N := 67) ?hd (xs := ([] : List Int)) (inner := []) (ok := fun _ => True) (okp := fun _ => True) ?hr ?hp (fun _ hk => hk) trivial (Below.refl _ _) (Nat.le_refl _) (by simp) ?_;(case hd => rfl);(case hg => rfl);(case hr => first|(go_simp;done)|(go_simp;rfl));(case hp => exact (Reps.none _ _))
            intro v388 w130 ho131 hb hg_ hnew_
            clear hg_ hnew_
            (first|rw [← Ny387.out] at ho131|(simp only [Int.reduceToNat] at ho131;rw [← Ny387.out] at ho131))
            replace he := mk_ (Kd.V_elder' (by (with_reducible repeat (first|apply yv0|apply yv1|apply yv2));exact he.out) (Kd.R_base ho131) hb)
            replace HO_372001 := mk_ (Kd.V_elder' (by (with_reducible repeat (first|apply yv0|apply yv1|apply yv2));exact HO_372001.out) (Kd.R_base ho131) hb)
            have HO389 := mk_ (Kd.R_lower (Kd.R_new' (Kd.R_new' (Kd.R_new' ho131 (Kd.R_lt (by (with_reducible repeat (first|apply yr0|apply yr1|apply yr2));exact ha.out))) (Kd.R_lt (by (with_reducible repeat (first|apply yr0|apply yr1|apply yr2));exact HO_363002.out))) (Kd.R_lt (by (with_reducible repeat (first|apply yr0|apply yr1|apply yr2));exact hc.out))) (zr2 (by repeat (first|(with_reducible first|exact HB.out|apply zq7|apply zq8|apply zq9|refine zr1 ?_ GE361.out|refine zr1 ?_ GE362.out|refine zr1 ?_ GE371.out|refine zr1 ?_ GE380.out)|exact HB.out))))
            replace ha := mk_ (Kd.R_elder' (by (with_reducible repeat (first|apply yr0|apply yr1|apply yr2));exact ha.out) (Kd.R_base ho131) hb)
            replace HO_363002 := mk_ (Kd.R_elder' (by (with_reducible repeat (first|apply yr0|apply yr1|apply yr2));exact HO_363002.out) (Kd.R_base ho131) hb)
            replace hc := mk_ (Kd.R_elder' (by (with_reducible repeat (first|apply yr0|apply yr1|apply yr2));exact hc.out) (Kd.R_base ho131) hb)
            replace BK361 := mk_ (zq6 (by exact BK361.out) hb)
            replace BK362 := mk_ (zq6 (by exact BK362.out) hb)
            replace BK371 := mk_ (zq6 (by exact BK371.out) hb)
            replace BK380 := mk_ (zq6 (by exact BK380.out) hb)
            replace HB := mk_ (zr3 (by repeat (first|(with_reducible first|exact HB.out|apply zq7|apply zq8|apply zq9|refine zr1 ?_ GE361.out|refine zr1 ?_ GE362.out|refine zr1 ?_ GE371.out|refine zr1 ?_ GE380.out)|exact HB.out)) hb)
            clear hb ho131
            refine hK.out _ _ ⟨(zr4 BK361.out 0).trans rfl, (zr4 BK361.out 1).trans rfl, (zr4 BK362.out 0).trans rfl, (zr4 BK362.out 1).trans rfl, (zr4 BK362.out 2).trans rfl⟩ (fun hHeld => ?_)
            clear hK K
            refine norm_ (a' := ?_) ?_ ?_
            rotate_left
            ·show Act.put _ (some 67) _ = _
             simp only [Act.put, zs1, zs2, zs3, i64_w, i32_w]
             rfl
            refine one_ (i := 3) (N := some 70) (bm 8 63) rfl rfl (one_of HT_.out (by kernel_rfl)) (by decide) (fun K hK => ?_)
            refine Kd.R_append_rows_step (Kd.int .u8) (w0 := w) w.heap.size (by rfl) (.tmp 67) (.tmp 69) 22 5 (.int .u8 0) 1 rfl Try.underlying22 info5 rfl (by decide) (by omega) v388 y387 t353 _ _ _ (fun k_ => some k_ ≠ (.slice Ao12 t353.length co12 : Value).ownBlock ∧ some k_ ≠ (.slice Ao14 t358.length co14 : Value).ownBlock ∧ some k_ ≠ (.slice Ao29 t373.length co29 : Value).ownBlock) (fun _ => False) rfl rfl ?aO ?aR (fun _ _ h => h) (fun _ h => h.elim) ?aF ?aB ?aS ?aL ?_
            (case aR => repeat (first|exact (Kd.R_reads' ha.out).2.2|(with_reducible refine Kd.C_alloc ?_ _)|(with_reducible refine Kd.C_drewN ?_ _)|(with_reducible refine Kd.C_drew ?_)))
            (case aB => exact (by repeat (first|(with_reducible first|exact HB.out|apply zq7|apply zq8|apply zq9|refine zr1 ?_ GE361.out|refine zr1 ?_ GE362.out|refine zr1 ?_ GE371.out|refine zr1 ?_ GE380.out)|exact HB.out)))
            (case aF => exact (fun k_ hk => ⟨Kd.fresh' (Kd.R_lt (by (with_reducible repeat (first|apply yr0|apply yr1|apply yr2));exact ha.out)) k_ hk, Kd.fresh' (Kd.R_lt (by (with_reducible repeat (first|apply yr0|apply yr1|apply yr2));exact HO_363002.out)) k_ hk, Kd.fresh' (Kd.R_lt (by (with_reducible repeat (first|apply yr0|apply yr1|apply yr2));exact hc.out)) k_ hk⟩))
            (case aO => exact (by (with_reducible repeat (first|apply yr0|apply yr1|apply yr2));exact Kd.R_mono HO389.out (fun _ hk => ⟨hk.1.1.2, ⟨hk.1.2, hk.2⟩⟩)))
            (case aS => exact (zr2 (by repeat (first|(with_reducible first|exact HB.out|apply zq7|apply zq8|apply zq9|refine zr1 ?_ GE361.out|refine zr1 ?_ GE362.out|refine zr1 ?_ GE371.out|refine zr1 ?_ GE380.out)|exact HB.out))))
            (case aL => have := LMc97.out;omega)
            intro v391 w132 ho hb hg hat
            rw [← Ny390.out] at ho
            have n0_ := mk_ (Kd.V_afterv (ok := (fun k_ => some k_ ≠ (.slice Ao12 t353.length co12 : Value).ownBlock ∧ some k_ ≠ (.slice Ao14 t358.length co14 : Value).ownBlock ∧ some k_ ≠ (.slice Ao29 t373.length co29 : Value).ownBlock ∧ k_ ≠ gb361 ∧ k_ ≠ gb362 ∧ k_ ≠ gb371 ∧ k_ ≠ gb380)) (by (with_reducible repeat (first|apply yv0|apply yv1|apply yv2));exact he.out) hg hat)
            have n1_ := mk_ (Kd.R_after (ok := (fun k_ => some k_ ≠ (.slice Ao14 t358.length co14 : Value).ownBlock ∧ some k_ ≠ (.slice Ao29 t373.length co29 : Value).ownBlock)) (by (with_reducible repeat (first|apply yr0|apply yr1|apply yr2));exact ha.out) hg hat)
            have n2_ := mk_ (Kd.R_after (ok := (fun k_ => some k_ ≠ (.slice Ao12 t353.length co12 : Value).ownBlock ∧ some k_ ≠ (.slice Ao29 t373.length co29 : Value).ownBlock)) (by (with_reducible repeat (first|apply yr0|apply yr1|apply yr2));exact HO_363002.out) hg hat)
            have n3_ := mk_ (Kd.V_afterv (ok := (fun k_ => some k_ ≠ (.slice Ao12 t353.length co12 : Value).ownBlock ∧ some k_ ≠ (.slice Ao14 t358.length co14 : Value).ownBlock ∧ some k_ ≠ (.slice Ao29 t373.length co29 : Value).ownBlock ∧ k_ ≠ gb361 ∧ k_ ≠ gb362 ∧ k_ ≠ gb371 ∧ k_ ≠ gb380)) (by (with_reducible repeat (first|apply yv0|apply yv1|apply yv2));exact HO_372001.out) hg hat)
            have n4_ := mk_ (Kd.R_after (ok := (fun k_ => some k_ ≠ (.slice Ao12 t353.length co12 : Value).ownBlock ∧ some k_ ≠ (.slice Ao14 t358.length co14 : Value).ownBlock)) (by (with_reducible repeat (first|apply yr0|apply yr1|apply yr2));exact hc.out) hg hat)
            have n5_ := mk_ (blk_grown (g := gb361) (o := .cells #[.int .i64 t352, .slice Ao12 t353.length co12] 35 (0, 0)) (by exact BK361.out) hg (Kd.R_ne HO389.out BK361.out (by decide)))
            have n6_ := mk_ (blk_grown (g := gb362) (o := .cells #[.int .i64 t356, .int .i64 t357, .slice Ao14 t358.length co14] 39 (0, 0)) (by exact BK362.out) hg (Kd.R_ne HO389.out BK362.out (by decide)))
            have n7_ := mk_ (blk_grown (g := gb371) (o := .cells #[.int .i64 t363, .slice Ao20 t364.length co20] 35 (0, 0)) (by exact BK371.out) hg (Kd.R_ne HO389.out BK371.out (by decide)))
            have n8_ := mk_ (blk_grown (g := gb380) (o := .cells #[.int .i64 t372, .slice Ao29 t373.length co29] 35 (0, 0)) (by exact BK380.out) hg (Kd.R_ne HO389.out BK380.out (by decide)))
            have n9_ := mk_ (hb)
            have n10_ := mk_ (ho)
            clear he
            clear ha
            clear HO_363002
            clear HO_372001
            clear hc
            clear BK361
            clear BK362
            clear BK371
            clear BK380
            clear HB
            clear HO389
            have he := n0_
            have ha := n1_
            have HO_363002 := n2_
            have HO_372001 := n3_
            have hc := n4_
            have BK361 := n5_
            have BK362 := n6_
            have BK371 := n7_
            have BK380 := n8_
            have HB := n9_
            have HO392 := n10_
            clear n0_ n1_ n2_ n3_ n4_ n5_ n6_ n7_ n8_ n9_ n10_
            clear ho hb hg hat
            refine hK.out _ _ ⟨(zr4 BK361.out 0).trans rfl, (zr4 BK361.out 1).trans rfl, (zr4 BK362.out 0).trans rfl, (zr4 BK362.out 1).trans rfl, (zr4 BK362.out 2).trans rfl⟩ (fun hHeld => ?_)
            clear hK K
            refine norm_ (a' := ?_) ?_ ?_
            rotate_left
            ·show Act.put _ (some 70) _ = _
             simp only [Act.put, zs1, zs2, zs3, i64_w, i32_w]
             rfl
            refine one_ (i := 6) (N := some 73) (bm 8 127) rfl rfl (one_of HT_.out (by kernel_rfl)) (by decide) (fun K hK => ?_)
            refine Kd.R_append_rows_step (Kd.int .u8) (w0 := w) w.heap.size (by rfl) (.tmp 70) (.tmp 72) 22 5 (.int .u8 0) 1 rfl Try.underlying22 info5 rfl (by decide) (by omega) v391 y390 t358 _ _ _ (fun k_ => some k_ ≠ (.slice Ao12 t353.length co12 : Value).ownBlock ∧ some k_ ≠ (.slice Ao14 t358.length co14 : Value).ownBlock ∧ some k_ ≠ (.slice Ao29 t373.length co29 : Value).ownBlock) (fun _ => False) rfl rfl ?aO ?aR (fun _ _ h => h) (fun _ h => h.elim) ?aF ?aB ?aS ?aL ?_
            (case aR => repeat (first|exact (Kd.R_reads' HO_363002.out).2.2|(with_reducible refine Kd.C_alloc ?_ _)|(with_reducible refine Kd.C_drewN ?_ _)|(with_reducible refine Kd.C_drew ?_)))
            (case aB => exact (by repeat (first|(with_reducible first|exact HB.out|apply zq7|apply zq8|apply zq9|refine zr1 ?_ GE361.out|refine zr1 ?_ GE362.out|refine zr1 ?_ GE371.out|refine zr1 ?_ GE380.out)|exact HB.out)))
            (case aF => exact (fun k_ hk => ⟨Kd.fresh' (Kd.R_lt (by (with_reducible repeat (first|apply yr0|apply yr1|apply yr2));exact ha.out)) k_ hk, Kd.fresh' (Kd.R_lt (by (with_reducible repeat (first|apply yr0|apply yr1|apply yr2));exact HO_363002.out)) k_ hk, Kd.fresh' (Kd.R_lt (by (with_reducible repeat (first|apply yr0|apply yr1|apply yr2));exact hc.out)) k_ hk⟩))
            (case aO => exact (by (with_reducible repeat (first|apply yr0|apply yr1|apply yr2));exact HO392.out))
            (case aS => exact (zr2 (by repeat (first|(with_reducible first|exact HB.out|apply zq7|apply zq8|apply zq9|refine zr1 ?_ GE361.out|refine zr1 ?_ GE362.out|refine zr1 ?_ GE371.out|refine zr1 ?_ GE380.out)|exact HB.out))))
            (case aL => have := LMc98.out;omega)
            intro v394 w133 ho hb hg hat
            rw [← Ny393.out] at ho
            have n0_ := mk_ (Kd.V_afterv (ok := (fun k_ => some k_ ≠ (.slice Ao12 t353.length co12 : Value).ownBlock ∧ some k_ ≠ (.slice Ao14 t358.length co14 : Value).ownBlock ∧ some k_ ≠ (.slice Ao29 t373.length co29 : Value).ownBlock ∧ k_ ≠ gb361 ∧ k_ ≠ gb362 ∧ k_ ≠ gb371 ∧ k_ ≠ gb380)) (by (with_reducible repeat (first|apply yv0|apply yv1|apply yv2));exact he.out) hg hat)
            have n1_ := mk_ (Kd.R_after (ok := (fun k_ => some k_ ≠ (.slice Ao14 t358.length co14 : Value).ownBlock ∧ some k_ ≠ (.slice Ao29 t373.length co29 : Value).ownBlock)) (by (with_reducible repeat (first|apply yr0|apply yr1|apply yr2));exact ha.out) hg hat)
            have n2_ := mk_ (Kd.R_after (ok := (fun k_ => some k_ ≠ (.slice Ao12 t353.length co12 : Value).ownBlock ∧ some k_ ≠ (.slice Ao29 t373.length co29 : Value).ownBlock)) (by (with_reducible repeat (first|apply yr0|apply yr1|apply yr2));exact HO_363002.out) hg hat)
            have n3_ := mk_ (Kd.V_afterv (ok := (fun k_ => some k_ ≠ (.slice Ao12 t353.length co12 : Value).ownBlock ∧ some k_ ≠ (.slice Ao14 t358.length co14 : Value).ownBlock ∧ some k_ ≠ (.slice Ao29 t373.length co29 : Value).ownBlock ∧ k_ ≠ gb361 ∧ k_ ≠ gb362 ∧ k_ ≠ gb371 ∧ k_ ≠ gb380)) (by (with_reducible repeat (first|apply yv0|apply yv1|apply yv2));exact HO_372001.out) hg hat)
            have n4_ := mk_ (Kd.R_after (ok := (fun k_ => some k_ ≠ (.slice Ao12 t353.length co12 : Value).ownBlock ∧ some k_ ≠ (.slice Ao14 t358.length co14 : Value).ownBlock)) (by (with_reducible repeat (first|apply yr0|apply yr1|apply yr2));exact hc.out) hg hat)
            have n5_ := mk_ (blk_grown (g := gb361) (o := .cells #[.int .i64 t352, .slice Ao12 t353.length co12] 35 (0, 0)) (by exact BK361.out) hg (Kd.R_ne HO392.out BK361.out (by decide)))
            have n6_ := mk_ (blk_grown (g := gb362) (o := .cells #[.int .i64 t356, .int .i64 t357, .slice Ao14 t358.length co14] 39 (0, 0)) (by exact BK362.out) hg (Kd.R_ne HO392.out BK362.out (by decide)))
            have n7_ := mk_ (blk_grown (g := gb371) (o := .cells #[.int .i64 t363, .slice Ao20 t364.length co20] 35 (0, 0)) (by exact BK371.out) hg (Kd.R_ne HO392.out BK371.out (by decide)))
            have n8_ := mk_ (blk_grown (g := gb380) (o := .cells #[.int .i64 t372, .slice Ao29 t373.length co29] 35 (0, 0)) (by exact BK380.out) hg (Kd.R_ne HO392.out BK380.out (by decide)))
            have n9_ := mk_ (hb)
            have n10_ := mk_ (ho)
            clear he
            clear ha
            clear HO_363002
            clear HO_372001
            clear hc
            clear BK361
            clear BK362
            clear BK371
            clear BK380
            clear HB
            clear HO392
            have he := n0_
            have ha := n1_
            have HO_363002 := n2_
            have HO_372001 := n3_
            have hc := n4_
            have BK361 := n5_
            have BK362 := n6_
            have BK371 := n7_
            have BK380 := n8_
            have HB := n9_
            have HO395 := n10_
            clear n0_ n1_ n2_ n3_ n4_ n5_ n6_ n7_ n8_ n9_ n10_
            clear ho hb hg hat
            refine hK.out _ _ ⟨(zr4 BK361.out 0).trans rfl, (zr4 BK361.out 1).trans rfl, (zr4 BK362.out 0).trans rfl, (zr4 BK362.out 1).trans rfl, (zr4 BK362.out 2).trans rfl⟩ (fun hHeld => ?_)
            clear hK K
            refine norm_ (a' := ?_) ?_ ?_
            rotate_left
            ·show Act.put _ (some 73) _ = _
             simp only [Act.put, zs1, zs2, zs3, i64_w, i32_w]
             rfl
            refine pA 7 (some 11) (bm 8 255) rfl rfl HT_.out (by kernel_rfl) (fun _ _ _ h => h) (by rfl) (by intro w';go_simp;with_reducible rfl) (by simp only [Act.put, zs1, zs2, zs3, i64_w, i32_w];rfl) ?_
            refine done_ (done_of HT_.out (by kernel_rfl)) ?_
            have hnb134 := NB371_361.out
            have hnc134 := NB361_371.out
            have hnb135 := NB371_362.out
            have hnc135 := NB362_371.out
            have hnb136 := NB371_380.out
            have hnc136 := NB380_371.out
            obtain ⟨hcz137_0, hcz137_1⟩ := cz2 BK371.out
            obtain ⟨hfz137_0, hfz137_1⟩ := fz2 BK371.out
            try go_wp2_with (first|((with_reducible refine gate_callee (f := 46) rfl ?_);refine goesL_ (some 78) rfl rfl Try.func46 (by kernel_rfl) rfl #[.agg #[.int .i64 t363, .slice Ao20 t364.length co20]] rfl (by (try simp only [List.map_toArray, List.map_cons, List.map_nil]);first|done|rfl|(simp only [List.length_drop, List.length_take];rfl)) ?_;(with_reducible refine (impl_JoinOk.calls t363 _ _ t364 false _ ?side1 ?side2 A100.out).mono ?_);(case side1 => repeat (first|exact (Kd.V_reads' HO_372001.out).2.2|(with_reducible refine Kd.C_alloc ?_ _)|(with_reducible refine Kd.C_drewN ?_ _)|(with_reducible refine Kd.C_drew ?_)));(case side2 => exact (Kd.V_reads' HO_372001.out).2.1);rintro e w138 ⟨rfl, hb⟩;refine ⟨_, rfl, ?_⟩;replace he := mk_ (Kd.V_below (by (with_reducible repeat (first|apply yv0|apply yv1|apply yv2));exact he.out) hb);replace ha := mk_ (Kd.R_below (by (with_reducible repeat (first|apply yr0|apply yr1|apply yr2));exact ha.out) hb);replace HO_363002 := mk_ (Kd.R_below (by (with_reducible repeat (first|apply yr0|apply yr1|apply yr2));exact HO_363002.out) hb);replace HO_372001 := mk_ (Kd.V_below (by (with_reducible repeat (first|apply yv0|apply yv1|apply yv2));exact HO_372001.out) hb);replace hc := mk_ (Kd.R_below (by (with_reducible repeat (first|apply yr0|apply yr1|apply yr2));exact hc.out) hb);replace HO395 := mk_ (Kd.R_below (by (with_reducible repeat (first|apply yr0|apply yr1|apply yr2));exact HO395.out) hb);replace BK361 := mk_ (zq6 (by exact BK361.out) hb);replace BK362 := mk_ (zq6 (by exact BK362.out) hb);replace BK371 := mk_ (zq6 (by exact BK371.out) hb);replace BK380 := mk_ (zq6 (by exact BK380.out) hb);replace HB := mk_ (zr3 (by repeat (first|(with_reducible first|exact HB.out|apply zq7|apply zq8|apply zq9|refine zr1 ?_ GE361.out|refine zr1 ?_ GE362.out|refine zr1 ?_ GE371.out|refine zr1 ?_ GE380.out)|exact HB.out)) hb);(try clear hb);(try clear hb2);(try clear hk);(try clear hi)))
            go_ret
            exact ⟨by first|rfl|(simp [errW_none, errW_some] <;> rfl)|(simp [*, errW_none, errW_some] <;> rfl), by repeat (first|(with_reducible first|exact HB.out|apply zq7|apply zq8|apply zq9|refine zr1 ?_ GE361.out|refine zr1 ?_ GE362.out|refine zr1 ?_ GE371.out|refine zr1 ?_ GE380.out)|exact HB.out)⟩
          ·rw [if_neg c99] at H
           have c99b0 : (t370 == 1) = false := beq_eq_false_iff_ne.mpr c99
           have c99b1 : (t370 != 1) = true := bne_iff_ne.mpr c99
           by_cases c139 : t370 = 2
           ·rw [if_pos c139] at H
            have c139b0 : (t370 == 2) = true := beq_iff_eq.mpr c139
            have c139b1 : (t370 != 2) = false := bne_eq_false_iff_eq.mpr c139
            clear c139
            replace H := Option.bind_eq_some_iff.mp H
            obtain ⟨t398, A1400, H⟩ := H
            try dsimp only at H
            have A140 := mk_ A1400
            clear A1400
            by_cases c141 : t398 = true
            ·subst c141
             have H1 : ((laws_liBytes.f kj62 t367 y393).bind fun t399 => (if t399 = true then (if t352 = 0 then (some true) else (some ((t367.length : Int) == t352))) else (some false))) = some r := by rw [if_pos rfl] at H;exact H
             clear H
             have H := H1
             clear H1
             replace H := Option.bind_eq_some_iff.mp H
             obtain ⟨t399, A1420, H⟩ := H
             try dsimp only at H
             have A142 := mk_ A1420
             clear A1420
             by_cases c143 : t399 = true
             ·subst c143
              have H1 : (if t352 = 0 then (some true) else (some ((t367.length : Int) == t352))) = some r := by rw [if_pos rfl] at H;exact H
              clear H
              have H := H1
              clear H1
              by_cases c144 : t352 = 0
              ·rw [if_pos c144] at H
               have c144b0 : (t352 == 0) = true := beq_iff_eq.mpr c144
               have c144b1 : (t352 != 0) = false := bne_eq_false_iff_eq.mpr c144
               clear c144
               obtain rfl := Option.some.inj H
               try go_wp2
               replace he := mk_ (Kd.V_drew he.out)
               replace ha := mk_ (Kd.R_drew ha.out)
               replace HO_363002 := mk_ (Kd.R_drew HO_363002.out)
               replace HO_372001 := mk_ (Kd.V_drew HO_372001.out)
               replace hc := mk_ (Kd.R_drew hc.out)
               replace BK361 := mk_ (zq2 BK361.out)
               replace BK362 := mk_ (zq2 BK362.out)
               replace BK371 := mk_ (zq2 BK371.out)
               replace BK380 := mk_ (zq2 BK380.out)
               replace HB := mk_ (zq9 HB.out)
               refine start_ (n := 8) (S := fun w' => w'.cell? ⟨gb361, 0, none⟩ = some (.int .i64 t352) ∧ w'.cell? ⟨gb361, 1, none⟩ = some (.slice Ao12 t353.length co12) ∧ w'.cell? ⟨gb362, 0, none⟩ = some (.int .i64 t356) ∧ w'.cell? ⟨gb362, 1, none⟩ = some (.int .i64 t357) ∧ w'.cell? ⟨gb362, 2, none⟩ = some (.slice Ao14 t358.length co14)) (ds := []) (bm 8 0) (by kernel_rfl) rfl rfl ⟨(zr4 BK361.out 0).trans rfl, (zr4 BK361.out 1).trans rfl, (zr4 BK362.out 0).trans rfl, (zr4 BK362.out 1).trans rfl, (zr4 BK362.out 2).trans rfl⟩ (fun hHeld => ?_);refine with_tabW laws_FnSegPut.tab10 laws_FnSegPut.bits10 (fun HT_ HW_ => ?_)
               generalize wc.drew = w145 at he ha HO_363002 HO_372001 hc BK361 BK362 BK371 BK380 HB hHeld ⊢
               refine pA 1 (some 68) (bm 8 2) rfl rfl HT_.out (by kernel_rfl) (fun _ _ _ h => h) (by rfl) (by intro w';go_simp;with_reducible rfl) (by simp only [Act.put, zs1, zs2, zs3, i64_w, i32_w];rfl) ?_
               refine pA 4 (some 71) (bm 8 18) rfl rfl HT_.out (by kernel_rfl) (fun _ _ _ h => h) (by rfl) (by intro w';go_simp;with_reducible rfl) (by simp only [Act.put, zs1, zs2, zs3, i64_w, i32_w];rfl) ?_
               refine tA 2 (some 69) (bm 8 22) rfl rfl HT_.out HW_.out (by kernel_rfl) (fun _ _ _ h => h) (by rfl) hHeld (by rintro w' ⟨s0, s1, s2, s3, s4⟩;go_simp;with_reducible rfl) (by simp only [Act.put, zs1, zs2, zs3, i64_w, i32_w];rfl) ?_
               refine tA 5 (some 72) (bm 8 54) rfl rfl HT_.out HW_.out (by kernel_rfl) (fun _ _ _ h => h) (by rfl) hHeld (by rintro w' ⟨s0, s1, s2, s3, s4⟩;go_simp;with_reducible rfl) (by simp only [Act.put, zs1, zs2, zs3, i64_w, i32_w];rfl) ?_
               refine one_ (i := 0) (N := some 67) (bm 8 55) rfl rfl (one_of HT_.out (by kernel_rfl)) (by decide) (fun K hK => ?_)
               refine Kd.R_lit_step (Kd.int .u8) _ 5 ?hg (N := 67) ?hd (xs := ([] : List Int)) (inner := []) (ok := fun _ => True) (okp := fun _ => True) ?hr ?hp (fun _ hk => hk) trivial (Below.refl _ _) (Nat.le_refl _) (by simp) ?_;(case hd => rfl);(case hg => rfl);(case hr => first|(go_simp;done)|(go_simp;rfl));(case hp => exact (Reps.none _ _))
               intro v388 w146 ho147 hb hg_ hnew_
               clear hg_ hnew_
               (first|rw [← Ny387.out] at ho147|(simp only [Int.reduceToNat] at ho147;rw [← Ny387.out] at ho147))
               replace he := mk_ (Kd.V_elder' (by (with_reducible repeat (first|apply yv0|apply yv1|apply yv2));exact he.out) (Kd.R_base ho147) hb)
               replace HO_372001 := mk_ (Kd.V_elder' (by (with_reducible repeat (first|apply yv0|apply yv1|apply yv2));exact HO_372001.out) (Kd.R_base ho147) hb)
               have HO389 := mk_ (Kd.R_lower (Kd.R_new' (Kd.R_new' (Kd.R_new' ho147 (Kd.R_lt (by (with_reducible repeat (first|apply yr0|apply yr1|apply yr2));exact ha.out))) (Kd.R_lt (by (with_reducible repeat (first|apply yr0|apply yr1|apply yr2));exact HO_363002.out))) (Kd.R_lt (by (with_reducible repeat (first|apply yr0|apply yr1|apply yr2));exact hc.out))) (zr2 (by repeat (first|(with_reducible first|exact HB.out|apply zq7|apply zq8|apply zq9|refine zr1 ?_ GE361.out|refine zr1 ?_ GE362.out|refine zr1 ?_ GE371.out|refine zr1 ?_ GE380.out)|exact HB.out))))
               replace ha := mk_ (Kd.R_elder' (by (with_reducible repeat (first|apply yr0|apply yr1|apply yr2));exact ha.out) (Kd.R_base ho147) hb)
               replace HO_363002 := mk_ (Kd.R_elder' (by (with_reducible repeat (first|apply yr0|apply yr1|apply yr2));exact HO_363002.out) (Kd.R_base ho147) hb)
               replace hc := mk_ (Kd.R_elder' (by (with_reducible repeat (first|apply yr0|apply yr1|apply yr2));exact hc.out) (Kd.R_base ho147) hb)
               replace BK361 := mk_ (zq6 (by exact BK361.out) hb)
               replace BK362 := mk_ (zq6 (by exact BK362.out) hb)
               replace BK371 := mk_ (zq6 (by exact BK371.out) hb)
               replace BK380 := mk_ (zq6 (by exact BK380.out) hb)
               replace HB := mk_ (zr3 (by repeat (first|(with_reducible first|exact HB.out|apply zq7|apply zq8|apply zq9|refine zr1 ?_ GE361.out|refine zr1 ?_ GE362.out|refine zr1 ?_ GE371.out|refine zr1 ?_ GE380.out)|exact HB.out)) hb)
               clear hb ho147
               refine hK.out _ _ ⟨(zr4 BK361.out 0).trans rfl, (zr4 BK361.out 1).trans rfl, (zr4 BK362.out 0).trans rfl, (zr4 BK362.out 1).trans rfl, (zr4 BK362.out 2).trans rfl⟩ (fun hHeld => ?_)
               clear hK K
               refine norm_ (a' := ?_) ?_ ?_
               rotate_left
               ·show Act.put _ (some 67) _ = _
                simp only [Act.put, zs1, zs2, zs3, i64_w, i32_w]
                rfl
               refine one_ (i := 3) (N := some 70) (bm 8 63) rfl rfl (one_of HT_.out (by kernel_rfl)) (by decide) (fun K hK => ?_)
               refine Kd.R_append_rows_step (Kd.int .u8) (w0 := w) w.heap.size (by rfl) (.tmp 67) (.tmp 69) 22 5 (.int .u8 0) 1 rfl Try.underlying22 info5 rfl (by decide) (by omega) v388 y387 t353 _ _ _ (fun k_ => some k_ ≠ (.slice Ao12 t353.length co12 : Value).ownBlock ∧ some k_ ≠ (.slice Ao14 t358.length co14 : Value).ownBlock ∧ some k_ ≠ (.slice Ao29 t373.length co29 : Value).ownBlock) (fun _ => False) rfl rfl ?aO ?aR (fun _ _ h => h) (fun _ h => h.elim) ?aF ?aB ?aS ?aL ?_
               (case aR => repeat (first|exact (Kd.R_reads' ha.out).2.2|(with_reducible refine Kd.C_alloc ?_ _)|(with_reducible refine Kd.C_drewN ?_ _)|(with_reducible refine Kd.C_drew ?_)))
               (case aB => exact (by repeat (first|(with_reducible first|exact HB.out|apply zq7|apply zq8|apply zq9|refine zr1 ?_ GE361.out|refine zr1 ?_ GE362.out|refine zr1 ?_ GE371.out|refine zr1 ?_ GE380.out)|exact HB.out)))
               (case aF => exact (fun k_ hk => ⟨Kd.fresh' (Kd.R_lt (by (with_reducible repeat (first|apply yr0|apply yr1|apply yr2));exact ha.out)) k_ hk, Kd.fresh' (Kd.R_lt (by (with_reducible repeat (first|apply yr0|apply yr1|apply yr2));exact HO_363002.out)) k_ hk, Kd.fresh' (Kd.R_lt (by (with_reducible repeat (first|apply yr0|apply yr1|apply yr2));exact hc.out)) k_ hk⟩))
               (case aO => exact (by (with_reducible repeat (first|apply yr0|apply yr1|apply yr2));exact Kd.R_mono HO389.out (fun _ hk => ⟨hk.1.1.2, ⟨hk.1.2, hk.2⟩⟩)))
               (case aS => exact (zr2 (by repeat (first|(with_reducible first|exact HB.out|apply zq7|apply zq8|apply zq9|refine zr1 ?_ GE361.out|refine zr1 ?_ GE362.out|refine zr1 ?_ GE371.out|refine zr1 ?_ GE380.out)|exact HB.out))))
               (case aL => have := LMc97.out;omega)
               intro v391 w148 ho hb hg hat
               rw [← Ny390.out] at ho
               have n0_ := mk_ (Kd.V_afterv (ok := (fun k_ => some k_ ≠ (.slice Ao12 t353.length co12 : Value).ownBlock ∧ some k_ ≠ (.slice Ao14 t358.length co14 : Value).ownBlock ∧ some k_ ≠ (.slice Ao29 t373.length co29 : Value).ownBlock ∧ k_ ≠ gb361 ∧ k_ ≠ gb362 ∧ k_ ≠ gb371 ∧ k_ ≠ gb380)) (by (with_reducible repeat (first|apply yv0|apply yv1|apply yv2));exact he.out) hg hat)
               have n1_ := mk_ (Kd.R_after (ok := (fun k_ => some k_ ≠ (.slice Ao14 t358.length co14 : Value).ownBlock ∧ some k_ ≠ (.slice Ao29 t373.length co29 : Value).ownBlock)) (by (with_reducible repeat (first|apply yr0|apply yr1|apply yr2));exact ha.out) hg hat)
               have n2_ := mk_ (Kd.R_after (ok := (fun k_ => some k_ ≠ (.slice Ao12 t353.length co12 : Value).ownBlock ∧ some k_ ≠ (.slice Ao29 t373.length co29 : Value).ownBlock)) (by (with_reducible repeat (first|apply yr0|apply yr1|apply yr2));exact HO_363002.out) hg hat)
               have n3_ := mk_ (Kd.V_afterv (ok := (fun k_ => some k_ ≠ (.slice Ao12 t353.length co12 : Value).ownBlock ∧ some k_ ≠ (.slice Ao14 t358.length co14 : Value).ownBlock ∧ some k_ ≠ (.slice Ao29 t373.length co29 : Value).ownBlock ∧ k_ ≠ gb361 ∧ k_ ≠ gb362 ∧ k_ ≠ gb371 ∧ k_ ≠ gb380)) (by (with_reducible repeat (first|apply yv0|apply yv1|apply yv2));exact HO_372001.out) hg hat)
               have n4_ := mk_ (Kd.R_after (ok := (fun k_ => some k_ ≠ (.slice Ao12 t353.length co12 : Value).ownBlock ∧ some k_ ≠ (.slice Ao14 t358.length co14 : Value).ownBlock)) (by (with_reducible repeat (first|apply yr0|apply yr1|apply yr2));exact hc.out) hg hat)
               have n5_ := mk_ (blk_grown (g := gb361) (o := .cells #[.int .i64 t352, .slice Ao12 t353.length co12] 35 (0, 0)) (by exact BK361.out) hg (Kd.R_ne HO389.out BK361.out (by decide)))
               have n6_ := mk_ (blk_grown (g := gb362) (o := .cells #[.int .i64 t356, .int .i64 t357, .slice Ao14 t358.length co14] 39 (0, 0)) (by exact BK362.out) hg (Kd.R_ne HO389.out BK362.out (by decide)))
               have n7_ := mk_ (blk_grown (g := gb371) (o := .cells #[.int .i64 t363, .slice Ao20 t364.length co20] 35 (0, 0)) (by exact BK371.out) hg (Kd.R_ne HO389.out BK371.out (by decide)))
               have n8_ := mk_ (blk_grown (g := gb380) (o := .cells #[.int .i64 t372, .slice Ao29 t373.length co29] 35 (0, 0)) (by exact BK380.out) hg (Kd.R_ne HO389.out BK380.out (by decide)))
               have n9_ := mk_ (hb)
               have n10_ := mk_ (ho)
               clear he
               clear ha
               clear HO_363002
               clear HO_372001
               clear hc
               clear BK361
               clear BK362
               clear BK371
               clear BK380
               clear HB
               clear HO389
               have he := n0_
               have ha := n1_
               have HO_363002 := n2_
               have HO_372001 := n3_
               have hc := n4_
               have BK361 := n5_
               have BK362 := n6_
               have BK371 := n7_
               have BK380 := n8_
               have HB := n9_
               have HO392 := n10_
               clear n0_ n1_ n2_ n3_ n4_ n5_ n6_ n7_ n8_ n9_ n10_
               clear ho hb hg hat
               refine hK.out _ _ ⟨(zr4 BK361.out 0).trans rfl, (zr4 BK361.out 1).trans rfl, (zr4 BK362.out 0).trans rfl, (zr4 BK362.out 1).trans rfl, (zr4 BK362.out 2).trans rfl⟩ (fun hHeld => ?_)
               clear hK K
               refine norm_ (a' := ?_) ?_ ?_
               rotate_left
               ·show Act.put _ (some 70) _ = _
                simp only [Act.put, zs1, zs2, zs3, i64_w, i32_w]
                rfl
               refine one_ (i := 6) (N := some 73) (bm 8 127) rfl rfl (one_of HT_.out (by kernel_rfl)) (by decide) (fun K hK => ?_)
               refine Kd.R_append_rows_step (Kd.int .u8) (w0 := w) w.heap.size (by rfl) (.tmp 70) (.tmp 72) 22 5 (.int .u8 0) 1 rfl Try.underlying22 info5 rfl (by decide) (by omega) v391 y390 t358 _ _ _ (fun k_ => some k_ ≠ (.slice Ao12 t353.length co12 : Value).ownBlock ∧ some k_ ≠ (.slice Ao14 t358.length co14 : Value).ownBlock ∧ some k_ ≠ (.slice Ao29 t373.length co29 : Value).ownBlock) (fun _ => False) rfl rfl ?aO ?aR (fun _ _ h => h) (fun _ h => h.elim) ?aF ?aB ?aS ?aL ?_
               (case aR => repeat (first|exact (Kd.R_reads' HO_363002.out).2.2|(with_reducible refine Kd.C_alloc ?_ _)|(with_reducible refine Kd.C_drewN ?_ _)|(with_reducible refine Kd.C_drew ?_)))
               (case aB => exact (by repeat (first|(with_reducible first|exact HB.out|apply zq7|apply zq8|apply zq9|refine zr1 ?_ GE361.out|refine zr1 ?_ GE362.out|refine zr1 ?_ GE371.out|refine zr1 ?_ GE380.out)|exact HB.out)))
               (case aF => exact (fun k_ hk => ⟨Kd.fresh' (Kd.R_lt (by (with_reducible repeat (first|apply yr0|apply yr1|apply yr2));exact ha.out)) k_ hk, Kd.fresh' (Kd.R_lt (by (with_reducible repeat (first|apply yr0|apply yr1|apply yr2));exact HO_363002.out)) k_ hk, Kd.fresh' (Kd.R_lt (by (with_reducible repeat (first|apply yr0|apply yr1|apply yr2));exact hc.out)) k_ hk⟩))
               (case aO => exact (by (with_reducible repeat (first|apply yr0|apply yr1|apply yr2));exact HO392.out))
               (case aS => exact (zr2 (by repeat (first|(with_reducible first|exact HB.out|apply zq7|apply zq8|apply zq9|refine zr1 ?_ GE361.out|refine zr1 ?_ GE362.out|refine zr1 ?_ GE371.out|refine zr1 ?_ GE380.out)|exact HB.out))))
               (case aL => have := LMc98.out;omega)
               intro v394 w149 ho hb hg hat
               rw [← Ny393.out] at ho
               have n0_ := mk_ (Kd.V_afterv (ok := (fun k_ => some k_ ≠ (.slice Ao12 t353.length co12 : Value).ownBlock ∧ some k_ ≠ (.slice Ao14 t358.length co14 : Value).ownBlock ∧ some k_ ≠ (.slice Ao29 t373.length co29 : Value).ownBlock ∧ k_ ≠ gb361 ∧ k_ ≠ gb362 ∧ k_ ≠ gb371 ∧ k_ ≠ gb380)) (by (with_reducible repeat (first|apply yv0|apply yv1|apply yv2));exact he.out) hg hat)
               have n1_ := mk_ (Kd.R_after (ok := (fun k_ => some k_ ≠ (.slice Ao14 t358.length co14 : Value).ownBlock ∧ some k_ ≠ (.slice Ao29 t373.length co29 : Value).ownBlock)) (by (with_reducible repeat (first|apply yr0|apply yr1|apply yr2));exact ha.out) hg hat)
               have n2_ := mk_ (Kd.R_after (ok := (fun k_ => some k_ ≠ (.slice Ao12 t353.length co12 : Value).ownBlock ∧ some k_ ≠ (.slice Ao29 t373.length co29 : Value).ownBlock)) (by (with_reducible repeat (first|apply yr0|apply yr1|apply yr2));exact HO_363002.out) hg hat)
               have n3_ := mk_ (Kd.V_afterv (ok := (fun k_ => some k_ ≠ (.slice Ao12 t353.length co12 : Value).ownBlock ∧ some k_ ≠ (.slice Ao14 t358.length co14 : Value).ownBlock ∧ some k_ ≠ (.slice Ao29 t373.length co29 : Value).ownBlock ∧ k_ ≠ gb361 ∧ k_ ≠ gb362 ∧ k_ ≠ gb371 ∧ k_ ≠ gb380)) (by (with_reducible repeat (first|apply yv0|apply yv1|apply yv2));exact HO_372001.out) hg hat)
               have n4_ := mk_ (Kd.R_after (ok := (fun k_ => some k_ ≠ (.slice Ao12 t353.length co12 : Value).ownBlock ∧ some k_ ≠ (.slice Ao14 t358.length co14 : Value).ownBlock)) (by (with_reducible repeat (first|apply yr0|apply yr1|apply yr2));exact hc.out) hg hat)
               have n5_ := mk_ (blk_grown (g := gb361) (o := .cells #[.int .i64 t352, .slice Ao12 t353.length co12] 35 (0, 0)) (by exact BK361.out) hg (Kd.R_ne HO392.out BK361.out (by decide)))
               have n6_ := mk_ (blk_grown (g := gb362) (o := .cells #[.int .i64 t356, .int .i64 t357, .slice Ao14 t358.length co14] 39 (0, 0)) (by exact BK362.out) hg (Kd.R_ne HO392.out BK362.out (by decide)))
               have n7_ := mk_ (blk_grown (g := gb371) (o := .cells #[.int .i64 t363, .slice Ao20 t364.length co20] 35 (0, 0)) (by exact BK371.out) hg (Kd.R_ne HO392.out BK371.out (by decide)))
               have n8_ := mk_ (blk_grown (g := gb380) (o := .cells #[.int .i64 t372, .slice Ao29 t373.length co29] 35 (0, 0)) (by exact BK380.out) hg (Kd.R_ne HO392.out BK380.out (by decide)))
               have n9_ := mk_ (hb)
               have n10_ := mk_ (ho)
               clear he
               clear ha
               clear HO_363002
               clear HO_372001
               clear hc
               clear BK361
               clear BK362
               clear BK371
               clear BK380
               clear HB
               clear HO392
               have he := n0_
               have ha := n1_
               have HO_363002 := n2_
               have HO_372001 := n3_
               have hc := n4_
               have BK361 := n5_
               have BK362 := n6_
               have BK371 := n7_
               have BK380 := n8_
               have HB := n9_
               have HO395 := n10_
               clear n0_ n1_ n2_ n3_ n4_ n5_ n6_ n7_ n8_ n9_ n10_
               clear ho hb hg hat
               refine hK.out _ _ ⟨(zr4 BK361.out 0).trans rfl, (zr4 BK361.out 1).trans rfl, (zr4 BK362.out 0).trans rfl, (zr4 BK362.out 1).trans rfl, (zr4 BK362.out 2).trans rfl⟩ (fun hHeld => ?_)
               clear hK K
               refine norm_ (a' := ?_) ?_ ?_
               rotate_left
               ·show Act.put _ (some 73) _ = _
                simp only [Act.put, zs1, zs2, zs3, i64_w, i32_w]
                rfl
               refine pA 7 (some 11) (bm 8 255) rfl rfl HT_.out (by kernel_rfl) (fun _ _ _ h => h) (by rfl) (by intro w';go_simp;with_reducible rfl) (by simp only [Act.put, zs1, zs2, zs3, i64_w, i32_w];rfl) ?_
               refine done_ (done_of HT_.out (by kernel_rfl)) ?_
               have hnb150 := NB371_361.out
               have hnc150 := NB361_371.out
               have hnb151 := NB371_362.out
               have hnc151 := NB362_371.out
               have hnb152 := NB371_380.out
               have hnc152 := NB380_371.out
               obtain ⟨hcz153_0, hcz153_1⟩ := cz2 BK371.out
               obtain ⟨hfz153_0, hfz153_1⟩ := fz2 BK371.out
               try go_wp2_with (first|((with_reducible refine gate_callee (f := 29) rfl ?_);refine goesL_ (some 94) rfl rfl Try.func29 (by kernel_rfl) rfl #[.agg #[.int .i64 t363, .slice Ao20 t364.length co20], .agg #[.int .i64 0, .slice none 0 0]] rfl (by (try simp only [List.map_toArray, List.map_cons, List.map_nil]);first|done|rfl|(simp only [List.length_drop, List.length_take];rfl)) ?_;(refine (laws_liJoin.calls kj62 t363 _ _ t364 0 _ _ ([] : List Int) true _ ?side1 ?side2 ?side3 ?side4 A140.out).mono ?_);(case side1 => repeat (first|exact (Kd.V_reads' HO_372001.out).2.2|(with_reducible refine Kd.C_alloc ?_ _)|(with_reducible refine Kd.C_drewN ?_ _)|(with_reducible refine Kd.C_drew ?_)));(case side2 => exact (Kd.V_reads' HO_372001.out).2.1);(case side3 => exact Kd.C_nil _ _);(case side4 => exact Nat.le_refl _);rintro e w154 ⟨rfl, hb⟩;refine ⟨_, rfl, ?_⟩;replace he := mk_ (Kd.V_below (by (with_reducible repeat (first|apply yv0|apply yv1|apply yv2));exact he.out) hb);replace ha := mk_ (Kd.R_below (by (with_reducible repeat (first|apply yr0|apply yr1|apply yr2));exact ha.out) hb);replace HO_363002 := mk_ (Kd.R_below (by (with_reducible repeat (first|apply yr0|apply yr1|apply yr2));exact HO_363002.out) hb);replace HO_372001 := mk_ (Kd.V_below (by (with_reducible repeat (first|apply yv0|apply yv1|apply yv2));exact HO_372001.out) hb);replace hc := mk_ (Kd.R_below (by (with_reducible repeat (first|apply yr0|apply yr1|apply yr2));exact hc.out) hb);replace HO395 := mk_ (Kd.R_below (by (with_reducible repeat (first|apply yr0|apply yr1|apply yr2));exact HO395.out) hb);replace BK361 := mk_ (zq6 (by exact BK361.out) hb);replace BK362 := mk_ (zq6 (by exact BK362.out) hb);replace BK371 := mk_ (zq6 (by exact BK371.out) hb);replace BK380 := mk_ (zq6 (by exact BK380.out) hb);replace HB := mk_ (zr3 (by repeat (first|(with_reducible first|exact HB.out|apply zq7|apply zq8|apply zq9|refine zr1 ?_ GE361.out|refine zr1 ?_ GE362.out|refine zr1 ?_ GE371.out|refine zr1 ?_ GE380.out)|exact HB.out)) hb);(try clear hb);(try clear hb2);(try clear hk);(try clear hi);obtain ⟨Ao155, co155, eo155⟩ := Kd.V_slice he.out;subst eo155;obtain ⟨Ao156, co156, eo156⟩ := Kd.R_slice HO395.out;subst eo156)|(go_at_call 28;(with_reducible refine (laws_liBytes.calls kj62 _ _ t367 _ _ y393 true _ ?side1 ?side2 ?side3 ?side4 A142.out).mono ?_);(case side1 => repeat (first|exact (Kd.V_reads' he.out).2.2|(with_reducible refine Kd.C_alloc ?_ _)|(with_reducible refine Kd.C_drewN ?_ _)|(with_reducible refine Kd.C_drew ?_)));(case side2 => exact (Kd.V_reads' he.out).2.1);(case side3 => repeat (first|exact (Kd.R_reads' HO395.out).2.2|(with_reducible refine Kd.C_alloc ?_ _)|(with_reducible refine Kd.C_drewN ?_ _)|(with_reducible refine Kd.C_drew ?_)));(case side4 => exact (Kd.R_reads' HO395.out).2.1);rintro e w' ⟨rfl, ⟨nd, rfl⟩⟩;have hnb157 := NB361_362.out;have hnc157 := NB362_361.out;have hnb158 := NB361_380.out;have hnc158 := NB380_361.out;obtain ⟨hcz159_0, hcz159_1⟩ := cz2 BK361.out;obtain ⟨hfz159_0, hfz159_1⟩ := fz2 BK361.out))
               go_ret
               exact ⟨by first|rfl|(simp [errW_none, errW_some] <;> rfl)|(simp [*, errW_none, errW_some] <;> rfl), by repeat (first|(with_reducible first|exact HB.out|apply zq7|apply zq8|apply zq9|refine zr1 ?_ GE361.out|refine zr1 ?_ GE362.out|refine zr1 ?_ GE371.out|refine zr1 ?_ GE380.out)|exact HB.out)⟩
              ·rw [if_neg c144] at H
               have c144b0 : (t352 == 0) = false := beq_eq_false_iff_ne.mpr c144
               have c144b1 : (t352 != 0) = true := bne_iff_ne.mpr c144
               obtain rfl := Option.some.inj H
               try go_wp2
               replace he := mk_ (Kd.V_drew he.out)
               replace ha := mk_ (Kd.R_drew ha.out)
               replace HO_363002 := mk_ (Kd.R_drew HO_363002.out)
               replace HO_372001 := mk_ (Kd.V_drew HO_372001.out)
               replace hc := mk_ (Kd.R_drew hc.out)
               replace BK361 := mk_ (zq2 BK361.out)
               replace BK362 := mk_ (zq2 BK362.out)
               replace BK371 := mk_ (zq2 BK371.out)
               replace BK380 := mk_ (zq2 BK380.out)
               replace HB := mk_ (zq9 HB.out)
               refine start_ (n := 8) (S := fun w' => w'.cell? ⟨gb361, 0, none⟩ = some (.int .i64 t352) ∧ w'.cell? ⟨gb361, 1, none⟩ = some (.slice Ao12 t353.length co12) ∧ w'.cell? ⟨gb362, 0, none⟩ = some (.int .i64 t356) ∧ w'.cell? ⟨gb362, 1, none⟩ = some (.int .i64 t357) ∧ w'.cell? ⟨gb362, 2, none⟩ = some (.slice Ao14 t358.length co14)) (ds := []) (bm 8 0) (by kernel_rfl) rfl rfl ⟨(zr4 BK361.out 0).trans rfl, (zr4 BK361.out 1).trans rfl, (zr4 BK362.out 0).trans rfl, (zr4 BK362.out 1).trans rfl, (zr4 BK362.out 2).trans rfl⟩ (fun hHeld => ?_);refine with_tabW laws_FnSegPut.tab10 laws_FnSegPut.bits10 (fun HT_ HW_ => ?_)
               generalize wc.drew = w160 at he ha HO_363002 HO_372001 hc BK361 BK362 BK371 BK380 HB hHeld ⊢
               refine pA 1 (some 68) (bm 8 2) rfl rfl HT_.out (by kernel_rfl) (fun _ _ _ h => h) (by rfl) (by intro w';go_simp;with_reducible rfl) (by simp only [Act.put, zs1, zs2, zs3, i64_w, i32_w];rfl) ?_
               refine pA 4 (some 71) (bm 8 18) rfl rfl HT_.out (by kernel_rfl) (fun _ _ _ h => h) (by rfl) (by intro w';go_simp;with_reducible rfl) (by simp only [Act.put, zs1, zs2, zs3, i64_w, i32_w];rfl) ?_
               refine tA 2 (some 69) (bm 8 22) rfl rfl HT_.out HW_.out (by kernel_rfl) (fun _ _ _ h => h) (by rfl) hHeld (by rintro w' ⟨s0, s1, s2, s3, s4⟩;go_simp;with_reducible rfl) (by simp only [Act.put, zs1, zs2, zs3, i64_w, i32_w];rfl) ?_
               refine tA 5 (some 72) (bm 8 54) rfl rfl HT_.out HW_.out (by kernel_rfl) (fun _ _ _ h => h) (by rfl) hHeld (by rintro w' ⟨s0, s1, s2, s3, s4⟩;go_simp;with_reducible rfl) (by simp only [Act.put, zs1, zs2, zs3, i64_w, i32_w];rfl) ?_
               refine one_ (i := 0) (N := some 67) (bm 8 55) rfl rfl (one_of HT_.out (by kernel_rfl)) (by decide) (fun K hK => ?_)
               refine Kd.R_lit_step (Kd.int .u8) _ 5 ?hg (N := 67) ?hd (xs := ([] : List Int)) (inner := []) (ok := fun _ => True) (okp := fun _ => True) ?hr ?hp (fun _ hk => hk) trivial (Below.refl _ _) (Nat.le_refl _) (by simp) ?_;(case hd => rfl);(case hg => rfl);(case hr => first|(go_simp;done)|(go_simp;rfl));(case hp => exact (Reps.none _ _))
               intro v388 w161 ho162 hb hg_ hnew_
               clear hg_ hnew_
               (first|rw [← Ny387.out] at ho162|(simp only [Int.reduceToNat] at ho162;rw [← Ny387.out] at ho162))
               replace he := mk_ (Kd.V_elder' (by (with_reducible repeat (first|apply yv0|apply yv1|apply yv2));exact he.out) (Kd.R_base ho162) hb)
               replace HO_372001 := mk_ (Kd.V_elder' (by (with_reducible repeat (first|apply yv0|apply yv1|apply yv2));exact HO_372001.out) (Kd.R_base ho162) hb)
               have HO389 := mk_ (Kd.R_lower (Kd.R_new' (Kd.R_new' (Kd.R_new' ho162 (Kd.R_lt (by (with_reducible repeat (first|apply yr0|apply yr1|apply yr2));exact ha.out))) (Kd.R_lt (by (with_reducible repeat (first|apply yr0|apply yr1|apply yr2));exact HO_363002.out))) (Kd.R_lt (by (with_reducible repeat (first|apply yr0|apply yr1|apply yr2));exact hc.out))) (zr2 (by repeat (first|(with_reducible first|exact HB.out|apply zq7|apply zq8|apply zq9|refine zr1 ?_ GE361.out|refine zr1 ?_ GE362.out|refine zr1 ?_ GE371.out|refine zr1 ?_ GE380.out)|exact HB.out))))
               replace ha := mk_ (Kd.R_elder' (by (with_reducible repeat (first|apply yr0|apply yr1|apply yr2));exact ha.out) (Kd.R_base ho162) hb)
               replace HO_363002 := mk_ (Kd.R_elder' (by (with_reducible repeat (first|apply yr0|apply yr1|apply yr2));exact HO_363002.out) (Kd.R_base ho162) hb)
               replace hc := mk_ (Kd.R_elder' (by (with_reducible repeat (first|apply yr0|apply yr1|apply yr2));exact hc.out) (Kd.R_base ho162) hb)
               replace BK361 := mk_ (zq6 (by exact BK361.out) hb)
               replace BK362 := mk_ (zq6 (by exact BK362.out) hb)
               replace BK371 := mk_ (zq6 (by exact BK371.out) hb)
               replace BK380 := mk_ (zq6 (by exact BK380.out) hb)
               replace HB := mk_ (zr3 (by repeat (first|(with_reducible first|exact HB.out|apply zq7|apply zq8|apply zq9|refine zr1 ?_ GE361.out|refine zr1 ?_ GE362.out|refine zr1 ?_ GE371.out|refine zr1 ?_ GE380.out)|exact HB.out)) hb)
               clear hb ho162
               refine hK.out _ _ ⟨(zr4 BK361.out 0).trans rfl, (zr4 BK361.out 1).trans rfl, (zr4 BK362.out 0).trans rfl, (zr4 BK362.out 1).trans rfl, (zr4 BK362.out 2).trans rfl⟩ (fun hHeld => ?_)
               clear hK K
               refine norm_ (a' := ?_) ?_ ?_
               rotate_left
               ·show Act.put _ (some 67) _ = _
                simp only [Act.put, zs1, zs2, zs3, i64_w, i32_w]
                rfl
               refine one_ (i := 3) (N := some 70) (bm 8 63) rfl rfl (one_of HT_.out (by kernel_rfl)) (by decide) (fun K hK => ?_)
               refine Kd.R_append_rows_step (Kd.int .u8) (w0 := w) w.heap.size (by rfl) (.tmp 67) (.tmp 69) 22 5 (.int .u8 0) 1 rfl Try.underlying22 info5 rfl (by decide) (by omega) v388 y387 t353 _ _ _ (fun k_ => some k_ ≠ (.slice Ao12 t353.length co12 : Value).ownBlock ∧ some k_ ≠ (.slice Ao14 t358.length co14 : Value).ownBlock ∧ some k_ ≠ (.slice Ao29 t373.length co29 : Value).ownBlock) (fun _ => False) rfl rfl ?aO ?aR (fun _ _ h => h) (fun _ h => h.elim) ?aF ?aB ?aS ?aL ?_
               (case aR => repeat (first|exact (Kd.R_reads' ha.out).2.2|(with_reducible refine Kd.C_alloc ?_ _)|(with_reducible refine Kd.C_drewN ?_ _)|(with_reducible refine Kd.C_drew ?_)))
               (case aB => exact (by repeat (first|(with_reducible first|exact HB.out|apply zq7|apply zq8|apply zq9|refine zr1 ?_ GE361.out|refine zr1 ?_ GE362.out|refine zr1 ?_ GE371.out|refine zr1 ?_ GE380.out)|exact HB.out)))
               (case aF => exact (fun k_ hk => ⟨Kd.fresh' (Kd.R_lt (by (with_reducible repeat (first|apply yr0|apply yr1|apply yr2));exact ha.out)) k_ hk, Kd.fresh' (Kd.R_lt (by (with_reducible repeat (first|apply yr0|apply yr1|apply yr2));exact HO_363002.out)) k_ hk, Kd.fresh' (Kd.R_lt (by (with_reducible repeat (first|apply yr0|apply yr1|apply yr2));exact hc.out)) k_ hk⟩))
               (case aO => exact (by (with_reducible repeat (first|apply yr0|apply yr1|apply yr2));exact Kd.R_mono HO389.out (fun _ hk => ⟨hk.1.1.2, ⟨hk.1.2, hk.2⟩⟩)))
               (case aS => exact (zr2 (by repeat (first|(with_reducible first|exact HB.out|apply zq7|apply zq8|apply zq9|refine zr1 ?_ GE361.out|refine zr1 ?_ GE362.out|refine zr1 ?_ GE371.out|refine zr1 ?_ GE380.out)|exact HB.out))))
               (case aL => have := LMc97.out;omega)
               intro v391 w163 ho hb hg hat
               rw [← Ny390.out] at ho
               have n0_ := mk_ (Kd.V_afterv (ok := (fun k_ => some k_ ≠ (.slice Ao12 t353.length co12 : Value).ownBlock ∧ some k_ ≠ (.slice Ao14 t358.length co14 : Value).ownBlock ∧ some k_ ≠ (.slice Ao29 t373.length co29 : Value).ownBlock ∧ k_ ≠ gb361 ∧ k_ ≠ gb362 ∧ k_ ≠ gb371 ∧ k_ ≠ gb380)) (by (with_reducible repeat (first|apply yv0|apply yv1|apply yv2));exact he.out) hg hat)
               have n1_ := mk_ (Kd.R_after (ok := (fun k_ => some k_ ≠ (.slice Ao14 t358.length co14 : Value).ownBlock ∧ some k_ ≠ (.slice Ao29 t373.length co29 : Value).ownBlock)) (by (with_reducible repeat (first|apply yr0|apply yr1|apply yr2));exact ha.out) hg hat)
               have n2_ := mk_ (Kd.R_after (ok := (fun k_ => some k_ ≠ (.slice Ao12 t353.length co12 : Value).ownBlock ∧ some k_ ≠ (.slice Ao29 t373.length co29 : Value).ownBlock)) (by (with_reducible repeat (first|apply yr0|apply yr1|apply yr2));exact HO_363002.out) hg hat)
               have n3_ := mk_ (Kd.V_afterv (ok := (fun k_ => some k_ ≠ (.slice Ao12 t353.length co12 : Value).ownBlock ∧ some k_ ≠ (.slice Ao14 t358.length co14 : Value).ownBlock ∧ some k_ ≠ (.slice Ao29 t373.length co29 : Value).ownBlock ∧ k_ ≠ gb361 ∧ k_ ≠ gb362 ∧ k_ ≠ gb371 ∧ k_ ≠ gb380)) (by (with_reducible repeat (first|apply yv0|apply yv1|apply yv2));exact HO_372001.out) hg hat)
               have n4_ := mk_ (Kd.R_after (ok := (fun k_ => some k_ ≠ (.slice Ao12 t353.length co12 : Value).ownBlock ∧ some k_ ≠ (.slice Ao14 t358.length co14 : Value).ownBlock)) (by (with_reducible repeat (first|apply yr0|apply yr1|apply yr2));exact hc.out) hg hat)
               have n5_ := mk_ (blk_grown (g := gb361) (o := .cells #[.int .i64 t352, .slice Ao12 t353.length co12] 35 (0, 0)) (by exact BK361.out) hg (Kd.R_ne HO389.out BK361.out (by decide)))
               have n6_ := mk_ (blk_grown (g := gb362) (o := .cells #[.int .i64 t356, .int .i64 t357, .slice Ao14 t358.length co14] 39 (0, 0)) (by exact BK362.out) hg (Kd.R_ne HO389.out BK362.out (by decide)))
               have n7_ := mk_ (blk_grown (g := gb371) (o := .cells #[.int .i64 t363, .slice Ao20 t364.length co20] 35 (0, 0)) (by exact BK371.out) hg (Kd.R_ne HO389.out BK371.out (by decide)))
               have n8_ := mk_ (blk_grown (g := gb380) (o := .cells #[.int .i64 t372, .slice Ao29 t373.length co29] 35 (0, 0)) (by exact BK380.out) hg (Kd.R_ne HO389.out BK380.out (by decide)))
               have n9_ := mk_ (hb)
               have n10_ := mk_ (ho)
               clear he
               clear ha
               clear HO_363002
               clear HO_372001
               clear hc
               clear BK361
               clear BK362
               clear BK371
               clear BK380
               clear HB
               clear HO389
               have he := n0_
               have ha := n1_
               have HO_363002 := n2_
               have HO_372001 := n3_
               have hc := n4_
               have BK361 := n5_
               have BK362 := n6_
               have BK371 := n7_
               have BK380 := n8_
               have HB := n9_
               have HO392 := n10_
               clear n0_ n1_ n2_ n3_ n4_ n5_ n6_ n7_ n8_ n9_ n10_
               clear ho hb hg hat
               refine hK.out _ _ ⟨(zr4 BK361.out 0).trans rfl, (zr4 BK361.out 1).trans rfl, (zr4 BK362.out 0).trans rfl, (zr4 BK362.out 1).trans rfl, (zr4 BK362.out 2).trans rfl⟩ (fun hHeld => ?_)
               clear hK K
               refine norm_ (a' := ?_) ?_ ?_
               rotate_left
               ·show Act.put _ (some 70) _ = _
                simp only [Act.put, zs1, zs2, zs3, i64_w, i32_w]
                rfl
               refine one_ (i := 6) (N := some 73) (bm 8 127) rfl rfl (one_of HT_.out (by kernel_rfl)) (by decide) (fun K hK => ?_)
               refine Kd.R_append_rows_step (Kd.int .u8) (w0 := w) w.heap.size (by rfl) (.tmp 70) (.tmp 72) 22 5 (.int .u8 0) 1 rfl Try.underlying22 info5 rfl (by decide) (by omega) v391 y390 t358 _ _ _ (fun k_ => some k_ ≠ (.slice Ao12 t353.length co12 : Value).ownBlock ∧ some k_ ≠ (.slice Ao14 t358.length co14 : Value).ownBlock ∧ some k_ ≠ (.slice Ao29 t373.length co29 : Value).ownBlock) (fun _ => False) rfl rfl ?aO ?aR (fun _ _ h => h) (fun _ h => h.elim) ?aF ?aB ?aS ?aL ?_
               (case aR => repeat (first|exact (Kd.R_reads' HO_363002.out).2.2|(with_reducible refine Kd.C_alloc ?_ _)|(with_reducible refine Kd.C_drewN ?_ _)|(with_reducible refine Kd.C_drew ?_)))
               (case aB => exact (by repeat (first|(with_reducible first|exact HB.out|apply zq7|apply zq8|apply zq9|refine zr1 ?_ GE361.out|refine zr1 ?_ GE362.out|refine zr1 ?_ GE371.out|refine zr1 ?_ GE380.out)|exact HB.out)))
               (case aF => exact (fun k_ hk => ⟨Kd.fresh' (Kd.R_lt (by (with_reducible repeat (first|apply yr0|apply yr1|apply yr2));exact ha.out)) k_ hk, Kd.fresh' (Kd.R_lt (by (with_reducible repeat (first|apply yr0|apply yr1|apply yr2));exact HO_363002.out)) k_ hk, Kd.fresh' (Kd.R_lt (by (with_reducible repeat (first|apply yr0|apply yr1|apply yr2));exact hc.out)) k_ hk⟩))
               (case aO => exact (by (with_reducible repeat (first|apply yr0|apply yr1|apply yr2));exact HO392.out))
               (case aS => exact (zr2 (by repeat (first|(with_reducible first|exact HB.out|apply zq7|apply zq8|apply zq9|refine zr1 ?_ GE361.out|refine zr1 ?_ GE362.out|refine zr1 ?_ GE371.out|refine zr1 ?_ GE380.out)|exact HB.out))))
               (case aL => have := LMc98.out;omega)
               intro v394 w164 ho hb hg hat
               rw [← Ny393.out] at ho
               have n0_ := mk_ (Kd.V_afterv (ok := (fun k_ => some k_ ≠ (.slice Ao12 t353.length co12 : Value).ownBlock ∧ some k_ ≠ (.slice Ao14 t358.length co14 : Value).ownBlock ∧ some k_ ≠ (.slice Ao29 t373.length co29 : Value).ownBlock ∧ k_ ≠ gb361 ∧ k_ ≠ gb362 ∧ k_ ≠ gb371 ∧ k_ ≠ gb380)) (by (with_reducible repeat (first|apply yv0|apply yv1|apply yv2));exact he.out) hg hat)
               have n1_ := mk_ (Kd.R_after (ok := (fun k_ => some k_ ≠ (.slice Ao14 t358.length co14 : Value).ownBlock ∧ some k_ ≠ (.slice Ao29 t373.length co29 : Value).ownBlock)) (by (with_reducible repeat (first|apply yr0|apply yr1|apply yr2));exact ha.out) hg hat)
               have n2_ := mk_ (Kd.R_after (ok := (fun k_ => some k_ ≠ (.slice Ao12 t353.length co12 : Value).ownBlock ∧ some k_ ≠ (.slice Ao29 t373.length co29 : Value).ownBlock)) (by (with_reducible repeat (first|apply yr0|apply yr1|apply yr2));exact HO_363002.out) hg hat)
               have n3_ := mk_ (Kd.V_afterv (ok := (fun k_ => some k_ ≠ (.slice Ao12 t353.length co12 : Value).ownBlock ∧ some k_ ≠ (.slice Ao14 t358.length co14 : Value).ownBlock ∧ some k_ ≠ (.slice Ao29 t373.length co29 : Value).ownBlock ∧ k_ ≠ gb361 ∧ k_ ≠ gb362 ∧ k_ ≠ gb371 ∧ k_ ≠ gb380)) (by (with_reducible repeat (first|apply yv0|apply yv1|apply yv2));exact HO_372001.out) hg hat)
               have n4_ := mk_ (Kd.R_after (ok := (fun k_ => some k_ ≠ (.slice Ao12 t353.length co12 : Value).ownBlock ∧ some k_ ≠ (.slice Ao14 t358.length co14 : Value).ownBlock)) (by (with_reducible repeat (first|apply yr0|apply yr1|apply yr2));exact hc.out) hg hat)
               have n5_ := mk_ (blk_grown (g := gb361) (o := .cells #[.int .i64 t352, .slice Ao12 t353.length co12] 35 (0, 0)) (by exact BK361.out) hg (Kd.R_ne HO392.out BK361.out (by decide)))
               have n6_ := mk_ (blk_grown (g := gb362) (o := .cells #[.int .i64 t356, .int .i64 t357, .slice Ao14 t358.length co14] 39 (0, 0)) (by exact BK362.out) hg (Kd.R_ne HO392.out BK362.out (by decide)))
               have n7_ := mk_ (blk_grown (g := gb371) (o := .cells #[.int .i64 t363, .slice Ao20 t364.length co20] 35 (0, 0)) (by exact BK371.out) hg (Kd.R_ne HO392.out BK371.out (by decide)))
               have n8_ := mk_ (blk_grown (g := gb380) (o := .cells #[.int .i64 t372, .slice Ao29 t373.length co29] 35 (0, 0)) (by exact BK380.out) hg (Kd.R_ne HO392.out BK380.out (by decide)))
               have n9_ := mk_ (hb)
               have n10_ := mk_ (ho)
               clear he
               clear ha
               clear HO_363002
               clear HO_372001
               clear hc
               clear BK361
               clear BK362
               clear BK371
               clear BK380
               clear HB
               clear HO392
               have he := n0_
               have ha := n1_
               have HO_363002 := n2_
               have HO_372001 := n3_
               have hc := n4_
               have BK361 := n5_
               have BK362 := n6_
               have BK371 := n7_
               have BK380 := n8_
               have HB := n9_
               have HO395 := n10_
               clear n0_ n1_ n2_ n3_ n4_ n5_ n6_ n7_ n8_ n9_ n10_
               clear ho hb hg hat
               refine hK.out _ _ ⟨(zr4 BK361.out 0).trans rfl, (zr4 BK361.out 1).trans rfl, (zr4 BK362.out 0).trans rfl, (zr4 BK362.out 1).trans rfl, (zr4 BK362.out 2).trans rfl⟩ (fun hHeld => ?_)
               clear hK K
               refine norm_ (a' := ?_) ?_ ?_
               rotate_left
               ·show Act.put _ (some 73) _ = _
                simp only [Act.put, zs1, zs2, zs3, i64_w, i32_w]
                rfl
               refine pA 7 (some 11) (bm 8 255) rfl rfl HT_.out (by kernel_rfl) (fun _ _ _ h => h) (by rfl) (by intro w';go_simp;with_reducible rfl) (by simp only [Act.put, zs1, zs2, zs3, i64_w, i32_w];rfl) ?_
               refine done_ (done_of HT_.out (by kernel_rfl)) ?_
               have hnb165 := NB371_361.out
               have hnc165 := NB361_371.out
               have hnb166 := NB371_362.out
               have hnc166 := NB362_371.out
               have hnb167 := NB371_380.out
               have hnc167 := NB380_371.out
               obtain ⟨hcz168_0, hcz168_1⟩ := cz2 BK371.out
               obtain ⟨hfz168_0, hfz168_1⟩ := fz2 BK371.out
               try go_wp2_with (first|((with_reducible refine gate_callee (f := 29) rfl ?_);refine goesL_ (some 94) rfl rfl Try.func29 (by kernel_rfl) rfl #[.agg #[.int .i64 t363, .slice Ao20 t364.length co20], .agg #[.int .i64 0, .slice none 0 0]] rfl (by (try simp only [List.map_toArray, List.map_cons, List.map_nil]);first|done|rfl|(simp only [List.length_drop, List.length_take];rfl)) ?_;(refine (laws_liJoin.calls kj62 t363 _ _ t364 0 _ _ ([] : List Int) true _ ?side1 ?side2 ?side3 ?side4 A140.out).mono ?_);(case side1 => repeat (first|exact (Kd.V_reads' HO_372001.out).2.2|(with_reducible refine Kd.C_alloc ?_ _)|(with_reducible refine Kd.C_drewN ?_ _)|(with_reducible refine Kd.C_drew ?_)));(case side2 => exact (Kd.V_reads' HO_372001.out).2.1);(case side3 => exact Kd.C_nil _ _);(case side4 => exact Nat.le_refl _);rintro e w169 ⟨rfl, hb⟩;refine ⟨_, rfl, ?_⟩;replace he := mk_ (Kd.V_below (by (with_reducible repeat (first|apply yv0|apply yv1|apply yv2));exact he.out) hb);replace ha := mk_ (Kd.R_below (by (with_reducible repeat (first|apply yr0|apply yr1|apply yr2));exact ha.out) hb);replace HO_363002 := mk_ (Kd.R_below (by (with_reducible repeat (first|apply yr0|apply yr1|apply yr2));exact HO_363002.out) hb);replace HO_372001 := mk_ (Kd.V_below (by (with_reducible repeat (first|apply yv0|apply yv1|apply yv2));exact HO_372001.out) hb);replace hc := mk_ (Kd.R_below (by (with_reducible repeat (first|apply yr0|apply yr1|apply yr2));exact hc.out) hb);replace HO395 := mk_ (Kd.R_below (by (with_reducible repeat (first|apply yr0|apply yr1|apply yr2));exact HO395.out) hb);replace BK361 := mk_ (zq6 (by exact BK361.out) hb);replace BK362 := mk_ (zq6 (by exact BK362.out) hb);replace BK371 := mk_ (zq6 (by exact BK371.out) hb);replace BK380 := mk_ (zq6 (by exact BK380.out) hb);replace HB := mk_ (zr3 (by repeat (first|(with_reducible first|exact HB.out|apply zq7|apply zq8|apply zq9|refine zr1 ?_ GE361.out|refine zr1 ?_ GE362.out|refine zr1 ?_ GE371.out|refine zr1 ?_ GE380.out)|exact HB.out)) hb);(try clear hb);(try clear hb2);(try clear hk);(try clear hi);obtain ⟨Ao170, co170, eo170⟩ := Kd.V_slice he.out;subst eo170;obtain ⟨Ao171, co171, eo171⟩ := Kd.R_slice HO395.out;subst eo171)|(go_at_call 28;(with_reducible refine (laws_liBytes.calls kj62 _ _ t367 _ _ y393 true _ ?side1 ?side2 ?side3 ?side4 A142.out).mono ?_);(case side1 => repeat (first|exact (Kd.V_reads' he.out).2.2|(with_reducible refine Kd.C_alloc ?_ _)|(with_reducible refine Kd.C_drewN ?_ _)|(with_reducible refine Kd.C_drew ?_)));(case side2 => exact (Kd.V_reads' he.out).2.1);(case side3 => repeat (first|exact (Kd.R_reads' HO395.out).2.2|(with_reducible refine Kd.C_alloc ?_ _)|(with_reducible refine Kd.C_drewN ?_ _)|(with_reducible refine Kd.C_drew ?_)));(case side4 => exact (Kd.R_reads' HO395.out).2.1);rintro e w' ⟨rfl, ⟨nd, rfl⟩⟩;have hnb172 := NB361_362.out;have hnc172 := NB362_361.out;have hnb173 := NB361_380.out;have hnc173 := NB380_361.out;obtain ⟨hcz174_0, hcz174_1⟩ := cz2 BK361.out;obtain ⟨hfz174_0, hfz174_1⟩ := fz2 BK361.out))
               go_ret
               exact ⟨by first|rfl|(simp [errW_none, errW_some] <;> rfl)|(simp [*, errW_none, errW_some] <;> rfl), by repeat (first|(with_reducible first|exact HB.out|apply zq7|apply zq8|apply zq9|refine zr1 ?_ GE361.out|refine zr1 ?_ GE362.out|refine zr1 ?_ GE371.out|refine zr1 ?_ GE380.out)|exact HB.out)⟩
             ·replace c143 := Bool.eq_false_iff.mpr c143
              subst c143
              have H1 : (some false) = some r := by rw [if_neg (show ¬ (false = true) by decide)] at H;exact H
              clear H
              have H := H1
              clear H1
              obtain rfl := Option.some.inj H
              try go_wp2
              replace he := mk_ (Kd.V_drew he.out)
              replace ha := mk_ (Kd.R_drew ha.out)
              replace HO_363002 := mk_ (Kd.R_drew HO_363002.out)
              replace HO_372001 := mk_ (Kd.V_drew HO_372001.out)
              replace hc := mk_ (Kd.R_drew hc.out)
              replace BK361 := mk_ (zq2 BK361.out)
              replace BK362 := mk_ (zq2 BK362.out)
              replace BK371 := mk_ (zq2 BK371.out)
              replace BK380 := mk_ (zq2 BK380.out)
              replace HB := mk_ (zq9 HB.out)
              refine start_ (n := 8) (S := fun w' => w'.cell? ⟨gb361, 0, none⟩ = some (.int .i64 t352) ∧ w'.cell? ⟨gb361, 1, none⟩ = some (.slice Ao12 t353.length co12) ∧ w'.cell? ⟨gb362, 0, none⟩ = some (.int .i64 t356) ∧ w'.cell? ⟨gb362, 1, none⟩ = some (.int .i64 t357) ∧ w'.cell? ⟨gb362, 2, none⟩ = some (.slice Ao14 t358.length co14)) (ds := []) (bm 8 0) (by kernel_rfl) rfl rfl ⟨(zr4 BK361.out 0).trans rfl, (zr4 BK361.out 1).trans rfl, (zr4 BK362.out 0).trans rfl, (zr4 BK362.out 1).trans rfl, (zr4 BK362.out 2).trans rfl⟩ (fun hHeld => ?_);refine with_tabW laws_FnSegPut.tab10 laws_FnSegPut.bits10 (fun HT_ HW_ => ?_)
              generalize wc.drew = w175 at he ha HO_363002 HO_372001 hc BK361 BK362 BK371 BK380 HB hHeld ⊢
              refine pA 1 (some 68) (bm 8 2) rfl rfl HT_.out (by kernel_rfl) (fun _ _ _ h => h) (by rfl) (by intro w';go_simp;with_reducible rfl) (by simp only [Act.put, zs1, zs2, zs3, i64_w, i32_w];rfl) ?_
              refine pA 4 (some 71) (bm 8 18) rfl rfl HT_.out (by kernel_rfl) (fun _ _ _ h => h) (by rfl) (by intro w';go_simp;with_reducible rfl) (by simp only [Act.put, zs1, zs2, zs3, i64_w, i32_w];rfl) ?_
              refine tA 2 (some 69) (bm 8 22) rfl rfl HT_.out HW_.out (by kernel_rfl) (fun _ _ _ h => h) (by rfl) hHeld (by rintro w' ⟨s0, s1, s2, s3, s4⟩;go_simp;with_reducible rfl) (by simp only [Act.put, zs1, zs2, zs3, i64_w, i32_w];rfl) ?_
              refine tA 5 (some 72) (bm 8 54) rfl rfl HT_.out HW_.out (by kernel_rfl) (fun _ _ _ h => h) (by rfl) hHeld (by rintro w' ⟨s0, s1, s2, s3, s4⟩;go_simp;with_reducible rfl) (by simp only [Act.put, zs1, zs2, zs3, i64_w, i32_w];rfl) ?_
              refine one_ (i := 0) (N := some 67) (bm 8 55) rfl rfl (one_of HT_.out (by kernel_rfl)) (by decide) (fun K hK => ?_)
              refine Kd.R_lit_step (Kd.int .u8) _ 5 ?hg (N := 67) ?hd (xs := ([] : List Int)) (inner := []) (ok := fun _ => True) (okp := fun _ => True) ?hr ?hp (fun _ hk => hk) trivial (Below.refl _ _) (Nat.le_refl _) (by simp) ?_;(case hd => rfl);(case hg => rfl);(case hr => first|(go_simp;done)|(go_simp;rfl));(case hp => exact (Reps.none _ _))
              intro v388 w176 ho177 hb hg_ hnew_
              clear hg_ hnew_
              (first|rw [← Ny387.out] at ho177|(simp only [Int.reduceToNat] at ho177;rw [← Ny387.out] at ho177))
              replace he := mk_ (Kd.V_elder' (by (with_reducible repeat (first|apply yv0|apply yv1|apply yv2));exact he.out) (Kd.R_base ho177) hb)
              replace HO_372001 := mk_ (Kd.V_elder' (by (with_reducible repeat (first|apply yv0|apply yv1|apply yv2));exact HO_372001.out) (Kd.R_base ho177) hb)
              have HO389 := mk_ (Kd.R_lower (Kd.R_new' (Kd.R_new' (Kd.R_new' ho177 (Kd.R_lt (by (with_reducible repeat (first|apply yr0|apply yr1|apply yr2));exact ha.out))) (Kd.R_lt (by (with_reducible repeat (first|apply yr0|apply yr1|apply yr2));exact HO_363002.out))) (Kd.R_lt (by (with_reducible repeat (first|apply yr0|apply yr1|apply yr2));exact hc.out))) (zr2 (by repeat (first|(with_reducible first|exact HB.out|apply zq7|apply zq8|apply zq9|refine zr1 ?_ GE361.out|refine zr1 ?_ GE362.out|refine zr1 ?_ GE371.out|refine zr1 ?_ GE380.out)|exact HB.out))))
              replace ha := mk_ (Kd.R_elder' (by (with_reducible repeat (first|apply yr0|apply yr1|apply yr2));exact ha.out) (Kd.R_base ho177) hb)
              replace HO_363002 := mk_ (Kd.R_elder' (by (with_reducible repeat (first|apply yr0|apply yr1|apply yr2));exact HO_363002.out) (Kd.R_base ho177) hb)
              replace hc := mk_ (Kd.R_elder' (by (with_reducible repeat (first|apply yr0|apply yr1|apply yr2));exact hc.out) (Kd.R_base ho177) hb)
              replace BK361 := mk_ (zq6 (by exact BK361.out) hb)
              replace BK362 := mk_ (zq6 (by exact BK362.out) hb)
              replace BK371 := mk_ (zq6 (by exact BK371.out) hb)
              replace BK380 := mk_ (zq6 (by exact BK380.out) hb)
              replace HB := mk_ (zr3 (by repeat (first|(with_reducible first|exact HB.out|apply zq7|apply zq8|apply zq9|refine zr1 ?_ GE361.out|refine zr1 ?_ GE362.out|refine zr1 ?_ GE371.out|refine zr1 ?_ GE380.out)|exact HB.out)) hb)
              clear hb ho177
              refine hK.out _ _ ⟨(zr4 BK361.out 0).trans rfl, (zr4 BK361.out 1).trans rfl, (zr4 BK362.out 0).trans rfl, (zr4 BK362.out 1).trans rfl, (zr4 BK362.out 2).trans rfl⟩ (fun hHeld => ?_)
              clear hK K
              refine norm_ (a' := ?_) ?_ ?_
              rotate_left
              ·show Act.put _ (some 67) _ = _
               simp only [Act.put, zs1, zs2, zs3, i64_w, i32_w]
               rfl
              refine one_ (i := 3) (N := some 70) (bm 8 63) rfl rfl (one_of HT_.out (by kernel_rfl)) (by decide) (fun K hK => ?_)
              refine Kd.R_append_rows_step (Kd.int .u8) (w0 := w) w.heap.size (by rfl) (.tmp 67) (.tmp 69) 22 5 (.int .u8 0) 1 rfl Try.underlying22 info5 rfl (by decide) (by omega) v388 y387 t353 _ _ _ (fun k_ => some k_ ≠ (.slice Ao12 t353.length co12 : Value).ownBlock ∧ some k_ ≠ (.slice Ao14 t358.length co14 : Value).ownBlock ∧ some k_ ≠ (.slice Ao29 t373.length co29 : Value).ownBlock) (fun _ => False) rfl rfl ?aO ?aR (fun _ _ h => h) (fun _ h => h.elim) ?aF ?aB ?aS ?aL ?_
              (case aR => repeat (first|exact (Kd.R_reads' ha.out).2.2|(with_reducible refine Kd.C_alloc ?_ _)|(with_reducible refine Kd.C_drewN ?_ _)|(with_reducible refine Kd.C_drew ?_)))
              (case aB => exact (by repeat (first|(with_reducible first|exact HB.out|apply zq7|apply zq8|apply zq9|refine zr1 ?_ GE361.out|refine zr1 ?_ GE362.out|refine zr1 ?_ GE371.out|refine zr1 ?_ GE380.out)|exact HB.out)))
              (case aF => exact (fun k_ hk => ⟨Kd.fresh' (Kd.R_lt (by (with_reducible repeat (first|apply yr0|apply yr1|apply yr2));exact ha.out)) k_ hk, Kd.fresh' (Kd.R_lt (by (with_reducible repeat (first|apply yr0|apply yr1|apply yr2));exact HO_363002.out)) k_ hk, Kd.fresh' (Kd.R_lt (by (with_reducible repeat (first|apply yr0|apply yr1|apply yr2));exact hc.out)) k_ hk⟩))
              (case aO => exact (by (with_reducible repeat (first|apply yr0|apply yr1|apply yr2));exact Kd.R_mono HO389.out (fun _ hk => ⟨hk.1.1.2, ⟨hk.1.2, hk.2⟩⟩)))
              (case aS => exact (zr2 (by repeat (first|(with_reducible first|exact HB.out|apply zq7|apply zq8|apply zq9|refine zr1 ?_ GE361.out|refine zr1 ?_ GE362.out|refine zr1 ?_ GE371.out|refine zr1 ?_ GE380.out)|exact HB.out))))
              (case aL => have := LMc97.out;omega)
              intro v391 w178 ho hb hg hat
              rw [← Ny390.out] at ho
              have n0_ := mk_ (Kd.V_afterv (ok := (fun k_ => some k_ ≠ (.slice Ao12 t353.length co12 : Value).ownBlock ∧ some k_ ≠ (.slice Ao14 t358.length co14 : Value).ownBlock ∧ some k_ ≠ (.slice Ao29 t373.length co29 : Value).ownBlock ∧ k_ ≠ gb361 ∧ k_ ≠ gb362 ∧ k_ ≠ gb371 ∧ k_ ≠ gb380)) (by (with_reducible repeat (first|apply yv0|apply yv1|apply yv2));exact he.out) hg hat)
              have n1_ := mk_ (Kd.R_after (ok := (fun k_ => some k_ ≠ (.slice Ao14 t358.length co14 : Value).ownBlock ∧ some k_ ≠ (.slice Ao29 t373.length co29 : Value).ownBlock)) (by (with_reducible repeat (first|apply yr0|apply yr1|apply yr2));exact ha.out) hg hat)
              have n2_ := mk_ (Kd.R_after (ok := (fun k_ => some k_ ≠ (.slice Ao12 t353.length co12 : Value).ownBlock ∧ some k_ ≠ (.slice Ao29 t373.length co29 : Value).ownBlock)) (by (with_reducible repeat (first|apply yr0|apply yr1|apply yr2));exact HO_363002.out) hg hat)
              have n3_ := mk_ (Kd.V_afterv (ok := (fun k_ => some k_ ≠ (.slice Ao12 t353.length co12 : Value).ownBlock ∧ some k_ ≠ (.slice Ao14 t358.length co14 : Value).ownBlock ∧ some k_ ≠ (.slice Ao29 t373.length co29 : Value).ownBlock ∧ k_ ≠ gb361 ∧ k_ ≠ gb362 ∧ k_ ≠ gb371 ∧ k_ ≠ gb380)) (by (with_reducible repeat (first|apply yv0|apply yv1|apply yv2));exact HO_372001.out) hg hat)
              have n4_ := mk_ (Kd.R_after (ok := (fun k_ => some k_ ≠ (.slice Ao12 t353.length co12 : Value).ownBlock ∧ some k_ ≠ (.slice Ao14 t358.length co14 : Value).ownBlock)) (by (with_reducible repeat (first|apply yr0|apply yr1|apply yr2));exact hc.out) hg hat)
              have n5_ := mk_ (blk_grown (g := gb361) (o := .cells #[.int .i64 t352, .slice Ao12 t353.length co12] 35 (0, 0)) (by exact BK361.out) hg (Kd.R_ne HO389.out BK361.out (by decide)))
              have n6_ := mk_ (blk_grown (g := gb362) (o := .cells #[.int .i64 t356, .int .i64 t357, .slice Ao14 t358.length co14] 39 (0, 0)) (by exact BK362.out) hg (Kd.R_ne HO389.out BK362.out (by decide)))
              have n7_ := mk_ (blk_grown (g := gb371) (o := .cells #[.int .i64 t363, .slice Ao20 t364.length co20] 35 (0, 0)) (by exact BK371.out) hg (Kd.R_ne HO389.out BK371.out (by decide)))
              have n8_ := mk_ (blk_grown (g := gb380) (o := .cells #[.int .i64 t372, .slice Ao29 t373.length co29] 35 (0, 0)) (by exact BK380.out) hg (Kd.R_ne HO389.out BK380.out (by decide)))
              have n9_ := mk_ (hb)
              have n10_ := mk_ (ho)
              clear he
              clear ha
              clear HO_363002
              clear HO_372001
              clear hc
              clear BK361
              clear BK362
              clear BK371
              clear BK380
              clear HB
              clear HO389
              have he := n0_
              have ha := n1_
              have HO_363002 := n2_
              have HO_372001 := n3_
              have hc := n4_
              have BK361 := n5_
              have BK362 := n6_
              have BK371 := n7_
              have BK380 := n8_
              have HB := n9_
              have HO392 := n10_
              clear n0_ n1_ n2_ n3_ n4_ n5_ n6_ n7_ n8_ n9_ n10_
              clear ho hb hg hat
              refine hK.out _ _ ⟨(zr4 BK361.out 0).trans rfl, (zr4 BK361.out 1).trans rfl, (zr4 BK362.out 0).trans rfl, (zr4 BK362.out 1).trans rfl, (zr4 BK362.out 2).trans rfl⟩ (fun hHeld => ?_)
              clear hK K
              refine norm_ (a' := ?_) ?_ ?_
              rotate_left
              ·show Act.put _ (some 70) _ = _
               simp only [Act.put, zs1, zs2, zs3, i64_w, i32_w]
               rfl
              refine one_ (i := 6) (N := some 73) (bm 8 127) rfl rfl (one_of HT_.out (by kernel_rfl)) (by decide) (fun K hK => ?_)
              refine Kd.R_append_rows_step (Kd.int .u8) (w0 := w) w.heap.size (by rfl) (.tmp 70) (.tmp 72) 22 5 (.int .u8 0) 1 rfl Try.underlying22 info5 rfl (by decide) (by omega) v391 y390 t358 _ _ _ (fun k_ => some k_ ≠ (.slice Ao12 t353.length co12 : Value).ownBlock ∧ some k_ ≠ (.slice Ao14 t358.length co14 : Value).ownBlock ∧ some k_ ≠ (.slice Ao29 t373.length co29 : Value).ownBlock) (fun _ => False) rfl rfl ?aO ?aR (fun _ _ h => h) (fun _ h => h.elim) ?aF ?aB ?aS ?aL ?_
              (case aR => repeat (first|exact (Kd.R_reads' HO_363002.out).2.2|(with_reducible refine Kd.C_alloc ?_ _)|(with_reducible refine Kd.C_drewN ?_ _)|(with_reducible refine Kd.C_drew ?_)))
              (case aB => exact (by repeat (first|(with_reducible first|exact HB.out|apply zq7|apply zq8|apply zq9|refine zr1 ?_ GE361.out|refine zr1 ?_ GE362.out|refine zr1 ?_ GE371.out|refine zr1 ?_ GE380.out)|exact HB.out)))
              (case aF => exact (fun k_ hk => ⟨Kd.fresh' (Kd.R_lt (by (with_reducible repeat (first|apply yr0|apply yr1|apply yr2));exact ha.out)) k_ hk, Kd.fresh' (Kd.R_lt (by (with_reducible repeat (first|apply yr0|apply yr1|apply yr2));exact HO_363002.out)) k_ hk, Kd.fresh' (Kd.R_lt (by (with_reducible repeat (first|apply yr0|apply yr1|apply yr2));exact hc.out)) k_ hk⟩))
              (case aO => exact (by (with_reducible repeat (first|apply yr0|apply yr1|apply yr2));exact HO392.out))
              (case aS => exact (zr2 (by repeat (first|(with_reducible first|exact HB.out|apply zq7|apply zq8|apply zq9|refine zr1 ?_ GE361.out|refine zr1 ?_ GE362.out|refine zr1 ?_ GE371.out|refine zr1 ?_ GE380.out)|exact HB.out))))
              (case aL => have := LMc98.out;omega)
              intro v394 w179 ho hb hg hat
              rw [← Ny393.out] at ho
              have n0_ := mk_ (Kd.V_afterv (ok := (fun k_ => some k_ ≠ (.slice Ao12 t353.length co12 : Value).ownBlock ∧ some k_ ≠ (.slice Ao14 t358.length co14 : Value).ownBlock ∧ some k_ ≠ (.slice Ao29 t373.length co29 : Value).ownBlock ∧ k_ ≠ gb361 ∧ k_ ≠ gb362 ∧ k_ ≠ gb371 ∧ k_ ≠ gb380)) (by (with_reducible repeat (first|apply yv0|apply yv1|apply yv2));exact he.out) hg hat)
              have n1_ := mk_ (Kd.R_after (ok := (fun k_ => some k_ ≠ (.slice Ao14 t358.length co14 : Value).ownBlock ∧ some k_ ≠ (.slice Ao29 t373.length co29 : Value).ownBlock)) (by (with_reducible repeat (first|apply yr0|apply yr1|apply yr2));exact ha.out) hg hat)
              have n2_ := mk_ (Kd.R_after (ok := (fun k_ => some k_ ≠ (.slice Ao12 t353.length co12 : Value).ownBlock ∧ some k_ ≠ (.slice Ao29 t373.length co29 : Value).ownBlock)) (by (with_reducible repeat (first|apply yr0|apply yr1|apply yr2));exact HO_363002.out) hg hat)
              have n3_ := mk_ (Kd.V_afterv (ok := (fun k_ => some k_ ≠ (.slice Ao12 t353.length co12 : Value).ownBlock ∧ some k_ ≠ (.slice Ao14 t358.length co14 : Value).ownBlock ∧ some k_ ≠ (.slice Ao29 t373.length co29 : Value).ownBlock ∧ k_ ≠ gb361 ∧ k_ ≠ gb362 ∧ k_ ≠ gb371 ∧ k_ ≠ gb380)) (by (with_reducible repeat (first|apply yv0|apply yv1|apply yv2));exact HO_372001.out) hg hat)
              have n4_ := mk_ (Kd.R_after (ok := (fun k_ => some k_ ≠ (.slice Ao12 t353.length co12 : Value).ownBlock ∧ some k_ ≠ (.slice Ao14 t358.length co14 : Value).ownBlock)) (by (with_reducible repeat (first|apply yr0|apply yr1|apply yr2));exact hc.out) hg hat)
              have n5_ := mk_ (blk_grown (g := gb361) (o := .cells #[.int .i64 t352, .slice Ao12 t353.length co12] 35 (0, 0)) (by exact BK361.out) hg (Kd.R_ne HO392.out BK361.out (by decide)))
              have n6_ := mk_ (blk_grown (g := gb362) (o := .cells #[.int .i64 t356, .int .i64 t357, .slice Ao14 t358.length co14] 39 (0, 0)) (by exact BK362.out) hg (Kd.R_ne HO392.out BK362.out (by decide)))
              have n7_ := mk_ (blk_grown (g := gb371) (o := .cells #[.int .i64 t363, .slice Ao20 t364.length co20] 35 (0, 0)) (by exact BK371.out) hg (Kd.R_ne HO392.out BK371.out (by decide)))
              have n8_ := mk_ (blk_grown (g := gb380) (o := .cells #[.int .i64 t372, .slice Ao29 t373.length co29] 35 (0, 0)) (by exact BK380.out) hg (Kd.R_ne HO392.out BK380.out (by decide)))
              have n9_ := mk_ (hb)
              have n10_ := mk_ (ho)
              clear he
              clear ha
              clear HO_363002
              clear HO_372001
              clear hc
              clear BK361
              clear BK362
              clear BK371
              clear BK380
              clear HB
              clear HO392
              have he := n0_
              have ha := n1_
              have HO_363002 := n2_
              have HO_372001 := n3_
              have hc := n4_
              have BK361 := n5_
              have BK362 := n6_
              have BK371 := n7_
              have BK380 := n8_
              have HB := n9_
              have HO395 := n10_
              clear n0_ n1_ n2_ n3_ n4_ n5_ n6_ n7_ n8_ n9_ n10_
              clear ho hb hg hat
              refine hK.out _ _ ⟨(zr4 BK361.out 0).trans rfl, (zr4 BK361.out 1).trans rfl, (zr4 BK362.out 0).trans rfl, (zr4 BK362.out 1).trans rfl, (zr4 BK362.out 2).trans rfl⟩ (fun hHeld => ?_)
              clear hK K
              refine norm_ (a' := ?_) ?_ ?_
              rotate_left
              ·show Act.put _ (some 73) _ = _
               simp only [Act.put, zs1, zs2, zs3, i64_w, i32_w]
               rfl
              refine pA 7 (some 11) (bm 8 255) rfl rfl HT_.out (by kernel_rfl) (fun _ _ _ h => h) (by rfl) (by intro w';go_simp;with_reducible rfl) (by simp only [Act.put, zs1, zs2, zs3, i64_w, i32_w];rfl) ?_
              refine done_ (done_of HT_.out (by kernel_rfl)) ?_
              have hnb180 := NB371_361.out
              have hnc180 := NB361_371.out
              have hnb181 := NB371_362.out
              have hnc181 := NB362_371.out
              have hnb182 := NB371_380.out
              have hnc182 := NB380_371.out
              obtain ⟨hcz183_0, hcz183_1⟩ := cz2 BK371.out
              obtain ⟨hfz183_0, hfz183_1⟩ := fz2 BK371.out
              try go_wp2_with (first|((with_reducible refine gate_callee (f := 29) rfl ?_);refine goesL_ (some 94) rfl rfl Try.func29 (by kernel_rfl) rfl #[.agg #[.int .i64 t363, .slice Ao20 t364.length co20], .agg #[.int .i64 0, .slice none 0 0]] rfl (by (try simp only [List.map_toArray, List.map_cons, List.map_nil]);first|done|rfl|(simp only [List.length_drop, List.length_take];rfl)) ?_;(refine (laws_liJoin.calls kj62 t363 _ _ t364 0 _ _ ([] : List Int) true _ ?side1 ?side2 ?side3 ?side4 A140.out).mono ?_);(case side1 => repeat (first|exact (Kd.V_reads' HO_372001.out).2.2|(with_reducible refine Kd.C_alloc ?_ _)|(with_reducible refine Kd.C_drewN ?_ _)|(with_reducible refine Kd.C_drew ?_)));(case side2 => exact (Kd.V_reads' HO_372001.out).2.1);(case side3 => exact Kd.C_nil _ _);(case side4 => exact Nat.le_refl _);rintro e w184 ⟨rfl, hb⟩;refine ⟨_, rfl, ?_⟩;replace he := mk_ (Kd.V_below (by (with_reducible repeat (first|apply yv0|apply yv1|apply yv2));exact he.out) hb);replace ha := mk_ (Kd.R_below (by (with_reducible repeat (first|apply yr0|apply yr1|apply yr2));exact ha.out) hb);replace HO_363002 := mk_ (Kd.R_below (by (with_reducible repeat (first|apply yr0|apply yr1|apply yr2));exact HO_363002.out) hb);replace HO_372001 := mk_ (Kd.V_below (by (with_reducible repeat (first|apply yv0|apply yv1|apply yv2));exact HO_372001.out) hb);replace hc := mk_ (Kd.R_below (by (with_reducible repeat (first|apply yr0|apply yr1|apply yr2));exact hc.out) hb);replace HO395 := mk_ (Kd.R_below (by (with_reducible repeat (first|apply yr0|apply yr1|apply yr2));exact HO395.out) hb);replace BK361 := mk_ (zq6 (by exact BK361.out) hb);replace BK362 := mk_ (zq6 (by exact BK362.out) hb);replace BK371 := mk_ (zq6 (by exact BK371.out) hb);replace BK380 := mk_ (zq6 (by exact BK380.out) hb);replace HB := mk_ (zr3 (by repeat (first|(with_reducible first|exact HB.out|apply zq7|apply zq8|apply zq9|refine zr1 ?_ GE361.out|refine zr1 ?_ GE362.out|refine zr1 ?_ GE371.out|refine zr1 ?_ GE380.out)|exact HB.out)) hb);(try clear hb);(try clear hb2);(try clear hk);(try clear hi);obtain ⟨Ao185, co185, eo185⟩ := Kd.V_slice he.out;subst eo185;obtain ⟨Ao186, co186, eo186⟩ := Kd.R_slice HO395.out;subst eo186)|(go_at_call 28;(with_reducible refine (laws_liBytes.calls kj62 _ _ t367 _ _ y393 false _ ?side1 ?side2 ?side3 ?side4 A142.out).mono ?_);(case side1 => repeat (first|exact (Kd.V_reads' he.out).2.2|(with_reducible refine Kd.C_alloc ?_ _)|(with_reducible refine Kd.C_drewN ?_ _)|(with_reducible refine Kd.C_drew ?_)));(case side2 => exact (Kd.V_reads' he.out).2.1);(case side3 => repeat (first|exact (Kd.R_reads' HO395.out).2.2|(with_reducible refine Kd.C_alloc ?_ _)|(with_reducible refine Kd.C_drewN ?_ _)|(with_reducible refine Kd.C_drew ?_)));(case side4 => exact (Kd.R_reads' HO395.out).2.1);rintro e w' ⟨rfl, ⟨nd, rfl⟩⟩))
              go_ret
              exact ⟨by first|rfl|(simp [errW_none, errW_some] <;> rfl)|(simp [*, errW_none, errW_some] <;> rfl), by repeat (first|(with_reducible first|exact HB.out|apply zq7|apply zq8|apply zq9|refine zr1 ?_ GE361.out|refine zr1 ?_ GE362.out|refine zr1 ?_ GE371.out|refine zr1 ?_ GE380.out)|exact HB.out)⟩
            ·replace c141 := Bool.eq_false_iff.mpr c141
             subst c141
             have H1 : (some false) = some r := by rw [if_neg (show ¬ (false = true) by decide)] at H;exact H
             clear H
             have H := H1
             clear H1
             obtain rfl := Option.some.inj H
             try go_wp2
             replace he := mk_ (Kd.V_drew he.out)
             replace ha := mk_ (Kd.R_drew ha.out)
             replace HO_363002 := mk_ (Kd.R_drew HO_363002.out)
             replace HO_372001 := mk_ (Kd.V_drew HO_372001.out)
             replace hc := mk_ (Kd.R_drew hc.out)
             replace BK361 := mk_ (zq2 BK361.out)
             replace BK362 := mk_ (zq2 BK362.out)
             replace BK371 := mk_ (zq2 BK371.out)
             replace BK380 := mk_ (zq2 BK380.out)
             replace HB := mk_ (zq9 HB.out)
             refine start_ (n := 8) (S := fun w' => w'.cell? ⟨gb361, 0, none⟩ = some (.int .i64 t352) ∧ w'.cell? ⟨gb361, 1, none⟩ = some (.slice Ao12 t353.length co12) ∧ w'.cell? ⟨gb362, 0, none⟩ = some (.int .i64 t356) ∧ w'.cell? ⟨gb362, 1, none⟩ = some (.int .i64 t357) ∧ w'.cell? ⟨gb362, 2, none⟩ = some (.slice Ao14 t358.length co14)) (ds := []) (bm 8 0) (by kernel_rfl) rfl rfl ⟨(zr4 BK361.out 0).trans rfl, (zr4 BK361.out 1).trans rfl, (zr4 BK362.out 0).trans rfl, (zr4 BK362.out 1).trans rfl, (zr4 BK362.out 2).trans rfl⟩ (fun hHeld => ?_);refine with_tabW laws_FnSegPut.tab10 laws_FnSegPut.bits10 (fun HT_ HW_ => ?_)
             generalize wc.drew = w187 at he ha HO_363002 HO_372001 hc BK361 BK362 BK371 BK380 HB hHeld ⊢
             refine pA 1 (some 68) (bm 8 2) rfl rfl HT_.out (by kernel_rfl) (fun _ _ _ h => h) (by rfl) (by intro w';go_simp;with_reducible rfl) (by simp only [Act.put, zs1, zs2, zs3, i64_w, i32_w];rfl) ?_
             refine pA 4 (some 71) (bm 8 18) rfl rfl HT_.out (by kernel_rfl) (fun _ _ _ h => h) (by rfl) (by intro w';go_simp;with_reducible rfl) (by simp only [Act.put, zs1, zs2, zs3, i64_w, i32_w];rfl) ?_
             refine tA 2 (some 69) (bm 8 22) rfl rfl HT_.out HW_.out (by kernel_rfl) (fun _ _ _ h => h) (by rfl) hHeld (by rintro w' ⟨s0, s1, s2, s3, s4⟩;go_simp;with_reducible rfl) (by simp only [Act.put, zs1, zs2, zs3, i64_w, i32_w];rfl) ?_
             refine tA 5 (some 72) (bm 8 54) rfl rfl HT_.out HW_.out (by kernel_rfl) (fun _ _ _ h => h) (by rfl) hHeld (by rintro w' ⟨s0, s1, s2, s3, s4⟩;go_simp;with_reducible rfl) (by simp only [Act.put, zs1, zs2, zs3, i64_w, i32_w];rfl) ?_
             refine one_ (i := 0) (N := some 67) (bm 8 55) rfl rfl (one_of HT_.out (by kernel_rfl)) (by decide) (fun K hK => ?_)
             refine Kd.R_lit_step (Kd.int .u8) _ 5 ?hg (N := 67) ?hd (xs := ([] : List Int)) (inner := []) (ok := fun _ => True) (okp := fun _ => True) ?hr ?hp (fun _ hk => hk) trivial (Below.refl _ _) (Nat.le_refl _) (by simp) ?_;(case hd => rfl);(case hg => rfl);(case hr => first|(go_simp;done)|(go_simp;rfl));(case hp => exact (Reps.none _ _))
             intro v388 w188 ho189 hb hg_ hnew_
             clear hg_ hnew_
             (first|rw [← Ny387.out] at ho189|(simp only [Int.reduceToNat] at ho189;rw [← Ny387.out] at ho189))
             replace he := mk_ (Kd.V_elder' (by (with_reducible repeat (first|apply yv0|apply yv1|apply yv2));exact he.out) (Kd.R_base ho189) hb)
             replace HO_372001 := mk_ (Kd.V_elder' (by (with_reducible repeat (first|apply yv0|apply yv1|apply yv2));exact HO_372001.out) (Kd.R_base ho189) hb)
             have HO389 := mk_ (Kd.R_lower (Kd.R_new' (Kd.R_new' (Kd.R_new' ho189 (Kd.R_lt (by (with_reducible repeat (first|apply yr0|apply yr1|apply yr2));exact ha.out))) (Kd.R_lt (by (with_reducible repeat (first|apply yr0|apply yr1|apply yr2));exact HO_363002.out))) (Kd.R_lt (by (with_reducible repeat (first|apply yr0|apply yr1|apply yr2));exact hc.out))) (zr2 (by repeat (first|(with_reducible first|exact HB.out|apply zq7|apply zq8|apply zq9|refine zr1 ?_ GE361.out|refine zr1 ?_ GE362.out|refine zr1 ?_ GE371.out|refine zr1 ?_ GE380.out)|exact HB.out))))
             replace ha := mk_ (Kd.R_elder' (by (with_reducible repeat (first|apply yr0|apply yr1|apply yr2));exact ha.out) (Kd.R_base ho189) hb)
             replace HO_363002 := mk_ (Kd.R_elder' (by (with_reducible repeat (first|apply yr0|apply yr1|apply yr2));exact HO_363002.out) (Kd.R_base ho189) hb)
             replace hc := mk_ (Kd.R_elder' (by (with_reducible repeat (first|apply yr0|apply yr1|apply yr2));exact hc.out) (Kd.R_base ho189) hb)
             replace BK361 := mk_ (zq6 (by exact BK361.out) hb)
             replace BK362 := mk_ (zq6 (by exact BK362.out) hb)
             replace BK371 := mk_ (zq6 (by exact BK371.out) hb)
             replace BK380 := mk_ (zq6 (by exact BK380.out) hb)
             replace HB := mk_ (zr3 (by repeat (first|(with_reducible first|exact HB.out|apply zq7|apply zq8|apply zq9|refine zr1 ?_ GE361.out|refine zr1 ?_ GE362.out|refine zr1 ?_ GE371.out|refine zr1 ?_ GE380.out)|exact HB.out)) hb)
             clear hb ho189
             refine hK.out _ _ ⟨(zr4 BK361.out 0).trans rfl, (zr4 BK361.out 1).trans rfl, (zr4 BK362.out 0).trans rfl, (zr4 BK362.out 1).trans rfl, (zr4 BK362.out 2).trans rfl⟩ (fun hHeld => ?_)
             clear hK K
             refine norm_ (a' := ?_) ?_ ?_
             rotate_left
             ·show Act.put _ (some 67) _ = _
              simp only [Act.put, zs1, zs2, zs3, i64_w, i32_w]
              rfl
             refine one_ (i := 3) (N := some 70) (bm 8 63) rfl rfl (one_of HT_.out (by kernel_rfl)) (by decide) (fun K hK => ?_)
             refine Kd.R_append_rows_step (Kd.int .u8) (w0 := w) w.heap.size (by rfl) (.tmp 67) (.tmp 69) 22 5 (.int .u8 0) 1 rfl Try.underlying22 info5 rfl (by decide) (by omega) v388 y387 t353 _ _ _ (fun k_ => some k_ ≠ (.slice Ao12 t353.length co12 : Value).ownBlock ∧ some k_ ≠ (.slice Ao14 t358.length co14 : Value).ownBlock ∧ some k_ ≠ (.slice Ao29 t373.length co29 : Value).ownBlock) (fun _ => False) rfl rfl ?aO ?aR (fun _ _ h => h) (fun _ h => h.elim) ?aF ?aB ?aS ?aL ?_
             (case aR => repeat (first|exact (Kd.R_reads' ha.out).2.2|(with_reducible refine Kd.C_alloc ?_ _)|(with_reducible refine Kd.C_drewN ?_ _)|(with_reducible refine Kd.C_drew ?_)))
             (case aB => exact (by repeat (first|(with_reducible first|exact HB.out|apply zq7|apply zq8|apply zq9|refine zr1 ?_ GE361.out|refine zr1 ?_ GE362.out|refine zr1 ?_ GE371.out|refine zr1 ?_ GE380.out)|exact HB.out)))
             (case aF => exact (fun k_ hk => ⟨Kd.fresh' (Kd.R_lt (by (with_reducible repeat (first|apply yr0|apply yr1|apply yr2));exact ha.out)) k_ hk, Kd.fresh' (Kd.R_lt (by (with_reducible repeat (first|apply yr0|apply yr1|apply yr2));exact HO_363002.out)) k_ hk, Kd.fresh' (Kd.R_lt (by (with_reducible repeat (first|apply yr0|apply yr1|apply yr2));exact hc.out)) k_ hk⟩))
             (case aO => exact (by (with_reducible repeat (first|apply yr0|apply yr1|apply yr2));exact Kd.R_mono HO389.out (fun _ hk => ⟨hk.1.1.2, ⟨hk.1.2, hk.2⟩⟩)))
             (case aS => exact (zr2 (by repeat (first|(with_reducible first|exact HB.out|apply zq7|apply zq8|apply zq9|refine zr1 ?_ GE361.out|refine zr1 ?_ GE362.out|refine zr1 ?_ GE371.out|refine zr1 ?_ GE380.out)|exact HB.out))))
             (case aL => have := LMc97.out;omega)
             intro v391 w190 ho hb hg hat
             rw [← Ny390.out] at ho
             have n0_ := mk_ (Kd.V_afterv (ok := (fun k_ => some k_ ≠ (.slice Ao12 t353.length co12 : Value).ownBlock ∧ some k_ ≠ (.slice Ao14 t358.length co14 : Value).ownBlock ∧ some k_ ≠ (.slice Ao29 t373.length co29 : Value).ownBlock ∧ k_ ≠ gb361 ∧ k_ ≠ gb362 ∧ k_ ≠ gb371 ∧ k_ ≠ gb380)) (by (with_reducible repeat (first|apply yv0|apply yv1|apply yv2));exact he.out) hg hat)
             have n1_ := mk_ (Kd.R_after (ok := (fun k_ => some k_ ≠ (.slice Ao14 t358.length co14 : Value).ownBlock ∧ some k_ ≠ (.slice Ao29 t373.length co29 : Value).ownBlock)) (by (with_reducible repeat (first|apply yr0|apply yr1|apply yr2));exact ha.out) hg hat)
             have n2_ := mk_ (Kd.R_after (ok := (fun k_ => some k_ ≠ (.slice Ao12 t353.length co12 : Value).ownBlock ∧ some k_ ≠ (.slice Ao29 t373.length co29 : Value).ownBlock)) (by (with_reducible repeat (first|apply yr0|apply yr1|apply yr2));exact HO_363002.out) hg hat)
             have n3_ := mk_ (Kd.V_afterv (ok := (fun k_ => some k_ ≠ (.slice Ao12 t353.length co12 : Value).ownBlock ∧ some k_ ≠ (.slice Ao14 t358.length co14 : Value).ownBlock ∧ some k_ ≠ (.slice Ao29 t373.length co29 : Value).ownBlock ∧ k_ ≠ gb361 ∧ k_ ≠ gb362 ∧ k_ ≠ gb371 ∧ k_ ≠ gb380)) (by (with_reducible repeat (first|apply yv0|apply yv1|apply yv2));exact HO_372001.out) hg hat)
             have n4_ := mk_ (Kd.R_after (ok := (fun k_ => some k_ ≠ (.slice Ao12 t353.length co12 : Value).ownBlock ∧ some k_ ≠ (.slice Ao14 t358.length co14 : Value).ownBlock)) (by (with_reducible repeat (first|apply yr0|apply yr1|apply yr2));exact hc.out) hg hat)
             have n5_ := mk_ (blk_grown (g := gb361) (o := .cells #[.int .i64 t352, .slice Ao12 t353.length co12] 35 (0, 0)) (by exact BK361.out) hg (Kd.R_ne HO389.out BK361.out (by decide)))
             have n6_ := mk_ (blk_grown (g := gb362) (o := .cells #[.int .i64 t356, .int .i64 t357, .slice Ao14 t358.length co14] 39 (0, 0)) (by exact BK362.out) hg (Kd.R_ne HO389.out BK362.out (by decide)))
             have n7_ := mk_ (blk_grown (g := gb371) (o := .cells #[.int .i64 t363, .slice Ao20 t364.length co20] 35 (0, 0)) (by exact BK371.out) hg (Kd.R_ne HO389.out BK371.out (by decide)))
             have n8_ := mk_ (blk_grown (g := gb380) (o := .cells #[.int .i64 t372, .slice Ao29 t373.length co29] 35 (0, 0)) (by exact BK380.out) hg (Kd.R_ne HO389.out BK380.out (by decide)))
             have n9_ := mk_ (hb)
             have n10_ := mk_ (ho)
             clear he
             clear ha
             clear HO_363002
             clear HO_372001
             clear hc
             clear BK361
             clear BK362
             clear BK371
             clear BK380
             clear HB
             clear HO389
             have he := n0_
             have ha := n1_
             have HO_363002 := n2_
             have HO_372001 := n3_
             have hc := n4_
             have BK361 := n5_
             have BK362 := n6_
             have BK371 := n7_
             have BK380 := n8_
             have HB := n9_
             have HO392 := n10_
             clear n0_ n1_ n2_ n3_ n4_ n5_ n6_ n7_ n8_ n9_ n10_
             clear ho hb hg hat
             refine hK.out _ _ ⟨(zr4 BK361.out 0).trans rfl, (zr4 BK361.out 1).trans rfl, (zr4 BK362.out 0).trans rfl, (zr4 BK362.out 1).trans rfl, (zr4 BK362.out 2).trans rfl⟩ (fun hHeld => ?_)
             clear hK K
             refine norm_ (a' := ?_) ?_ ?_
             rotate_left
             ·show Act.put _ (some 70) _ = _
              simp only [Act.put, zs1, zs2, zs3, i64_w, i32_w]
              rfl
             refine one_ (i := 6) (N := some 73) (bm 8 127) rfl rfl (one_of HT_.out (by kernel_rfl)) (by decide) (fun K hK => ?_)
             refine Kd.R_append_rows_step (Kd.int .u8) (w0 := w) w.heap.size (by rfl) (.tmp 70) (.tmp 72) 22 5 (.int .u8 0) 1 rfl Try.underlying22 info5 rfl (by decide) (by omega) v391 y390 t358 _ _ _ (fun k_ => some k_ ≠ (.slice Ao12 t353.length co12 : Value).ownBlock ∧ some k_ ≠ (.slice Ao14 t358.length co14 : Value).ownBlock ∧ some k_ ≠ (.slice Ao29 t373.length co29 : Value).ownBlock) (fun _ => False) rfl rfl ?aO ?aR (fun _ _ h => h) (fun _ h => h.elim) ?aF ?aB ?aS ?aL ?_
             (case aR => repeat (first|exact (Kd.R_reads' HO_363002.out).2.2|(with_reducible refine Kd.C_alloc ?_ _)|(with_reducible refine Kd.C_drewN ?_ _)|(with_reducible refine Kd.C_drew ?_)))
             (case aB => exact (by repeat (first|(with_reducible first|exact HB.out|apply zq7|apply zq8|apply zq9|refine zr1 ?_ GE361.out|refine zr1 ?_ GE362.out|refine zr1 ?_ GE371.out|refine zr1 ?_ GE380.out)|exact HB.out)))
             (case aF => exact (fun k_ hk => ⟨Kd.fresh' (Kd.R_lt (by (with_reducible repeat (first|apply yr0|apply yr1|apply yr2));exact ha.out)) k_ hk, Kd.fresh' (Kd.R_lt (by (with_reducible repeat (first|apply yr0|apply yr1|apply yr2));exact HO_363002.out)) k_ hk, Kd.fresh' (Kd.R_lt (by (with_reducible repeat (first|apply yr0|apply yr1|apply yr2));exact hc.out)) k_ hk⟩))
             (case aO => exact (by (with_reducible repeat (first|apply yr0|apply yr1|apply yr2));exact HO392.out))
             (case aS => exact (zr2 (by repeat (first|(with_reducible first|exact HB.out|apply zq7|apply zq8|apply zq9|refine zr1 ?_ GE361.out|refine zr1 ?_ GE362.out|refine zr1 ?_ GE371.out|refine zr1 ?_ GE380.out)|exact HB.out))))
             (case aL => have := LMc98.out;omega)
             intro v394 w191 ho hb hg hat
             rw [← Ny393.out] at ho
             have n0_ := mk_ (Kd.V_afterv (ok := (fun k_ => some k_ ≠ (.slice Ao12 t353.length co12 : Value).ownBlock ∧ some k_ ≠ (.slice Ao14 t358.length co14 : Value).ownBlock ∧ some k_ ≠ (.slice Ao29 t373.length co29 : Value).ownBlock ∧ k_ ≠ gb361 ∧ k_ ≠ gb362 ∧ k_ ≠ gb371 ∧ k_ ≠ gb380)) (by (with_reducible repeat (first|apply yv0|apply yv1|apply yv2));exact he.out) hg hat)
             have n1_ := mk_ (Kd.R_after (ok := (fun k_ => some k_ ≠ (.slice Ao14 t358.length co14 : Value).ownBlock ∧ some k_ ≠ (.slice Ao29 t373.length co29 : Value).ownBlock)) (by (with_reducible repeat (first|apply yr0|apply yr1|apply yr2));exact ha.out) hg hat)
             have n2_ := mk_ (Kd.R_after (ok := (fun k_ => some k_ ≠ (.slice Ao12 t353.length co12 : Value).ownBlock ∧ some k_ ≠ (.slice Ao29 t373.length co29 : Value).ownBlock)) (by (with_reducible repeat (first|apply yr0|apply yr1|apply yr2));exact HO_363002.out) hg hat)
             have n3_ := mk_ (Kd.V_afterv (ok := (fun k_ => some k_ ≠ (.slice Ao12 t353.length co12 : Value).ownBlock ∧ some k_ ≠ (.slice Ao14 t358.length co14 : Value).ownBlock ∧ some k_ ≠ (.slice Ao29 t373.length co29 : Value).ownBlock ∧ k_ ≠ gb361 ∧ k_ ≠ gb362 ∧ k_ ≠ gb371 ∧ k_ ≠ gb380)) (by (with_reducible repeat (first|apply yv0|apply yv1|apply yv2));exact HO_372001.out) hg hat)
             have n4_ := mk_ (Kd.R_after (ok := (fun k_ => some k_ ≠ (.slice Ao12 t353.length co12 : Value).ownBlock ∧ some k_ ≠ (.slice Ao14 t358.length co14 : Value).ownBlock)) (by (with_reducible repeat (first|apply yr0|apply yr1|apply yr2));exact hc.out) hg hat)
             have n5_ := mk_ (blk_grown (g := gb361) (o := .cells #[.int .i64 t352, .slice Ao12 t353.length co12] 35 (0, 0)) (by exact BK361.out) hg (Kd.R_ne HO392.out BK361.out (by decide)))
             have n6_ := mk_ (blk_grown (g := gb362) (o := .cells #[.int .i64 t356, .int .i64 t357, .slice Ao14 t358.length co14] 39 (0, 0)) (by exact BK362.out) hg (Kd.R_ne HO392.out BK362.out (by decide)))
             have n7_ := mk_ (blk_grown (g := gb371) (o := .cells #[.int .i64 t363, .slice Ao20 t364.length co20] 35 (0, 0)) (by exact BK371.out) hg (Kd.R_ne HO392.out BK371.out (by decide)))
             have n8_ := mk_ (blk_grown (g := gb380) (o := .cells #[.int .i64 t372, .slice Ao29 t373.length co29] 35 (0, 0)) (by exact BK380.out) hg (Kd.R_ne HO392.out BK380.out (by decide)))
             have n9_ := mk_ (hb)
             have n10_ := mk_ (ho)
             clear he
             clear ha
             clear HO_363002
             clear HO_372001
             clear hc
             clear BK361
             clear BK362
             clear BK371
             clear BK380
             clear HB
             clear HO392
             have he := n0_
             have ha := n1_
             have HO_363002 := n2_
             have HO_372001 := n3_
             have hc := n4_
             have BK361 := n5_
             have BK362 := n6_
             have BK371 := n7_
             have BK380 := n8_
             have HB := n9_
             have HO395 := n10_
             clear n0_ n1_ n2_ n3_ n4_ n5_ n6_ n7_ n8_ n9_ n10_
             clear ho hb hg hat
             refine hK.out _ _ ⟨(zr4 BK361.out 0).trans rfl, (zr4 BK361.out 1).trans rfl, (zr4 BK362.out 0).trans rfl, (zr4 BK362.out 1).trans rfl, (zr4 BK362.out 2).trans rfl⟩ (fun hHeld => ?_)
             clear hK K
             refine norm_ (a' := ?_) ?_ ?_
             rotate_left
             ·show Act.put _ (some 73) _ = _
              simp only [Act.put, zs1, zs2, zs3, i64_w, i32_w]
              rfl
             refine pA 7 (some 11) (bm 8 255) rfl rfl HT_.out (by kernel_rfl) (fun _ _ _ h => h) (by rfl) (by intro w';go_simp;with_reducible rfl) (by simp only [Act.put, zs1, zs2, zs3, i64_w, i32_w];rfl) ?_
             refine done_ (done_of HT_.out (by kernel_rfl)) ?_
             have hnb192 := NB371_361.out
             have hnc192 := NB361_371.out
             have hnb193 := NB371_362.out
             have hnc193 := NB362_371.out
             have hnb194 := NB371_380.out
             have hnc194 := NB380_371.out
             obtain ⟨hcz195_0, hcz195_1⟩ := cz2 BK371.out
             obtain ⟨hfz195_0, hfz195_1⟩ := fz2 BK371.out
             try go_wp2_with (first|((with_reducible refine gate_callee (f := 29) rfl ?_);refine goesL_ (some 94) rfl rfl Try.func29 (by kernel_rfl) rfl #[.agg #[.int .i64 t363, .slice Ao20 t364.length co20], .agg #[.int .i64 0, .slice none 0 0]] rfl (by (try simp only [List.map_toArray, List.map_cons, List.map_nil]);first|done|rfl|(simp only [List.length_drop, List.length_take];rfl)) ?_;(refine (laws_liJoin.calls kj62 t363 _ _ t364 0 _ _ ([] : List Int) false _ ?side1 ?side2 ?side3 ?side4 A140.out).mono ?_);(case side1 => repeat (first|exact (Kd.V_reads' HO_372001.out).2.2|(with_reducible refine Kd.C_alloc ?_ _)|(with_reducible refine Kd.C_drewN ?_ _)|(with_reducible refine Kd.C_drew ?_)));(case side2 => exact (Kd.V_reads' HO_372001.out).2.1);(case side3 => exact Kd.C_nil _ _);(case side4 => exact Nat.le_refl _);rintro e w196 ⟨rfl, hb⟩;refine ⟨_, rfl, ?_⟩;replace he := mk_ (Kd.V_below (by (with_reducible repeat (first|apply yv0|apply yv1|apply yv2));exact he.out) hb);replace ha := mk_ (Kd.R_below (by (with_reducible repeat (first|apply yr0|apply yr1|apply yr2));exact ha.out) hb);replace HO_363002 := mk_ (Kd.R_below (by (with_reducible repeat (first|apply yr0|apply yr1|apply yr2));exact HO_363002.out) hb);replace HO_372001 := mk_ (Kd.V_below (by (with_reducible repeat (first|apply yv0|apply yv1|apply yv2));exact HO_372001.out) hb);replace hc := mk_ (Kd.R_below (by (with_reducible repeat (first|apply yr0|apply yr1|apply yr2));exact hc.out) hb);replace HO395 := mk_ (Kd.R_below (by (with_reducible repeat (first|apply yr0|apply yr1|apply yr2));exact HO395.out) hb);replace BK361 := mk_ (zq6 (by exact BK361.out) hb);replace BK362 := mk_ (zq6 (by exact BK362.out) hb);replace BK371 := mk_ (zq6 (by exact BK371.out) hb);replace BK380 := mk_ (zq6 (by exact BK380.out) hb);replace HB := mk_ (zr3 (by repeat (first|(with_reducible first|exact HB.out|apply zq7|apply zq8|apply zq9|refine zr1 ?_ GE361.out|refine zr1 ?_ GE362.out|refine zr1 ?_ GE371.out|refine zr1 ?_ GE380.out)|exact HB.out)) hb);(try clear hb);(try clear hb2);(try clear hk);(try clear hi)))
             go_ret
             exact ⟨by first|rfl|(simp [errW_none, errW_some] <;> rfl)|(simp [*, errW_none, errW_some] <;> rfl), by repeat (first|(with_reducible first|exact HB.out|apply zq7|apply zq8|apply zq9|refine zr1 ?_ GE361.out|refine zr1 ?_ GE362.out|refine zr1 ?_ GE371.out|refine zr1 ?_ GE380.out)|exact HB.out)⟩
           ·rw [if_neg c139] at H
            have c139b0 : (t370 == 2) = false := beq_eq_false_iff_ne.mpr c139
            have c139b1 : (t370 != 2) = true := bne_iff_ne.mpr c139
            by_cases c197 : t370 = 3
            ·rw [if_pos c197] at H
             have c197b0 : (t370 == 3) = true := beq_iff_eq.mpr c197
             have c197b1 : (t370 != 3) = false := bne_eq_false_iff_eq.mpr c197
             clear c197
             replace H := Option.bind_eq_some_iff.mp H
             obtain ⟨t400, A1980, H⟩ := H
             try dsimp only at H
             have A198 := mk_ A1980
             clear A1980
             by_cases c199 : t400 = true
             ·subst c199
              have H1 : (some ((t367.length : Int) == 0)) = some r := by rw [if_pos rfl] at H;exact H
              clear H
              have H := H1
              clear H1
              obtain rfl := Option.some.inj H
              try go_wp2
              replace he := mk_ (Kd.V_drew he.out)
              replace ha := mk_ (Kd.R_drew ha.out)
              replace HO_363002 := mk_ (Kd.R_drew HO_363002.out)
              replace HO_372001 := mk_ (Kd.V_drew HO_372001.out)
              replace hc := mk_ (Kd.R_drew hc.out)
              replace BK361 := mk_ (zq2 BK361.out)
              replace BK362 := mk_ (zq2 BK362.out)
              replace BK371 := mk_ (zq2 BK371.out)
              replace BK380 := mk_ (zq2 BK380.out)
              replace HB := mk_ (zq9 HB.out)
              refine start_ (n := 8) (S := fun w' => w'.cell? ⟨gb361, 0, none⟩ = some (.int .i64 t352) ∧ w'.cell? ⟨gb361, 1, none⟩ = some (.slice Ao12 t353.length co12) ∧ w'.cell? ⟨gb362, 0, none⟩ = some (.int .i64 t356) ∧ w'.cell? ⟨gb362, 1, none⟩ = some (.int .i64 t357) ∧ w'.cell? ⟨gb362, 2, none⟩ = some (.slice Ao14 t358.length co14)) (ds := []) (bm 8 0) (by kernel_rfl) rfl rfl ⟨(zr4 BK361.out 0).trans rfl, (zr4 BK361.out 1).trans rfl, (zr4 BK362.out 0).trans rfl, (zr4 BK362.out 1).trans rfl, (zr4 BK362.out 2).trans rfl⟩ (fun hHeld => ?_);refine with_tabW laws_FnSegPut.tab10 laws_FnSegPut.bits10 (fun HT_ HW_ => ?_)
              generalize wc.drew = w200 at he ha HO_363002 HO_372001 hc BK361 BK362 BK371 BK380 HB hHeld ⊢
              refine pA 1 (some 68) (bm 8 2) rfl rfl HT_.out (by kernel_rfl) (fun _ _ _ h => h) (by rfl) (by intro w';go_simp;with_reducible rfl) (by simp only [Act.put, zs1, zs2, zs3, i64_w, i32_w];rfl) ?_
              refine pA 4 (some 71) (bm 8 18) rfl rfl HT_.out (by kernel_rfl) (fun _ _ _ h => h) (by rfl) (by intro w';go_simp;with_reducible rfl) (by simp only [Act.put, zs1, zs2, zs3, i64_w, i32_w];rfl) ?_
              refine tA 2 (some 69) (bm 8 22) rfl rfl HT_.out HW_.out (by kernel_rfl) (fun _ _ _ h => h) (by rfl) hHeld (by rintro w' ⟨s0, s1, s2, s3, s4⟩;go_simp;with_reducible rfl) (by simp only [Act.put, zs1, zs2, zs3, i64_w, i32_w];rfl) ?_
              refine tA 5 (some 72) (bm 8 54) rfl rfl HT_.out HW_.out (by kernel_rfl) (fun _ _ _ h => h) (by rfl) hHeld (by rintro w' ⟨s0, s1, s2, s3, s4⟩;go_simp;with_reducible rfl) (by simp only [Act.put, zs1, zs2, zs3, i64_w, i32_w];rfl) ?_
              refine one_ (i := 0) (N := some 67) (bm 8 55) rfl rfl (one_of HT_.out (by kernel_rfl)) (by decide) (fun K hK => ?_)
              refine Kd.R_lit_step (Kd.int .u8) _ 5 ?hg (N := 67) ?hd (xs := ([] : List Int)) (inner := []) (ok := fun _ => True) (okp := fun _ => True) ?hr ?hp (fun _ hk => hk) trivial (Below.refl _ _) (Nat.le_refl _) (by simp) ?_;(case hd => rfl);(case hg => rfl);(case hr => first|(go_simp;done)|(go_simp;rfl));(case hp => exact (Reps.none _ _))
              intro v388 w201 ho202 hb hg_ hnew_
              clear hg_ hnew_
              (first|rw [← Ny387.out] at ho202|(simp only [Int.reduceToNat] at ho202;rw [← Ny387.out] at ho202))
              replace he := mk_ (Kd.V_elder' (by (with_reducible repeat (first|apply yv0|apply yv1|apply yv2));exact he.out) (Kd.R_base ho202) hb)
              replace HO_372001 := mk_ (Kd.V_elder' (by (with_reducible repeat (first|apply yv0|apply yv1|apply yv2));exact HO_372001.out) (Kd.R_base ho202) hb)
              have HO389 := mk_ (Kd.R_lower (Kd.R_new' (Kd.R_new' (Kd.R_new' ho202 (Kd.R_lt (by (with_reducible repeat (first|apply yr0|apply yr1|apply yr2));exact ha.out))) (Kd.R_lt (by (with_reducible repeat (first|apply yr0|apply yr1|apply yr2));exact HO_363002.out))) (Kd.R_lt (by (with_reducible repeat (first|apply yr0|apply yr1|apply yr2));exact hc.out))) (zr2 (by repeat (first|(with_reducible first|exact HB.out|apply zq7|apply zq8|apply zq9|refine zr1 ?_ GE361.out|refine zr1 ?_ GE362.out|refine zr1 ?_ GE371.out|refine zr1 ?_ GE380.out)|exact HB.out))))
              replace ha := mk_ (Kd.R_elder' (by (with_reducible repeat (first|apply yr0|apply yr1|apply yr2));exact ha.out) (Kd.R_base ho202) hb)
              replace HO_363002 := mk_ (Kd.R_elder' (by (with_reducible repeat (first|apply yr0|apply yr1|apply yr2));exact HO_363002.out) (Kd.R_base ho202) hb)
              replace hc := mk_ (Kd.R_elder' (by (with_reducible repeat (first|apply yr0|apply yr1|apply yr2));exact hc.out) (Kd.R_base ho202) hb)
              replace BK361 := mk_ (zq6 (by exact BK361.out) hb)
              replace BK362 := mk_ (zq6 (by exact BK362.out) hb)
              replace BK371 := mk_ (zq6 (by exact BK371.out) hb)
              replace BK380 := mk_ (zq6 (by exact BK380.out) hb)
              replace HB := mk_ (zr3 (by repeat (first|(with_reducible first|exact HB.out|apply zq7|apply zq8|apply zq9|refine zr1 ?_ GE361.out|refine zr1 ?_ GE362.out|refine zr1 ?_ GE371.out|refine zr1 ?_ GE380.out)|exact HB.out)) hb)
              clear hb ho202
              refine hK.out _ _ ⟨(zr4 BK361.out 0).trans rfl, (zr4 BK361.out 1).trans rfl, (zr4 BK362.out 0).trans rfl, (zr4 BK362.out 1).trans rfl, (zr4 BK362.out 2).trans rfl⟩ (fun hHeld => ?_)
              clear hK K
              refine norm_ (a' := ?_) ?_ ?_
              rotate_left
              ·show Act.put _ (some 67) _ = _
               simp only [Act.put, zs1, zs2, zs3, i64_w, i32_w]
               rfl
              refine one_ (i := 3) (N := some 70) (bm 8 63) rfl rfl (one_of HT_.out (by kernel_rfl)) (by decide) (fun K hK => ?_)
              refine Kd.R_append_rows_step (Kd.int .u8) (w0 := w) w.heap.size (by rfl) (.tmp 67) (.tmp 69) 22 5 (.int .u8 0) 1 rfl Try.underlying22 info5 rfl (by decide) (by omega) v388 y387 t353 _ _ _ (fun k_ => some k_ ≠ (.slice Ao12 t353.length co12 : Value).ownBlock ∧ some k_ ≠ (.slice Ao14 t358.length co14 : Value).ownBlock ∧ some k_ ≠ (.slice Ao29 t373.length co29 : Value).ownBlock) (fun _ => False) rfl rfl ?aO ?aR (fun _ _ h => h) (fun _ h => h.elim) ?aF ?aB ?aS ?aL ?_
              (case aR => repeat (first|exact (Kd.R_reads' ha.out).2.2|(with_reducible refine Kd.C_alloc ?_ _)|(with_reducible refine Kd.C_drewN ?_ _)|(with_reducible refine Kd.C_drew ?_)))
              (case aB => exact (by repeat (first|(with_reducible first|exact HB.out|apply zq7|apply zq8|apply zq9|refine zr1 ?_ GE361.out|refine zr1 ?_ GE362.out|refine zr1 ?_ GE371.out|refine zr1 ?_ GE380.out)|exact HB.out)))
              (case aF => exact (fun k_ hk => ⟨Kd.fresh' (Kd.R_lt (by (with_reducible repeat (first|apply yr0|apply yr1|apply yr2));exact ha.out)) k_ hk, Kd.fresh' (Kd.R_lt (by (with_reducible repeat (first|apply yr0|apply yr1|apply yr2));exact HO_363002.out)) k_ hk, Kd.fresh' (Kd.R_lt (by (with_reducible repeat (first|apply yr0|apply yr1|apply yr2));exact hc.out)) k_ hk⟩))
              (case aO => exact (by (with_reducible repeat (first|apply yr0|apply yr1|apply yr2));exact Kd.R_mono HO389.out (fun _ hk => ⟨hk.1.1.2, ⟨hk.1.2, hk.2⟩⟩)))
              (case aS => exact (zr2 (by repeat (first|(with_reducible first|exact HB.out|apply zq7|apply zq8|apply zq9|refine zr1 ?_ GE361.out|refine zr1 ?_ GE362.out|refine zr1 ?_ GE371.out|refine zr1 ?_ GE380.out)|exact HB.out))))
              (case aL => have := LMc97.out;omega)
              intro v391 w203 ho hb hg hat
              rw [← Ny390.out] at ho
              have n0_ := mk_ (Kd.V_afterv (ok := (fun k_ => some k_ ≠ (.slice Ao12 t353.length co12 : Value).ownBlock ∧ some k_ ≠ (.slice Ao14 t358.length co14 : Value).ownBlock ∧ some k_ ≠ (.slice Ao29 t373.length co29 : Value).ownBlock ∧ k_ ≠ gb361 ∧ k_ ≠ gb362 ∧ k_ ≠ gb371 ∧ k_ ≠ gb380)) (by (with_reducible repeat (first|apply yv0|apply yv1|apply yv2));exact he.out) hg hat)
              have n1_ := mk_ (Kd.R_after (ok := (fun k_ => some k_ ≠ (.slice Ao14 t358.length co14 : Value).ownBlock ∧ some k_ ≠ (.slice Ao29 t373.length co29 : Value).ownBlock)) (by (with_reducible repeat (first|apply yr0|apply yr1|apply yr2));exact ha.out) hg hat)
              have n2_ := mk_ (Kd.R_after (ok := (fun k_ => some k_ ≠ (.slice Ao12 t353.length co12 : Value).ownBlock ∧ some k_ ≠ (.slice Ao29 t373.length co29 : Value).ownBlock)) (by (with_reducible repeat (first|apply yr0|apply yr1|apply yr2));exact HO_363002.out) hg hat)
              have n3_ := mk_ (Kd.V_afterv (ok := (fun k_ => some k_ ≠ (.slice Ao12 t353.length co12 : Value).ownBlock ∧ some k_ ≠ (.slice Ao14 t358.length co14 : Value).ownBlock ∧ some k_ ≠ (.slice Ao29 t373.length co29 : Value).ownBlock ∧ k_ ≠ gb361 ∧ k_ ≠ gb362 ∧ k_ ≠ gb371 ∧ k_ ≠ gb380)) (by (with_reducible repeat (first|apply yv0|apply yv1|apply yv2));exact HO_372001.out) hg hat)
              have n4_ := mk_ (Kd.R_after (ok := (fun k_ => some k_ ≠ (.slice Ao12 t353.length co12 : Value).ownBlock ∧ some k_ ≠ (.slice Ao14 t358.length co14 : Value).ownBlock)) (by (with_reducible repeat (first|apply yr0|apply yr1|apply yr2));exact hc.out) hg hat)
              have n5_ := mk_ (blk_grown (g := gb361) (o := .cells #[.int .i64 t352, .slice Ao12 t353.length co12] 35 (0, 0)) (by exact BK361.out) hg (Kd.R_ne HO389.out BK361.out (by decide)))
              have n6_ := mk_ (blk_grown (g := gb362) (o := .cells #[.int .i64 t356, .int .i64 t357, .slice Ao14 t358.length co14] 39 (0, 0)) (by exact BK362.out) hg (Kd.R_ne HO389.out BK362.out (by decide)))
              have n7_ := mk_ (blk_grown (g := gb371) (o := .cells #[.int .i64 t363, .slice Ao20 t364.length co20] 35 (0, 0)) (by exact BK371.out) hg (Kd.R_ne HO389.out BK371.out (by decide)))
              have n8_ := mk_ (blk_grown (g := gb380) (o := .cells #[.int .i64 t372, .slice Ao29 t373.length co29] 35 (0, 0)) (by exact BK380.out) hg (Kd.R_ne HO389.out BK380.out (by decide)))
              have n9_ := mk_ (hb)
              have n10_ := mk_ (ho)
              clear he
              clear ha
              clear HO_363002
              clear HO_372001
              clear hc
              clear BK361
              clear BK362
              clear BK371
              clear BK380
              clear HB
              clear HO389
              have he := n0_
              have ha := n1_
              have HO_363002 := n2_
              have HO_372001 := n3_
              have hc := n4_
              have BK361 := n5_
              have BK362 := n6_
              have BK371 := n7_
              have BK380 := n8_
              have HB := n9_
              have HO392 := n10_
              clear n0_ n1_ n2_ n3_ n4_ n5_ n6_ n7_ n8_ n9_ n10_
              clear ho hb hg hat
              refine hK.out _ _ ⟨(zr4 BK361.out 0).trans rfl, (zr4 BK361.out 1).trans rfl, (zr4 BK362.out 0).trans rfl, (zr4 BK362.out 1).trans rfl, (zr4 BK362.out 2).trans rfl⟩ (fun hHeld => ?_)
              clear hK K
              refine norm_ (a' := ?_) ?_ ?_
              rotate_left
              ·show Act.put _ (some 70) _ = _
               simp only [Act.put, zs1, zs2, zs3, i64_w, i32_w]
               rfl
              refine one_ (i := 6) (N := some 73) (bm 8 127) rfl rfl (one_of HT_.out (by kernel_rfl)) (by decide) (fun K hK => ?_)
              refine Kd.R_append_rows_step (Kd.int .u8) (w0 := w) w.heap.size (by rfl) (.tmp 70) (.tmp 72) 22 5 (.int .u8 0) 1 rfl Try.underlying22 info5 rfl (by decide) (by omega) v391 y390 t358 _ _ _ (fun k_ => some k_ ≠ (.slice Ao12 t353.length co12 : Value).ownBlock ∧ some k_ ≠ (.slice Ao14 t358.length co14 : Value).ownBlock ∧ some k_ ≠ (.slice Ao29 t373.length co29 : Value).ownBlock) (fun _ => False) rfl rfl ?aO ?aR (fun _ _ h => h) (fun _ h => h.elim) ?aF ?aB ?aS ?aL ?_
              (case aR => repeat (first|exact (Kd.R_reads' HO_363002.out).2.2|(with_reducible refine Kd.C_alloc ?_ _)|(with_reducible refine Kd.C_drewN ?_ _)|(with_reducible refine Kd.C_drew ?_)))
              (case aB => exact (by repeat (first|(with_reducible first|exact HB.out|apply zq7|apply zq8|apply zq9|refine zr1 ?_ GE361.out|refine zr1 ?_ GE362.out|refine zr1 ?_ GE371.out|refine zr1 ?_ GE380.out)|exact HB.out)))
              (case aF => exact (fun k_ hk => ⟨Kd.fresh' (Kd.R_lt (by (with_reducible repeat (first|apply yr0|apply yr1|apply yr2));exact ha.out)) k_ hk, Kd.fresh' (Kd.R_lt (by (with_reducible repeat (first|apply yr0|apply yr1|apply yr2));exact HO_363002.out)) k_ hk, Kd.fresh' (Kd.R_lt (by (with_reducible repeat (first|apply yr0|apply yr1|apply yr2));exact hc.out)) k_ hk⟩))
              (case aO => exact (by (with_reducible repeat (first|apply yr0|apply yr1|apply yr2));exact HO392.out))
              (case aS => exact (zr2 (by repeat (first|(with_reducible first|exact HB.out|apply zq7|apply zq8|apply zq9|refine zr1 ?_ GE361.out|refine zr1 ?_ GE362.out|refine zr1 ?_ GE371.out|refine zr1 ?_ GE380.out)|exact HB.out))))
              (case aL => have := LMc98.out;omega)
              intro v394 w204 ho hb hg hat
              rw [← Ny393.out] at ho
              have n0_ := mk_ (Kd.V_afterv (ok := (fun k_ => some k_ ≠ (.slice Ao12 t353.length co12 : Value).ownBlock ∧ some k_ ≠ (.slice Ao14 t358.length co14 : Value).ownBlock ∧ some k_ ≠ (.slice Ao29 t373.length co29 : Value).ownBlock ∧ k_ ≠ gb361 ∧ k_ ≠ gb362 ∧ k_ ≠ gb371 ∧ k_ ≠ gb380)) (by (with_reducible repeat (first|apply yv0|apply yv1|apply yv2));exact he.out) hg hat)
              have n1_ := mk_ (Kd.R_after (ok := (fun k_ => some k_ ≠ (.slice Ao14 t358.length co14 : Value).ownBlock ∧ some k_ ≠ (.slice Ao29 t373.length co29 : Value).ownBlock)) (by (with_reducible repeat (first|apply yr0|apply yr1|apply yr2));exact ha.out) hg hat)
              have n2_ := mk_ (Kd.R_after (ok := (fun k_ => some k_ ≠ (.slice Ao12 t353.length co12 : Value).ownBlock ∧ some k_ ≠ (.slice Ao29 t373.length co29 : Value).ownBlock)) (by (with_reducible repeat (first|apply yr0|apply yr1|apply yr2));exact HO_363002.out) hg hat)
              have n3_ := mk_ (Kd.V_afterv (ok := (fun k_ => some k_ ≠ (.slice Ao12 t353.length co12 : Value).ownBlock ∧ some k_ ≠ (.slice Ao14 t358.length co14 : Value).ownBlock ∧ some k_ ≠ (.slice Ao29 t373.length co29 : Value).ownBlock ∧ k_ ≠ gb361 ∧ k_ ≠ gb362 ∧ k_ ≠ gb371 ∧ k_ ≠ gb380)) (by (with_reducible repeat (first|apply yv0|apply yv1|apply yv2));exact HO_372001.out) hg hat)
              have n4_ := mk_ (Kd.R_after (ok := (fun k_ => some k_ ≠ (.slice Ao12 t353.length co12 : Value).ownBlock ∧ some k_ ≠ (.slice Ao14 t358.length co14 : Value).ownBlock)) (by (with_reducible repeat (first|apply yr0|apply yr1|apply yr2));exact hc.out) hg hat)
              have n5_ := mk_ (blk_grown (g := gb361) (o := .cells #[.int .i64 t352, .slice Ao12 t353.length co12] 35 (0, 0)) (by exact BK361.out) hg (Kd.R_ne HO392.out BK361.out (by decide)))
              have n6_ := mk_ (blk_grown (g := gb362) (o := .cells #[.int .i64 t356, .int .i64 t357, .slice Ao14 t358.length co14] 39 (0, 0)) (by exact BK362.out) hg (Kd.R_ne HO392.out BK362.out (by decide)))
              have n7_ := mk_ (blk_grown (g := gb371) (o := .cells #[.int .i64 t363, .slice Ao20 t364.length co20] 35 (0, 0)) (by exact BK371.out) hg (Kd.R_ne HO392.out BK371.out (by decide)))
              have n8_ := mk_ (blk_grown (g := gb380) (o := .cells #[.int .i64 t372, .slice Ao29 t373.length co29] 35 (0, 0)) (by exact BK380.out) hg (Kd.R_ne HO392.out BK380.out (by decide)))
              have n9_ := mk_ (hb)
              have n10_ := mk_ (ho)
              clear he
              clear ha
              clear HO_363002
              clear HO_372001
              clear hc
              clear BK361
              clear BK362
              clear BK371
              clear BK380
              clear HB
              clear HO392
              have he := n0_
              have ha := n1_
              have HO_363002 := n2_
              have HO_372001 := n3_
              have hc := n4_
              have BK361 := n5_
              have BK362 := n6_
              have BK371 := n7_
              have BK380 := n8_
              have HB := n9_
              have HO395 := n10_
              clear n0_ n1_ n2_ n3_ n4_ n5_ n6_ n7_ n8_ n9_ n10_
              clear ho hb hg hat
              refine hK.out _ _ ⟨(zr4 BK361.out 0).trans rfl, (zr4 BK361.out 1).trans rfl, (zr4 BK362.out 0).trans rfl, (zr4 BK362.out 1).trans rfl, (zr4 BK362.out 2).trans rfl⟩ (fun hHeld => ?_)
              clear hK K
              refine norm_ (a' := ?_) ?_ ?_
              rotate_left
              ·show Act.put _ (some 73) _ = _
               simp only [Act.put, zs1, zs2, zs3, i64_w, i32_w]
               rfl
              refine pA 7 (some 11) (bm 8 255) rfl rfl HT_.out (by kernel_rfl) (fun _ _ _ h => h) (by rfl) (by intro w';go_simp;with_reducible rfl) (by simp only [Act.put, zs1, zs2, zs3, i64_w, i32_w];rfl) ?_
              refine done_ (done_of HT_.out (by kernel_rfl)) ?_
              have hnb205 := NB371_361.out
              have hnc205 := NB361_371.out
              have hnb206 := NB371_362.out
              have hnc206 := NB362_371.out
              have hnb207 := NB371_380.out
              have hnc207 := NB380_371.out
              obtain ⟨hcz208_0, hcz208_1⟩ := cz2 BK371.out
              obtain ⟨hfz208_0, hfz208_1⟩ := fz2 BK371.out
              try go_wp2_with (first|(go_at_call 29;(refine (laws_liJoin.calls kj62 t363 _ _ t364 0 _ _ ([] : List Int) true _ ?side1 ?side2 ?side3 ?side4 A198.out).mono ?_);(case side1 => repeat (first|exact (Kd.V_reads' HO_372001.out).2.2|(with_reducible refine Kd.C_alloc ?_ _)|(with_reducible refine Kd.C_drewN ?_ _)|(with_reducible refine Kd.C_drew ?_)));(case side2 => exact (Kd.V_reads' HO_372001.out).2.1);(case side3 => exact Kd.C_nil _ _);(case side4 => exact Nat.le_refl _);rintro e w209 ⟨rfl, hb⟩;replace he := mk_ (Kd.V_below (by (with_reducible repeat (first|apply yv0|apply yv1|apply yv2));exact he.out) hb);replace ha := mk_ (Kd.R_below (by (with_reducible repeat (first|apply yr0|apply yr1|apply yr2));exact ha.out) hb);replace HO_363002 := mk_ (Kd.R_below (by (with_reducible repeat (first|apply yr0|apply yr1|apply yr2));exact HO_363002.out) hb);replace HO_372001 := mk_ (Kd.V_below (by (with_reducible repeat (first|apply yv0|apply yv1|apply yv2));exact HO_372001.out) hb);replace hc := mk_ (Kd.R_below (by (with_reducible repeat (first|apply yr0|apply yr1|apply yr2));exact hc.out) hb);replace HO395 := mk_ (Kd.R_below (by (with_reducible repeat (first|apply yr0|apply yr1|apply yr2));exact HO395.out) hb);replace BK361 := mk_ (zq6 (by exact BK361.out) hb);replace BK362 := mk_ (zq6 (by exact BK362.out) hb);replace BK371 := mk_ (zq6 (by exact BK371.out) hb);replace BK380 := mk_ (zq6 (by exact BK380.out) hb);replace HB := mk_ (zr3 (by repeat (first|(with_reducible first|exact HB.out|apply zq7|apply zq8|apply zq9|refine zr1 ?_ GE361.out|refine zr1 ?_ GE362.out|refine zr1 ?_ GE371.out|refine zr1 ?_ GE380.out)|exact HB.out)) hb);(try clear hb);(try clear hb2);(try clear hk);(try clear hi);obtain ⟨Ao210, co210, eo210⟩ := Kd.V_slice he.out;subst eo210))
              go_ret
              exact ⟨by first|rfl|(simp [errW_none, errW_some] <;> rfl)|(simp [*, errW_none, errW_some] <;> rfl), by repeat (first|(with_reducible first|exact HB.out|apply zq7|apply zq8|apply zq9|refine zr1 ?_ GE361.out|refine zr1 ?_ GE362.out|refine zr1 ?_ GE371.out|refine zr1 ?_ GE380.out)|exact HB.out)⟩
             ·replace c199 := Bool.eq_false_iff.mpr c199
              subst c199
              have H1 : (some false) = some r := by rw [if_neg (show ¬ (false = true) by decide)] at H;exact H
              clear H
              have H := H1
              clear H1
              obtain rfl := Option.some.inj H
              try go_wp2
              replace he := mk_ (Kd.V_drew he.out)
              replace ha := mk_ (Kd.R_drew ha.out)
              replace HO_363002 := mk_ (Kd.R_drew HO_363002.out)
              replace HO_372001 := mk_ (Kd.V_drew HO_372001.out)
              replace hc := mk_ (Kd.R_drew hc.out)
              replace BK361 := mk_ (zq2 BK361.out)
              replace BK362 := mk_ (zq2 BK362.out)
              replace BK371 := mk_ (zq2 BK371.out)
              replace BK380 := mk_ (zq2 BK380.out)
              replace HB := mk_ (zq9 HB.out)
              refine start_ (n := 8) (S := fun w' => w'.cell? ⟨gb361, 0, none⟩ = some (.int .i64 t352) ∧ w'.cell? ⟨gb361, 1, none⟩ = some (.slice Ao12 t353.length co12) ∧ w'.cell? ⟨gb362, 0, none⟩ = some (.int .i64 t356) ∧ w'.cell? ⟨gb362, 1, none⟩ = some (.int .i64 t357) ∧ w'.cell? ⟨gb362, 2, none⟩ = some (.slice Ao14 t358.length co14)) (ds := []) (bm 8 0) (by kernel_rfl) rfl rfl ⟨(zr4 BK361.out 0).trans rfl, (zr4 BK361.out 1).trans rfl, (zr4 BK362.out 0).trans rfl, (zr4 BK362.out 1).trans rfl, (zr4 BK362.out 2).trans rfl⟩ (fun hHeld => ?_);refine with_tabW laws_FnSegPut.tab10 laws_FnSegPut.bits10 (fun HT_ HW_ => ?_)
              generalize wc.drew = w211 at he ha HO_363002 HO_372001 hc BK361 BK362 BK371 BK380 HB hHeld ⊢
              refine pA 1 (some 68) (bm 8 2) rfl rfl HT_.out (by kernel_rfl) (fun _ _ _ h => h) (by rfl) (by intro w';go_simp;with_reducible rfl) (by simp only [Act.put, zs1, zs2, zs3, i64_w, i32_w];rfl) ?_
              refine pA 4 (some 71) (bm 8 18) rfl rfl HT_.out (by kernel_rfl) (fun _ _ _ h => h) (by rfl) (by intro w';go_simp;with_reducible rfl) (by simp only [Act.put, zs1, zs2, zs3, i64_w, i32_w];rfl) ?_
              refine tA 2 (some 69) (bm 8 22) rfl rfl HT_.out HW_.out (by kernel_rfl) (fun _ _ _ h => h) (by rfl) hHeld (by rintro w' ⟨s0, s1, s2, s3, s4⟩;go_simp;with_reducible rfl) (by simp only [Act.put, zs1, zs2, zs3, i64_w, i32_w];rfl) ?_
              refine tA 5 (some 72) (bm 8 54) rfl rfl HT_.out HW_.out (by kernel_rfl) (fun _ _ _ h => h) (by rfl) hHeld (by rintro w' ⟨s0, s1, s2, s3, s4⟩;go_simp;with_reducible rfl) (by simp only [Act.put, zs1, zs2, zs3, i64_w, i32_w];rfl) ?_
              refine one_ (i := 0) (N := some 67) (bm 8 55) rfl rfl (one_of HT_.out (by kernel_rfl)) (by decide) (fun K hK => ?_)
              refine Kd.R_lit_step (Kd.int .u8) _ 5 ?hg (N := 67) ?hd (xs := ([] : List Int)) (inner := []) (ok := fun _ => True) (okp := fun _ => True) ?hr ?hp (fun _ hk => hk) trivial (Below.refl _ _) (Nat.le_refl _) (by simp) ?_;(case hd => rfl);(case hg => rfl);(case hr => first|(go_simp;done)|(go_simp;rfl));(case hp => exact (Reps.none _ _))
              intro v388 w212 ho213 hb hg_ hnew_
              clear hg_ hnew_
              (first|rw [← Ny387.out] at ho213|(simp only [Int.reduceToNat] at ho213;rw [← Ny387.out] at ho213))
              replace he := mk_ (Kd.V_elder' (by (with_reducible repeat (first|apply yv0|apply yv1|apply yv2));exact he.out) (Kd.R_base ho213) hb)
              replace HO_372001 := mk_ (Kd.V_elder' (by (with_reducible repeat (first|apply yv0|apply yv1|apply yv2));exact HO_372001.out) (Kd.R_base ho213) hb)
              have HO389 := mk_ (Kd.R_lower (Kd.R_new' (Kd.R_new' (Kd.R_new' ho213 (Kd.R_lt (by (with_reducible repeat (first|apply yr0|apply yr1|apply yr2));exact ha.out))) (Kd.R_lt (by (with_reducible repeat (first|apply yr0|apply yr1|apply yr2));exact HO_363002.out))) (Kd.R_lt (by (with_reducible repeat (first|apply yr0|apply yr1|apply yr2));exact hc.out))) (zr2 (by repeat (first|(with_reducible first|exact HB.out|apply zq7|apply zq8|apply zq9|refine zr1 ?_ GE361.out|refine zr1 ?_ GE362.out|refine zr1 ?_ GE371.out|refine zr1 ?_ GE380.out)|exact HB.out))))
              replace ha := mk_ (Kd.R_elder' (by (with_reducible repeat (first|apply yr0|apply yr1|apply yr2));exact ha.out) (Kd.R_base ho213) hb)
              replace HO_363002 := mk_ (Kd.R_elder' (by (with_reducible repeat (first|apply yr0|apply yr1|apply yr2));exact HO_363002.out) (Kd.R_base ho213) hb)
              replace hc := mk_ (Kd.R_elder' (by (with_reducible repeat (first|apply yr0|apply yr1|apply yr2));exact hc.out) (Kd.R_base ho213) hb)
              replace BK361 := mk_ (zq6 (by exact BK361.out) hb)
              replace BK362 := mk_ (zq6 (by exact BK362.out) hb)
              replace BK371 := mk_ (zq6 (by exact BK371.out) hb)
              replace BK380 := mk_ (zq6 (by exact BK380.out) hb)
              replace HB := mk_ (zr3 (by repeat (first|(with_reducible first|exact HB.out|apply zq7|apply zq8|apply zq9|refine zr1 ?_ GE361.out|refine zr1 ?_ GE362.out|refine zr1 ?_ GE371.out|refine zr1 ?_ GE380.out)|exact HB.out)) hb)
              clear hb ho213
              refine hK.out _ _ ⟨(zr4 BK361.out 0).trans rfl, (zr4 BK361.out 1).trans rfl, (zr4 BK362.out 0).trans rfl, (zr4 BK362.out 1).trans rfl, (zr4 BK362.out 2).trans rfl⟩ (fun hHeld => ?_)
              clear hK K
              refine norm_ (a' := ?_) ?_ ?_
              rotate_left
              ·show Act.put _ (some 67) _ = _
               simp only [Act.put, zs1, zs2, zs3, i64_w, i32_w]
               rfl
              refine one_ (i := 3) (N := some 70) (bm 8 63) rfl rfl (one_of HT_.out (by kernel_rfl)) (by decide) (fun K hK => ?_)
              refine Kd.R_append_rows_step (Kd.int .u8) (w0 := w) w.heap.size (by rfl) (.tmp 67) (.tmp 69) 22 5 (.int .u8 0) 1 rfl Try.underlying22 info5 rfl (by decide) (by omega) v388 y387 t353 _ _ _ (fun k_ => some k_ ≠ (.slice Ao12 t353.length co12 : Value).ownBlock ∧ some k_ ≠ (.slice Ao14 t358.length co14 : Value).ownBlock ∧ some k_ ≠ (.slice Ao29 t373.length co29 : Value).ownBlock) (fun _ => False) rfl rfl ?aO ?aR (fun _ _ h => h) (fun _ h => h.elim) ?aF ?aB ?aS ?aL ?_
              (case aR => repeat (first|exact (Kd.R_reads' ha.out).2.2|(with_reducible refine Kd.C_alloc ?_ _)|(with_reducible refine Kd.C_drewN ?_ _)|(with_reducible refine Kd.C_drew ?_)))
              (case aB => exact (by repeat (first|(with_reducible first|exact HB.out|apply zq7|apply zq8|apply zq9|refine zr1 ?_ GE361.out|refine zr1 ?_ GE362.out|refine zr1 ?_ GE371.out|refine zr1 ?_ GE380.out)|exact HB.out)))
              (case aF => exact (fun k_ hk => ⟨Kd.fresh' (Kd.R_lt (by (with_reducible repeat (first|apply yr0|apply yr1|apply yr2));exact ha.out)) k_ hk, Kd.fresh' (Kd.R_lt (by (with_reducible repeat (first|apply yr0|apply yr1|apply yr2));exact HO_363002.out)) k_ hk, Kd.fresh' (Kd.R_lt (by (with_reducible repeat (first|apply yr0|apply yr1|apply yr2));exact hc.out)) k_ hk⟩))
              (case aO => exact (by (with_reducible repeat (first|apply yr0|apply yr1|apply yr2));exact Kd.R_mono HO389.out (fun _ hk => ⟨hk.1.1.2, ⟨hk.1.2, hk.2⟩⟩)))
              (case aS => exact (zr2 (by repeat (first|(with_reducible first|exact HB.out|apply zq7|apply zq8|apply zq9|refine zr1 ?_ GE361.out|refine zr1 ?_ GE362.out|refine zr1 ?_ GE371.out|refine zr1 ?_ GE380.out)|exact HB.out))))
              (case aL => have := LMc97.out;omega)
              intro v391 w214 ho hb hg hat
              rw [← Ny390.out] at ho
              have n0_ := mk_ (Kd.V_afterv (ok := (fun k_ => some k_ ≠ (.slice Ao12 t353.length co12 : Value).ownBlock ∧ some k_ ≠ (.slice Ao14 t358.length co14 : Value).ownBlock ∧ some k_ ≠ (.slice Ao29 t373.length co29 : Value).ownBlock ∧ k_ ≠ gb361 ∧ k_ ≠ gb362 ∧ k_ ≠ gb371 ∧ k_ ≠ gb380)) (by (with_reducible repeat (first|apply yv0|apply yv1|apply yv2));exact he.out) hg hat)
              have n1_ := mk_ (Kd.R_after (ok := (fun k_ => some k_ ≠ (.slice Ao14 t358.length co14 : Value).ownBlock ∧ some k_ ≠ (.slice Ao29 t373.length co29 : Value).ownBlock)) (by (with_reducible repeat (first|apply yr0|apply yr1|apply yr2));exact ha.out) hg hat)
              have n2_ := mk_ (Kd.R_after (ok := (fun k_ => some k_ ≠ (.slice Ao12 t353.length co12 : Value).ownBlock ∧ some k_ ≠ (.slice Ao29 t373.length co29 : Value).ownBlock)) (by (with_reducible repeat (first|apply yr0|apply yr1|apply yr2));exact HO_363002.out) hg hat)
              have n3_ := mk_ (Kd.V_afterv (ok := (fun k_ => some k_ ≠ (.slice Ao12 t353.length co12 : Value).ownBlock ∧ some k_ ≠ (.slice Ao14 t358.length co14 : Value).ownBlock ∧ some k_ ≠ (.slice Ao29 t373.length co29 : Value).ownBlock ∧ k_ ≠ gb361 ∧ k_ ≠ gb362 ∧ k_ ≠ gb371 ∧ k_ ≠ gb380)) (by (with_reducible repeat (first|apply yv0|apply yv1|apply yv2));exact HO_372001.out) hg hat)
              have n4_ := mk_ (Kd.R_after (ok := (fun k_ => some k_ ≠ (.slice Ao12 t353.length co12 : Value).ownBlock ∧ some k_ ≠ (.slice Ao14 t358.length co14 : Value).ownBlock)) (by (with_reducible repeat (first|apply yr0|apply yr1|apply yr2));exact hc.out) hg hat)
              have n5_ := mk_ (blk_grown (g := gb361) (o := .cells #[.int .i64 t352, .slice Ao12 t353.length co12] 35 (0, 0)) (by exact BK361.out) hg (Kd.R_ne HO389.out BK361.out (by decide)))
              have n6_ := mk_ (blk_grown (g := gb362) (o := .cells #[.int .i64 t356, .int .i64 t357, .slice Ao14 t358.length co14] 39 (0, 0)) (by exact BK362.out) hg (Kd.R_ne HO389.out BK362.out (by decide)))
              have n7_ := mk_ (blk_grown (g := gb371) (o := .cells #[.int .i64 t363, .slice Ao20 t364.length co20] 35 (0, 0)) (by exact BK371.out) hg (Kd.R_ne HO389.out BK371.out (by decide)))
              have n8_ := mk_ (blk_grown (g := gb380) (o := .cells #[.int .i64 t372, .slice Ao29 t373.length co29] 35 (0, 0)) (by exact BK380.out) hg (Kd.R_ne HO389.out BK380.out (by decide)))
              have n9_ := mk_ (hb)
              have n10_ := mk_ (ho)
              clear he
              clear ha
              clear HO_363002
              clear HO_372001
              clear hc
              clear BK361
              clear BK362
              clear BK371
              clear BK380
              clear HB
              clear HO389
              have he := n0_
              have ha := n1_
              have HO_363002 := n2_
              have HO_372001 := n3_
              have hc := n4_
              have BK361 := n5_
              have BK362 := n6_
              have BK371 := n7_
              have BK380 := n8_
              have HB := n9_
              have HO392 := n10_
              clear n0_ n1_ n2_ n3_ n4_ n5_ n6_ n7_ n8_ n9_ n10_
              clear ho hb hg hat
              refine hK.out _ _ ⟨(zr4 BK361.out 0).trans rfl, (zr4 BK361.out 1).trans rfl, (zr4 BK362.out 0).trans rfl, (zr4 BK362.out 1).trans rfl, (zr4 BK362.out 2).trans rfl⟩ (fun hHeld => ?_)
              clear hK K
              refine norm_ (a' := ?_) ?_ ?_
              rotate_left
              ·show Act.put _ (some 70) _ = _
               simp only [Act.put, zs1, zs2, zs3, i64_w, i32_w]
               rfl
              refine one_ (i := 6) (N := some 73) (bm 8 127) rfl rfl (one_of HT_.out (by kernel_rfl)) (by decide) (fun K hK => ?_)
              refine Kd.R_append_rows_step (Kd.int .u8) (w0 := w) w.heap.size (by rfl) (.tmp 70) (.tmp 72) 22 5 (.int .u8 0) 1 rfl Try.underlying22 info5 rfl (by decide) (by omega) v391 y390 t358 _ _ _ (fun k_ => some k_ ≠ (.slice Ao12 t353.length co12 : Value).ownBlock ∧ some k_ ≠ (.slice Ao14 t358.length co14 : Value).ownBlock ∧ some k_ ≠ (.slice Ao29 t373.length co29 : Value).ownBlock) (fun _ => False) rfl rfl ?aO ?aR (fun _ _ h => h) (fun _ h => h.elim) ?aF ?aB ?aS ?aL ?_
              (case aR => repeat (first|exact (Kd.R_reads' HO_363002.out).2.2|(with_reducible refine Kd.C_alloc ?_ _)|(with_reducible refine Kd.C_drewN ?_ _)|(with_reducible refine Kd.C_drew ?_)))
              (case aB => exact (by repeat (first|(with_reducible first|exact HB.out|apply zq7|apply zq8|apply zq9|refine zr1 ?_ GE361.out|refine zr1 ?_ GE362.out|refine zr1 ?_ GE371.out|refine zr1 ?_ GE380.out)|exact HB.out)))
              (case aF => exact (fun k_ hk => ⟨Kd.fresh' (Kd.R_lt (by (with_reducible repeat (first|apply yr0|apply yr1|apply yr2));exact ha.out)) k_ hk, Kd.fresh' (Kd.R_lt (by (with_reducible repeat (first|apply yr0|apply yr1|apply yr2));exact HO_363002.out)) k_ hk, Kd.fresh' (Kd.R_lt (by (with_reducible repeat (first|apply yr0|apply yr1|apply yr2));exact hc.out)) k_ hk⟩))
              (case aO => exact (by (with_reducible repeat (first|apply yr0|apply yr1|apply yr2));exact HO392.out))
              (case aS => exact (zr2 (by repeat (first|(with_reducible first|exact HB.out|apply zq7|apply zq8|apply zq9|refine zr1 ?_ GE361.out|refine zr1 ?_ GE362.out|refine zr1 ?_ GE371.out|refine zr1 ?_ GE380.out)|exact HB.out))))
              (case aL => have := LMc98.out;omega)
              intro v394 w215 ho hb hg hat
              rw [← Ny393.out] at ho
              have n0_ := mk_ (Kd.V_afterv (ok := (fun k_ => some k_ ≠ (.slice Ao12 t353.length co12 : Value).ownBlock ∧ some k_ ≠ (.slice Ao14 t358.length co14 : Value).ownBlock ∧ some k_ ≠ (.slice Ao29 t373.length co29 : Value).ownBlock ∧ k_ ≠ gb361 ∧ k_ ≠ gb362 ∧ k_ ≠ gb371 ∧ k_ ≠ gb380)) (by (with_reducible repeat (first|apply yv0|apply yv1|apply yv2));exact he.out) hg hat)
              have n1_ := mk_ (Kd.R_after (ok := (fun k_ => some k_ ≠ (.slice Ao14 t358.length co14 : Value).ownBlock ∧ some k_ ≠ (.slice Ao29 t373.length co29 : Value).ownBlock)) (by (with_reducible repeat (first|apply yr0|apply yr1|apply yr2));exact ha.out) hg hat)
              have n2_ := mk_ (Kd.R_after (ok := (fun k_ => some k_ ≠ (.slice Ao12 t353.length co12 : Value).ownBlock ∧ some k_ ≠ (.slice Ao29 t373.length co29 : Value).ownBlock)) (by (with_reducible repeat (first|apply yr0|apply yr1|apply yr2));exact HO_363002.out) hg hat)
              have n3_ := mk_ (Kd.V_afterv (ok := (fun k_ => some k_ ≠ (.slice Ao12 t353.length co12 : Value).ownBlock ∧ some k_ ≠ (.slice Ao14 t358.length co14 : Value).ownBlock ∧ some k_ ≠ (.slice Ao29 t373.length co29 : Value).ownBlock ∧ k_ ≠ gb361 ∧ k_ ≠ gb362 ∧ k_ ≠ gb371 ∧ k_ ≠ gb380)) (by (with_reducible repeat (first|apply yv0|apply yv1|apply yv2));exact HO_372001.out) hg hat)
              have n4_ := mk_ (Kd.R_after (ok := (fun k_ => some k_ ≠ (.slice Ao12 t353.length co12 : Value).ownBlock ∧ some k_ ≠ (.slice Ao14 t358.length co14 : Value).ownBlock)) (by (with_reducible repeat (first|apply yr0|apply yr1|apply yr2));exact hc.out) hg hat)
              have n5_ := mk_ (blk_grown (g := gb361) (o := .cells #[.int .i64 t352, .slice Ao12 t353.length co12] 35 (0, 0)) (by exact BK361.out) hg (Kd.R_ne HO392.out BK361.out (by decide)))
              have n6_ := mk_ (blk_grown (g := gb362) (o := .cells #[.int .i64 t356, .int .i64 t357, .slice Ao14 t358.length co14] 39 (0, 0)) (by exact BK362.out) hg (Kd.R_ne HO392.out BK362.out (by decide)))
              have n7_ := mk_ (blk_grown (g := gb371) (o := .cells #[.int .i64 t363, .slice Ao20 t364.length co20] 35 (0, 0)) (by exact BK371.out) hg (Kd.R_ne HO392.out BK371.out (by decide)))
              have n8_ := mk_ (blk_grown (g := gb380) (o := .cells #[.int .i64 t372, .slice Ao29 t373.length co29] 35 (0, 0)) (by exact BK380.out) hg (Kd.R_ne HO392.out BK380.out (by decide)))
              have n9_ := mk_ (hb)
              have n10_ := mk_ (ho)
              clear he
              clear ha
              clear HO_363002
              clear HO_372001
              clear hc
              clear BK361
              clear BK362
              clear BK371
              clear BK380
              clear HB
              clear HO392
              have he := n0_
              have ha := n1_
              have HO_363002 := n2_
              have HO_372001 := n3_
              have hc := n4_
              have BK361 := n5_
              have BK362 := n6_
              have BK371 := n7_
              have BK380 := n8_
              have HB := n9_
              have HO395 := n10_
              clear n0_ n1_ n2_ n3_ n4_ n5_ n6_ n7_ n8_ n9_ n10_
              clear ho hb hg hat
              refine hK.out _ _ ⟨(zr4 BK361.out 0).trans rfl, (zr4 BK361.out 1).trans rfl, (zr4 BK362.out 0).trans rfl, (zr4 BK362.out 1).trans rfl, (zr4 BK362.out 2).trans rfl⟩ (fun hHeld => ?_)
              clear hK K
              refine norm_ (a' := ?_) ?_ ?_
              rotate_left
              ·show Act.put _ (some 73) _ = _
               simp only [Act.put, zs1, zs2, zs3, i64_w, i32_w]
               rfl
              refine pA 7 (some 11) (bm 8 255) rfl rfl HT_.out (by kernel_rfl) (fun _ _ _ h => h) (by rfl) (by intro w';go_simp;with_reducible rfl) (by simp only [Act.put, zs1, zs2, zs3, i64_w, i32_w];rfl) ?_
              refine done_ (done_of HT_.out (by kernel_rfl)) ?_
              have hnb216 := NB371_361.out
              have hnc216 := NB361_371.out
              have hnb217 := NB371_362.out
              have hnc217 := NB362_371.out
              have hnb218 := NB371_380.out
              have hnc218 := NB380_371.out
              obtain ⟨hcz219_0, hcz219_1⟩ := cz2 BK371.out
              obtain ⟨hfz219_0, hfz219_1⟩ := fz2 BK371.out
              try go_wp2_with (first|(go_at_call 29;(refine (laws_liJoin.calls kj62 t363 _ _ t364 0 _ _ ([] : List Int) false _ ?side1 ?side2 ?side3 ?side4 A198.out).mono ?_);(case side1 => repeat (first|exact (Kd.V_reads' HO_372001.out).2.2|(with_reducible refine Kd.C_alloc ?_ _)|(with_reducible refine Kd.C_drewN ?_ _)|(with_reducible refine Kd.C_drew ?_)));(case side2 => exact (Kd.V_reads' HO_372001.out).2.1);(case side3 => exact Kd.C_nil _ _);(case side4 => exact Nat.le_refl _);rintro e w220 ⟨rfl, hb⟩;replace he := mk_ (Kd.V_below (by (with_reducible repeat (first|apply yv0|apply yv1|apply yv2));exact he.out) hb);replace ha := mk_ (Kd.R_below (by (with_reducible repeat (first|apply yr0|apply yr1|apply yr2));exact ha.out) hb);replace HO_363002 := mk_ (Kd.R_below (by (with_reducible repeat (first|apply yr0|apply yr1|apply yr2));exact HO_363002.out) hb);replace HO_372001 := mk_ (Kd.V_below (by (with_reducible repeat (first|apply yv0|apply yv1|apply yv2));exact HO_372001.out) hb);replace hc := mk_ (Kd.R_below (by (with_reducible repeat (first|apply yr0|apply yr1|apply yr2));exact hc.out) hb);replace HO395 := mk_ (Kd.R_below (by (with_reducible repeat (first|apply yr0|apply yr1|apply yr2));exact HO395.out) hb);replace BK361 := mk_ (zq6 (by exact BK361.out) hb);replace BK362 := mk_ (zq6 (by exact BK362.out) hb);replace BK371 := mk_ (zq6 (by exact BK371.out) hb);replace BK380 := mk_ (zq6 (by exact BK380.out) hb);replace HB := mk_ (zr3 (by repeat (first|(with_reducible first|exact HB.out|apply zq7|apply zq8|apply zq9|refine zr1 ?_ GE361.out|refine zr1 ?_ GE362.out|refine zr1 ?_ GE371.out|refine zr1 ?_ GE380.out)|exact HB.out)) hb);(try clear hb);(try clear hb2);(try clear hk);(try clear hi)))
              go_ret
              exact ⟨by first|rfl|(simp [errW_none, errW_some] <;> rfl)|(simp [*, errW_none, errW_some] <;> rfl), by repeat (first|(with_reducible first|exact HB.out|apply zq7|apply zq8|apply zq9|refine zr1 ?_ GE361.out|refine zr1 ?_ GE362.out|refine zr1 ?_ GE371.out|refine zr1 ?_ GE380.out)|exact HB.out)⟩
            ·rw [if_neg c197] at H
             have c197b0 : (t370 == 3) = false := beq_eq_false_iff_ne.mpr c197
             have c197b1 : (t370 != 3) = true := bne_iff_ne.mpr c197
             obtain rfl := Option.some.inj H
             try go_wp2
             replace he := mk_ (Kd.V_drew he.out)
             replace ha := mk_ (Kd.R_drew ha.out)
             replace HO_363002 := mk_ (Kd.R_drew HO_363002.out)
             replace HO_372001 := mk_ (Kd.V_drew HO_372001.out)
             replace hc := mk_ (Kd.R_drew hc.out)
             replace BK361 := mk_ (zq2 BK361.out)
             replace BK362 := mk_ (zq2 BK362.out)
             replace BK371 := mk_ (zq2 BK371.out)
             replace BK380 := mk_ (zq2 BK380.out)
             replace HB := mk_ (zq9 HB.out)
             refine start_ (n := 8) (S := fun w' => w'.cell? ⟨gb361, 0, none⟩ = some (.int .i64 t352) ∧ w'.cell? ⟨gb361, 1, none⟩ = some (.slice Ao12 t353.length co12) ∧ w'.cell? ⟨gb362, 0, none⟩ = some (.int .i64 t356) ∧ w'.cell? ⟨gb362, 1, none⟩ = some (.int .i64 t357) ∧ w'.cell? ⟨gb362, 2, none⟩ = some (.slice Ao14 t358.length co14)) (ds := []) (bm 8 0) (by kernel_rfl) rfl rfl ⟨(zr4 BK361.out 0).trans rfl, (zr4 BK361.out 1).trans rfl, (zr4 BK362.out 0).trans rfl, (zr4 BK362.out 1).trans rfl, (zr4 BK362.out 2).trans rfl⟩ (fun hHeld => ?_);refine with_tabW laws_FnSegPut.tab10 laws_FnSegPut.bits10 (fun HT_ HW_ => ?_)
             generalize wc.drew = w221 at he ha HO_363002 HO_372001 hc BK361 BK362 BK371 BK380 HB hHeld ⊢
             refine pA 1 (some 68) (bm 8 2) rfl rfl HT_.out (by kernel_rfl) (fun _ _ _ h => h) (by rfl) (by intro w';go_simp;with_reducible rfl) (by simp only [Act.put, zs1, zs2, zs3, i64_w, i32_w];rfl) ?_
             refine pA 4 (some 71) (bm 8 18) rfl rfl HT_.out (by kernel_rfl) (fun _ _ _ h => h) (by rfl) (by intro w';go_simp;with_reducible rfl) (by simp only [Act.put, zs1, zs2, zs3, i64_w, i32_w];rfl) ?_
             refine tA 2 (some 69) (bm 8 22) rfl rfl HT_.out HW_.out (by kernel_rfl) (fun _ _ _ h => h) (by rfl) hHeld (by rintro w' ⟨s0, s1, s2, s3, s4⟩;go_simp;with_reducible rfl) (by simp only [Act.put, zs1, zs2, zs3, i64_w, i32_w];rfl) ?_
             refine tA 5 (some 72) (bm 8 54) rfl rfl HT_.out HW_.out (by kernel_rfl) (fun _ _ _ h => h) (by rfl) hHeld (by rintro w' ⟨s0, s1, s2, s3, s4⟩;go_simp;with_reducible rfl) (by simp only [Act.put, zs1, zs2, zs3, i64_w, i32_w];rfl) ?_
             refine one_ (i := 0) (N := some 67) (bm 8 55) rfl rfl (one_of HT_.out (by kernel_rfl)) (by decide) (fun K hK => ?_)
             refine Kd.R_lit_step (Kd.int .u8) _ 5 ?hg (N := 67) ?hd (xs := ([] : List Int)) (inner := []) (ok := fun _ => True) (okp := fun _ => True) ?hr ?hp (fun _ hk => hk) trivial (Below.refl _ _) (Nat.le_refl _) (by simp) ?_;(case hd => rfl);(case hg => rfl);(case hr => first|(go_simp;done)|(go_simp;rfl));(case hp => exact (Reps.none _ _))
             intro v388 w222 ho223 hb hg_ hnew_
             clear hg_ hnew_
             (first|rw [← Ny387.out] at ho223|(simp only [Int.reduceToNat] at ho223;rw [← Ny387.out] at ho223))
             replace he := mk_ (Kd.V_elder' (by (with_reducible repeat (first|apply yv0|apply yv1|apply yv2));exact he.out) (Kd.R_base ho223) hb)
             replace HO_372001 := mk_ (Kd.V_elder' (by (with_reducible repeat (first|apply yv0|apply yv1|apply yv2));exact HO_372001.out) (Kd.R_base ho223) hb)
             have HO389 := mk_ (Kd.R_lower (Kd.R_new' (Kd.R_new' (Kd.R_new' ho223 (Kd.R_lt (by (with_reducible repeat (first|apply yr0|apply yr1|apply yr2));exact ha.out))) (Kd.R_lt (by (with_reducible repeat (first|apply yr0|apply yr1|apply yr2));exact HO_363002.out))) (Kd.R_lt (by (with_reducible repeat (first|apply yr0|apply yr1|apply yr2));exact hc.out))) (zr2 (by repeat (first|(with_reducible first|exact HB.out|apply zq7|apply zq8|apply zq9|refine zr1 ?_ GE361.out|refine zr1 ?_ GE362.out|refine zr1 ?_ GE371.out|refine zr1 ?_ GE380.out)|exact HB.out))))
             replace ha := mk_ (Kd.R_elder' (by (with_reducible repeat (first|apply yr0|apply yr1|apply yr2));exact ha.out) (Kd.R_base ho223) hb)
             replace HO_363002 := mk_ (Kd.R_elder' (by (with_reducible repeat (first|apply yr0|apply yr1|apply yr2));exact HO_363002.out) (Kd.R_base ho223) hb)
             replace hc := mk_ (Kd.R_elder' (by (with_reducible repeat (first|apply yr0|apply yr1|apply yr2));exact hc.out) (Kd.R_base ho223) hb)
             replace BK361 := mk_ (zq6 (by exact BK361.out) hb)
             replace BK362 := mk_ (zq6 (by exact BK362.out) hb)
             replace BK371 := mk_ (zq6 (by exact BK371.out) hb)
             replace BK380 := mk_ (zq6 (by exact BK380.out) hb)
             replace HB := mk_ (zr3 (by repeat (first|(with_reducible first|exact HB.out|apply zq7|apply zq8|apply zq9|refine zr1 ?_ GE361.out|refine zr1 ?_ GE362.out|refine zr1 ?_ GE371.out|refine zr1 ?_ GE380.out)|exact HB.out)) hb)
             clear hb ho223
             refine hK.out _ _ ⟨(zr4 BK361.out 0).trans rfl, (zr4 BK361.out 1).trans rfl, (zr4 BK362.out 0).trans rfl, (zr4 BK362.out 1).trans rfl, (zr4 BK362.out 2).trans rfl⟩ (fun hHeld => ?_)
             clear hK K
             refine norm_ (a' := ?_) ?_ ?_
             rotate_left
             ·show Act.put _ (some 67) _ = _
              simp only [Act.put, zs1, zs2, zs3, i64_w, i32_w]
              rfl
             refine one_ (i := 3) (N := some 70) (bm 8 63) rfl rfl (one_of HT_.out (by kernel_rfl)) (by decide) (fun K hK => ?_)
             refine Kd.R_append_rows_step (Kd.int .u8) (w0 := w) w.heap.size (by rfl) (.tmp 67) (.tmp 69) 22 5 (.int .u8 0) 1 rfl Try.underlying22 info5 rfl (by decide) (by omega) v388 y387 t353 _ _ _ (fun k_ => some k_ ≠ (.slice Ao12 t353.length co12 : Value).ownBlock ∧ some k_ ≠ (.slice Ao14 t358.length co14 : Value).ownBlock ∧ some k_ ≠ (.slice Ao29 t373.length co29 : Value).ownBlock) (fun _ => False) rfl rfl ?aO ?aR (fun _ _ h => h) (fun _ h => h.elim) ?aF ?aB ?aS ?aL ?_
             (case aR => repeat (first|exact (Kd.R_reads' ha.out).2.2|(with_reducible refine Kd.C_alloc ?_ _)|(with_reducible refine Kd.C_drewN ?_ _)|(with_reducible refine Kd.C_drew ?_)))
             (case aB => exact (by repeat (first|(with_reducible first|exact HB.out|apply zq7|apply zq8|apply zq9|refine zr1 ?_ GE361.out|refine zr1 ?_ GE362.out|refine zr1 ?_ GE371.out|refine zr1 ?_ GE380.out)|exact HB.out)))
             (case aF => exact (fun k_ hk => ⟨Kd.fresh' (Kd.R_lt (by (with_reducible repeat (first|apply yr0|apply yr1|apply yr2));exact ha.out)) k_ hk, Kd.fresh' (Kd.R_lt (by (with_reducible repeat (first|apply yr0|apply yr1|apply yr2));exact HO_363002.out)) k_ hk, Kd.fresh' (Kd.R_lt (by (with_reducible repeat (first|apply yr0|apply yr1|apply yr2));exact hc.out)) k_ hk⟩))
             (case aO => exact (by (with_reducible repeat (first|apply yr0|apply yr1|apply yr2));exact Kd.R_mono HO389.out (fun _ hk => ⟨hk.1.1.2, ⟨hk.1.2, hk.2⟩⟩)))
             (case aS => exact (zr2 (by repeat (first|(with_reducible first|exact HB.out|apply zq7|apply zq8|apply zq9|refine zr1 ?_ GE361.out|refine zr1 ?_ GE362.out|refine zr1 ?_ GE371.out|refine zr1 ?_ GE380.out)|exact HB.out))))
             (case aL => have := LMc97.out;omega)
             intro v391 w224 ho hb hg hat
             rw [← Ny390.out] at ho
             have n0_ := mk_ (Kd.V_afterv (ok := (fun k_ => some k_ ≠ (.slice Ao12 t353.length co12 : Value).ownBlock ∧ some k_ ≠ (.slice Ao14 t358.length co14 : Value).ownBlock ∧ some k_ ≠ (.slice Ao29 t373.length co29 : Value).ownBlock ∧ k_ ≠ gb361 ∧ k_ ≠ gb362 ∧ k_ ≠ gb371 ∧ k_ ≠ gb380)) (by (with_reducible repeat (first|apply yv0|apply yv1|apply yv2));exact he.out) hg hat)
             have n1_ := mk_ (Kd.R_after (ok := (fun k_ => some k_ ≠ (.slice Ao14 t358.length co14 : Value).ownBlock ∧ some k_ ≠ (.slice Ao29 t373.length co29 : Value).ownBlock)) (by (with_reducible repeat (first|apply yr0|apply yr1|apply yr2));exact ha.out) hg hat)
             have n2_ := mk_ (Kd.R_after (ok := (fun k_ => some k_ ≠ (.slice Ao12 t353.length co12 : Value).ownBlock ∧ some k_ ≠ (.slice Ao29 t373.length co29 : Value).ownBlock)) (by (with_reducible repeat (first|apply yr0|apply yr1|apply yr2));exact HO_363002.out) hg hat)
             have n3_ := mk_ (Kd.V_afterv (ok := (fun k_ => some k_ ≠ (.slice Ao12 t353.length co12 : Value).ownBlock ∧ some k_ ≠ (.slice Ao14 t358.length co14 : Value).ownBlock ∧ some k_ ≠ (.slice Ao29 t373.length co29 : Value).ownBlock ∧ k_ ≠ gb361 ∧ k_ ≠ gb362 ∧ k_ ≠ gb371 ∧ k_ ≠ gb380)) (by (with_reducible repeat (first|apply yv0|apply yv1|apply yv2));exact HO_372001.out) hg hat)
             have n4_ := mk_ (Kd.R_after (ok := (fun k_ => some k_ ≠ (.slice Ao12 t353.length co12 : Value).ownBlock ∧ some k_ ≠ (.slice Ao14 t358.length co14 : Value).ownBlock)) (by (with_reducible repeat (first|apply yr0|apply yr1|apply yr2));exact hc.out) hg hat)
             have n5_ := mk_ (blk_grown (g := gb361) (o := .cells #[.int .i64 t352, .slice Ao12 t353.length co12] 35 (0, 0)) (by exact BK361.out) hg (Kd.R_ne HO389.out BK361.out (by decide)))
             have n6_ := mk_ (blk_grown (g := gb362) (o := .cells #[.int .i64 t356, .int .i64 t357, .slice Ao14 t358.length co14] 39 (0, 0)) (by exact BK362.out) hg (Kd.R_ne HO389.out BK362.out (by decide)))
             have n7_ := mk_ (blk_grown (g := gb371) (o := .cells #[.int .i64 t363, .slice Ao20 t364.length co20] 35 (0, 0)) (by exact BK371.out) hg (Kd.R_ne HO389.out BK371.out (by decide)))
             have n8_ := mk_ (blk_grown (g := gb380) (o := .cells #[.int .i64 t372, .slice Ao29 t373.length co29] 35 (0, 0)) (by exact BK380.out) hg (Kd.R_ne HO389.out BK380.out (by decide)))
             have n9_ := mk_ (hb)
             have n10_ := mk_ (ho)
             clear he
             clear ha
             clear HO_363002
             clear HO_372001
             clear hc
             clear BK361
             clear BK362
             clear BK371
             clear BK380
             clear HB
             clear HO389
             have he := n0_
             have ha := n1_
             have HO_363002 := n2_
             have HO_372001 := n3_
             have hc := n4_
             have BK361 := n5_
             have BK362 := n6_
             have BK371 := n7_
             have BK380 := n8_
             have HB := n9_
             have HO392 := n10_
             clear n0_ n1_ n2_ n3_ n4_ n5_ n6_ n7_ n8_ n9_ n10_
             clear ho hb hg hat
             refine hK.out _ _ ⟨(zr4 BK361.out 0).trans rfl, (zr4 BK361.out 1).trans rfl, (zr4 BK362.out 0).trans rfl, (zr4 BK362.out 1).trans rfl, (zr4 BK362.out 2).trans rfl⟩ (fun hHeld => ?_)
             clear hK K
             refine norm_ (a' := ?_) ?_ ?_
             rotate_left
             ·show Act.put _ (some 70) _ = _
              simp only [Act.put, zs1, zs2, zs3, i64_w, i32_w]
              rfl
             refine one_ (i := 6) (N := some 73) (bm 8 127) rfl rfl (one_of HT_.out (by kernel_rfl)) (by decide) (fun K hK => ?_)
             refine Kd.R_append_rows_step (Kd.int .u8) (w0 := w) w.heap.size (by rfl) (.tmp 70) (.tmp 72) 22 5 (.int .u8 0) 1 rfl Try.underlying22 info5 rfl (by decide) (by omega) v391 y390 t358 _ _ _ (fun k_ => some k_ ≠ (.slice Ao12 t353.length co12 : Value).ownBlock ∧ some k_ ≠ (.slice Ao14 t358.length co14 : Value).ownBlock ∧ some k_ ≠ (.slice Ao29 t373.length co29 : Value).ownBlock) (fun _ => False) rfl rfl ?aO ?aR (fun _ _ h => h) (fun _ h => h.elim) ?aF ?aB ?aS ?aL ?_
             (case aR => repeat (first|exact (Kd.R_reads' HO_363002.out).2.2|(with_reducible refine Kd.C_alloc ?_ _)|(with_reducible refine Kd.C_drewN ?_ _)|(with_reducible refine Kd.C_drew ?_)))
             (case aB => exact (by repeat (first|(with_reducible first|exact HB.out|apply zq7|apply zq8|apply zq9|refine zr1 ?_ GE361.out|refine zr1 ?_ GE362.out|refine zr1 ?_ GE371.out|refine zr1 ?_ GE380.out)|exact HB.out)))
             (case aF => exact (fun k_ hk => ⟨Kd.fresh' (Kd.R_lt (by (with_reducible repeat (first|apply yr0|apply yr1|apply yr2));exact ha.out)) k_ hk, Kd.fresh' (Kd.R_lt (by (with_reducible repeat (first|apply yr0|apply yr1|apply yr2));exact HO_363002.out)) k_ hk, Kd.fresh' (Kd.R_lt (by (with_reducible repeat (first|apply yr0|apply yr1|apply yr2));exact hc.out)) k_ hk⟩))
             (case aO => exact (by (with_reducible repeat (first|apply yr0|apply yr1|apply yr2));exact HO392.out))
             (case aS => exact (zr2 (by repeat (first|(with_reducible first|exact HB.out|apply zq7|apply zq8|apply zq9|refine zr1 ?_ GE361.out|refine zr1 ?_ GE362.out|refine zr1 ?_ GE371.out|refine zr1 ?_ GE380.out)|exact HB.out))))
             (case aL => have := LMc98.out;omega)
             intro v394 w225 ho hb hg hat
             rw [← Ny393.out] at ho
             have n0_ := mk_ (Kd.V_afterv (ok := (fun k_ => some k_ ≠ (.slice Ao12 t353.length co12 : Value).ownBlock ∧ some k_ ≠ (.slice Ao14 t358.length co14 : Value).ownBlock ∧ some k_ ≠ (.slice Ao29 t373.length co29 : Value).ownBlock ∧ k_ ≠ gb361 ∧ k_ ≠ gb362 ∧ k_ ≠ gb371 ∧ k_ ≠ gb380)) (by (with_reducible repeat (first|apply yv0|apply yv1|apply yv2));exact he.out) hg hat)
             have n1_ := mk_ (Kd.R_after (ok := (fun k_ => some k_ ≠ (.slice Ao14 t358.length co14 : Value).ownBlock ∧ some k_ ≠ (.slice Ao29 t373.length co29 : Value).ownBlock)) (by (with_reducible repeat (first|apply yr0|apply yr1|apply yr2));exact ha.out) hg hat)
             have n2_ := mk_ (Kd.R_after (ok := (fun k_ => some k_ ≠ (.slice Ao12 t353.length co12 : Value).ownBlock ∧ some k_ ≠ (.slice Ao29 t373.length co29 : Value).ownBlock)) (by (with_reducible repeat (first|apply yr0|apply yr1|apply yr2));exact HO_363002.out) hg hat)
             have n3_ := mk_ (Kd.V_afterv (ok := (fun k_ => some k_ ≠ (.slice Ao12 t353.length co12 : Value).ownBlock ∧ some k_ ≠ (.slice Ao14 t358.length co14 : Value).ownBlock ∧ some k_ ≠ (.slice Ao29 t373.length co29 : Value).ownBlock ∧ k_ ≠ gb361 ∧ k_ ≠ gb362 ∧ k_ ≠ gb371 ∧ k_ ≠ gb380)) (by (with_reducible repeat (first|apply yv0|apply yv1|apply yv2));exact HO_372001.out) hg hat)
             have n4_ := mk_ (Kd.R_after (ok := (fun k_ => some k_ ≠ (.slice Ao12 t353.length co12 : Value).ownBlock ∧ some k_ ≠ (.slice Ao14 t358.length co14 : Value).ownBlock)) (by (with_reducible repeat (first|apply yr0|apply yr1|apply yr2));exact hc.out) hg hat)
             have n5_ := mk_ (blk_grown (g := gb361) (o := .cells #[.int .i64 t352, .slice Ao12 t353.length co12] 35 (0, 0)) (by exact BK361.out) hg (Kd.R_ne HO392.out BK361.out (by decide)))
             have n6_ := mk_ (blk_grown (g := gb362) (o := .cells #[.int .i64 t356, .int .i64 t357, .slice Ao14 t358.length co14] 39 (0, 0)) (by exact BK362.out) hg (Kd.R_ne HO392.out BK362.out (by decide)))
             have n7_ := mk_ (blk_grown (g := gb371) (o := .cells #[.int .i64 t363, .slice Ao20 t364.length co20] 35 (0, 0)) (by exact BK371.out) hg (Kd.R_ne HO392.out BK371.out (by decide)))
             have n8_ := mk_ (blk_grown (g := gb380) (o := .cells #[.int .i64 t372, .slice Ao29 t373.length co29] 35 (0, 0)) (by exact BK380.out) hg (Kd.R_ne HO392.out BK380.out (by decide)))
             have n9_ := mk_ (hb)
             have n10_ := mk_ (ho)
             clear he
             clear ha
             clear HO_363002
             clear HO_372001
             clear hc
             clear BK361
             clear BK362
             clear BK371
             clear BK380
             clear HB
             clear HO392
             have he := n0_
             have ha := n1_
             have HO_363002 := n2_
             have HO_372001 := n3_
             have hc := n4_
             have BK361 := n5_
             have BK362 := n6_
             have BK371 := n7_
             have BK380 := n8_
             have HB := n9_
             have HO395 := n10_
             clear n0_ n1_ n2_ n3_ n4_ n5_ n6_ n7_ n8_ n9_ n10_
             clear ho hb hg hat
             refine hK.out _ _ ⟨(zr4 BK361.out 0).trans rfl, (zr4 BK361.out 1).trans rfl, (zr4 BK362.out 0).trans rfl, (zr4 BK362.out 1).trans rfl, (zr4 BK362.out 2).trans rfl⟩ (fun hHeld => ?_)
             clear hK K
             refine norm_ (a' := ?_) ?_ ?_
             rotate_left
             ·show Act.put _ (some 73) _ = _
              simp only [Act.put, zs1, zs2, zs3, i64_w, i32_w]
              rfl
             refine pA 7 (some 11) (bm 8 255) rfl rfl HT_.out (by kernel_rfl) (fun _ _ _ h => h) (by rfl) (by intro w';go_simp;with_reducible rfl) (by simp only [Act.put, zs1, zs2, zs3, i64_w, i32_w];rfl) ?_
             refine done_ (done_of HT_.out (by kernel_rfl)) ?_
             try go_wp2
             go_ret
             exact ⟨by first|rfl|(simp [errW_none, errW_some] <;> rfl)|(simp [*, errW_none, errW_some] <;> rfl), by repeat (first|(with_reducible first|exact HB.out|apply zq7|apply zq8|apply zq9|refine zr1 ?_ GE361.out|refine zr1 ?_ GE362.out|refine zr1 ?_ GE371.out|refine zr1 ?_ GE380.out)|exact HB.out)⟩
         ·rw [if_neg c98] at H
          exact absurd H (by simp)
        ·rw [if_neg c97] at H
         exact absurd H (by simp)

/-- THE ONE PURE STATEMENT of laws_FnSegPut: yours. -/
def laws_FnSegPut.Pure : Prop := ∀ (l0 : List Int), l0.length ≤ maxLen → l0.length * 1 ≤ 140737488351232 → (∀ x ∈ l0, (Lit.int .u8 x).wf = true) → ∃ k, laws_FnSegPut.f k l0 = some true
theorem laws_FnSegPut.walk (P : laws_FnSegPut.Pure) (a0 : Option Addr) (len0 cap0 : Nat) (z0 : List Int) (w : World) (w0 : (a0 = none ∧ len0 = 0 ∧ cap0 = 0 ∧ z0 = []) ∨ ∃ x, a0 = some x ∧ len0 ≤ cap0 ∧ cap0 ≤ maxLen ∧ z0.length = cap0 ∧ (∀ i, i < z0.length → w.cell? (x.add i) = some (.int .u8 (z0.getD i 0))) ∧ ∀ n ∈ z0, (Lit.int .u8 n).wf = true) (y0 : len0 * 1 ≤ 140737488351232) :
  Calls Try.prog 9 #[.slice a0 len0 cap0] w fun e w' => e = .returned (.bool true) ∧ Below w.heap.size w w' := by
 obtain ⟨l0, rfl, hr0, hm0, hw0, hc0⟩ := ReadsInt.ofRowC w0
 obtain ⟨k, h⟩ := P l0 hm0 y0 hw0
 refine (laws_FnSegPut.calls k _ _ l0 true w (Kd.C_of_reads (d := (0 : Int)) (h1 := fun _ => rfl) hr0) hc0 h).mono ?_
 rintro e w' ⟨rfl, hd⟩
 exact ⟨rfl, hd⟩

end Go.Proofs.Yteknaofnageihaa.QFnSegPut
