-- Written by a program of this session, a turned copy of the print (not by print.sh itself). Lean checks it.
import Derived.Test.YtommafidnphkcaaQFnCfgMeetx0
import Derived.Test.YtommafidnphkcaaQFnCfgMeetx1
import Derived.Test.YtommafidnphkcaaQFnCfgMeetx2
import Derived.Test.YtommafidnphkcaaQFnCfgMeetx4
namespace Go.Proofs.Ytommafidnphkcaa.QFnCfgMeet
open Go.RowKit Go.Proofs.YtommafidnphkcaaW.PrintWords Go.Proofs.YtommafidnphkcaaW.PrintLast Go.Proofs.YtommafidnphkcaaW.PrintMore
attribute [local go_sem] max2_int min2_int max_two min_two max_three min_three max_four min_four   -- for this text's walks alone
set_option linter.unusedVariables false
set_option linter.unusedSimpArgs false

attribute [local go_sem high] eqA24
/-! ### laws_FnCfgMeet: function 4 -/
def laws_FnCfgMeet.j0 : Nat → Bool → Bool → Int → Int → Int → Int → Int → Int → Int → Int → Int → Int → Int → Int → Int → Int → Int → Option (Bool)
  | 0, _, _, _, _, _, _, _, _, _, _, _, _, _, _, _, _, _ => none
  | k + 1, x6, x56, x230000, x230001, x230002, x230003, x230004, x231000, x231001, x231002, x231003, x231004, x238000, x238001, x238002, x238003, x238004 => if x56 = true then (some false) else (if x6 = true then ((impl_CfgMeet.f x238000 x238001 x238002 x238003 x238004 x230000 x230001 x230002 x230003 x230004).bind fun bt252 => ((impl_CfgOk.f x238000 x238001 x238002 x238003 x238004).bind fun t259 => (if t259 = true then (if bt252.2.2.2.2.2 = true then (if (bt252.1 == x238000 && (bt252.2.1 == x238001 && (bt252.2.2.1 == x238002 && (bt252.2.2.2.1 == x238003 && (bt252.2.2.2.2.1 == x238004))))) = true then (if x238001 = (mn x230001 x231001) then (if x238002 = (mn x230002 x231002) then (if x238003 = (mn x230003 x231003) then (some (x238004 == (mn x230004 x231004))) else (some false)) else (some false)) else (some false)) else (some false)) else (some false)) else (some false)))) else (if (x238000 == 0 && (x238001 == 0 && (x238002 == 0 && (x238003 == 0 && (x238004 == 0))))) = true then ((spec_CfgOk.f x230000 x230001 x230002 x230003 x230004).bind fun t260 => (if t260 = true then ((spec_CfgOk.f x231000 x231001 x231002 x231003 x231004).bind fun t261 => (if t261 = true then (if x230000 = x231000 then (some false) else ((laws_liOk.f).bind fun t262 => (some t262))) else ((laws_liOk.f).bind fun t263 => (some t263)))) else ((laws_liOk.f).bind fun t264 => (some t264)))) else (some false)))
def laws_FnCfgMeet.f (k : Nat) (l0 : List Int) : Option (Bool) := if (l0.length : Int) > 1048576 then (some true) else ((spec_DrawCfgMeet.f k l0).bind fun bt219 => ((impl_CfgMeet.f bt219.1 bt219.2.1 bt219.2.2.1 bt219.2.2.2.1 bt219.2.2.2.2.1 bt219.2.2.2.2.2.1 bt219.2.2.2.2.2.2.1 bt219.2.2.2.2.2.2.2.1 bt219.2.2.2.2.2.2.2.2.1 bt219.2.2.2.2.2.2.2.2.2).bind fun bt231 => ((spec_CfgMeet.f bt219.1 bt219.2.1 bt219.2.2.1 bt219.2.2.2.1 bt219.2.2.2.2.1 bt219.2.2.2.2.2.1 bt219.2.2.2.2.2.2.1 bt219.2.2.2.2.2.2.2.1 bt219.2.2.2.2.2.2.2.2.1 bt219.2.2.2.2.2.2.2.2.2).bind fun bt238 => ((impl_CfgMeet.f bt219.2.2.2.2.2.1 bt219.2.2.2.2.2.2.1 bt219.2.2.2.2.2.2.2.1 bt219.2.2.2.2.2.2.2.2.1 bt219.2.2.2.2.2.2.2.2.2 bt219.1 bt219.2.1 bt219.2.2.1 bt219.2.2.2.1 bt219.2.2.2.2.1).bind fun bt245 => (if (!(bt231.1 == bt238.1) || (!(bt231.2.1 == bt238.2.1) || (!(bt231.2.2.1 == bt238.2.2.1) || (!(bt231.2.2.2.1 == bt238.2.2.2.1) || (!(bt231.2.2.2.2.1 == bt238.2.2.2.2.1)))))) = true then (laws_FnCfgMeet.j0 k bt231.2.2.2.2.2 true bt219.1 bt219.2.1 bt219.2.2.1 bt219.2.2.2.1 bt219.2.2.2.2.1 bt219.2.2.2.2.2.1 bt219.2.2.2.2.2.2.1 bt219.2.2.2.2.2.2.2.1 bt219.2.2.2.2.2.2.2.2.1 bt219.2.2.2.2.2.2.2.2.2 bt231.1 bt231.2.1 bt231.2.2.1 bt231.2.2.2.1 bt231.2.2.2.2.1) else (if (bt231.2.2.2.2.2 != bt238.2.2.2.2.2) = true then (laws_FnCfgMeet.j0 k bt231.2.2.2.2.2 true bt219.1 bt219.2.1 bt219.2.2.1 bt219.2.2.2.1 bt219.2.2.2.2.1 bt219.2.2.2.2.2.1 bt219.2.2.2.2.2.2.1 bt219.2.2.2.2.2.2.2.1 bt219.2.2.2.2.2.2.2.2.1 bt219.2.2.2.2.2.2.2.2.2 bt231.1 bt231.2.1 bt231.2.2.1 bt231.2.2.2.1 bt231.2.2.2.2.1) else (if (!(bt245.1 == bt231.1) || (!(bt245.2.1 == bt231.2.1) || (!(bt245.2.2.1 == bt231.2.2.1) || (!(bt245.2.2.2.1 == bt231.2.2.2.1) || (!(bt245.2.2.2.2.1 == bt231.2.2.2.2.1)))))) = true then (laws_FnCfgMeet.j0 k bt231.2.2.2.2.2 true bt219.1 bt219.2.1 bt219.2.2.1 bt219.2.2.2.1 bt219.2.2.2.2.1 bt219.2.2.2.2.2.1 bt219.2.2.2.2.2.2.1 bt219.2.2.2.2.2.2.2.1 bt219.2.2.2.2.2.2.2.2.1 bt219.2.2.2.2.2.2.2.2.2 bt231.1 bt231.2.1 bt231.2.2.1 bt231.2.2.2.1 bt231.2.2.2.2.1) else (laws_FnCfgMeet.j0 k bt231.2.2.2.2.2 (bt245.2.2.2.2.2 != bt231.2.2.2.2.2) bt219.1 bt219.2.1 bt219.2.2.1 bt219.2.2.2.1 bt219.2.2.2.2.1 bt219.2.2.2.2.2.1 bt219.2.2.2.2.2.2.1 bt219.2.2.2.2.2.2.2.1 bt219.2.2.2.2.2.2.2.2.1 bt219.2.2.2.2.2.2.2.2.2 bt231.1 bt231.2.1 bt231.2.2.1 bt231.2.2.2.1 bt231.2.2.2.2.1))))))))
theorem laws_FnCfgMeet.mono_l : ∀ k, (∀ y0 y1 y2 y3 y4 y5 y6 y7 y8 y9 y10 y11 y12 y13 y14 y15 y16, LeO (laws_FnCfgMeet.j0 k y0 y1 y2 y3 y4 y5 y6 y7 y8 y9 y10 y11 y12 y13 y14 y15 y16) (laws_FnCfgMeet.j0 (k + 1) y0 y1 y2 y3 y4 y5 y6 y7 y8 y9 y10 y11 y12 y13 y14 y15 y16))
  | 0 => fun _ _ _ _ _ _ _ _ _ _ _ _ _ _ _ _ _ r h => by simp [laws_FnCfgMeet.j0] at h
  | k + 1 => by
    have ih0 := laws_FnCfgMeet.mono_l k
    · intro y0 y1 y2 y3 y4 y5 y6 y7 y8 y9 y10 y11 y12 y13 y14 y15 y16
      unfold laws_FnCfgMeet.j0
      repeat' first
      | (with_reducible exact ih0 _ _ _ _ _ _ _ _ _ _ _ _ _ _ _ _ _)
      | (with_reducible exact spec_DrawCfgMeet.mono _ _)
      | (with_reducible exact LeO.refl _)
      | (with_reducible exact LeO.none _)
      | (with_reducible refine LeO.ite ?_ ?_)
      | (with_reducible refine LeO.bind ?_ (fun _ => ?_))
      | exact ih0 _ _ _ _ _ _ _ _ _ _ _ _ _ _ _ _ _
      | exact spec_DrawCfgMeet.mono _ _
      | exact LeO.none _
      | refine LeO.ite ?_ ?_
      | refine LeO.bind ?_ (fun _ => ?_)
theorem laws_FnCfgMeet.mono : ∀ a0 k, LeO (laws_FnCfgMeet.f k a0) (laws_FnCfgMeet.f (k + 1) a0) := by
 intro a0 k
 have ih0 := laws_FnCfgMeet.mono_l k
 unfold laws_FnCfgMeet.f
 repeat' first
     | (with_reducible exact ih0 _ _ _ _ _ _ _ _ _ _ _ _ _ _ _ _ _)
     | (with_reducible exact spec_DrawCfgMeet.mono _ _)
     | (with_reducible exact LeO.refl _)
     | (with_reducible exact LeO.none _)
     | (with_reducible refine LeO.ite ?_ ?_)
     | (with_reducible refine LeO.bind ?_ (fun _ => ?_))
     | exact ih0 _ _ _ _ _ _ _ _ _ _ _ _ _ _ _ _ _
     | exact spec_DrawCfgMeet.mono _ _
     | exact LeO.none _
     | refine LeO.ite ?_ ?_
     | refine LeO.bind ?_ (fun _ => ?_)
set_option maxHeartbeats 8000000 in
set_option maxRecDepth 100000 in
theorem laws_FnCfgMeet.calls (k : Nat) (A0 : Option Addr) (c0 : Nat) (l0 : List Int) (r : Bool) (w : World) (hr0 : Kd.C (Kd.int .u8) w A0 l0.length l0) (hc0 : l0.length ≤ c0) (h : laws_FnCfgMeet.f k l0 = some r) :
    Calls Try.prog 4 #[.slice A0 l0.length c0] w fun e w' => e = .returned (.bool r) ∧ Below w.heap.size w w' := by
  have hu24 := Try.underlying24
  have HR0 := mk_ hr0
  have HC0 := mk_ hc0
  clear hr0 hc0
  have HB := mk_ (Below.refl w.heap.size w)
  have H : (if (l0.length : Int) > 1048576 then (some true) else ((spec_DrawCfgMeet.f k l0).bind fun bt219 => ((impl_CfgMeet.f bt219.1 bt219.2.1 bt219.2.2.1 bt219.2.2.2.1 bt219.2.2.2.2.1 bt219.2.2.2.2.2.1 bt219.2.2.2.2.2.2.1 bt219.2.2.2.2.2.2.2.1 bt219.2.2.2.2.2.2.2.2.1 bt219.2.2.2.2.2.2.2.2.2).bind fun bt231 => ((spec_CfgMeet.f bt219.1 bt219.2.1 bt219.2.2.1 bt219.2.2.2.1 bt219.2.2.2.2.1 bt219.2.2.2.2.2.1 bt219.2.2.2.2.2.2.1 bt219.2.2.2.2.2.2.2.1 bt219.2.2.2.2.2.2.2.2.1 bt219.2.2.2.2.2.2.2.2.2).bind fun bt238 => ((impl_CfgMeet.f bt219.2.2.2.2.2.1 bt219.2.2.2.2.2.2.1 bt219.2.2.2.2.2.2.2.1 bt219.2.2.2.2.2.2.2.2.1 bt219.2.2.2.2.2.2.2.2.2 bt219.1 bt219.2.1 bt219.2.2.1 bt219.2.2.2.1 bt219.2.2.2.2.1).bind fun bt245 => (if (!(bt231.1 == bt238.1) || (!(bt231.2.1 == bt238.2.1) || (!(bt231.2.2.1 == bt238.2.2.1) || (!(bt231.2.2.2.1 == bt238.2.2.2.1) || (!(bt231.2.2.2.2.1 == bt238.2.2.2.2.1)))))) = true then (laws_FnCfgMeet.j0 k bt231.2.2.2.2.2 true bt219.1 bt219.2.1 bt219.2.2.1 bt219.2.2.2.1 bt219.2.2.2.2.1 bt219.2.2.2.2.2.1 bt219.2.2.2.2.2.2.1 bt219.2.2.2.2.2.2.2.1 bt219.2.2.2.2.2.2.2.2.1 bt219.2.2.2.2.2.2.2.2.2 bt231.1 bt231.2.1 bt231.2.2.1 bt231.2.2.2.1 bt231.2.2.2.2.1) else (if (bt231.2.2.2.2.2 != bt238.2.2.2.2.2) = true then (laws_FnCfgMeet.j0 k bt231.2.2.2.2.2 true bt219.1 bt219.2.1 bt219.2.2.1 bt219.2.2.2.1 bt219.2.2.2.2.1 bt219.2.2.2.2.2.1 bt219.2.2.2.2.2.2.1 bt219.2.2.2.2.2.2.2.1 bt219.2.2.2.2.2.2.2.2.1 bt219.2.2.2.2.2.2.2.2.2 bt231.1 bt231.2.1 bt231.2.2.1 bt231.2.2.2.1 bt231.2.2.2.2.1) else (if (!(bt245.1 == bt231.1) || (!(bt245.2.1 == bt231.2.1) || (!(bt245.2.2.1 == bt231.2.2.1) || (!(bt245.2.2.2.1 == bt231.2.2.2.1) || (!(bt245.2.2.2.2.1 == bt231.2.2.2.2.1)))))) = true then (laws_FnCfgMeet.j0 k bt231.2.2.2.2.2 true bt219.1 bt219.2.1 bt219.2.2.1 bt219.2.2.2.1 bt219.2.2.2.2.1 bt219.2.2.2.2.2.1 bt219.2.2.2.2.2.2.1 bt219.2.2.2.2.2.2.2.1 bt219.2.2.2.2.2.2.2.2.1 bt219.2.2.2.2.2.2.2.2.2 bt231.1 bt231.2.1 bt231.2.2.1 bt231.2.2.2.1 bt231.2.2.2.2.1) else (laws_FnCfgMeet.j0 k bt231.2.2.2.2.2 (bt245.2.2.2.2.2 != bt231.2.2.2.2.2) bt219.1 bt219.2.1 bt219.2.2.1 bt219.2.2.2.1 bt219.2.2.2.2.1 bt219.2.2.2.2.2.1 bt219.2.2.2.2.2.2.1 bt219.2.2.2.2.2.2.2.1 bt219.2.2.2.2.2.2.2.2.1 bt219.2.2.2.2.2.2.2.2.2 bt231.1 bt231.2.1 bt231.2.2.1 bt231.2.2.2.1 bt231.2.2.2.2.1))))))))) = some r := h
  clear h
  by_cases c2 : (l0.length : Int) > 1048576
  · rw [if_pos c2] at H
    have c2b0 : decide (1048576 < (l0.length : Int)) = true := decide_eq_true c2
    have c2b1 : decide (1048576 < l0.length) = true := decide_eq_true (by omega)
    clear c2
    obtain rfl := Option.some.inj H
    go_enter Try.func4, Try.ntmps4
    go_wp2
    go_ret
    exact ⟨by first | rfl | (simp [errW_none, errW_some] <;> rfl) | (simp [*, errW_none, errW_some] <;> rfl), by repeat (first | (with_reducible first | exact HB.out | apply zq7 | apply zq8 | apply zq9) | exact HB.out)⟩
  · rw [if_neg c2] at H
    have c2b0 : decide (1048576 < (l0.length : Int)) = false := decide_eq_false c2
    have c2b1 : decide (1048576 < l0.length) = false := decide_eq_false (by omega)
    clear c2
    replace H := Option.bind_eq_some_iff.mp H
    obtain ⟨⟨t219, t220, t221, t222, t223, t224, t225, t226, t227, t228⟩, A30, H⟩ := H
    try dsimp only at H
    have A3 := mk_ A30
    clear A30
    replace H := Option.bind_eq_some_iff.mp H
    obtain ⟨⟨t231, t232, t233, t234, t235, t236⟩, A40, H⟩ := H
    try dsimp only at H
    have A4 := mk_ A40
    clear A40
    replace H := Option.bind_eq_some_iff.mp H
    obtain ⟨⟨t238, t239, t240, t241, t242, t243⟩, A50, H⟩ := H
    try dsimp only at H
    have A5 := mk_ A50
    clear A50
    replace H := Option.bind_eq_some_iff.mp H
    obtain ⟨⟨t245, t246, t247, t248, t249, t250⟩, A60, H⟩ := H
    try dsimp only at H
    have A6 := mk_ A60
    clear A60
    have HC7 := mk_ H
    clear H
    go_enter Try.func4, Try.ntmps4
    go_upto_region 7 with (first | ((with_reducible refine gate_callee (f := 14) rfl ?_); refine goesL_ (some 18) rfl rfl Try.func14 (by kernel_rfl) rfl #[.slice A0 l0.length c0] rfl (by (try simp only [List.map_toArray, List.map_cons, List.map_nil]); first | done | rfl | (simp only [List.length_drop, List.length_take]; rfl)) ?_; (with_reducible refine (spec_DrawCfgMeet.calls k _ _ l0 t219 t220 t221 t222 t223 t224 t225 t226 t227 t228 _ ?side1 ?side2 A3.out).mono ?_); (case side1 => repeat (first | exact HR0.out | (with_reducible refine Kd.C_alloc ?_ _) | (with_reducible refine Kd.C_drewN ?_ _) | (with_reducible refine Kd.C_drew ?_))); (case side2 => exact HC0.out); rintro e w8 ⟨rfl, hb⟩; refine ⟨_, rfl, ?_⟩; have n0_ := mk_ (zr3 (by repeat (first | (with_reducible first | exact HB.out | apply zq7 | apply zq8 | apply zq9) | exact HB.out)) hb); clear HB; have HB := n0_; clear n0_; (try clear hb); (try clear hb2); (try clear hk); (try clear hi)) | ((with_reducible refine gate_dst (N := 3) rfl ?_); (try (refine gate_guard (by rfl) ?_; dsimp only)); refine box_event ?hg (N := 3) ?hd (cs := #[.int .i64 0, .int .i64 0, .int .i64 0, .int .i64 0, .int .i64 0]) (t := 24) ?hr ?_; (case hd => rfl); (case hg => rfl); (case hr => first | (go_simp; done) | (go_simp; rfl)); intro gb229 hg w9 hbox hb; have n0_ := mk_ (zr3 (by repeat (first | (with_reducible first | exact HB.out | apply zq7 | apply zq8 | apply zq9) | exact HB.out)) hb); have n1_ := mk_ (hbox); have n2_ := mk_ ((by rw [hg]; exact (zr2 (by repeat (first | (with_reducible first | exact HB.out | apply zq7 | apply zq8 | apply zq9) | exact HB.out))) : w.heap.size ≤ gb229)); have n3_ := mk_ ((by rw [hg]; exact (zr2 (by repeat (first | (with_reducible first | exact HB.out | apply zq7 | apply zq8 | apply zq9) | exact HB.out))) : w.heap.size ≤ gb229)); clear HB; have HB := n0_; have BK229 := n1_; have GW229 := n2_; have GE229 := n3_; clear n0_ n1_ n2_ n3_; clear hb hbox hg) | ((with_reducible refine gate_dst (N := 4) rfl ?_); (try (refine gate_guard (by rfl) ?_; dsimp only)); refine box_event ?hg (N := 4) ?hd (cs := #[.int .i64 0, .int .i64 0, .int .i64 0, .int .i64 0, .int .i64 0]) (t := 24) ?hr ?_; (case hd => rfl); (case hg => rfl); (case hr => first | (go_simp; done) | (go_simp; rfl)); intro gb230 hg w10 hbox hb; have n0_ := mk_ (zq6 (by exact BK229.out) hb); have n1_ := mk_ (zr3 (by repeat (first | (with_reducible first | exact HB.out | apply zq7 | apply zq8 | apply zq9 | refine zr1 ?_ GE229.out) | exact HB.out)) hb); have n2_ := mk_ (hbox); have n3_ := mk_ ((by rw [hg]; exact (zr2 (by repeat (first | (with_reducible first | exact HB.out | apply zq7 | apply zq8 | apply zq9 | refine zr1 ?_ GE229.out) | exact HB.out))) : w.heap.size ≤ gb230)); have n4_ := mk_ ((by rw [hg]; exact (zr2 (by repeat (first | (with_reducible first | exact HB.out | apply zq7 | apply zq8 | apply zq9 | refine zr1 ?_ GE229.out) | exact HB.out))) : w.heap.size ≤ gb230)); have n5_ := mk_ ((by rw [hg]; exact zm2 (zr6 (by exact BK229.out)) : gb229 ≠ gb230)); have n6_ := mk_ n5_.out.symm; clear BK229; clear HB; have BK229 := n0_; have HB := n1_; have BK230 := n2_; have GW230 := n3_; have GE230 := n4_; have NB229_230 := n5_; have NB230_229 := n6_; clear n0_ n1_ n2_ n3_ n4_ n5_ n6_; clear hb hbox hg; have hnb11 := NB229_230.out; have hnc11 := NB230_229.out; obtain ⟨hcz12_0, hcz12_1, hcz12_2, hcz12_3, hcz12_4⟩ := cz5 BK229.out; obtain ⟨hfz12_0, hfz12_1, hfz12_2, hfz12_3, hfz12_4⟩ := fz5 BK229.out; obtain ⟨hcz13_0, hcz13_1, hcz13_2, hcz13_3, hcz13_4⟩ := cz5 BK230.out; obtain ⟨hfz13_0, hfz13_1, hfz13_2, hfz13_3, hfz13_4⟩ := fz5 BK230.out) | ((with_reducible refine gate_callee (f := 15) rfl ?_); refine goesL_ (some 24) rfl rfl Try.func15 (by kernel_rfl) rfl #[.agg #[.int .i64 t219, .int .i64 t220, .int .i64 t221, .int .i64 t222, .int .i64 t223], .agg #[.int .i64 t224, .int .i64 t225, .int .i64 t226, .int .i64 t227, .int .i64 t228]] rfl (by (try simp only [List.map_toArray, List.map_cons, List.map_nil]); first | done | rfl | (simp only [List.length_drop, List.length_take]; rfl)) ?_; (with_reducible refine (impl_CfgMeet.calls t219 t220 t221 t222 t223 t224 t225 t226 t227 t228 t231 t232 t233 t234 t235 t236 _ A4.out).mono ?_); rintro e w14 ⟨rfl, hb⟩; refine ⟨_, rfl, ?_⟩; have n0_ := mk_ (zq6 (g := gb229) (o := .cells #[.int .i64 t219, .int .i64 t220, .int .i64 t221, .int .i64 t222, .int .i64 t223] 24 (0, 0)) (by (with_reducible repeat (first | refine zq1 ?_ _ | refine zq2 ?_ | refine zq3 ?_ _)); refine zq5 ?_ NB229_230.out _; (with_reducible repeat (first | refine zq1 ?_ _ | refine zq2 ?_ | refine zq3 ?_ _)); refine zq5 ?_ NB229_230.out _; (with_reducible repeat (first | refine zq1 ?_ _ | refine zq2 ?_ | refine zq3 ?_ _)); refine zq5 ?_ NB229_230.out _; (with_reducible repeat (first | refine zq1 ?_ _ | refine zq2 ?_ | refine zq3 ?_ _)); refine zq5 ?_ NB229_230.out _; (with_reducible repeat (first | refine zq1 ?_ _ | refine zq2 ?_ | refine zq3 ?_ _)); refine zq5 ?_ NB229_230.out _; (with_reducible repeat (first | refine zq1 ?_ _ | refine zq2 ?_ | refine zq3 ?_ _)); refine zq4 (cs := #[.int .i64 t219, .int .i64 t220, .int .i64 t221, .int .i64 t222, .int .i64 0]) ?_ 4 _ rfl; (with_reducible repeat (first | refine zq1 ?_ _ | refine zq2 ?_ | refine zq3 ?_ _)); refine zq4 (cs := #[.int .i64 t219, .int .i64 t220, .int .i64 t221, .int .i64 0, .int .i64 0]) ?_ 3 _ rfl; (with_reducible repeat (first | refine zq1 ?_ _ | refine zq2 ?_ | refine zq3 ?_ _)); refine zq4 (cs := #[.int .i64 t219, .int .i64 t220, .int .i64 0, .int .i64 0, .int .i64 0]) ?_ 2 _ rfl; (with_reducible repeat (first | refine zq1 ?_ _ | refine zq2 ?_ | refine zq3 ?_ _)); refine zq4 (cs := #[.int .i64 t219, .int .i64 0, .int .i64 0, .int .i64 0, .int .i64 0]) ?_ 1 _ rfl; (with_reducible repeat (first | refine zq1 ?_ _ | refine zq2 ?_ | refine zq3 ?_ _)); refine zq4 (cs := #[.int .i64 0, .int .i64 0, .int .i64 0, .int .i64 0, .int .i64 0]) ?_ 0 _ rfl; (with_reducible repeat (first | refine zq1 ?_ _ | refine zq2 ?_ | refine zq3 ?_ _)); exact BK229.out) hb); have n1_ := mk_ (zq6 (g := gb230) (o := .cells #[.int .i64 t224, .int .i64 t225, .int .i64 t226, .int .i64 t227, .int .i64 t228] 24 (0, 0)) (by (with_reducible repeat (first | refine zq1 ?_ _ | refine zq2 ?_ | refine zq3 ?_ _)); refine zq4 (cs := #[.int .i64 t224, .int .i64 t225, .int .i64 t226, .int .i64 t227, .int .i64 0]) ?_ 4 _ rfl; (with_reducible repeat (first | refine zq1 ?_ _ | refine zq2 ?_ | refine zq3 ?_ _)); refine zq4 (cs := #[.int .i64 t224, .int .i64 t225, .int .i64 t226, .int .i64 0, .int .i64 0]) ?_ 3 _ rfl; (with_reducible repeat (first | refine zq1 ?_ _ | refine zq2 ?_ | refine zq3 ?_ _)); refine zq4 (cs := #[.int .i64 t224, .int .i64 t225, .int .i64 0, .int .i64 0, .int .i64 0]) ?_ 2 _ rfl; (with_reducible repeat (first | refine zq1 ?_ _ | refine zq2 ?_ | refine zq3 ?_ _)); refine zq4 (cs := #[.int .i64 t224, .int .i64 0, .int .i64 0, .int .i64 0, .int .i64 0]) ?_ 1 _ rfl; (with_reducible repeat (first | refine zq1 ?_ _ | refine zq2 ?_ | refine zq3 ?_ _)); refine zq4 (cs := #[.int .i64 0, .int .i64 0, .int .i64 0, .int .i64 0, .int .i64 0]) ?_ 0 _ rfl; (with_reducible repeat (first | refine zq1 ?_ _ | refine zq2 ?_ | refine zq3 ?_ _)); refine zq5 ?_ NB230_229.out _; (with_reducible repeat (first | refine zq1 ?_ _ | refine zq2 ?_ | refine zq3 ?_ _)); refine zq5 ?_ NB230_229.out _; (with_reducible repeat (first | refine zq1 ?_ _ | refine zq2 ?_ | refine zq3 ?_ _)); refine zq5 ?_ NB230_229.out _; (with_reducible repeat (first | refine zq1 ?_ _ | refine zq2 ?_ | refine zq3 ?_ _)); refine zq5 ?_ NB230_229.out _; (with_reducible repeat (first | refine zq1 ?_ _ | refine zq2 ?_ | refine zq3 ?_ _)); refine zq5 ?_ NB230_229.out _; (with_reducible repeat (first | refine zq1 ?_ _ | refine zq2 ?_ | refine zq3 ?_ _)); exact BK230.out) hb); have n2_ := mk_ (zr3 (by repeat (first | (with_reducible first | exact HB.out | apply zq7 | apply zq8 | apply zq9 | refine zr1 ?_ GE229.out | refine zr1 ?_ GE230.out) | exact HB.out)) hb); clear BK229; clear BK230; clear HB; have BK229 := n0_; have BK230 := n1_; have HB := n2_; clear n0_ n1_ n2_; (try clear hb); (try clear hb2); (try clear hk); (try clear hi)) | ((with_reducible refine gate_dst (N := 5) rfl ?_); (try (refine gate_guard (by rfl) ?_; dsimp only)); refine box_event ?hg (N := 5) ?hd (cs := #[.int .i64 0, .int .i64 0, .int .i64 0, .int .i64 0, .int .i64 0]) (t := 24) ?hr ?_; (case hd => rfl); (case hg => rfl); (case hr => first | (go_simp; done) | (go_simp; rfl)); intro gb237 hg w15 hbox hb; have n0_ := mk_ (zq6 (by exact BK229.out) hb); have n1_ := mk_ (zq6 (by exact BK230.out) hb); have n2_ := mk_ (zr3 (by repeat (first | (with_reducible first | exact HB.out | apply zq7 | apply zq8 | apply zq9 | refine zr1 ?_ GE229.out | refine zr1 ?_ GE230.out) | exact HB.out)) hb); have n3_ := mk_ (hbox); have n4_ := mk_ ((by rw [hg]; exact (zr2 (by repeat (first | (with_reducible first | exact HB.out | apply zq7 | apply zq8 | apply zq9 | refine zr1 ?_ GE229.out | refine zr1 ?_ GE230.out) | exact HB.out))) : w.heap.size ≤ gb237)); have n5_ := mk_ ((by rw [hg]; exact (zr2 (by repeat (first | (with_reducible first | exact HB.out | apply zq7 | apply zq8 | apply zq9 | refine zr1 ?_ GE229.out | refine zr1 ?_ GE230.out) | exact HB.out))) : w.heap.size ≤ gb237)); have n6_ := mk_ ((by rw [hg]; exact zm2 (zr6 (by exact BK229.out)) : gb229 ≠ gb237)); have n7_ := mk_ n6_.out.symm; have n8_ := mk_ ((by rw [hg]; exact zm2 (zr6 (by exact BK230.out)) : gb230 ≠ gb237)); have n9_ := mk_ n8_.out.symm; clear BK229; clear BK230; clear HB; have BK229 := n0_; have BK230 := n1_; have HB := n2_; have BK237 := n3_; have GW237 := n4_; have GE237 := n5_; have NB229_237 := n6_; have NB237_229 := n7_; have NB230_237 := n8_; have NB237_230 := n9_; clear n0_ n1_ n2_ n3_ n4_ n5_ n6_ n7_ n8_ n9_; clear hb hbox hg; have hnb16 := NB237_229.out; have hnc16 := NB229_237.out; have hnb17 := NB237_230.out; have hnc17 := NB230_237.out; obtain ⟨hcz18_0, hcz18_1, hcz18_2, hcz18_3, hcz18_4⟩ := cz5 BK237.out; obtain ⟨hfz18_0, hfz18_1, hfz18_2, hfz18_3, hfz18_4⟩ := fz5 BK237.out; obtain ⟨hcz19_0, hcz19_1, hcz19_2, hcz19_3, hcz19_4⟩ := cz5 BK229.out; obtain ⟨hfz19_0, hfz19_1, hfz19_2, hfz19_3, hfz19_4⟩ := fz5 BK229.out; obtain ⟨hcz20_0, hcz20_1, hcz20_2, hcz20_3, hcz20_4⟩ := cz5 BK230.out; obtain ⟨hfz20_0, hfz20_1, hfz20_2, hfz20_3, hfz20_4⟩ := fz5 BK230.out) | ((with_reducible refine gate_callee (f := 16) rfl ?_); refine goesL_ (some 30) rfl rfl Try.func16 (by kernel_rfl) rfl #[.agg #[.int .i64 t219, .int .i64 t220, .int .i64 t221, .int .i64 t222, .int .i64 t223], .agg #[.int .i64 t224, .int .i64 t225, .int .i64 t226, .int .i64 t227, .int .i64 t228]] rfl (by (try simp only [List.map_toArray, List.map_cons, List.map_nil]); first | done | rfl | (simp only [List.length_drop, List.length_take]; rfl)) ?_; (with_reducible refine (spec_CfgMeet.calls t219 t220 t221 t222 t223 t224 t225 t226 t227 t228 t238 t239 t240 t241 t242 t243 _ A5.out).mono ?_); rintro e w21 ⟨rfl, hb⟩; refine ⟨_, rfl, ?_⟩; have n0_ := mk_ (zq6 (g := gb229) (o := .cells #[.int .i64 t219, .int .i64 t220, .int .i64 t221, .int .i64 t222, .int .i64 t223] 24 (0, 0)) (by (with_reducible repeat (first | refine zq1 ?_ _ | refine zq2 ?_ | refine zq3 ?_ _)); refine zq5 ?_ NB229_237.out _; (with_reducible repeat (first | refine zq1 ?_ _ | refine zq2 ?_ | refine zq3 ?_ _)); refine zq5 ?_ NB229_237.out _; (with_reducible repeat (first | refine zq1 ?_ _ | refine zq2 ?_ | refine zq3 ?_ _)); refine zq5 ?_ NB229_237.out _; (with_reducible repeat (first | refine zq1 ?_ _ | refine zq2 ?_ | refine zq3 ?_ _)); refine zq5 ?_ NB229_237.out _; (with_reducible repeat (first | refine zq1 ?_ _ | refine zq2 ?_ | refine zq3 ?_ _)); refine zq5 ?_ NB229_237.out _; (with_reducible repeat (first | refine zq1 ?_ _ | refine zq2 ?_ | refine zq3 ?_ _)); exact BK229.out) hb); have n1_ := mk_ (zq6 (g := gb230) (o := .cells #[.int .i64 t224, .int .i64 t225, .int .i64 t226, .int .i64 t227, .int .i64 t228] 24 (0, 0)) (by (with_reducible repeat (first | refine zq1 ?_ _ | refine zq2 ?_ | refine zq3 ?_ _)); refine zq5 ?_ NB230_237.out _; (with_reducible repeat (first | refine zq1 ?_ _ | refine zq2 ?_ | refine zq3 ?_ _)); refine zq5 ?_ NB230_237.out _; (with_reducible repeat (first | refine zq1 ?_ _ | refine zq2 ?_ | refine zq3 ?_ _)); refine zq5 ?_ NB230_237.out _; (with_reducible repeat (first | refine zq1 ?_ _ | refine zq2 ?_ | refine zq3 ?_ _)); refine zq5 ?_ NB230_237.out _; (with_reducible repeat (first | refine zq1 ?_ _ | refine zq2 ?_ | refine zq3 ?_ _)); refine zq5 ?_ NB230_237.out _; (with_reducible repeat (first | refine zq1 ?_ _ | refine zq2 ?_ | refine zq3 ?_ _)); exact BK230.out) hb); have n2_ := mk_ (zq6 (g := gb237) (o := .cells #[.int .i64 t231, .int .i64 t232, .int .i64 t233, .int .i64 t234, .int .i64 t235] 24 (0, 0)) (by (with_reducible repeat (first | refine zq1 ?_ _ | refine zq2 ?_ | refine zq3 ?_ _)); refine zq4 (cs := #[.int .i64 t231, .int .i64 t232, .int .i64 t233, .int .i64 t234, .int .i64 0]) ?_ 4 _ rfl; (with_reducible repeat (first | refine zq1 ?_ _ | refine zq2 ?_ | refine zq3 ?_ _)); refine zq4 (cs := #[.int .i64 t231, .int .i64 t232, .int .i64 t233, .int .i64 0, .int .i64 0]) ?_ 3 _ rfl; (with_reducible repeat (first | refine zq1 ?_ _ | refine zq2 ?_ | refine zq3 ?_ _)); refine zq4 (cs := #[.int .i64 t231, .int .i64 t232, .int .i64 0, .int .i64 0, .int .i64 0]) ?_ 2 _ rfl; (with_reducible repeat (first | refine zq1 ?_ _ | refine zq2 ?_ | refine zq3 ?_ _)); refine zq4 (cs := #[.int .i64 t231, .int .i64 0, .int .i64 0, .int .i64 0, .int .i64 0]) ?_ 1 _ rfl; (with_reducible repeat (first | refine zq1 ?_ _ | refine zq2 ?_ | refine zq3 ?_ _)); refine zq4 (cs := #[.int .i64 0, .int .i64 0, .int .i64 0, .int .i64 0, .int .i64 0]) ?_ 0 _ rfl; (with_reducible repeat (first | refine zq1 ?_ _ | refine zq2 ?_ | refine zq3 ?_ _)); exact BK237.out) hb); have n3_ := mk_ (zr3 (by repeat (first | (with_reducible first | exact HB.out | apply zq7 | apply zq8 | apply zq9 | refine zr1 ?_ GE229.out | refine zr1 ?_ GE230.out | refine zr1 ?_ GE237.out) | exact HB.out)) hb); clear BK229; clear BK230; clear BK237; clear HB; have BK229 := n0_; have BK230 := n1_; have BK237 := n2_; have HB := n3_; clear n0_ n1_ n2_ n3_; (try clear hb); (try clear hb2); (try clear hk); (try clear hi)) | ((with_reducible refine gate_dst (N := 7) rfl ?_); (try (refine gate_guard (by rfl) ?_; dsimp only)); refine box_event ?hg (N := 7) ?hd (cs := #[.int .i64 0, .int .i64 0, .int .i64 0, .int .i64 0, .int .i64 0]) (t := 24) ?hr ?_; (case hd => rfl); (case hg => rfl); (case hr => first | (go_simp; done) | (go_simp; rfl)); intro gb244 hg w22 hbox hb; have n0_ := mk_ (zq6 (by exact BK229.out) hb); have n1_ := mk_ (zq6 (by exact BK230.out) hb); have n2_ := mk_ (zq6 (by exact BK237.out) hb); have n3_ := mk_ (zr3 (by repeat (first | (with_reducible first | exact HB.out | apply zq7 | apply zq8 | apply zq9 | refine zr1 ?_ GE229.out | refine zr1 ?_ GE230.out | refine zr1 ?_ GE237.out) | exact HB.out)) hb); have n4_ := mk_ (hbox); have n5_ := mk_ ((by rw [hg]; exact (zr2 (by repeat (first | (with_reducible first | exact HB.out | apply zq7 | apply zq8 | apply zq9 | refine zr1 ?_ GE229.out | refine zr1 ?_ GE230.out | refine zr1 ?_ GE237.out) | exact HB.out))) : w.heap.size ≤ gb244)); have n6_ := mk_ ((by rw [hg]; exact (zr2 (by repeat (first | (with_reducible first | exact HB.out | apply zq7 | apply zq8 | apply zq9 | refine zr1 ?_ GE229.out | refine zr1 ?_ GE230.out | refine zr1 ?_ GE237.out) | exact HB.out))) : w.heap.size ≤ gb244)); have n7_ := mk_ ((by rw [hg]; exact zm2 (zr6 (by exact BK229.out)) : gb229 ≠ gb244)); have n8_ := mk_ n7_.out.symm; have n9_ := mk_ ((by rw [hg]; exact zm2 (zr6 (by exact BK230.out)) : gb230 ≠ gb244)); have n10_ := mk_ n9_.out.symm; have n11_ := mk_ ((by rw [hg]; exact zm2 (zr6 (by exact BK237.out)) : gb237 ≠ gb244)); have n12_ := mk_ n11_.out.symm; clear BK229; clear BK230; clear BK237; clear HB; have BK229 := n0_; have BK230 := n1_; have BK237 := n2_; have HB := n3_; have BK244 := n4_; have GW244 := n5_; have GE244 := n6_; have NB229_244 := n7_; have NB244_229 := n8_; have NB230_244 := n9_; have NB244_230 := n10_; have NB237_244 := n11_; have NB244_237 := n12_; clear n0_ n1_ n2_ n3_ n4_ n5_ n6_ n7_ n8_ n9_ n10_ n11_ n12_; clear hb hbox hg; have hnb23 := NB244_229.out; have hnc23 := NB229_244.out; have hnb24 := NB244_230.out; have hnc24 := NB230_244.out; have hnb25 := NB244_237.out; have hnc25 := NB237_244.out; obtain ⟨hcz26_0, hcz26_1, hcz26_2, hcz26_3, hcz26_4⟩ := cz5 BK244.out; obtain ⟨hfz26_0, hfz26_1, hfz26_2, hfz26_3, hfz26_4⟩ := fz5 BK244.out; obtain ⟨hcz27_0, hcz27_1, hcz27_2, hcz27_3, hcz27_4⟩ := cz5 BK230.out; obtain ⟨hfz27_0, hfz27_1, hfz27_2, hfz27_3, hfz27_4⟩ := fz5 BK230.out; obtain ⟨hcz28_0, hcz28_1, hcz28_2, hcz28_3, hcz28_4⟩ := cz5 BK229.out; obtain ⟨hfz28_0, hfz28_1, hfz28_2, hfz28_3, hfz28_4⟩ := fz5 BK229.out) | ((with_reducible refine gate_callee (f := 15) rfl ?_); refine goesL_ (some 36) rfl rfl Try.func15 (by kernel_rfl) rfl #[.agg #[.int .i64 t224, .int .i64 t225, .int .i64 t226, .int .i64 t227, .int .i64 t228], .agg #[.int .i64 t219, .int .i64 t220, .int .i64 t221, .int .i64 t222, .int .i64 t223]] rfl (by (try simp only [List.map_toArray, List.map_cons, List.map_nil]); first | done | rfl | (simp only [List.length_drop, List.length_take]; rfl)) ?_; (with_reducible refine (impl_CfgMeet.calls t224 t225 t226 t227 t228 t219 t220 t221 t222 t223 t245 t246 t247 t248 t249 t250 _ A6.out).mono ?_); rintro e w29 ⟨rfl, hb⟩; refine ⟨_, rfl, ?_⟩; have n0_ := mk_ (zq6 (g := gb229) (o := .cells #[.int .i64 t219, .int .i64 t220, .int .i64 t221, .int .i64 t222, .int .i64 t223] 24 (0, 0)) (by (with_reducible repeat (first | refine zq1 ?_ _ | refine zq2 ?_ | refine zq3 ?_ _)); refine zq5 ?_ NB229_244.out _; (with_reducible repeat (first | refine zq1 ?_ _ | refine zq2 ?_ | refine zq3 ?_ _)); refine zq5 ?_ NB229_244.out _; (with_reducible repeat (first | refine zq1 ?_ _ | refine zq2 ?_ | refine zq3 ?_ _)); refine zq5 ?_ NB229_244.out _; (with_reducible repeat (first | refine zq1 ?_ _ | refine zq2 ?_ | refine zq3 ?_ _)); refine zq5 ?_ NB229_244.out _; (with_reducible repeat (first | refine zq1 ?_ _ | refine zq2 ?_ | refine zq3 ?_ _)); refine zq5 ?_ NB229_244.out _; (with_reducible repeat (first | refine zq1 ?_ _ | refine zq2 ?_ | refine zq3 ?_ _)); exact BK229.out) hb); have n1_ := mk_ (zq6 (g := gb230) (o := .cells #[.int .i64 t224, .int .i64 t225, .int .i64 t226, .int .i64 t227, .int .i64 t228] 24 (0, 0)) (by (with_reducible repeat (first | refine zq1 ?_ _ | refine zq2 ?_ | refine zq3 ?_ _)); refine zq5 ?_ NB230_244.out _; (with_reducible repeat (first | refine zq1 ?_ _ | refine zq2 ?_ | refine zq3 ?_ _)); refine zq5 ?_ NB230_244.out _; (with_reducible repeat (first | refine zq1 ?_ _ | refine zq2 ?_ | refine zq3 ?_ _)); refine zq5 ?_ NB230_244.out _; (with_reducible repeat (first | refine zq1 ?_ _ | refine zq2 ?_ | refine zq3 ?_ _)); refine zq5 ?_ NB230_244.out _; (with_reducible repeat (first | refine zq1 ?_ _ | refine zq2 ?_ | refine zq3 ?_ _)); refine zq5 ?_ NB230_244.out _; (with_reducible repeat (first | refine zq1 ?_ _ | refine zq2 ?_ | refine zq3 ?_ _)); exact BK230.out) hb); have n2_ := mk_ (zq6 (g := gb237) (o := .cells #[.int .i64 t231, .int .i64 t232, .int .i64 t233, .int .i64 t234, .int .i64 t235] 24 (0, 0)) (by (with_reducible repeat (first | refine zq1 ?_ _ | refine zq2 ?_ | refine zq3 ?_ _)); refine zq5 ?_ NB237_244.out _; (with_reducible repeat (first | refine zq1 ?_ _ | refine zq2 ?_ | refine zq3 ?_ _)); refine zq5 ?_ NB237_244.out _; (with_reducible repeat (first | refine zq1 ?_ _ | refine zq2 ?_ | refine zq3 ?_ _)); refine zq5 ?_ NB237_244.out _; (with_reducible repeat (first | refine zq1 ?_ _ | refine zq2 ?_ | refine zq3 ?_ _)); refine zq5 ?_ NB237_244.out _; (with_reducible repeat (first | refine zq1 ?_ _ | refine zq2 ?_ | refine zq3 ?_ _)); refine zq5 ?_ NB237_244.out _; (with_reducible repeat (first | refine zq1 ?_ _ | refine zq2 ?_ | refine zq3 ?_ _)); exact BK237.out) hb); have n3_ := mk_ (zq6 (g := gb244) (o := .cells #[.int .i64 t238, .int .i64 t239, .int .i64 t240, .int .i64 t241, .int .i64 t242] 24 (0, 0)) (by (with_reducible repeat (first | refine zq1 ?_ _ | refine zq2 ?_ | refine zq3 ?_ _)); refine zq4 (cs := #[.int .i64 t238, .int .i64 t239, .int .i64 t240, .int .i64 t241, .int .i64 0]) ?_ 4 _ rfl; (with_reducible repeat (first | refine zq1 ?_ _ | refine zq2 ?_ | refine zq3 ?_ _)); refine zq4 (cs := #[.int .i64 t238, .int .i64 t239, .int .i64 t240, .int .i64 0, .int .i64 0]) ?_ 3 _ rfl; (with_reducible repeat (first | refine zq1 ?_ _ | refine zq2 ?_ | refine zq3 ?_ _)); refine zq4 (cs := #[.int .i64 t238, .int .i64 t239, .int .i64 0, .int .i64 0, .int .i64 0]) ?_ 2 _ rfl; (with_reducible repeat (first | refine zq1 ?_ _ | refine zq2 ?_ | refine zq3 ?_ _)); refine zq4 (cs := #[.int .i64 t238, .int .i64 0, .int .i64 0, .int .i64 0, .int .i64 0]) ?_ 1 _ rfl; (with_reducible repeat (first | refine zq1 ?_ _ | refine zq2 ?_ | refine zq3 ?_ _)); refine zq4 (cs := #[.int .i64 0, .int .i64 0, .int .i64 0, .int .i64 0, .int .i64 0]) ?_ 0 _ rfl; (with_reducible repeat (first | refine zq1 ?_ _ | refine zq2 ?_ | refine zq3 ?_ _)); exact BK244.out) hb); have n4_ := mk_ (zr3 (by repeat (first | (with_reducible first | exact HB.out | apply zq7 | apply zq8 | apply zq9 | refine zr1 ?_ GE229.out | refine zr1 ?_ GE230.out | refine zr1 ?_ GE237.out | refine zr1 ?_ GE244.out) | exact HB.out)) hb); clear BK229; clear BK230; clear BK237; clear BK244; clear HB; have BK229 := n0_; have BK230 := n1_; have BK237 := n2_; have BK244 := n3_; have HB := n4_; clear n0_ n1_ n2_ n3_ n4_; (try clear hb); (try clear hb2); (try clear hk); (try clear hi)) | ((with_reducible refine gate_dst (N := 9) rfl ?_); (try (refine gate_guard (by rfl) ?_; dsimp only)); refine box_event ?hg (N := 9) ?hd (cs := #[.int .i64 0, .int .i64 0, .int .i64 0, .int .i64 0, .int .i64 0]) (t := 24) ?hr ?_; (case hd => rfl); (case hg => rfl); (case hr => first | (go_simp; done) | (go_simp; rfl)); intro gb251 hg w30 hbox hb; have n0_ := mk_ (zq6 (by exact BK229.out) hb); have n1_ := mk_ (zq6 (by exact BK230.out) hb); have n2_ := mk_ (zq6 (by exact BK237.out) hb); have n3_ := mk_ (zq6 (by exact BK244.out) hb); have n4_ := mk_ (zr3 (by repeat (first | (with_reducible first | exact HB.out | apply zq7 | apply zq8 | apply zq9 | refine zr1 ?_ GE229.out | refine zr1 ?_ GE230.out | refine zr1 ?_ GE237.out | refine zr1 ?_ GE244.out) | exact HB.out)) hb); have n5_ := mk_ (hbox); have n6_ := mk_ ((by rw [hg]; exact (zr2 (by repeat (first | (with_reducible first | exact HB.out | apply zq7 | apply zq8 | apply zq9 | refine zr1 ?_ GE229.out | refine zr1 ?_ GE230.out | refine zr1 ?_ GE237.out | refine zr1 ?_ GE244.out) | exact HB.out))) : w.heap.size ≤ gb251)); have n7_ := mk_ ((by rw [hg]; exact (zr2 (by repeat (first | (with_reducible first | exact HB.out | apply zq7 | apply zq8 | apply zq9 | refine zr1 ?_ GE229.out | refine zr1 ?_ GE230.out | refine zr1 ?_ GE237.out | refine zr1 ?_ GE244.out) | exact HB.out))) : w.heap.size ≤ gb251)); have n8_ := mk_ ((by rw [hg]; exact zm2 (zr6 (by exact BK229.out)) : gb229 ≠ gb251)); have n9_ := mk_ n8_.out.symm; have n10_ := mk_ ((by rw [hg]; exact zm2 (zr6 (by exact BK230.out)) : gb230 ≠ gb251)); have n11_ := mk_ n10_.out.symm; have n12_ := mk_ ((by rw [hg]; exact zm2 (zr6 (by exact BK237.out)) : gb237 ≠ gb251)); have n13_ := mk_ n12_.out.symm; have n14_ := mk_ ((by rw [hg]; exact zm2 (zr6 (by exact BK244.out)) : gb244 ≠ gb251)); have n15_ := mk_ n14_.out.symm; clear BK229; clear BK230; clear BK237; clear BK244; clear HB; have BK229 := n0_; have BK230 := n1_; have BK237 := n2_; have BK244 := n3_; have HB := n4_; have BK251 := n5_; have GW251 := n6_; have GE251 := n7_; have NB229_251 := n8_; have NB251_229 := n9_; have NB230_251 := n10_; have NB251_230 := n11_; have NB237_251 := n12_; have NB251_237 := n13_; have NB244_251 := n14_; have NB251_244 := n15_; clear n0_ n1_ n2_ n3_ n4_ n5_ n6_ n7_ n8_ n9_ n10_ n11_ n12_ n13_ n14_ n15_; clear hb hbox hg; have hnb31 := NB251_229.out; have hnc31 := NB229_251.out; have hnb32 := NB251_230.out; have hnc32 := NB230_251.out; have hnb33 := NB251_237.out; have hnc33 := NB237_251.out; have hnb34 := NB251_244.out; have hnc34 := NB244_251.out; obtain ⟨hcz35_0, hcz35_1, hcz35_2, hcz35_3, hcz35_4⟩ := cz5 BK251.out; obtain ⟨hfz35_0, hfz35_1, hfz35_2, hfz35_3, hfz35_4⟩ := fz5 BK251.out))
    (try simp only [Act.put, List.setIfInBounds_toArray, List.set_cons_zero, List.set_cons_succ])
    go_cut [56] (fun v56 wc => ∃ (kq : Nat) (x56_6 : Bool), v56 = .bool x56_6 ∧ Aside0 (laws_FnCfgMeet.j0 kq t236 x56_6 t219 t220 t221 t222 t223 t224 t225 t226 t227 t228 t231 t232 t233 t234 t235 = some r) ∧ Aside0 (kq ≤ k) ∧ Aside0 (wc.heap[gb229]? = some (.cells #[.int .i64 t219, .int .i64 t220, .int .i64 t221, .int .i64 t222, .int .i64 t223] 24 (0, 0))) ∧ Aside0 (wc.heap[gb230]? = some (.cells #[.int .i64 t224, .int .i64 t225, .int .i64 t226, .int .i64 t227, .int .i64 t228] 24 (0, 0))) ∧ Aside0 (wc.heap[gb237]? = some (.cells #[.int .i64 t231, .int .i64 t232, .int .i64 t233, .int .i64 t234, .int .i64 t235] 24 (0, 0))) ∧ Aside0 (wc.heap[gb244]? = some (.cells #[.int .i64 t238, .int .i64 t239, .int .i64 t240, .int .i64 t241, .int .i64 t242] 24 (0, 0))) ∧ Aside0 (wc.heap[gb251]? = some (.cells #[.int .i64 t245, .int .i64 t246, .int .i64 t247, .int .i64 t248, .int .i64 t249] 24 (0, 0))) ∧ Aside0 (Below w.heap.size w wc))
    case first =>
      have H := HC7.out
      clear HC7
      by_cases c36 : (!(t231 == t238) || (!(t232 == t239) || (!(t233 == t240) || (!(t234 == t241) || (!(t235 == t242)))))) = true
      · rw [if_pos c36] at H
        have c36b0 : (!(t231 == t238) || (!(t232 == t239) || (!(t233 == t240) || (!(t234 == t241) || (!(t235 == t242)))))) = true := c36
        clear c36
        (first | rw [c36b0] | (simp only [i64_w, i32_w]; rw [c36b0]) | skip)
        have H' := mk_ H
        clear H
        have hnb37 := NB237_229.out
        have hnc37 := NB229_237.out
        have hnb38 := NB237_230.out
        have hnc38 := NB230_237.out
        have hnb39 := NB237_244.out
        have hnc39 := NB244_237.out
        have hnb40 := NB237_251.out
        have hnc40 := NB251_237.out
        have hcz41_0 : w30.cell? ⟨gb237, 0, none⟩ = some (.int .i64 t231) := (zr4 BK237.out 0).trans rfl
        have hcz41_1 : w30.cell? ⟨gb237, 1, none⟩ = some (.int .i64 t232) := (zr4 BK237.out 1).trans rfl
        have hcz41_2 : w30.cell? ⟨gb237, 2, none⟩ = some (.int .i64 t233) := (zr4 BK237.out 2).trans rfl
        have hcz41_3 : w30.cell? ⟨gb237, 3, none⟩ = some (.int .i64 t234) := (zr4 BK237.out 3).trans rfl
        have hcz41_4 : w30.cell? ⟨gb237, 4, none⟩ = some (.int .i64 t235) := (zr4 BK237.out 4).trans rfl
        have hfz41_0 := zr5 BK237.out 0
        have hfz41_1 := zr5 BK237.out 1
        have hfz41_2 := zr5 BK237.out 2
        have hfz41_3 := zr5 BK237.out 3
        have hfz41_4 := zr5 BK237.out 4
        have hnb42 := NB244_229.out
        have hnc42 := NB229_244.out
        have hnb43 := NB244_230.out
        have hnc43 := NB230_244.out
        have hnb44 := NB244_251.out
        have hnc44 := NB251_244.out
        have hcz45_0 : w30.cell? ⟨gb244, 0, none⟩ = some (.int .i64 t238) := (zr4 BK244.out 0).trans rfl
        have hcz45_1 : w30.cell? ⟨gb244, 1, none⟩ = some (.int .i64 t239) := (zr4 BK244.out 1).trans rfl
        have hcz45_2 : w30.cell? ⟨gb244, 2, none⟩ = some (.int .i64 t240) := (zr4 BK244.out 2).trans rfl
        have hcz45_3 : w30.cell? ⟨gb244, 3, none⟩ = some (.int .i64 t241) := (zr4 BK244.out 3).trans rfl
        have hcz45_4 : w30.cell? ⟨gb244, 4, none⟩ = some (.int .i64 t242) := (zr4 BK244.out 4).trans rfl
        have hfz45_0 := zr5 BK244.out 0
        have hfz45_1 := zr5 BK244.out 1
        have hfz45_2 := zr5 BK244.out 2
        have hfz45_3 := zr5 BK244.out 3
        have hfz45_4 := zr5 BK244.out 4
        go_wp2
        go_meet
        case rel => exact ⟨_, (true), (by first | rfl | (simp; done) | (simp [*]; done)), H', ⟨by first | omega | exact Nat.le_refl _⟩, ⟨by (with_reducible repeat (first | refine zq1 ?_ _ | refine zq2 ?_ | refine zq3 ?_ _)); refine zq5 ?_ NB229_251.out _; (with_reducible repeat (first | refine zq1 ?_ _ | refine zq2 ?_ | refine zq3 ?_ _)); refine zq5 ?_ NB229_251.out _; (with_reducible repeat (first | refine zq1 ?_ _ | refine zq2 ?_ | refine zq3 ?_ _)); refine zq5 ?_ NB229_251.out _; (with_reducible repeat (first | refine zq1 ?_ _ | refine zq2 ?_ | refine zq3 ?_ _)); refine zq5 ?_ NB229_251.out _; (with_reducible repeat (first | refine zq1 ?_ _ | refine zq2 ?_ | refine zq3 ?_ _)); refine zq5 ?_ NB229_251.out _; (with_reducible repeat (first | refine zq1 ?_ _ | refine zq2 ?_ | refine zq3 ?_ _)); exact BK229.out⟩, ⟨by (with_reducible repeat (first | refine zq1 ?_ _ | refine zq2 ?_ | refine zq3 ?_ _)); refine zq5 ?_ NB230_251.out _; (with_reducible repeat (first | refine zq1 ?_ _ | refine zq2 ?_ | refine zq3 ?_ _)); refine zq5 ?_ NB230_251.out _; (with_reducible repeat (first | refine zq1 ?_ _ | refine zq2 ?_ | refine zq3 ?_ _)); refine zq5 ?_ NB230_251.out _; (with_reducible repeat (first | refine zq1 ?_ _ | refine zq2 ?_ | refine zq3 ?_ _)); refine zq5 ?_ NB230_251.out _; (with_reducible repeat (first | refine zq1 ?_ _ | refine zq2 ?_ | refine zq3 ?_ _)); refine zq5 ?_ NB230_251.out _; (with_reducible repeat (first | refine zq1 ?_ _ | refine zq2 ?_ | refine zq3 ?_ _)); exact BK230.out⟩, ⟨by (with_reducible repeat (first | refine zq1 ?_ _ | refine zq2 ?_ | refine zq3 ?_ _)); refine zq5 ?_ NB237_251.out _; (with_reducible repeat (first | refine zq1 ?_ _ | refine zq2 ?_ | refine zq3 ?_ _)); refine zq5 ?_ NB237_251.out _; (with_reducible repeat (first | refine zq1 ?_ _ | refine zq2 ?_ | refine zq3 ?_ _)); refine zq5 ?_ NB237_251.out _; (with_reducible repeat (first | refine zq1 ?_ _ | refine zq2 ?_ | refine zq3 ?_ _)); refine zq5 ?_ NB237_251.out _; (with_reducible repeat (first | refine zq1 ?_ _ | refine zq2 ?_ | refine zq3 ?_ _)); refine zq5 ?_ NB237_251.out _; (with_reducible repeat (first | refine zq1 ?_ _ | refine zq2 ?_ | refine zq3 ?_ _)); exact BK237.out⟩, ⟨by (with_reducible repeat (first | refine zq1 ?_ _ | refine zq2 ?_ | refine zq3 ?_ _)); refine zq5 ?_ NB244_251.out _; (with_reducible repeat (first | refine zq1 ?_ _ | refine zq2 ?_ | refine zq3 ?_ _)); refine zq5 ?_ NB244_251.out _; (with_reducible repeat (first | refine zq1 ?_ _ | refine zq2 ?_ | refine zq3 ?_ _)); refine zq5 ?_ NB244_251.out _; (with_reducible repeat (first | refine zq1 ?_ _ | refine zq2 ?_ | refine zq3 ?_ _)); refine zq5 ?_ NB244_251.out _; (with_reducible repeat (first | refine zq1 ?_ _ | refine zq2 ?_ | refine zq3 ?_ _)); refine zq5 ?_ NB244_251.out _; (with_reducible repeat (first | refine zq1 ?_ _ | refine zq2 ?_ | refine zq3 ?_ _)); exact BK244.out⟩, ⟨by (with_reducible repeat (first | refine zq1 ?_ _ | refine zq2 ?_ | refine zq3 ?_ _)); refine zq4 (cs := #[.int .i64 t245, .int .i64 t246, .int .i64 t247, .int .i64 t248, .int .i64 0]) ?_ 4 _ rfl; (with_reducible repeat (first | refine zq1 ?_ _ | refine zq2 ?_ | refine zq3 ?_ _)); refine zq4 (cs := #[.int .i64 t245, .int .i64 t246, .int .i64 t247, .int .i64 0, .int .i64 0]) ?_ 3 _ rfl; (with_reducible repeat (first | refine zq1 ?_ _ | refine zq2 ?_ | refine zq3 ?_ _)); refine zq4 (cs := #[.int .i64 t245, .int .i64 t246, .int .i64 0, .int .i64 0, .int .i64 0]) ?_ 2 _ rfl; (with_reducible repeat (first | refine zq1 ?_ _ | refine zq2 ?_ | refine zq3 ?_ _)); refine zq4 (cs := #[.int .i64 t245, .int .i64 0, .int .i64 0, .int .i64 0, .int .i64 0]) ?_ 1 _ rfl; (with_reducible repeat (first | refine zq1 ?_ _ | refine zq2 ?_ | refine zq3 ?_ _)); refine zq4 (cs := #[.int .i64 0, .int .i64 0, .int .i64 0, .int .i64 0, .int .i64 0]) ?_ 0 _ rfl; (with_reducible repeat (first | refine zq1 ?_ _ | refine zq2 ?_ | refine zq3 ?_ _)); exact BK251.out⟩, ⟨by repeat (first | (with_reducible first | exact HB.out | apply zq7 | apply zq8 | apply zq9 | refine zr1 ?_ GE229.out | refine zr1 ?_ GE230.out | refine zr1 ?_ GE237.out | refine zr1 ?_ GE244.out | refine zr1 ?_ GE251.out) | exact HB.out)⟩⟩
      · rw [if_neg c36] at H
        have c36b0 : (!(t231 == t238) || (!(t232 == t239) || (!(t233 == t240) || (!(t234 == t241) || (!(t235 == t242)))))) = false := by simpa using c36
        clear c36
        (first | rw [c36b0] | (simp only [i64_w, i32_w]; rw [c36b0]) | skip)
        by_cases c46 : (t236 != t243) = true
        · rw [if_pos c46] at H
          have c46b0 : (t236 != t243) = true := c46
          (try (have c46b1 : decide (t236 = t243) = false := by simpa using c46))
          (try (have c46b2 : (t236 == t243) = false := by simpa using c46))
          (try (have c46b3 : ¬ (t236 = t243) := by simpa using c46))
          clear c46
          have H' := mk_ H
          clear H
          have hnb47 := NB237_229.out
          have hnc47 := NB229_237.out
          have hnb48 := NB237_230.out
          have hnc48 := NB230_237.out
          have hnb49 := NB237_244.out
          have hnc49 := NB244_237.out
          have hnb50 := NB237_251.out
          have hnc50 := NB251_237.out
          have hcz51_0 : w30.cell? ⟨gb237, 0, none⟩ = some (.int .i64 t231) := (zr4 BK237.out 0).trans rfl
          have hcz51_1 : w30.cell? ⟨gb237, 1, none⟩ = some (.int .i64 t232) := (zr4 BK237.out 1).trans rfl
          have hcz51_2 : w30.cell? ⟨gb237, 2, none⟩ = some (.int .i64 t233) := (zr4 BK237.out 2).trans rfl
          have hcz51_3 : w30.cell? ⟨gb237, 3, none⟩ = some (.int .i64 t234) := (zr4 BK237.out 3).trans rfl
          have hcz51_4 : w30.cell? ⟨gb237, 4, none⟩ = some (.int .i64 t235) := (zr4 BK237.out 4).trans rfl
          have hfz51_0 := zr5 BK237.out 0
          have hfz51_1 := zr5 BK237.out 1
          have hfz51_2 := zr5 BK237.out 2
          have hfz51_3 := zr5 BK237.out 3
          have hfz51_4 := zr5 BK237.out 4
          have hnb52 := NB244_229.out
          have hnc52 := NB229_244.out
          have hnb53 := NB244_230.out
          have hnc53 := NB230_244.out
          have hnb54 := NB244_251.out
          have hnc54 := NB251_244.out
          have hcz55_0 : w30.cell? ⟨gb244, 0, none⟩ = some (.int .i64 t238) := (zr4 BK244.out 0).trans rfl
          have hcz55_1 : w30.cell? ⟨gb244, 1, none⟩ = some (.int .i64 t239) := (zr4 BK244.out 1).trans rfl
          have hcz55_2 : w30.cell? ⟨gb244, 2, none⟩ = some (.int .i64 t240) := (zr4 BK244.out 2).trans rfl
          have hcz55_3 : w30.cell? ⟨gb244, 3, none⟩ = some (.int .i64 t241) := (zr4 BK244.out 3).trans rfl
          have hcz55_4 : w30.cell? ⟨gb244, 4, none⟩ = some (.int .i64 t242) := (zr4 BK244.out 4).trans rfl
          have hfz55_0 := zr5 BK244.out 0
          have hfz55_1 := zr5 BK244.out 1
          have hfz55_2 := zr5 BK244.out 2
          have hfz55_3 := zr5 BK244.out 3
          have hfz55_4 := zr5 BK244.out 4
          go_wp2
          go_meet
          case rel => exact ⟨_, (true), (by first | rfl | (simp; done) | (simp [*]; done)), H', ⟨by first | omega | exact Nat.le_refl _⟩, ⟨by (with_reducible repeat (first | refine zq1 ?_ _ | refine zq2 ?_ | refine zq3 ?_ _)); refine zq5 ?_ NB229_251.out _; (with_reducible repeat (first | refine zq1 ?_ _ | refine zq2 ?_ | refine zq3 ?_ _)); refine zq5 ?_ NB229_251.out _; (with_reducible repeat (first | refine zq1 ?_ _ | refine zq2 ?_ | refine zq3 ?_ _)); refine zq5 ?_ NB229_251.out _; (with_reducible repeat (first | refine zq1 ?_ _ | refine zq2 ?_ | refine zq3 ?_ _)); refine zq5 ?_ NB229_251.out _; (with_reducible repeat (first | refine zq1 ?_ _ | refine zq2 ?_ | refine zq3 ?_ _)); refine zq5 ?_ NB229_251.out _; (with_reducible repeat (first | refine zq1 ?_ _ | refine zq2 ?_ | refine zq3 ?_ _)); exact BK229.out⟩, ⟨by (with_reducible repeat (first | refine zq1 ?_ _ | refine zq2 ?_ | refine zq3 ?_ _)); refine zq5 ?_ NB230_251.out _; (with_reducible repeat (first | refine zq1 ?_ _ | refine zq2 ?_ | refine zq3 ?_ _)); refine zq5 ?_ NB230_251.out _; (with_reducible repeat (first | refine zq1 ?_ _ | refine zq2 ?_ | refine zq3 ?_ _)); refine zq5 ?_ NB230_251.out _; (with_reducible repeat (first | refine zq1 ?_ _ | refine zq2 ?_ | refine zq3 ?_ _)); refine zq5 ?_ NB230_251.out _; (with_reducible repeat (first | refine zq1 ?_ _ | refine zq2 ?_ | refine zq3 ?_ _)); refine zq5 ?_ NB230_251.out _; (with_reducible repeat (first | refine zq1 ?_ _ | refine zq2 ?_ | refine zq3 ?_ _)); exact BK230.out⟩, ⟨by (with_reducible repeat (first | refine zq1 ?_ _ | refine zq2 ?_ | refine zq3 ?_ _)); refine zq5 ?_ NB237_251.out _; (with_reducible repeat (first | refine zq1 ?_ _ | refine zq2 ?_ | refine zq3 ?_ _)); refine zq5 ?_ NB237_251.out _; (with_reducible repeat (first | refine zq1 ?_ _ | refine zq2 ?_ | refine zq3 ?_ _)); refine zq5 ?_ NB237_251.out _; (with_reducible repeat (first | refine zq1 ?_ _ | refine zq2 ?_ | refine zq3 ?_ _)); refine zq5 ?_ NB237_251.out _; (with_reducible repeat (first | refine zq1 ?_ _ | refine zq2 ?_ | refine zq3 ?_ _)); refine zq5 ?_ NB237_251.out _; (with_reducible repeat (first | refine zq1 ?_ _ | refine zq2 ?_ | refine zq3 ?_ _)); exact BK237.out⟩, ⟨by (with_reducible repeat (first | refine zq1 ?_ _ | refine zq2 ?_ | refine zq3 ?_ _)); refine zq5 ?_ NB244_251.out _; (with_reducible repeat (first | refine zq1 ?_ _ | refine zq2 ?_ | refine zq3 ?_ _)); refine zq5 ?_ NB244_251.out _; (with_reducible repeat (first | refine zq1 ?_ _ | refine zq2 ?_ | refine zq3 ?_ _)); refine zq5 ?_ NB244_251.out _; (with_reducible repeat (first | refine zq1 ?_ _ | refine zq2 ?_ | refine zq3 ?_ _)); refine zq5 ?_ NB244_251.out _; (with_reducible repeat (first | refine zq1 ?_ _ | refine zq2 ?_ | refine zq3 ?_ _)); refine zq5 ?_ NB244_251.out _; (with_reducible repeat (first | refine zq1 ?_ _ | refine zq2 ?_ | refine zq3 ?_ _)); exact BK244.out⟩, ⟨by (with_reducible repeat (first | refine zq1 ?_ _ | refine zq2 ?_ | refine zq3 ?_ _)); refine zq4 (cs := #[.int .i64 t245, .int .i64 t246, .int .i64 t247, .int .i64 t248, .int .i64 0]) ?_ 4 _ rfl; (with_reducible repeat (first | refine zq1 ?_ _ | refine zq2 ?_ | refine zq3 ?_ _)); refine zq4 (cs := #[.int .i64 t245, .int .i64 t246, .int .i64 t247, .int .i64 0, .int .i64 0]) ?_ 3 _ rfl; (with_reducible repeat (first | refine zq1 ?_ _ | refine zq2 ?_ | refine zq3 ?_ _)); refine zq4 (cs := #[.int .i64 t245, .int .i64 t246, .int .i64 0, .int .i64 0, .int .i64 0]) ?_ 2 _ rfl; (with_reducible repeat (first | refine zq1 ?_ _ | refine zq2 ?_ | refine zq3 ?_ _)); refine zq4 (cs := #[.int .i64 t245, .int .i64 0, .int .i64 0, .int .i64 0, .int .i64 0]) ?_ 1 _ rfl; (with_reducible repeat (first | refine zq1 ?_ _ | refine zq2 ?_ | refine zq3 ?_ _)); refine zq4 (cs := #[.int .i64 0, .int .i64 0, .int .i64 0, .int .i64 0, .int .i64 0]) ?_ 0 _ rfl; (with_reducible repeat (first | refine zq1 ?_ _ | refine zq2 ?_ | refine zq3 ?_ _)); exact BK251.out⟩, ⟨by repeat (first | (with_reducible first | exact HB.out | apply zq7 | apply zq8 | apply zq9 | refine zr1 ?_ GE229.out | refine zr1 ?_ GE230.out | refine zr1 ?_ GE237.out | refine zr1 ?_ GE244.out | refine zr1 ?_ GE251.out) | exact HB.out)⟩⟩
        · rw [if_neg c46] at H
          have c46b0 : (t236 != t243) = false := by simpa using c46
          (try (have c46b1 : decide (t236 = t243) = true := by simpa using c46))
          (try (have c46b2 : (t236 == t243) = true := by simpa using c46))
          clear c46
          by_cases c56 : (!(t245 == t231) || (!(t246 == t232) || (!(t247 == t233) || (!(t248 == t234) || (!(t249 == t235)))))) = true
          · rw [if_pos c56] at H
            have c56b0 : (!(t245 == t231) || (!(t246 == t232) || (!(t247 == t233) || (!(t248 == t234) || (!(t249 == t235)))))) = true := c56
            clear c56
            have H' := mk_ H
            clear H
            have hnb57 := NB237_229.out
            have hnc57 := NB229_237.out
            have hnb58 := NB237_230.out
            have hnc58 := NB230_237.out
            have hnb59 := NB237_244.out
            have hnc59 := NB244_237.out
            have hnb60 := NB237_251.out
            have hnc60 := NB251_237.out
            have hcz61_0 : w30.cell? ⟨gb237, 0, none⟩ = some (.int .i64 t231) := (zr4 BK237.out 0).trans rfl
            have hcz61_1 : w30.cell? ⟨gb237, 1, none⟩ = some (.int .i64 t232) := (zr4 BK237.out 1).trans rfl
            have hcz61_2 : w30.cell? ⟨gb237, 2, none⟩ = some (.int .i64 t233) := (zr4 BK237.out 2).trans rfl
            have hcz61_3 : w30.cell? ⟨gb237, 3, none⟩ = some (.int .i64 t234) := (zr4 BK237.out 3).trans rfl
            have hcz61_4 : w30.cell? ⟨gb237, 4, none⟩ = some (.int .i64 t235) := (zr4 BK237.out 4).trans rfl
            have hfz61_0 := zr5 BK237.out 0
            have hfz61_1 := zr5 BK237.out 1
            have hfz61_2 := zr5 BK237.out 2
            have hfz61_3 := zr5 BK237.out 3
            have hfz61_4 := zr5 BK237.out 4
            have hnb62 := NB244_229.out
            have hnc62 := NB229_244.out
            have hnb63 := NB244_230.out
            have hnc63 := NB230_244.out
            have hnb64 := NB244_251.out
            have hnc64 := NB251_244.out
            have hcz65_0 : w30.cell? ⟨gb244, 0, none⟩ = some (.int .i64 t238) := (zr4 BK244.out 0).trans rfl
            have hcz65_1 : w30.cell? ⟨gb244, 1, none⟩ = some (.int .i64 t239) := (zr4 BK244.out 1).trans rfl
            have hcz65_2 : w30.cell? ⟨gb244, 2, none⟩ = some (.int .i64 t240) := (zr4 BK244.out 2).trans rfl
            have hcz65_3 : w30.cell? ⟨gb244, 3, none⟩ = some (.int .i64 t241) := (zr4 BK244.out 3).trans rfl
            have hcz65_4 : w30.cell? ⟨gb244, 4, none⟩ = some (.int .i64 t242) := (zr4 BK244.out 4).trans rfl
            have hfz65_0 := zr5 BK244.out 0
            have hfz65_1 := zr5 BK244.out 1
            have hfz65_2 := zr5 BK244.out 2
            have hfz65_3 := zr5 BK244.out 3
            have hfz65_4 := zr5 BK244.out 4
            have hnb66 := NB251_229.out
            have hnc66 := NB229_251.out
            have hnb67 := NB251_230.out
            have hnc67 := NB230_251.out
            have hcz68_0 : w30.cell? ⟨gb251, 0, none⟩ = some (.int .i64 0) := (zr4 BK251.out 0).trans rfl
            have hcz68_1 : w30.cell? ⟨gb251, 1, none⟩ = some (.int .i64 0) := (zr4 BK251.out 1).trans rfl
            have hcz68_2 : w30.cell? ⟨gb251, 2, none⟩ = some (.int .i64 0) := (zr4 BK251.out 2).trans rfl
            have hcz68_3 : w30.cell? ⟨gb251, 3, none⟩ = some (.int .i64 0) := (zr4 BK251.out 3).trans rfl
            have hcz68_4 : w30.cell? ⟨gb251, 4, none⟩ = some (.int .i64 0) := (zr4 BK251.out 4).trans rfl
            have hfz68_0 := zr5 BK251.out 0
            have hfz68_1 := zr5 BK251.out 1
            have hfz68_2 := zr5 BK251.out 2
            have hfz68_3 := zr5 BK251.out 3
            have hfz68_4 := zr5 BK251.out 4
            go_wp2
            go_meet
            case rel => exact ⟨_, (true), (by first | rfl | (simp; done) | (simp [*]; done)), H', ⟨by first | omega | exact Nat.le_refl _⟩, ⟨by (with_reducible repeat (first | refine zq1 ?_ _ | refine zq2 ?_ | refine zq3 ?_ _)); refine zq5 ?_ NB229_251.out _; (with_reducible repeat (first | refine zq1 ?_ _ | refine zq2 ?_ | refine zq3 ?_ _)); refine zq5 ?_ NB229_251.out _; (with_reducible repeat (first | refine zq1 ?_ _ | refine zq2 ?_ | refine zq3 ?_ _)); refine zq5 ?_ NB229_251.out _; (with_reducible repeat (first | refine zq1 ?_ _ | refine zq2 ?_ | refine zq3 ?_ _)); refine zq5 ?_ NB229_251.out _; (with_reducible repeat (first | refine zq1 ?_ _ | refine zq2 ?_ | refine zq3 ?_ _)); refine zq5 ?_ NB229_251.out _; (with_reducible repeat (first | refine zq1 ?_ _ | refine zq2 ?_ | refine zq3 ?_ _)); exact BK229.out⟩, ⟨by (with_reducible repeat (first | refine zq1 ?_ _ | refine zq2 ?_ | refine zq3 ?_ _)); refine zq5 ?_ NB230_251.out _; (with_reducible repeat (first | refine zq1 ?_ _ | refine zq2 ?_ | refine zq3 ?_ _)); refine zq5 ?_ NB230_251.out _; (with_reducible repeat (first | refine zq1 ?_ _ | refine zq2 ?_ | refine zq3 ?_ _)); refine zq5 ?_ NB230_251.out _; (with_reducible repeat (first | refine zq1 ?_ _ | refine zq2 ?_ | refine zq3 ?_ _)); refine zq5 ?_ NB230_251.out _; (with_reducible repeat (first | refine zq1 ?_ _ | refine zq2 ?_ | refine zq3 ?_ _)); refine zq5 ?_ NB230_251.out _; (with_reducible repeat (first | refine zq1 ?_ _ | refine zq2 ?_ | refine zq3 ?_ _)); exact BK230.out⟩, ⟨by (with_reducible repeat (first | refine zq1 ?_ _ | refine zq2 ?_ | refine zq3 ?_ _)); refine zq5 ?_ NB237_251.out _; (with_reducible repeat (first | refine zq1 ?_ _ | refine zq2 ?_ | refine zq3 ?_ _)); refine zq5 ?_ NB237_251.out _; (with_reducible repeat (first | refine zq1 ?_ _ | refine zq2 ?_ | refine zq3 ?_ _)); refine zq5 ?_ NB237_251.out _; (with_reducible repeat (first | refine zq1 ?_ _ | refine zq2 ?_ | refine zq3 ?_ _)); refine zq5 ?_ NB237_251.out _; (with_reducible repeat (first | refine zq1 ?_ _ | refine zq2 ?_ | refine zq3 ?_ _)); refine zq5 ?_ NB237_251.out _; (with_reducible repeat (first | refine zq1 ?_ _ | refine zq2 ?_ | refine zq3 ?_ _)); exact BK237.out⟩, ⟨by (with_reducible repeat (first | refine zq1 ?_ _ | refine zq2 ?_ | refine zq3 ?_ _)); refine zq5 ?_ NB244_251.out _; (with_reducible repeat (first | refine zq1 ?_ _ | refine zq2 ?_ | refine zq3 ?_ _)); refine zq5 ?_ NB244_251.out _; (with_reducible repeat (first | refine zq1 ?_ _ | refine zq2 ?_ | refine zq3 ?_ _)); refine zq5 ?_ NB244_251.out _; (with_reducible repeat (first | refine zq1 ?_ _ | refine zq2 ?_ | refine zq3 ?_ _)); refine zq5 ?_ NB244_251.out _; (with_reducible repeat (first | refine zq1 ?_ _ | refine zq2 ?_ | refine zq3 ?_ _)); refine zq5 ?_ NB244_251.out _; (with_reducible repeat (first | refine zq1 ?_ _ | refine zq2 ?_ | refine zq3 ?_ _)); exact BK244.out⟩, ⟨by (with_reducible repeat (first | refine zq1 ?_ _ | refine zq2 ?_ | refine zq3 ?_ _)); refine zq4 (cs := #[.int .i64 t245, .int .i64 t246, .int .i64 t247, .int .i64 t248, .int .i64 0]) ?_ 4 _ rfl; (with_reducible repeat (first | refine zq1 ?_ _ | refine zq2 ?_ | refine zq3 ?_ _)); refine zq4 (cs := #[.int .i64 t245, .int .i64 t246, .int .i64 t247, .int .i64 0, .int .i64 0]) ?_ 3 _ rfl; (with_reducible repeat (first | refine zq1 ?_ _ | refine zq2 ?_ | refine zq3 ?_ _)); refine zq4 (cs := #[.int .i64 t245, .int .i64 t246, .int .i64 0, .int .i64 0, .int .i64 0]) ?_ 2 _ rfl; (with_reducible repeat (first | refine zq1 ?_ _ | refine zq2 ?_ | refine zq3 ?_ _)); refine zq4 (cs := #[.int .i64 t245, .int .i64 0, .int .i64 0, .int .i64 0, .int .i64 0]) ?_ 1 _ rfl; (with_reducible repeat (first | refine zq1 ?_ _ | refine zq2 ?_ | refine zq3 ?_ _)); refine zq4 (cs := #[.int .i64 0, .int .i64 0, .int .i64 0, .int .i64 0, .int .i64 0]) ?_ 0 _ rfl; (with_reducible repeat (first | refine zq1 ?_ _ | refine zq2 ?_ | refine zq3 ?_ _)); exact BK251.out⟩, ⟨by repeat (first | (with_reducible first | exact HB.out | apply zq7 | apply zq8 | apply zq9 | refine zr1 ?_ GE229.out | refine zr1 ?_ GE230.out | refine zr1 ?_ GE237.out | refine zr1 ?_ GE244.out | refine zr1 ?_ GE251.out) | exact HB.out)⟩⟩
          · rw [if_neg c56] at H
            have c56b0 : (!(t245 == t231) || (!(t246 == t232) || (!(t247 == t233) || (!(t248 == t234) || (!(t249 == t235)))))) = false := by simpa using c56
            clear c56
            have H' := mk_ H
            clear H
            have hnb69 := NB237_229.out
            have hnc69 := NB229_237.out
            have hnb70 := NB237_230.out
            have hnc70 := NB230_237.out
            have hnb71 := NB237_244.out
            have hnc71 := NB244_237.out
            have hnb72 := NB237_251.out
            have hnc72 := NB251_237.out
            have hcz73_0 : w30.cell? ⟨gb237, 0, none⟩ = some (.int .i64 t231) := (zr4 BK237.out 0).trans rfl
            have hcz73_1 : w30.cell? ⟨gb237, 1, none⟩ = some (.int .i64 t232) := (zr4 BK237.out 1).trans rfl
            have hcz73_2 : w30.cell? ⟨gb237, 2, none⟩ = some (.int .i64 t233) := (zr4 BK237.out 2).trans rfl
            have hcz73_3 : w30.cell? ⟨gb237, 3, none⟩ = some (.int .i64 t234) := (zr4 BK237.out 3).trans rfl
            have hcz73_4 : w30.cell? ⟨gb237, 4, none⟩ = some (.int .i64 t235) := (zr4 BK237.out 4).trans rfl
            have hfz73_0 := zr5 BK237.out 0
            have hfz73_1 := zr5 BK237.out 1
            have hfz73_2 := zr5 BK237.out 2
            have hfz73_3 := zr5 BK237.out 3
            have hfz73_4 := zr5 BK237.out 4
            have hnb74 := NB244_229.out
            have hnc74 := NB229_244.out
            have hnb75 := NB244_230.out
            have hnc75 := NB230_244.out
            have hnb76 := NB244_251.out
            have hnc76 := NB251_244.out
            have hcz77_0 : w30.cell? ⟨gb244, 0, none⟩ = some (.int .i64 t238) := (zr4 BK244.out 0).trans rfl
            have hcz77_1 : w30.cell? ⟨gb244, 1, none⟩ = some (.int .i64 t239) := (zr4 BK244.out 1).trans rfl
            have hcz77_2 : w30.cell? ⟨gb244, 2, none⟩ = some (.int .i64 t240) := (zr4 BK244.out 2).trans rfl
            have hcz77_3 : w30.cell? ⟨gb244, 3, none⟩ = some (.int .i64 t241) := (zr4 BK244.out 3).trans rfl
            have hcz77_4 : w30.cell? ⟨gb244, 4, none⟩ = some (.int .i64 t242) := (zr4 BK244.out 4).trans rfl
            have hfz77_0 := zr5 BK244.out 0
            have hfz77_1 := zr5 BK244.out 1
            have hfz77_2 := zr5 BK244.out 2
            have hfz77_3 := zr5 BK244.out 3
            have hfz77_4 := zr5 BK244.out 4
            have hnb78 := NB251_229.out
            have hnc78 := NB229_251.out
            have hnb79 := NB251_230.out
            have hnc79 := NB230_251.out
            have hcz80_0 : w30.cell? ⟨gb251, 0, none⟩ = some (.int .i64 0) := (zr4 BK251.out 0).trans rfl
            have hcz80_1 : w30.cell? ⟨gb251, 1, none⟩ = some (.int .i64 0) := (zr4 BK251.out 1).trans rfl
            have hcz80_2 : w30.cell? ⟨gb251, 2, none⟩ = some (.int .i64 0) := (zr4 BK251.out 2).trans rfl
            have hcz80_3 : w30.cell? ⟨gb251, 3, none⟩ = some (.int .i64 0) := (zr4 BK251.out 3).trans rfl
            have hcz80_4 : w30.cell? ⟨gb251, 4, none⟩ = some (.int .i64 0) := (zr4 BK251.out 4).trans rfl
            have hfz80_0 := zr5 BK251.out 0
            have hfz80_1 := zr5 BK251.out 1
            have hfz80_2 := zr5 BK251.out 2
            have hfz80_3 := zr5 BK251.out 3
            have hfz80_4 := zr5 BK251.out 4
            go_wp2
            go_meet
            case rel => exact ⟨_, ((t250 != t236)), (by first | rfl | (simp; done) | (simp [*]; done)), H', ⟨by first | omega | exact Nat.le_refl _⟩, ⟨by (with_reducible repeat (first | refine zq1 ?_ _ | refine zq2 ?_ | refine zq3 ?_ _)); refine zq5 ?_ NB229_251.out _; (with_reducible repeat (first | refine zq1 ?_ _ | refine zq2 ?_ | refine zq3 ?_ _)); refine zq5 ?_ NB229_251.out _; (with_reducible repeat (first | refine zq1 ?_ _ | refine zq2 ?_ | refine zq3 ?_ _)); refine zq5 ?_ NB229_251.out _; (with_reducible repeat (first | refine zq1 ?_ _ | refine zq2 ?_ | refine zq3 ?_ _)); refine zq5 ?_ NB229_251.out _; (with_reducible repeat (first | refine zq1 ?_ _ | refine zq2 ?_ | refine zq3 ?_ _)); refine zq5 ?_ NB229_251.out _; (with_reducible repeat (first | refine zq1 ?_ _ | refine zq2 ?_ | refine zq3 ?_ _)); exact BK229.out⟩, ⟨by (with_reducible repeat (first | refine zq1 ?_ _ | refine zq2 ?_ | refine zq3 ?_ _)); refine zq5 ?_ NB230_251.out _; (with_reducible repeat (first | refine zq1 ?_ _ | refine zq2 ?_ | refine zq3 ?_ _)); refine zq5 ?_ NB230_251.out _; (with_reducible repeat (first | refine zq1 ?_ _ | refine zq2 ?_ | refine zq3 ?_ _)); refine zq5 ?_ NB230_251.out _; (with_reducible repeat (first | refine zq1 ?_ _ | refine zq2 ?_ | refine zq3 ?_ _)); refine zq5 ?_ NB230_251.out _; (with_reducible repeat (first | refine zq1 ?_ _ | refine zq2 ?_ | refine zq3 ?_ _)); refine zq5 ?_ NB230_251.out _; (with_reducible repeat (first | refine zq1 ?_ _ | refine zq2 ?_ | refine zq3 ?_ _)); exact BK230.out⟩, ⟨by (with_reducible repeat (first | refine zq1 ?_ _ | refine zq2 ?_ | refine zq3 ?_ _)); refine zq5 ?_ NB237_251.out _; (with_reducible repeat (first | refine zq1 ?_ _ | refine zq2 ?_ | refine zq3 ?_ _)); refine zq5 ?_ NB237_251.out _; (with_reducible repeat (first | refine zq1 ?_ _ | refine zq2 ?_ | refine zq3 ?_ _)); refine zq5 ?_ NB237_251.out _; (with_reducible repeat (first | refine zq1 ?_ _ | refine zq2 ?_ | refine zq3 ?_ _)); refine zq5 ?_ NB237_251.out _; (with_reducible repeat (first | refine zq1 ?_ _ | refine zq2 ?_ | refine zq3 ?_ _)); refine zq5 ?_ NB237_251.out _; (with_reducible repeat (first | refine zq1 ?_ _ | refine zq2 ?_ | refine zq3 ?_ _)); exact BK237.out⟩, ⟨by (with_reducible repeat (first | refine zq1 ?_ _ | refine zq2 ?_ | refine zq3 ?_ _)); refine zq5 ?_ NB244_251.out _; (with_reducible repeat (first | refine zq1 ?_ _ | refine zq2 ?_ | refine zq3 ?_ _)); refine zq5 ?_ NB244_251.out _; (with_reducible repeat (first | refine zq1 ?_ _ | refine zq2 ?_ | refine zq3 ?_ _)); refine zq5 ?_ NB244_251.out _; (with_reducible repeat (first | refine zq1 ?_ _ | refine zq2 ?_ | refine zq3 ?_ _)); refine zq5 ?_ NB244_251.out _; (with_reducible repeat (first | refine zq1 ?_ _ | refine zq2 ?_ | refine zq3 ?_ _)); refine zq5 ?_ NB244_251.out _; (with_reducible repeat (first | refine zq1 ?_ _ | refine zq2 ?_ | refine zq3 ?_ _)); exact BK244.out⟩, ⟨by (with_reducible repeat (first | refine zq1 ?_ _ | refine zq2 ?_ | refine zq3 ?_ _)); refine zq4 (cs := #[.int .i64 t245, .int .i64 t246, .int .i64 t247, .int .i64 t248, .int .i64 0]) ?_ 4 _ rfl; (with_reducible repeat (first | refine zq1 ?_ _ | refine zq2 ?_ | refine zq3 ?_ _)); refine zq4 (cs := #[.int .i64 t245, .int .i64 t246, .int .i64 t247, .int .i64 0, .int .i64 0]) ?_ 3 _ rfl; (with_reducible repeat (first | refine zq1 ?_ _ | refine zq2 ?_ | refine zq3 ?_ _)); refine zq4 (cs := #[.int .i64 t245, .int .i64 t246, .int .i64 0, .int .i64 0, .int .i64 0]) ?_ 2 _ rfl; (with_reducible repeat (first | refine zq1 ?_ _ | refine zq2 ?_ | refine zq3 ?_ _)); refine zq4 (cs := #[.int .i64 t245, .int .i64 0, .int .i64 0, .int .i64 0, .int .i64 0]) ?_ 1 _ rfl; (with_reducible repeat (first | refine zq1 ?_ _ | refine zq2 ?_ | refine zq3 ?_ _)); refine zq4 (cs := #[.int .i64 0, .int .i64 0, .int .i64 0, .int .i64 0, .int .i64 0]) ?_ 0 _ rfl; (with_reducible repeat (first | refine zq1 ?_ _ | refine zq2 ?_ | refine zq3 ?_ _)); exact BK251.out⟩, ⟨by repeat (first | (with_reducible first | exact HB.out | apply zq7 | apply zq8 | apply zq9 | refine zr1 ?_ GE229.out | refine zr1 ?_ GE230.out | refine zr1 ?_ GE237.out | refine zr1 ?_ GE244.out | refine zr1 ?_ GE251.out) | exact HB.out)⟩⟩
    case rest =>
      clear HC7
      try clear c1
      try clear c2
      try clear c2b0
      try clear c2b1
      try clear p2
      try clear c3
      try clear c4
      try clear c5
      try clear c6
      try clear c7
      try clear c11
      try clear c14
      try clear c15
      try clear c16
      try clear c17
      try clear c23
      try clear c24
      try clear c25
      try clear c31
      try clear c32
      try clear c33
      try clear c34
      try clear c36
      try clear c36b0
      try clear c37
      try clear c38
      try clear c39
      try clear c40
      try clear c42
      try clear c43
      try clear c44
      try clear c46
      try clear c46b0
      try clear c46b1
      try clear c46b2
      try clear c47
      try clear c48
      try clear c49
      try clear c50
      try clear c52
      try clear c53
      try clear c54
      try clear c56
      try clear c56b0
      try clear c57
      try clear c58
      try clear c59
      try clear c60
      try clear c62
      try clear c63
      try clear c64
      try clear c66
      try clear c67
      try clear c69
      try clear c70
      try clear c71
      try clear c72
      try clear c74
      try clear c75
      try clear c76
      try clear c78
      try clear c79
      try clear hcz12_0
      try clear hcz12_1
      try clear hcz12_2
      try clear hcz12_3
      try clear hcz12_4
      try clear hcz13_0
      try clear hcz13_1
      try clear hcz13_2
      try clear hcz13_3
      try clear hcz13_4
      try clear hcz18_0
      try clear hcz18_1
      try clear hcz18_2
      try clear hcz18_3
      try clear hcz18_4
      try clear hcz19_0
      try clear hcz19_1
      try clear hcz19_2
      try clear hcz19_3
      try clear hcz19_4
      try clear hcz20_0
      try clear hcz20_1
      try clear hcz20_2
      try clear hcz20_3
      try clear hcz20_4
      try clear hcz26_0
      try clear hcz26_1
      try clear hcz26_2
      try clear hcz26_3
      try clear hcz26_4
      try clear hcz27_0
      try clear hcz27_1
      try clear hcz27_2
      try clear hcz27_3
      try clear hcz27_4
      try clear hcz28_0
      try clear hcz28_1
      try clear hcz28_2
      try clear hcz28_3
      try clear hcz28_4
      try clear hcz35_0
      try clear hcz35_1
      try clear hcz35_2
      try clear hcz35_3
      try clear hcz35_4
      try clear hcz41_0
      try clear hcz41_1
      try clear hcz41_2
      try clear hcz41_3
      try clear hcz41_4
      try clear hcz45_0
      try clear hcz45_1
      try clear hcz45_2
      try clear hcz45_3
      try clear hcz45_4
      try clear hcz51_0
      try clear hcz51_1
      try clear hcz51_2
      try clear hcz51_3
      try clear hcz51_4
      try clear hcz55_0
      try clear hcz55_1
      try clear hcz55_2
      try clear hcz55_3
      try clear hcz55_4
      try clear hcz61_0
      try clear hcz61_1
      try clear hcz61_2
      try clear hcz61_3
      try clear hcz61_4
      try clear hcz65_0
      try clear hcz65_1
      try clear hcz65_2
      try clear hcz65_3
      try clear hcz65_4
      try clear hcz68_0
      try clear hcz68_1
      try clear hcz68_2
      try clear hcz68_3
      try clear hcz68_4
      try clear hcz73_0
      try clear hcz73_1
      try clear hcz73_2
      try clear hcz73_3
      try clear hcz73_4
      try clear hcz77_0
      try clear hcz77_1
      try clear hcz77_2
      try clear hcz77_3
      try clear hcz77_4
      try clear hcz80_0
      try clear hcz80_1
      try clear hcz80_2
      try clear hcz80_3
      try clear hcz80_4
      try clear hfz12_0
      try clear hfz12_1
      try clear hfz12_2
      try clear hfz12_3
      try clear hfz12_4
      try clear hfz13_0
      try clear hfz13_1
      try clear hfz13_2
      try clear hfz13_3
      try clear hfz13_4
      try clear hfz18_0
      try clear hfz18_1
      try clear hfz18_2
      try clear hfz18_3
      try clear hfz18_4
      try clear hfz19_0
      try clear hfz19_1
      try clear hfz19_2
      try clear hfz19_3
      try clear hfz19_4
      try clear hfz20_0
      try clear hfz20_1
      try clear hfz20_2
      try clear hfz20_3
      try clear hfz20_4
      try clear hfz26_0
      try clear hfz26_1
      try clear hfz26_2
      try clear hfz26_3
      try clear hfz26_4
      try clear hfz27_0
      try clear hfz27_1
      try clear hfz27_2
      try clear hfz27_3
      try clear hfz27_4
      try clear hfz28_0
      try clear hfz28_1
      try clear hfz28_2
      try clear hfz28_3
      try clear hfz28_4
      try clear hfz35_0
      try clear hfz35_1
      try clear hfz35_2
      try clear hfz35_3
      try clear hfz35_4
      try clear hfz41_0
      try clear hfz41_1
      try clear hfz41_2
      try clear hfz41_3
      try clear hfz41_4
      try clear hfz45_0
      try clear hfz45_1
      try clear hfz45_2
      try clear hfz45_3
      try clear hfz45_4
      try clear hfz51_0
      try clear hfz51_1
      try clear hfz51_2
      try clear hfz51_3
      try clear hfz51_4
      try clear hfz55_0
      try clear hfz55_1
      try clear hfz55_2
      try clear hfz55_3
      try clear hfz55_4
      try clear hfz61_0
      try clear hfz61_1
      try clear hfz61_2
      try clear hfz61_3
      try clear hfz61_4
      try clear hfz65_0
      try clear hfz65_1
      try clear hfz65_2
      try clear hfz65_3
      try clear hfz65_4
      try clear hfz68_0
      try clear hfz68_1
      try clear hfz68_2
      try clear hfz68_3
      try clear hfz68_4
      try clear hfz73_0
      try clear hfz73_1
      try clear hfz73_2
      try clear hfz73_3
      try clear hfz73_4
      try clear hfz77_0
      try clear hfz77_1
      try clear hfz77_2
      try clear hfz77_3
      try clear hfz77_4
      try clear hfz80_0
      try clear hfz80_1
      try clear hfz80_2
      try clear hfz80_3
      try clear hfz80_4
      obtain ⟨kq, x56_6, rfl, HA, HJ6, BK229, BK230, BK237, BK244, BK251, HB⟩ := hcut
      cases kq with
      | zero => exact absurd HA.out (by simp [laws_FnCfgMeet.j0])
      | succ kj6 =>
        have H := HA.out
        clear HA
        simp only [laws_FnCfgMeet.j0] at H
        by_cases c81 : x56_6 = true
        · subst c81
          have H1 : (some false) = some r := by rw [if_pos rfl] at H; exact H
          clear H
          have H := H1
          clear H1
          obtain rfl := Option.some.inj H
          go_wp2
          go_ret
          exact ⟨by first | rfl | (simp [errW_none, errW_some] <;> rfl) | (simp [*, errW_none, errW_some] <;> rfl), by repeat (first | (with_reducible first | exact HB.out | apply zq7 | apply zq8 | apply zq9 | refine zr1 ?_ GE229.out | refine zr1 ?_ GE230.out | refine zr1 ?_ GE237.out | refine zr1 ?_ GE244.out | refine zr1 ?_ GE251.out) | exact HB.out)⟩
        · replace c81 := Bool.eq_false_iff.mpr c81
          subst c81
          have H1 : (if t236 = true then ((impl_CfgMeet.f t231 t232 t233 t234 t235 t219 t220 t221 t222 t223).bind fun bt252 => ((impl_CfgOk.f t231 t232 t233 t234 t235).bind fun t259 => (if t259 = true then (if bt252.2.2.2.2.2 = true then (if (bt252.1 == t231 && (bt252.2.1 == t232 && (bt252.2.2.1 == t233 && (bt252.2.2.2.1 == t234 && (bt252.2.2.2.2.1 == t235))))) = true then (if t232 = (mn t220 t225) then (if t233 = (mn t221 t226) then (if t234 = (mn t222 t227) then (some (t235 == (mn t223 t228))) else (some false)) else (some false)) else (some false)) else (some false)) else (some false)) else (some false)))) else (if (t231 == 0 && (t232 == 0 && (t233 == 0 && (t234 == 0 && (t235 == 0))))) = true then ((spec_CfgOk.f t219 t220 t221 t222 t223).bind fun t260 => (if t260 = true then ((spec_CfgOk.f t224 t225 t226 t227 t228).bind fun t261 => (if t261 = true then (if t219 = t224 then (some false) else ((laws_liOk.f).bind fun t262 => (some t262))) else ((laws_liOk.f).bind fun t263 => (some t263)))) else ((laws_liOk.f).bind fun t264 => (some t264)))) else (some false))) = some r := by rw [if_neg (show ¬ (false = true) by decide)] at H; exact H
          clear H
          have H := H1
          clear H1
          by_cases c82 : t236 = true
          · subst c82
            have H1 : ((impl_CfgMeet.f t231 t232 t233 t234 t235 t219 t220 t221 t222 t223).bind fun bt252 => ((impl_CfgOk.f t231 t232 t233 t234 t235).bind fun t259 => (if t259 = true then (if bt252.2.2.2.2.2 = true then (if (bt252.1 == t231 && (bt252.2.1 == t232 && (bt252.2.2.1 == t233 && (bt252.2.2.2.1 == t234 && (bt252.2.2.2.2.1 == t235))))) = true then (if t232 = (mn t220 t225) then (if t233 = (mn t221 t226) then (if t234 = (mn t222 t227) then (some (t235 == (mn t223 t228))) else (some false)) else (some false)) else (some false)) else (some false)) else (some false)) else (some false)))) = some r := by rw [if_pos rfl] at H; exact H
            clear H
            have H := H1
            clear H1
            replace H := Option.bind_eq_some_iff.mp H
            obtain ⟨⟨t252, t253, t254, t255, t256, t257⟩, A830, H⟩ := H
            try dsimp only at H
            have A83 := mk_ A830
            clear A830
            replace H := Option.bind_eq_some_iff.mp H
            obtain ⟨t259, A840, H⟩ := H
            try dsimp only at H
            have A84 := mk_ A840
            clear A840
            by_cases c85 : t259 = true
            · subst c85
              have H1 : (if t257 = true then (if (t252 == t231 && (t253 == t232 && (t254 == t233 && (t255 == t234 && (t256 == t235))))) = true then (if t232 = (mn t220 t225) then (if t233 = (mn t221 t226) then (if t234 = (mn t222 t227) then (some (t235 == (mn t223 t228))) else (some false)) else (some false)) else (some false)) else (some false)) else (some false)) = some r := by rw [if_pos rfl] at H; exact H
              clear H
              have H := H1
              clear H1
              by_cases c86 : t257 = true
              · subst c86
                have H1 : (if (t252 == t231 && (t253 == t232 && (t254 == t233 && (t255 == t234 && (t256 == t235))))) = true then (if t232 = (mn t220 t225) then (if t233 = (mn t221 t226) then (if t234 = (mn t222 t227) then (some (t235 == (mn t223 t228))) else (some false)) else (some false)) else (some false)) else (some false)) = some r := by rw [if_pos rfl] at H; exact H
                clear H
                have H := H1
                clear H1
                by_cases c87 : (t252 == t231 && (t253 == t232 && (t254 == t233 && (t255 == t234 && (t256 == t235))))) = true
                · rw [if_pos c87] at H
                  have c87b0 : (t252 == t231 && (t253 == t232 && (t254 == t233 && (t255 == t234 && (t256 == t235))))) = true := c87
                  (try (have c87b1 : decide (t252 = t231 && (t253 == t232 && (t254 == t233 && (t255 == t234 && (t256 == t235))))) = true := by simpa using c87))
                  (try (have c87b2 : (t252 == t231 && (t253 == t232 && (t254 == t233 && (t255 == t234 && (t256 == t235))))) = true := by simpa using c87))
                  clear c87
                  obtain ⟨ji88, hji88⟩ : ∃ j_ : Int, (mn t220 t225) = j_ := ⟨_, rfl⟩
                  replace H : (if t232 = (ji88) then (if t233 = (mn t221 t226) then (if t234 = (mn t222 t227) then (some (t235 == (mn t223 t228))) else (some false)) else (some false)) else (some false)) = some r := by first | (rw [hji88] at H; exact H) | (simp only [hji88] at H ⊢; exact H)
                  (try rw [hji88] at A83)
                  (try rw [hji88] at A84)
                  have hji88_ : (if t225 < t220 then t225 else t220) = ji88 := hji88
                  by_cases c89 : t232 = (ji88)
                  · rw [if_pos c89] at H
                    have c89b0 : (t232 == (ji88)) = true := beq_iff_eq.mpr c89
                    have c89b1 : (t232 != (ji88)) = false := bne_eq_false_iff_eq.mpr c89
                    clear c89
                    obtain ⟨ji90, hji90⟩ : ∃ j_ : Int, (mn t221 t226) = j_ := ⟨_, rfl⟩
                    replace H : (if t233 = (ji90) then (if t234 = (mn t222 t227) then (some (t235 == (mn t223 t228))) else (some false)) else (some false)) = some r := by first | (rw [hji90] at H; exact H) | (simp only [hji90] at H ⊢; exact H)
                    (try rw [hji90] at A83)
                    (try rw [hji90] at A84)
                    have hji90_ : (if t226 < t221 then t226 else t221) = ji90 := hji90
                    by_cases c91 : t233 = (ji90)
                    · rw [if_pos c91] at H
                      have c91b0 : (t233 == (ji90)) = true := beq_iff_eq.mpr c91
                      have c91b1 : (t233 != (ji90)) = false := bne_eq_false_iff_eq.mpr c91
                      clear c91
                      obtain ⟨ji92, hji92⟩ : ∃ j_ : Int, (mn t222 t227) = j_ := ⟨_, rfl⟩
                      replace H : (if t234 = (ji92) then (some (t235 == (mn t223 t228))) else (some false)) = some r := by first | (rw [hji92] at H; exact H) | (simp only [hji92] at H ⊢; exact H)
                      (try rw [hji92] at A83)
                      (try rw [hji92] at A84)
                      have hji92_ : (if t227 < t222 then t227 else t222) = ji92 := hji92
                      by_cases c93 : t234 = (ji92)
                      · rw [if_pos c93] at H
                        have c93b0 : (t234 == (ji92)) = true := beq_iff_eq.mpr c93
                        have c93b1 : (t234 != (ji92)) = false := bne_eq_false_iff_eq.mpr c93
                        clear c93
                        obtain ⟨ji94, hji94⟩ : ∃ j_ : Int, (mn t223 t228) = j_ := ⟨_, rfl⟩
                        replace H : (some (t235 == (ji94))) = some r := by first | (rw [hji94] at H; exact H) | (simp only [hji94] at H ⊢; exact H)
                        (try rw [hji94] at A83)
                        (try rw [hji94] at A84)
                        have hji94_ : (if t228 < t223 then t228 else t223) = ji94 := hji94
                        obtain rfl := Option.some.inj H
                        have hnb95 := NB237_229.out
                        have hnc95 := NB229_237.out
                        have hnb96 := NB237_230.out
                        have hnc96 := NB230_237.out
                        have hnb97 := NB237_244.out
                        have hnc97 := NB244_237.out
                        have hnb98 := NB237_251.out
                        have hnc98 := NB251_237.out
                        have hcz99_0 : wc.cell? ⟨gb237, 0, none⟩ = some (.int .i64 t231) := (zr4 BK237.out 0).trans rfl
                        have hcz99_1 : wc.cell? ⟨gb237, 1, none⟩ = some (.int .i64 t232) := (zr4 BK237.out 1).trans rfl
                        have hcz99_2 : wc.cell? ⟨gb237, 2, none⟩ = some (.int .i64 t233) := (zr4 BK237.out 2).trans rfl
                        have hcz99_3 : wc.cell? ⟨gb237, 3, none⟩ = some (.int .i64 t234) := (zr4 BK237.out 3).trans rfl
                        have hcz99_4 : wc.cell? ⟨gb237, 4, none⟩ = some (.int .i64 t235) := (zr4 BK237.out 4).trans rfl
                        have hfz99_0 := zr5 BK237.out 0
                        have hfz99_1 := zr5 BK237.out 1
                        have hfz99_2 := zr5 BK237.out 2
                        have hfz99_3 := zr5 BK237.out 3
                        have hfz99_4 := zr5 BK237.out 4
                        have hnb100 := NB229_230.out
                        have hnc100 := NB230_229.out
                        have hnb101 := NB229_244.out
                        have hnc101 := NB244_229.out
                        have hnb102 := NB229_251.out
                        have hnc102 := NB251_229.out
                        have hcz103_0 : wc.cell? ⟨gb229, 0, none⟩ = some (.int .i64 t219) := (zr4 BK229.out 0).trans rfl
                        have hcz103_1 : wc.cell? ⟨gb229, 1, none⟩ = some (.int .i64 t220) := (zr4 BK229.out 1).trans rfl
                        have hcz103_2 : wc.cell? ⟨gb229, 2, none⟩ = some (.int .i64 t221) := (zr4 BK229.out 2).trans rfl
                        have hcz103_3 : wc.cell? ⟨gb229, 3, none⟩ = some (.int .i64 t222) := (zr4 BK229.out 3).trans rfl
                        have hcz103_4 : wc.cell? ⟨gb229, 4, none⟩ = some (.int .i64 t223) := (zr4 BK229.out 4).trans rfl
                        have hfz103_0 := zr5 BK229.out 0
                        have hfz103_1 := zr5 BK229.out 1
                        have hfz103_2 := zr5 BK229.out 2
                        have hfz103_3 := zr5 BK229.out 3
                        have hfz103_4 := zr5 BK229.out 4
                        go_wp2_with (first | ((with_reducible refine gate_callee (f := 15) rfl ?_); refine goesL_ (some 85) rfl rfl Try.func15 (by kernel_rfl) rfl #[.agg #[.int .i64 t231, .int .i64 t232, .int .i64 t233, .int .i64 t234, .int .i64 t235], .agg #[.int .i64 t219, .int .i64 t220, .int .i64 t221, .int .i64 t222, .int .i64 t223]] rfl (by (try simp only [List.map_toArray, List.map_cons, List.map_nil]); first | done | rfl | (simp only [List.length_drop, List.length_take]; rfl)) ?_; (with_reducible refine (impl_CfgMeet.calls t231 t232 t233 t234 t235 t219 t220 t221 t222 t223 t252 t253 t254 t255 t256 true _ A83.out).mono ?_); rintro e w104 ⟨rfl, hb⟩; refine ⟨_, rfl, ?_⟩; have n0_ := mk_ (zq6 (by exact BK229.out) hb); have n1_ := mk_ (zq6 (by exact BK230.out) hb); have n2_ := mk_ (zq6 (by exact BK237.out) hb); have n3_ := mk_ (zq6 (by exact BK244.out) hb); have n4_ := mk_ (zq6 (by exact BK251.out) hb); have n5_ := mk_ (zr3 (by repeat (first | (with_reducible first | exact HB.out | apply zq7 | apply zq8 | apply zq9 | refine zr1 ?_ GE229.out | refine zr1 ?_ GE230.out | refine zr1 ?_ GE237.out | refine zr1 ?_ GE244.out | refine zr1 ?_ GE251.out) | exact HB.out)) hb); clear BK229; clear BK230; clear BK237; clear BK244; clear BK251; clear HB; have BK229 := n0_; have BK230 := n1_; have BK237 := n2_; have BK244 := n3_; have BK251 := n4_; have HB := n5_; clear n0_ n1_ n2_ n3_ n4_ n5_; (try clear hb); (try clear hb2); (try clear hk); (try clear hi)) | ((with_reducible refine gate_dst (N := 11) rfl ?_); (try (refine gate_guard (by rfl) ?_; dsimp only)); refine box_event ?hg (N := 11) ?hd (cs := #[.int .i64 0, .int .i64 0, .int .i64 0, .int .i64 0, .int .i64 0]) (t := 24) ?hr ?_; (case hd => rfl); (case hg => rfl); (case hr => first | (go_simp; done) | (go_simp; rfl)); intro gb258 hg w105 hbox hb; have n0_ := mk_ (zq6 (by exact BK229.out) hb); have n1_ := mk_ (zq6 (by exact BK230.out) hb); have n2_ := mk_ (zq6 (by exact BK237.out) hb); have n3_ := mk_ (zq6 (by exact BK244.out) hb); have n4_ := mk_ (zq6 (by exact BK251.out) hb); have n5_ := mk_ (zr3 (by repeat (first | (with_reducible first | exact HB.out | apply zq7 | apply zq8 | apply zq9 | refine zr1 ?_ GE229.out | refine zr1 ?_ GE230.out | refine zr1 ?_ GE237.out | refine zr1 ?_ GE244.out | refine zr1 ?_ GE251.out) | exact HB.out)) hb); have n6_ := mk_ (hbox); have n7_ := mk_ ((by rw [hg]; exact (zr2 (by repeat (first | (with_reducible first | exact HB.out | apply zq7 | apply zq8 | apply zq9 | refine zr1 ?_ GE229.out | refine zr1 ?_ GE230.out | refine zr1 ?_ GE237.out | refine zr1 ?_ GE244.out | refine zr1 ?_ GE251.out) | exact HB.out))) : w.heap.size ≤ gb258)); have n8_ := mk_ ((by rw [hg]; exact (zr2 (by repeat (first | (with_reducible first | exact HB.out | apply zq7 | apply zq8 | apply zq9 | refine zr1 ?_ GE229.out | refine zr1 ?_ GE230.out | refine zr1 ?_ GE237.out | refine zr1 ?_ GE244.out | refine zr1 ?_ GE251.out) | exact HB.out))) : w.heap.size ≤ gb258)); have n9_ := mk_ ((by rw [hg]; exact zm2 (zr6 (by exact BK229.out)) : gb229 ≠ gb258)); have n10_ := mk_ n9_.out.symm; have n11_ := mk_ ((by rw [hg]; exact zm2 (zr6 (by exact BK230.out)) : gb230 ≠ gb258)); have n12_ := mk_ n11_.out.symm; have n13_ := mk_ ((by rw [hg]; exact zm2 (zr6 (by exact BK237.out)) : gb237 ≠ gb258)); have n14_ := mk_ n13_.out.symm; have n15_ := mk_ ((by rw [hg]; exact zm2 (zr6 (by exact BK244.out)) : gb244 ≠ gb258)); have n16_ := mk_ n15_.out.symm; have n17_ := mk_ ((by rw [hg]; exact zm2 (zr6 (by exact BK251.out)) : gb251 ≠ gb258)); have n18_ := mk_ n17_.out.symm; clear BK229; clear BK230; clear BK237; clear BK244; clear BK251; clear HB; have BK229 := n0_; have BK230 := n1_; have BK237 := n2_; have BK244 := n3_; have BK251 := n4_; have HB := n5_; have BK258 := n6_; have GW258 := n7_; have GE258 := n8_; have NB229_258 := n9_; have NB258_229 := n10_; have NB230_258 := n11_; have NB258_230 := n12_; have NB237_258 := n13_; have NB258_237 := n14_; have NB244_258 := n15_; have NB258_244 := n16_; have NB251_258 := n17_; have NB258_251 := n18_; clear n0_ n1_ n2_ n3_ n4_ n5_ n6_ n7_ n8_ n9_ n10_ n11_ n12_ n13_ n14_ n15_ n16_ n17_ n18_; clear hb hbox hg; have hnb106 := NB258_229.out; have hnc106 := NB229_258.out; have hnb107 := NB258_230.out; have hnc107 := NB230_258.out; have hnb108 := NB258_237.out; have hnc108 := NB237_258.out; have hnb109 := NB258_244.out; have hnc109 := NB244_258.out; have hnb110 := NB258_251.out; have hnc110 := NB251_258.out; obtain ⟨hcz111_0, hcz111_1, hcz111_2, hcz111_3, hcz111_4⟩ := cz5 BK258.out; obtain ⟨hfz111_0, hfz111_1, hfz111_2, hfz111_3, hfz111_4⟩ := fz5 BK258.out; obtain ⟨hcz112_0, hcz112_1, hcz112_2, hcz112_3, hcz112_4⟩ := cz5 BK237.out; obtain ⟨hfz112_0, hfz112_1, hfz112_2, hfz112_3, hfz112_4⟩ := fz5 BK237.out) | ((with_reducible refine gate_callee (f := 18) rfl ?_); refine goesL_ (some 89) rfl rfl Try.func18 (by kernel_rfl) rfl #[.agg #[.int .i64 t231, .int .i64 t232, .int .i64 t233, .int .i64 t234, .int .i64 t235]] rfl (by (try simp only [List.map_toArray, List.map_cons, List.map_nil]); first | done | rfl | (simp only [List.length_drop, List.length_take]; rfl)) ?_; (with_reducible refine (impl_CfgOk.calls t231 t232 t233 t234 t235 true _ A84.out).mono ?_); rintro e w113 ⟨rfl, hb⟩; refine ⟨_, rfl, ?_⟩; have n0_ := mk_ (zq6 (g := gb229) (o := .cells #[.int .i64 t219, .int .i64 t220, .int .i64 t221, .int .i64 t222, .int .i64 t223] 24 (0, 0)) (by (with_reducible repeat (first | refine zq1 ?_ _ | refine zq2 ?_ | refine zq3 ?_ _)); refine zq5 ?_ NB229_258.out _; (with_reducible repeat (first | refine zq1 ?_ _ | refine zq2 ?_ | refine zq3 ?_ _)); refine zq5 ?_ NB229_258.out _; (with_reducible repeat (first | refine zq1 ?_ _ | refine zq2 ?_ | refine zq3 ?_ _)); refine zq5 ?_ NB229_258.out _; (with_reducible repeat (first | refine zq1 ?_ _ | refine zq2 ?_ | refine zq3 ?_ _)); refine zq5 ?_ NB229_258.out _; (with_reducible repeat (first | refine zq1 ?_ _ | refine zq2 ?_ | refine zq3 ?_ _)); refine zq5 ?_ NB229_258.out _; (with_reducible repeat (first | refine zq1 ?_ _ | refine zq2 ?_ | refine zq3 ?_ _)); exact BK229.out) hb); have n1_ := mk_ (zq6 (g := gb230) (o := .cells #[.int .i64 t224, .int .i64 t225, .int .i64 t226, .int .i64 t227, .int .i64 t228] 24 (0, 0)) (by (with_reducible repeat (first | refine zq1 ?_ _ | refine zq2 ?_ | refine zq3 ?_ _)); refine zq5 ?_ NB230_258.out _; (with_reducible repeat (first | refine zq1 ?_ _ | refine zq2 ?_ | refine zq3 ?_ _)); refine zq5 ?_ NB230_258.out _; (with_reducible repeat (first | refine zq1 ?_ _ | refine zq2 ?_ | refine zq3 ?_ _)); refine zq5 ?_ NB230_258.out _; (with_reducible repeat (first | refine zq1 ?_ _ | refine zq2 ?_ | refine zq3 ?_ _)); refine zq5 ?_ NB230_258.out _; (with_reducible repeat (first | refine zq1 ?_ _ | refine zq2 ?_ | refine zq3 ?_ _)); refine zq5 ?_ NB230_258.out _; (with_reducible repeat (first | refine zq1 ?_ _ | refine zq2 ?_ | refine zq3 ?_ _)); exact BK230.out) hb); have n2_ := mk_ (zq6 (g := gb237) (o := .cells #[.int .i64 t231, .int .i64 t232, .int .i64 t233, .int .i64 t234, .int .i64 t235] 24 (0, 0)) (by (with_reducible repeat (first | refine zq1 ?_ _ | refine zq2 ?_ | refine zq3 ?_ _)); refine zq5 ?_ NB237_258.out _; (with_reducible repeat (first | refine zq1 ?_ _ | refine zq2 ?_ | refine zq3 ?_ _)); refine zq5 ?_ NB237_258.out _; (with_reducible repeat (first | refine zq1 ?_ _ | refine zq2 ?_ | refine zq3 ?_ _)); refine zq5 ?_ NB237_258.out _; (with_reducible repeat (first | refine zq1 ?_ _ | refine zq2 ?_ | refine zq3 ?_ _)); refine zq5 ?_ NB237_258.out _; (with_reducible repeat (first | refine zq1 ?_ _ | refine zq2 ?_ | refine zq3 ?_ _)); refine zq5 ?_ NB237_258.out _; (with_reducible repeat (first | refine zq1 ?_ _ | refine zq2 ?_ | refine zq3 ?_ _)); exact BK237.out) hb); have n3_ := mk_ (zq6 (g := gb244) (o := .cells #[.int .i64 t238, .int .i64 t239, .int .i64 t240, .int .i64 t241, .int .i64 t242] 24 (0, 0)) (by (with_reducible repeat (first | refine zq1 ?_ _ | refine zq2 ?_ | refine zq3 ?_ _)); refine zq5 ?_ NB244_258.out _; (with_reducible repeat (first | refine zq1 ?_ _ | refine zq2 ?_ | refine zq3 ?_ _)); refine zq5 ?_ NB244_258.out _; (with_reducible repeat (first | refine zq1 ?_ _ | refine zq2 ?_ | refine zq3 ?_ _)); refine zq5 ?_ NB244_258.out _; (with_reducible repeat (first | refine zq1 ?_ _ | refine zq2 ?_ | refine zq3 ?_ _)); refine zq5 ?_ NB244_258.out _; (with_reducible repeat (first | refine zq1 ?_ _ | refine zq2 ?_ | refine zq3 ?_ _)); refine zq5 ?_ NB244_258.out _; (with_reducible repeat (first | refine zq1 ?_ _ | refine zq2 ?_ | refine zq3 ?_ _)); exact BK244.out) hb); have n4_ := mk_ (zq6 (g := gb251) (o := .cells #[.int .i64 t245, .int .i64 t246, .int .i64 t247, .int .i64 t248, .int .i64 t249] 24 (0, 0)) (by (with_reducible repeat (first | refine zq1 ?_ _ | refine zq2 ?_ | refine zq3 ?_ _)); refine zq5 ?_ NB251_258.out _; (with_reducible repeat (first | refine zq1 ?_ _ | refine zq2 ?_ | refine zq3 ?_ _)); refine zq5 ?_ NB251_258.out _; (with_reducible repeat (first | refine zq1 ?_ _ | refine zq2 ?_ | refine zq3 ?_ _)); refine zq5 ?_ NB251_258.out _; (with_reducible repeat (first | refine zq1 ?_ _ | refine zq2 ?_ | refine zq3 ?_ _)); refine zq5 ?_ NB251_258.out _; (with_reducible repeat (first | refine zq1 ?_ _ | refine zq2 ?_ | refine zq3 ?_ _)); refine zq5 ?_ NB251_258.out _; (with_reducible repeat (first | refine zq1 ?_ _ | refine zq2 ?_ | refine zq3 ?_ _)); exact BK251.out) hb); have n5_ := mk_ (zq6 (g := gb258) (o := .cells #[.int .i64 t252, .int .i64 t253, .int .i64 t254, .int .i64 t255, .int .i64 t256] 24 (0, 0)) (by (with_reducible repeat (first | refine zq1 ?_ _ | refine zq2 ?_ | refine zq3 ?_ _)); refine zq4 (cs := #[.int .i64 t252, .int .i64 t253, .int .i64 t254, .int .i64 t255, .int .i64 0]) ?_ 4 _ rfl; (with_reducible repeat (first | refine zq1 ?_ _ | refine zq2 ?_ | refine zq3 ?_ _)); refine zq4 (cs := #[.int .i64 t252, .int .i64 t253, .int .i64 t254, .int .i64 0, .int .i64 0]) ?_ 3 _ rfl; (with_reducible repeat (first | refine zq1 ?_ _ | refine zq2 ?_ | refine zq3 ?_ _)); refine zq4 (cs := #[.int .i64 t252, .int .i64 t253, .int .i64 0, .int .i64 0, .int .i64 0]) ?_ 2 _ rfl; (with_reducible repeat (first | refine zq1 ?_ _ | refine zq2 ?_ | refine zq3 ?_ _)); refine zq4 (cs := #[.int .i64 t252, .int .i64 0, .int .i64 0, .int .i64 0, .int .i64 0]) ?_ 1 _ rfl; (with_reducible repeat (first | refine zq1 ?_ _ | refine zq2 ?_ | refine zq3 ?_ _)); refine zq4 (cs := #[.int .i64 0, .int .i64 0, .int .i64 0, .int .i64 0, .int .i64 0]) ?_ 0 _ rfl; (with_reducible repeat (first | refine zq1 ?_ _ | refine zq2 ?_ | refine zq3 ?_ _)); exact BK258.out) hb); have n6_ := mk_ (zr3 (by repeat (first | (with_reducible first | exact HB.out | apply zq7 | apply zq8 | apply zq9 | refine zr1 ?_ GE229.out | refine zr1 ?_ GE230.out | refine zr1 ?_ GE237.out | refine zr1 ?_ GE244.out | refine zr1 ?_ GE251.out | refine zr1 ?_ GE258.out) | exact HB.out)) hb); clear BK229; clear BK230; clear BK237; clear BK244; clear BK251; clear BK258; clear HB; have BK229 := n0_; have BK230 := n1_; have BK237 := n2_; have BK244 := n3_; have BK251 := n4_; have BK258 := n5_; have HB := n6_; clear n0_ n1_ n2_ n3_ n4_ n5_ n6_; (try clear hb); (try clear hb2); (try clear hk); (try clear hi); obtain ⟨hcz114_0, hcz114_1, hcz114_2, hcz114_3, hcz114_4⟩ := cz5 BK258.out; obtain ⟨hfz114_0, hfz114_1, hfz114_2, hfz114_3, hfz114_4⟩ := fz5 BK258.out; obtain ⟨hcz115_0, hcz115_1, hcz115_2, hcz115_3, hcz115_4⟩ := cz5 BK237.out; obtain ⟨hfz115_0, hfz115_1, hfz115_2, hfz115_3, hfz115_4⟩ := fz5 BK237.out; obtain ⟨hcz116_0, hcz116_1, hcz116_2, hcz116_3, hcz116_4⟩ := cz5 BK229.out; obtain ⟨hfz116_0, hfz116_1, hfz116_2, hfz116_3, hfz116_4⟩ := fz5 BK229.out; have hnb117 := NB230_244.out; have hnc117 := NB244_230.out; have hnb118 := NB230_251.out; have hnc118 := NB251_230.out; obtain ⟨hcz119_0, hcz119_1, hcz119_2, hcz119_3, hcz119_4⟩ := cz5 BK230.out; obtain ⟨hfz119_0, hfz119_1, hfz119_2, hfz119_3, hfz119_4⟩ := fz5 BK230.out))
                        go_ret
                        exact ⟨by first | rfl | (simp [errW_none, errW_some] <;> rfl) | (simp only [← hji88, ← hji90, ← hji92, ← hji94]; first | rfl | (simp [errW_none, errW_some] <;> rfl)) | (simp [*, errW_none, errW_some] <;> rfl), by repeat (first | (with_reducible first | exact HB.out | apply zq7 | apply zq8 | apply zq9 | refine zr1 ?_ GE229.out | refine zr1 ?_ GE230.out | refine zr1 ?_ GE237.out | refine zr1 ?_ GE244.out | refine zr1 ?_ GE251.out | refine zr1 ?_ GE258.out) | exact HB.out)⟩
                      · rw [if_neg c93] at H
                        have c93b0 : (t234 == (ji92)) = false := beq_eq_false_iff_ne.mpr c93
                        have c93b1 : (t234 != (ji92)) = true := bne_iff_ne.mpr c93
                        obtain rfl := Option.some.inj H
                        have hnb120 := NB237_229.out
                        have hnc120 := NB229_237.out
                        have hnb121 := NB237_230.out
                        have hnc121 := NB230_237.out
                        have hnb122 := NB237_244.out
                        have hnc122 := NB244_237.out
                        have hnb123 := NB237_251.out
                        have hnc123 := NB251_237.out
                        have hcz124_0 : wc.cell? ⟨gb237, 0, none⟩ = some (.int .i64 t231) := (zr4 BK237.out 0).trans rfl
                        have hcz124_1 : wc.cell? ⟨gb237, 1, none⟩ = some (.int .i64 t232) := (zr4 BK237.out 1).trans rfl
                        have hcz124_2 : wc.cell? ⟨gb237, 2, none⟩ = some (.int .i64 t233) := (zr4 BK237.out 2).trans rfl
                        have hcz124_3 : wc.cell? ⟨gb237, 3, none⟩ = some (.int .i64 t234) := (zr4 BK237.out 3).trans rfl
                        have hcz124_4 : wc.cell? ⟨gb237, 4, none⟩ = some (.int .i64 t235) := (zr4 BK237.out 4).trans rfl
                        have hfz124_0 := zr5 BK237.out 0
                        have hfz124_1 := zr5 BK237.out 1
                        have hfz124_2 := zr5 BK237.out 2
                        have hfz124_3 := zr5 BK237.out 3
                        have hfz124_4 := zr5 BK237.out 4
                        have hnb125 := NB229_230.out
                        have hnc125 := NB230_229.out
                        have hnb126 := NB229_244.out
                        have hnc126 := NB244_229.out
                        have hnb127 := NB229_251.out
                        have hnc127 := NB251_229.out
                        have hcz128_0 : wc.cell? ⟨gb229, 0, none⟩ = some (.int .i64 t219) := (zr4 BK229.out 0).trans rfl
                        have hcz128_1 : wc.cell? ⟨gb229, 1, none⟩ = some (.int .i64 t220) := (zr4 BK229.out 1).trans rfl
                        have hcz128_2 : wc.cell? ⟨gb229, 2, none⟩ = some (.int .i64 t221) := (zr4 BK229.out 2).trans rfl
                        have hcz128_3 : wc.cell? ⟨gb229, 3, none⟩ = some (.int .i64 t222) := (zr4 BK229.out 3).trans rfl
                        have hcz128_4 : wc.cell? ⟨gb229, 4, none⟩ = some (.int .i64 t223) := (zr4 BK229.out 4).trans rfl
                        have hfz128_0 := zr5 BK229.out 0
                        have hfz128_1 := zr5 BK229.out 1
                        have hfz128_2 := zr5 BK229.out 2
                        have hfz128_3 := zr5 BK229.out 3
                        have hfz128_4 := zr5 BK229.out 4
                        go_wp2_with (first | ((with_reducible refine gate_callee (f := 15) rfl ?_); refine goesL_ (some 85) rfl rfl Try.func15 (by kernel_rfl) rfl #[.agg #[.int .i64 t231, .int .i64 t232, .int .i64 t233, .int .i64 t234, .int .i64 t235], .agg #[.int .i64 t219, .int .i64 t220, .int .i64 t221, .int .i64 t222, .int .i64 t223]] rfl (by (try simp only [List.map_toArray, List.map_cons, List.map_nil]); first | done | rfl | (simp only [List.length_drop, List.length_take]; rfl)) ?_; (with_reducible refine (impl_CfgMeet.calls t231 t232 t233 t234 t235 t219 t220 t221 t222 t223 t252 t253 t254 t255 t256 true _ A83.out).mono ?_); rintro e w129 ⟨rfl, hb⟩; refine ⟨_, rfl, ?_⟩; have n0_ := mk_ (zq6 (by exact BK229.out) hb); have n1_ := mk_ (zq6 (by exact BK230.out) hb); have n2_ := mk_ (zq6 (by exact BK237.out) hb); have n3_ := mk_ (zq6 (by exact BK244.out) hb); have n4_ := mk_ (zq6 (by exact BK251.out) hb); have n5_ := mk_ (zr3 (by repeat (first | (with_reducible first | exact HB.out | apply zq7 | apply zq8 | apply zq9 | refine zr1 ?_ GE229.out | refine zr1 ?_ GE230.out | refine zr1 ?_ GE237.out | refine zr1 ?_ GE244.out | refine zr1 ?_ GE251.out) | exact HB.out)) hb); clear BK229; clear BK230; clear BK237; clear BK244; clear BK251; clear HB; have BK229 := n0_; have BK230 := n1_; have BK237 := n2_; have BK244 := n3_; have BK251 := n4_; have HB := n5_; clear n0_ n1_ n2_ n3_ n4_ n5_; (try clear hb); (try clear hb2); (try clear hk); (try clear hi)) | ((with_reducible refine gate_dst (N := 11) rfl ?_); (try (refine gate_guard (by rfl) ?_; dsimp only)); refine box_event ?hg (N := 11) ?hd (cs := #[.int .i64 0, .int .i64 0, .int .i64 0, .int .i64 0, .int .i64 0]) (t := 24) ?hr ?_; (case hd => rfl); (case hg => rfl); (case hr => first | (go_simp; done) | (go_simp; rfl)); intro gb258 hg w130 hbox hb; have n0_ := mk_ (zq6 (by exact BK229.out) hb); have n1_ := mk_ (zq6 (by exact BK230.out) hb); have n2_ := mk_ (zq6 (by exact BK237.out) hb); have n3_ := mk_ (zq6 (by exact BK244.out) hb); have n4_ := mk_ (zq6 (by exact BK251.out) hb); have n5_ := mk_ (zr3 (by repeat (first | (with_reducible first | exact HB.out | apply zq7 | apply zq8 | apply zq9 | refine zr1 ?_ GE229.out | refine zr1 ?_ GE230.out | refine zr1 ?_ GE237.out | refine zr1 ?_ GE244.out | refine zr1 ?_ GE251.out) | exact HB.out)) hb); have n6_ := mk_ (hbox); have n7_ := mk_ ((by rw [hg]; exact (zr2 (by repeat (first | (with_reducible first | exact HB.out | apply zq7 | apply zq8 | apply zq9 | refine zr1 ?_ GE229.out | refine zr1 ?_ GE230.out | refine zr1 ?_ GE237.out | refine zr1 ?_ GE244.out | refine zr1 ?_ GE251.out) | exact HB.out))) : w.heap.size ≤ gb258)); have n8_ := mk_ ((by rw [hg]; exact (zr2 (by repeat (first | (with_reducible first | exact HB.out | apply zq7 | apply zq8 | apply zq9 | refine zr1 ?_ GE229.out | refine zr1 ?_ GE230.out | refine zr1 ?_ GE237.out | refine zr1 ?_ GE244.out | refine zr1 ?_ GE251.out) | exact HB.out))) : w.heap.size ≤ gb258)); have n9_ := mk_ ((by rw [hg]; exact zm2 (zr6 (by exact BK229.out)) : gb229 ≠ gb258)); have n10_ := mk_ n9_.out.symm; have n11_ := mk_ ((by rw [hg]; exact zm2 (zr6 (by exact BK230.out)) : gb230 ≠ gb258)); have n12_ := mk_ n11_.out.symm; have n13_ := mk_ ((by rw [hg]; exact zm2 (zr6 (by exact BK237.out)) : gb237 ≠ gb258)); have n14_ := mk_ n13_.out.symm; have n15_ := mk_ ((by rw [hg]; exact zm2 (zr6 (by exact BK244.out)) : gb244 ≠ gb258)); have n16_ := mk_ n15_.out.symm; have n17_ := mk_ ((by rw [hg]; exact zm2 (zr6 (by exact BK251.out)) : gb251 ≠ gb258)); have n18_ := mk_ n17_.out.symm; clear BK229; clear BK230; clear BK237; clear BK244; clear BK251; clear HB; have BK229 := n0_; have BK230 := n1_; have BK237 := n2_; have BK244 := n3_; have BK251 := n4_; have HB := n5_; have BK258 := n6_; have GW258 := n7_; have GE258 := n8_; have NB229_258 := n9_; have NB258_229 := n10_; have NB230_258 := n11_; have NB258_230 := n12_; have NB237_258 := n13_; have NB258_237 := n14_; have NB244_258 := n15_; have NB258_244 := n16_; have NB251_258 := n17_; have NB258_251 := n18_; clear n0_ n1_ n2_ n3_ n4_ n5_ n6_ n7_ n8_ n9_ n10_ n11_ n12_ n13_ n14_ n15_ n16_ n17_ n18_; clear hb hbox hg; have hnb131 := NB258_229.out; have hnc131 := NB229_258.out; have hnb132 := NB258_230.out; have hnc132 := NB230_258.out; have hnb133 := NB258_237.out; have hnc133 := NB237_258.out; have hnb134 := NB258_244.out; have hnc134 := NB244_258.out; have hnb135 := NB258_251.out; have hnc135 := NB251_258.out; obtain ⟨hcz136_0, hcz136_1, hcz136_2, hcz136_3, hcz136_4⟩ := cz5 BK258.out; obtain ⟨hfz136_0, hfz136_1, hfz136_2, hfz136_3, hfz136_4⟩ := fz5 BK258.out; obtain ⟨hcz137_0, hcz137_1, hcz137_2, hcz137_3, hcz137_4⟩ := cz5 BK237.out; obtain ⟨hfz137_0, hfz137_1, hfz137_2, hfz137_3, hfz137_4⟩ := fz5 BK237.out) | ((with_reducible refine gate_callee (f := 18) rfl ?_); refine goesL_ (some 89) rfl rfl Try.func18 (by kernel_rfl) rfl #[.agg #[.int .i64 t231, .int .i64 t232, .int .i64 t233, .int .i64 t234, .int .i64 t235]] rfl (by (try simp only [List.map_toArray, List.map_cons, List.map_nil]); first | done | rfl | (simp only [List.length_drop, List.length_take]; rfl)) ?_; (with_reducible refine (impl_CfgOk.calls t231 t232 t233 t234 t235 true _ A84.out).mono ?_); rintro e w138 ⟨rfl, hb⟩; refine ⟨_, rfl, ?_⟩; have n0_ := mk_ (zq6 (g := gb229) (o := .cells #[.int .i64 t219, .int .i64 t220, .int .i64 t221, .int .i64 t222, .int .i64 t223] 24 (0, 0)) (by (with_reducible repeat (first | refine zq1 ?_ _ | refine zq2 ?_ | refine zq3 ?_ _)); refine zq5 ?_ NB229_258.out _; (with_reducible repeat (first | refine zq1 ?_ _ | refine zq2 ?_ | refine zq3 ?_ _)); refine zq5 ?_ NB229_258.out _; (with_reducible repeat (first | refine zq1 ?_ _ | refine zq2 ?_ | refine zq3 ?_ _)); refine zq5 ?_ NB229_258.out _; (with_reducible repeat (first | refine zq1 ?_ _ | refine zq2 ?_ | refine zq3 ?_ _)); refine zq5 ?_ NB229_258.out _; (with_reducible repeat (first | refine zq1 ?_ _ | refine zq2 ?_ | refine zq3 ?_ _)); refine zq5 ?_ NB229_258.out _; (with_reducible repeat (first | refine zq1 ?_ _ | refine zq2 ?_ | refine zq3 ?_ _)); exact BK229.out) hb); have n1_ := mk_ (zq6 (g := gb230) (o := .cells #[.int .i64 t224, .int .i64 t225, .int .i64 t226, .int .i64 t227, .int .i64 t228] 24 (0, 0)) (by (with_reducible repeat (first | refine zq1 ?_ _ | refine zq2 ?_ | refine zq3 ?_ _)); refine zq5 ?_ NB230_258.out _; (with_reducible repeat (first | refine zq1 ?_ _ | refine zq2 ?_ | refine zq3 ?_ _)); refine zq5 ?_ NB230_258.out _; (with_reducible repeat (first | refine zq1 ?_ _ | refine zq2 ?_ | refine zq3 ?_ _)); refine zq5 ?_ NB230_258.out _; (with_reducible repeat (first | refine zq1 ?_ _ | refine zq2 ?_ | refine zq3 ?_ _)); refine zq5 ?_ NB230_258.out _; (with_reducible repeat (first | refine zq1 ?_ _ | refine zq2 ?_ | refine zq3 ?_ _)); refine zq5 ?_ NB230_258.out _; (with_reducible repeat (first | refine zq1 ?_ _ | refine zq2 ?_ | refine zq3 ?_ _)); exact BK230.out) hb); have n2_ := mk_ (zq6 (g := gb237) (o := .cells #[.int .i64 t231, .int .i64 t232, .int .i64 t233, .int .i64 t234, .int .i64 t235] 24 (0, 0)) (by (with_reducible repeat (first | refine zq1 ?_ _ | refine zq2 ?_ | refine zq3 ?_ _)); refine zq5 ?_ NB237_258.out _; (with_reducible repeat (first | refine zq1 ?_ _ | refine zq2 ?_ | refine zq3 ?_ _)); refine zq5 ?_ NB237_258.out _; (with_reducible repeat (first | refine zq1 ?_ _ | refine zq2 ?_ | refine zq3 ?_ _)); refine zq5 ?_ NB237_258.out _; (with_reducible repeat (first | refine zq1 ?_ _ | refine zq2 ?_ | refine zq3 ?_ _)); refine zq5 ?_ NB237_258.out _; (with_reducible repeat (first | refine zq1 ?_ _ | refine zq2 ?_ | refine zq3 ?_ _)); refine zq5 ?_ NB237_258.out _; (with_reducible repeat (first | refine zq1 ?_ _ | refine zq2 ?_ | refine zq3 ?_ _)); exact BK237.out) hb); have n3_ := mk_ (zq6 (g := gb244) (o := .cells #[.int .i64 t238, .int .i64 t239, .int .i64 t240, .int .i64 t241, .int .i64 t242] 24 (0, 0)) (by (with_reducible repeat (first | refine zq1 ?_ _ | refine zq2 ?_ | refine zq3 ?_ _)); refine zq5 ?_ NB244_258.out _; (with_reducible repeat (first | refine zq1 ?_ _ | refine zq2 ?_ | refine zq3 ?_ _)); refine zq5 ?_ NB244_258.out _; (with_reducible repeat (first | refine zq1 ?_ _ | refine zq2 ?_ | refine zq3 ?_ _)); refine zq5 ?_ NB244_258.out _; (with_reducible repeat (first | refine zq1 ?_ _ | refine zq2 ?_ | refine zq3 ?_ _)); refine zq5 ?_ NB244_258.out _; (with_reducible repeat (first | refine zq1 ?_ _ | refine zq2 ?_ | refine zq3 ?_ _)); refine zq5 ?_ NB244_258.out _; (with_reducible repeat (first | refine zq1 ?_ _ | refine zq2 ?_ | refine zq3 ?_ _)); exact BK244.out) hb); have n4_ := mk_ (zq6 (g := gb251) (o := .cells #[.int .i64 t245, .int .i64 t246, .int .i64 t247, .int .i64 t248, .int .i64 t249] 24 (0, 0)) (by (with_reducible repeat (first | refine zq1 ?_ _ | refine zq2 ?_ | refine zq3 ?_ _)); refine zq5 ?_ NB251_258.out _; (with_reducible repeat (first | refine zq1 ?_ _ | refine zq2 ?_ | refine zq3 ?_ _)); refine zq5 ?_ NB251_258.out _; (with_reducible repeat (first | refine zq1 ?_ _ | refine zq2 ?_ | refine zq3 ?_ _)); refine zq5 ?_ NB251_258.out _; (with_reducible repeat (first | refine zq1 ?_ _ | refine zq2 ?_ | refine zq3 ?_ _)); refine zq5 ?_ NB251_258.out _; (with_reducible repeat (first | refine zq1 ?_ _ | refine zq2 ?_ | refine zq3 ?_ _)); refine zq5 ?_ NB251_258.out _; (with_reducible repeat (first | refine zq1 ?_ _ | refine zq2 ?_ | refine zq3 ?_ _)); exact BK251.out) hb); have n5_ := mk_ (zq6 (g := gb258) (o := .cells #[.int .i64 t252, .int .i64 t253, .int .i64 t254, .int .i64 t255, .int .i64 t256] 24 (0, 0)) (by (with_reducible repeat (first | refine zq1 ?_ _ | refine zq2 ?_ | refine zq3 ?_ _)); refine zq4 (cs := #[.int .i64 t252, .int .i64 t253, .int .i64 t254, .int .i64 t255, .int .i64 0]) ?_ 4 _ rfl; (with_reducible repeat (first | refine zq1 ?_ _ | refine zq2 ?_ | refine zq3 ?_ _)); refine zq4 (cs := #[.int .i64 t252, .int .i64 t253, .int .i64 t254, .int .i64 0, .int .i64 0]) ?_ 3 _ rfl; (with_reducible repeat (first | refine zq1 ?_ _ | refine zq2 ?_ | refine zq3 ?_ _)); refine zq4 (cs := #[.int .i64 t252, .int .i64 t253, .int .i64 0, .int .i64 0, .int .i64 0]) ?_ 2 _ rfl; (with_reducible repeat (first | refine zq1 ?_ _ | refine zq2 ?_ | refine zq3 ?_ _)); refine zq4 (cs := #[.int .i64 t252, .int .i64 0, .int .i64 0, .int .i64 0, .int .i64 0]) ?_ 1 _ rfl; (with_reducible repeat (first | refine zq1 ?_ _ | refine zq2 ?_ | refine zq3 ?_ _)); refine zq4 (cs := #[.int .i64 0, .int .i64 0, .int .i64 0, .int .i64 0, .int .i64 0]) ?_ 0 _ rfl; (with_reducible repeat (first | refine zq1 ?_ _ | refine zq2 ?_ | refine zq3 ?_ _)); exact BK258.out) hb); have n6_ := mk_ (zr3 (by repeat (first | (with_reducible first | exact HB.out | apply zq7 | apply zq8 | apply zq9 | refine zr1 ?_ GE229.out | refine zr1 ?_ GE230.out | refine zr1 ?_ GE237.out | refine zr1 ?_ GE244.out | refine zr1 ?_ GE251.out | refine zr1 ?_ GE258.out) | exact HB.out)) hb); clear BK229; clear BK230; clear BK237; clear BK244; clear BK251; clear BK258; clear HB; have BK229 := n0_; have BK230 := n1_; have BK237 := n2_; have BK244 := n3_; have BK251 := n4_; have BK258 := n5_; have HB := n6_; clear n0_ n1_ n2_ n3_ n4_ n5_ n6_; (try clear hb); (try clear hb2); (try clear hk); (try clear hi); obtain ⟨hcz139_0, hcz139_1, hcz139_2, hcz139_3, hcz139_4⟩ := cz5 BK258.out; obtain ⟨hfz139_0, hfz139_1, hfz139_2, hfz139_3, hfz139_4⟩ := fz5 BK258.out; obtain ⟨hcz140_0, hcz140_1, hcz140_2, hcz140_3, hcz140_4⟩ := cz5 BK237.out; obtain ⟨hfz140_0, hfz140_1, hfz140_2, hfz140_3, hfz140_4⟩ := fz5 BK237.out; obtain ⟨hcz141_0, hcz141_1, hcz141_2, hcz141_3, hcz141_4⟩ := cz5 BK229.out; obtain ⟨hfz141_0, hfz141_1, hfz141_2, hfz141_3, hfz141_4⟩ := fz5 BK229.out; have hnb142 := NB230_244.out; have hnc142 := NB244_230.out; have hnb143 := NB230_251.out; have hnc143 := NB251_230.out; obtain ⟨hcz144_0, hcz144_1, hcz144_2, hcz144_3, hcz144_4⟩ := cz5 BK230.out; obtain ⟨hfz144_0, hfz144_1, hfz144_2, hfz144_3, hfz144_4⟩ := fz5 BK230.out))
                        go_ret
                        exact ⟨by first | rfl | (simp [errW_none, errW_some] <;> rfl) | (simp only [← hji88, ← hji90, ← hji92]; first | rfl | (simp [errW_none, errW_some] <;> rfl)) | (simp [*, errW_none, errW_some] <;> rfl), by repeat (first | (with_reducible first | exact HB.out | apply zq7 | apply zq8 | apply zq9 | refine zr1 ?_ GE229.out | refine zr1 ?_ GE230.out | refine zr1 ?_ GE237.out | refine zr1 ?_ GE244.out | refine zr1 ?_ GE251.out | refine zr1 ?_ GE258.out) | exact HB.out)⟩
                    · rw [if_neg c91] at H
                      have c91b0 : (t233 == (ji90)) = false := beq_eq_false_iff_ne.mpr c91
                      have c91b1 : (t233 != (ji90)) = true := bne_iff_ne.mpr c91
                      obtain rfl := Option.some.inj H
                      have hnb145 := NB237_229.out
                      have hnc145 := NB229_237.out
                      have hnb146 := NB237_230.out
                      have hnc146 := NB230_237.out
                      have hnb147 := NB237_244.out
                      have hnc147 := NB244_237.out
                      have hnb148 := NB237_251.out
                      have hnc148 := NB251_237.out
                      have hcz149_0 : wc.cell? ⟨gb237, 0, none⟩ = some (.int .i64 t231) := (zr4 BK237.out 0).trans rfl
                      have hcz149_1 : wc.cell? ⟨gb237, 1, none⟩ = some (.int .i64 t232) := (zr4 BK237.out 1).trans rfl
                      have hcz149_2 : wc.cell? ⟨gb237, 2, none⟩ = some (.int .i64 t233) := (zr4 BK237.out 2).trans rfl
                      have hcz149_3 : wc.cell? ⟨gb237, 3, none⟩ = some (.int .i64 t234) := (zr4 BK237.out 3).trans rfl
                      have hcz149_4 : wc.cell? ⟨gb237, 4, none⟩ = some (.int .i64 t235) := (zr4 BK237.out 4).trans rfl
                      have hfz149_0 := zr5 BK237.out 0
                      have hfz149_1 := zr5 BK237.out 1
                      have hfz149_2 := zr5 BK237.out 2
                      have hfz149_3 := zr5 BK237.out 3
                      have hfz149_4 := zr5 BK237.out 4
                      have hnb150 := NB229_230.out
                      have hnc150 := NB230_229.out
                      have hnb151 := NB229_244.out
                      have hnc151 := NB244_229.out
                      have hnb152 := NB229_251.out
                      have hnc152 := NB251_229.out
                      have hcz153_0 : wc.cell? ⟨gb229, 0, none⟩ = some (.int .i64 t219) := (zr4 BK229.out 0).trans rfl
                      have hcz153_1 : wc.cell? ⟨gb229, 1, none⟩ = some (.int .i64 t220) := (zr4 BK229.out 1).trans rfl
                      have hcz153_2 : wc.cell? ⟨gb229, 2, none⟩ = some (.int .i64 t221) := (zr4 BK229.out 2).trans rfl
                      have hcz153_3 : wc.cell? ⟨gb229, 3, none⟩ = some (.int .i64 t222) := (zr4 BK229.out 3).trans rfl
                      have hcz153_4 : wc.cell? ⟨gb229, 4, none⟩ = some (.int .i64 t223) := (zr4 BK229.out 4).trans rfl
                      have hfz153_0 := zr5 BK229.out 0
                      have hfz153_1 := zr5 BK229.out 1
                      have hfz153_2 := zr5 BK229.out 2
                      have hfz153_3 := zr5 BK229.out 3
                      have hfz153_4 := zr5 BK229.out 4
                      go_wp2_with (first | ((with_reducible refine gate_callee (f := 15) rfl ?_); refine goesL_ (some 85) rfl rfl Try.func15 (by kernel_rfl) rfl #[.agg #[.int .i64 t231, .int .i64 t232, .int .i64 t233, .int .i64 t234, .int .i64 t235], .agg #[.int .i64 t219, .int .i64 t220, .int .i64 t221, .int .i64 t222, .int .i64 t223]] rfl (by (try simp only [List.map_toArray, List.map_cons, List.map_nil]); first | done | rfl | (simp only [List.length_drop, List.length_take]; rfl)) ?_; (with_reducible refine (impl_CfgMeet.calls t231 t232 t233 t234 t235 t219 t220 t221 t222 t223 t252 t253 t254 t255 t256 true _ A83.out).mono ?_); rintro e w154 ⟨rfl, hb⟩; refine ⟨_, rfl, ?_⟩; have n0_ := mk_ (zq6 (by exact BK229.out) hb); have n1_ := mk_ (zq6 (by exact BK230.out) hb); have n2_ := mk_ (zq6 (by exact BK237.out) hb); have n3_ := mk_ (zq6 (by exact BK244.out) hb); have n4_ := mk_ (zq6 (by exact BK251.out) hb); have n5_ := mk_ (zr3 (by repeat (first | (with_reducible first | exact HB.out | apply zq7 | apply zq8 | apply zq9 | refine zr1 ?_ GE229.out | refine zr1 ?_ GE230.out | refine zr1 ?_ GE237.out | refine zr1 ?_ GE244.out | refine zr1 ?_ GE251.out) | exact HB.out)) hb); clear BK229; clear BK230; clear BK237; clear BK244; clear BK251; clear HB; have BK229 := n0_; have BK230 := n1_; have BK237 := n2_; have BK244 := n3_; have BK251 := n4_; have HB := n5_; clear n0_ n1_ n2_ n3_ n4_ n5_; (try clear hb); (try clear hb2); (try clear hk); (try clear hi)) | ((with_reducible refine gate_dst (N := 11) rfl ?_); (try (refine gate_guard (by rfl) ?_; dsimp only)); refine box_event ?hg (N := 11) ?hd (cs := #[.int .i64 0, .int .i64 0, .int .i64 0, .int .i64 0, .int .i64 0]) (t := 24) ?hr ?_; (case hd => rfl); (case hg => rfl); (case hr => first | (go_simp; done) | (go_simp; rfl)); intro gb258 hg w155 hbox hb; have n0_ := mk_ (zq6 (by exact BK229.out) hb); have n1_ := mk_ (zq6 (by exact BK230.out) hb); have n2_ := mk_ (zq6 (by exact BK237.out) hb); have n3_ := mk_ (zq6 (by exact BK244.out) hb); have n4_ := mk_ (zq6 (by exact BK251.out) hb); have n5_ := mk_ (zr3 (by repeat (first | (with_reducible first | exact HB.out | apply zq7 | apply zq8 | apply zq9 | refine zr1 ?_ GE229.out | refine zr1 ?_ GE230.out | refine zr1 ?_ GE237.out | refine zr1 ?_ GE244.out | refine zr1 ?_ GE251.out) | exact HB.out)) hb); have n6_ := mk_ (hbox); have n7_ := mk_ ((by rw [hg]; exact (zr2 (by repeat (first | (with_reducible first | exact HB.out | apply zq7 | apply zq8 | apply zq9 | refine zr1 ?_ GE229.out | refine zr1 ?_ GE230.out | refine zr1 ?_ GE237.out | refine zr1 ?_ GE244.out | refine zr1 ?_ GE251.out) | exact HB.out))) : w.heap.size ≤ gb258)); have n8_ := mk_ ((by rw [hg]; exact (zr2 (by repeat (first | (with_reducible first | exact HB.out | apply zq7 | apply zq8 | apply zq9 | refine zr1 ?_ GE229.out | refine zr1 ?_ GE230.out | refine zr1 ?_ GE237.out | refine zr1 ?_ GE244.out | refine zr1 ?_ GE251.out) | exact HB.out))) : w.heap.size ≤ gb258)); have n9_ := mk_ ((by rw [hg]; exact zm2 (zr6 (by exact BK229.out)) : gb229 ≠ gb258)); have n10_ := mk_ n9_.out.symm; have n11_ := mk_ ((by rw [hg]; exact zm2 (zr6 (by exact BK230.out)) : gb230 ≠ gb258)); have n12_ := mk_ n11_.out.symm; have n13_ := mk_ ((by rw [hg]; exact zm2 (zr6 (by exact BK237.out)) : gb237 ≠ gb258)); have n14_ := mk_ n13_.out.symm; have n15_ := mk_ ((by rw [hg]; exact zm2 (zr6 (by exact BK244.out)) : gb244 ≠ gb258)); have n16_ := mk_ n15_.out.symm; have n17_ := mk_ ((by rw [hg]; exact zm2 (zr6 (by exact BK251.out)) : gb251 ≠ gb258)); have n18_ := mk_ n17_.out.symm; clear BK229; clear BK230; clear BK237; clear BK244; clear BK251; clear HB; have BK229 := n0_; have BK230 := n1_; have BK237 := n2_; have BK244 := n3_; have BK251 := n4_; have HB := n5_; have BK258 := n6_; have GW258 := n7_; have GE258 := n8_; have NB229_258 := n9_; have NB258_229 := n10_; have NB230_258 := n11_; have NB258_230 := n12_; have NB237_258 := n13_; have NB258_237 := n14_; have NB244_258 := n15_; have NB258_244 := n16_; have NB251_258 := n17_; have NB258_251 := n18_; clear n0_ n1_ n2_ n3_ n4_ n5_ n6_ n7_ n8_ n9_ n10_ n11_ n12_ n13_ n14_ n15_ n16_ n17_ n18_; clear hb hbox hg; have hnb156 := NB258_229.out; have hnc156 := NB229_258.out; have hnb157 := NB258_230.out; have hnc157 := NB230_258.out; have hnb158 := NB258_237.out; have hnc158 := NB237_258.out; have hnb159 := NB258_244.out; have hnc159 := NB244_258.out; have hnb160 := NB258_251.out; have hnc160 := NB251_258.out; obtain ⟨hcz161_0, hcz161_1, hcz161_2, hcz161_3, hcz161_4⟩ := cz5 BK258.out; obtain ⟨hfz161_0, hfz161_1, hfz161_2, hfz161_3, hfz161_4⟩ := fz5 BK258.out; obtain ⟨hcz162_0, hcz162_1, hcz162_2, hcz162_3, hcz162_4⟩ := cz5 BK237.out; obtain ⟨hfz162_0, hfz162_1, hfz162_2, hfz162_3, hfz162_4⟩ := fz5 BK237.out) | ((with_reducible refine gate_callee (f := 18) rfl ?_); refine goesL_ (some 89) rfl rfl Try.func18 (by kernel_rfl) rfl #[.agg #[.int .i64 t231, .int .i64 t232, .int .i64 t233, .int .i64 t234, .int .i64 t235]] rfl (by (try simp only [List.map_toArray, List.map_cons, List.map_nil]); first | done | rfl | (simp only [List.length_drop, List.length_take]; rfl)) ?_; (with_reducible refine (impl_CfgOk.calls t231 t232 t233 t234 t235 true _ A84.out).mono ?_); rintro e w163 ⟨rfl, hb⟩; refine ⟨_, rfl, ?_⟩; have n0_ := mk_ (zq6 (g := gb229) (o := .cells #[.int .i64 t219, .int .i64 t220, .int .i64 t221, .int .i64 t222, .int .i64 t223] 24 (0, 0)) (by (with_reducible repeat (first | refine zq1 ?_ _ | refine zq2 ?_ | refine zq3 ?_ _)); refine zq5 ?_ NB229_258.out _; (with_reducible repeat (first | refine zq1 ?_ _ | refine zq2 ?_ | refine zq3 ?_ _)); refine zq5 ?_ NB229_258.out _; (with_reducible repeat (first | refine zq1 ?_ _ | refine zq2 ?_ | refine zq3 ?_ _)); refine zq5 ?_ NB229_258.out _; (with_reducible repeat (first | refine zq1 ?_ _ | refine zq2 ?_ | refine zq3 ?_ _)); refine zq5 ?_ NB229_258.out _; (with_reducible repeat (first | refine zq1 ?_ _ | refine zq2 ?_ | refine zq3 ?_ _)); refine zq5 ?_ NB229_258.out _; (with_reducible repeat (first | refine zq1 ?_ _ | refine zq2 ?_ | refine zq3 ?_ _)); exact BK229.out) hb); have n1_ := mk_ (zq6 (g := gb230) (o := .cells #[.int .i64 t224, .int .i64 t225, .int .i64 t226, .int .i64 t227, .int .i64 t228] 24 (0, 0)) (by (with_reducible repeat (first | refine zq1 ?_ _ | refine zq2 ?_ | refine zq3 ?_ _)); refine zq5 ?_ NB230_258.out _; (with_reducible repeat (first | refine zq1 ?_ _ | refine zq2 ?_ | refine zq3 ?_ _)); refine zq5 ?_ NB230_258.out _; (with_reducible repeat (first | refine zq1 ?_ _ | refine zq2 ?_ | refine zq3 ?_ _)); refine zq5 ?_ NB230_258.out _; (with_reducible repeat (first | refine zq1 ?_ _ | refine zq2 ?_ | refine zq3 ?_ _)); refine zq5 ?_ NB230_258.out _; (with_reducible repeat (first | refine zq1 ?_ _ | refine zq2 ?_ | refine zq3 ?_ _)); refine zq5 ?_ NB230_258.out _; (with_reducible repeat (first | refine zq1 ?_ _ | refine zq2 ?_ | refine zq3 ?_ _)); exact BK230.out) hb); have n2_ := mk_ (zq6 (g := gb237) (o := .cells #[.int .i64 t231, .int .i64 t232, .int .i64 t233, .int .i64 t234, .int .i64 t235] 24 (0, 0)) (by (with_reducible repeat (first | refine zq1 ?_ _ | refine zq2 ?_ | refine zq3 ?_ _)); refine zq5 ?_ NB237_258.out _; (with_reducible repeat (first | refine zq1 ?_ _ | refine zq2 ?_ | refine zq3 ?_ _)); refine zq5 ?_ NB237_258.out _; (with_reducible repeat (first | refine zq1 ?_ _ | refine zq2 ?_ | refine zq3 ?_ _)); refine zq5 ?_ NB237_258.out _; (with_reducible repeat (first | refine zq1 ?_ _ | refine zq2 ?_ | refine zq3 ?_ _)); refine zq5 ?_ NB237_258.out _; (with_reducible repeat (first | refine zq1 ?_ _ | refine zq2 ?_ | refine zq3 ?_ _)); refine zq5 ?_ NB237_258.out _; (with_reducible repeat (first | refine zq1 ?_ _ | refine zq2 ?_ | refine zq3 ?_ _)); exact BK237.out) hb); have n3_ := mk_ (zq6 (g := gb244) (o := .cells #[.int .i64 t238, .int .i64 t239, .int .i64 t240, .int .i64 t241, .int .i64 t242] 24 (0, 0)) (by (with_reducible repeat (first | refine zq1 ?_ _ | refine zq2 ?_ | refine zq3 ?_ _)); refine zq5 ?_ NB244_258.out _; (with_reducible repeat (first | refine zq1 ?_ _ | refine zq2 ?_ | refine zq3 ?_ _)); refine zq5 ?_ NB244_258.out _; (with_reducible repeat (first | refine zq1 ?_ _ | refine zq2 ?_ | refine zq3 ?_ _)); refine zq5 ?_ NB244_258.out _; (with_reducible repeat (first | refine zq1 ?_ _ | refine zq2 ?_ | refine zq3 ?_ _)); refine zq5 ?_ NB244_258.out _; (with_reducible repeat (first | refine zq1 ?_ _ | refine zq2 ?_ | refine zq3 ?_ _)); refine zq5 ?_ NB244_258.out _; (with_reducible repeat (first | refine zq1 ?_ _ | refine zq2 ?_ | refine zq3 ?_ _)); exact BK244.out) hb); have n4_ := mk_ (zq6 (g := gb251) (o := .cells #[.int .i64 t245, .int .i64 t246, .int .i64 t247, .int .i64 t248, .int .i64 t249] 24 (0, 0)) (by (with_reducible repeat (first | refine zq1 ?_ _ | refine zq2 ?_ | refine zq3 ?_ _)); refine zq5 ?_ NB251_258.out _; (with_reducible repeat (first | refine zq1 ?_ _ | refine zq2 ?_ | refine zq3 ?_ _)); refine zq5 ?_ NB251_258.out _; (with_reducible repeat (first | refine zq1 ?_ _ | refine zq2 ?_ | refine zq3 ?_ _)); refine zq5 ?_ NB251_258.out _; (with_reducible repeat (first | refine zq1 ?_ _ | refine zq2 ?_ | refine zq3 ?_ _)); refine zq5 ?_ NB251_258.out _; (with_reducible repeat (first | refine zq1 ?_ _ | refine zq2 ?_ | refine zq3 ?_ _)); refine zq5 ?_ NB251_258.out _; (with_reducible repeat (first | refine zq1 ?_ _ | refine zq2 ?_ | refine zq3 ?_ _)); exact BK251.out) hb); have n5_ := mk_ (zq6 (g := gb258) (o := .cells #[.int .i64 t252, .int .i64 t253, .int .i64 t254, .int .i64 t255, .int .i64 t256] 24 (0, 0)) (by (with_reducible repeat (first | refine zq1 ?_ _ | refine zq2 ?_ | refine zq3 ?_ _)); refine zq4 (cs := #[.int .i64 t252, .int .i64 t253, .int .i64 t254, .int .i64 t255, .int .i64 0]) ?_ 4 _ rfl; (with_reducible repeat (first | refine zq1 ?_ _ | refine zq2 ?_ | refine zq3 ?_ _)); refine zq4 (cs := #[.int .i64 t252, .int .i64 t253, .int .i64 t254, .int .i64 0, .int .i64 0]) ?_ 3 _ rfl; (with_reducible repeat (first | refine zq1 ?_ _ | refine zq2 ?_ | refine zq3 ?_ _)); refine zq4 (cs := #[.int .i64 t252, .int .i64 t253, .int .i64 0, .int .i64 0, .int .i64 0]) ?_ 2 _ rfl; (with_reducible repeat (first | refine zq1 ?_ _ | refine zq2 ?_ | refine zq3 ?_ _)); refine zq4 (cs := #[.int .i64 t252, .int .i64 0, .int .i64 0, .int .i64 0, .int .i64 0]) ?_ 1 _ rfl; (with_reducible repeat (first | refine zq1 ?_ _ | refine zq2 ?_ | refine zq3 ?_ _)); refine zq4 (cs := #[.int .i64 0, .int .i64 0, .int .i64 0, .int .i64 0, .int .i64 0]) ?_ 0 _ rfl; (with_reducible repeat (first | refine zq1 ?_ _ | refine zq2 ?_ | refine zq3 ?_ _)); exact BK258.out) hb); have n6_ := mk_ (zr3 (by repeat (first | (with_reducible first | exact HB.out | apply zq7 | apply zq8 | apply zq9 | refine zr1 ?_ GE229.out | refine zr1 ?_ GE230.out | refine zr1 ?_ GE237.out | refine zr1 ?_ GE244.out | refine zr1 ?_ GE251.out | refine zr1 ?_ GE258.out) | exact HB.out)) hb); clear BK229; clear BK230; clear BK237; clear BK244; clear BK251; clear BK258; clear HB; have BK229 := n0_; have BK230 := n1_; have BK237 := n2_; have BK244 := n3_; have BK251 := n4_; have BK258 := n5_; have HB := n6_; clear n0_ n1_ n2_ n3_ n4_ n5_ n6_; (try clear hb); (try clear hb2); (try clear hk); (try clear hi); obtain ⟨hcz164_0, hcz164_1, hcz164_2, hcz164_3, hcz164_4⟩ := cz5 BK258.out; obtain ⟨hfz164_0, hfz164_1, hfz164_2, hfz164_3, hfz164_4⟩ := fz5 BK258.out; obtain ⟨hcz165_0, hcz165_1, hcz165_2, hcz165_3, hcz165_4⟩ := cz5 BK237.out; obtain ⟨hfz165_0, hfz165_1, hfz165_2, hfz165_3, hfz165_4⟩ := fz5 BK237.out; obtain ⟨hcz166_0, hcz166_1, hcz166_2, hcz166_3, hcz166_4⟩ := cz5 BK229.out; obtain ⟨hfz166_0, hfz166_1, hfz166_2, hfz166_3, hfz166_4⟩ := fz5 BK229.out; have hnb167 := NB230_244.out; have hnc167 := NB244_230.out; have hnb168 := NB230_251.out; have hnc168 := NB251_230.out; obtain ⟨hcz169_0, hcz169_1, hcz169_2, hcz169_3, hcz169_4⟩ := cz5 BK230.out; obtain ⟨hfz169_0, hfz169_1, hfz169_2, hfz169_3, hfz169_4⟩ := fz5 BK230.out))
                      go_ret
                      exact ⟨by first | rfl | (simp [errW_none, errW_some] <;> rfl) | (simp only [← hji88, ← hji90]; first | rfl | (simp [errW_none, errW_some] <;> rfl)) | (simp [*, errW_none, errW_some] <;> rfl), by repeat (first | (with_reducible first | exact HB.out | apply zq7 | apply zq8 | apply zq9 | refine zr1 ?_ GE229.out | refine zr1 ?_ GE230.out | refine zr1 ?_ GE237.out | refine zr1 ?_ GE244.out | refine zr1 ?_ GE251.out | refine zr1 ?_ GE258.out) | exact HB.out)⟩
                  · rw [if_neg c89] at H
                    have c89b0 : (t232 == (ji88)) = false := beq_eq_false_iff_ne.mpr c89
                    have c89b1 : (t232 != (ji88)) = true := bne_iff_ne.mpr c89
                    obtain rfl := Option.some.inj H
                    have hnb170 := NB237_229.out
                    have hnc170 := NB229_237.out
                    have hnb171 := NB237_230.out
                    have hnc171 := NB230_237.out
                    have hnb172 := NB237_244.out
                    have hnc172 := NB244_237.out
                    have hnb173 := NB237_251.out
                    have hnc173 := NB251_237.out
                    have hcz174_0 : wc.cell? ⟨gb237, 0, none⟩ = some (.int .i64 t231) := (zr4 BK237.out 0).trans rfl
                    have hcz174_1 : wc.cell? ⟨gb237, 1, none⟩ = some (.int .i64 t232) := (zr4 BK237.out 1).trans rfl
                    have hcz174_2 : wc.cell? ⟨gb237, 2, none⟩ = some (.int .i64 t233) := (zr4 BK237.out 2).trans rfl
                    have hcz174_3 : wc.cell? ⟨gb237, 3, none⟩ = some (.int .i64 t234) := (zr4 BK237.out 3).trans rfl
                    have hcz174_4 : wc.cell? ⟨gb237, 4, none⟩ = some (.int .i64 t235) := (zr4 BK237.out 4).trans rfl
                    have hfz174_0 := zr5 BK237.out 0
                    have hfz174_1 := zr5 BK237.out 1
                    have hfz174_2 := zr5 BK237.out 2
                    have hfz174_3 := zr5 BK237.out 3
                    have hfz174_4 := zr5 BK237.out 4
                    have hnb175 := NB229_230.out
                    have hnc175 := NB230_229.out
                    have hnb176 := NB229_244.out
                    have hnc176 := NB244_229.out
                    have hnb177 := NB229_251.out
                    have hnc177 := NB251_229.out
                    have hcz178_0 : wc.cell? ⟨gb229, 0, none⟩ = some (.int .i64 t219) := (zr4 BK229.out 0).trans rfl
                    have hcz178_1 : wc.cell? ⟨gb229, 1, none⟩ = some (.int .i64 t220) := (zr4 BK229.out 1).trans rfl
                    have hcz178_2 : wc.cell? ⟨gb229, 2, none⟩ = some (.int .i64 t221) := (zr4 BK229.out 2).trans rfl
                    have hcz178_3 : wc.cell? ⟨gb229, 3, none⟩ = some (.int .i64 t222) := (zr4 BK229.out 3).trans rfl
                    have hcz178_4 : wc.cell? ⟨gb229, 4, none⟩ = some (.int .i64 t223) := (zr4 BK229.out 4).trans rfl
                    have hfz178_0 := zr5 BK229.out 0
                    have hfz178_1 := zr5 BK229.out 1
                    have hfz178_2 := zr5 BK229.out 2
                    have hfz178_3 := zr5 BK229.out 3
                    have hfz178_4 := zr5 BK229.out 4
                    go_wp2_with (first | ((with_reducible refine gate_callee (f := 15) rfl ?_); refine goesL_ (some 85) rfl rfl Try.func15 (by kernel_rfl) rfl #[.agg #[.int .i64 t231, .int .i64 t232, .int .i64 t233, .int .i64 t234, .int .i64 t235], .agg #[.int .i64 t219, .int .i64 t220, .int .i64 t221, .int .i64 t222, .int .i64 t223]] rfl (by (try simp only [List.map_toArray, List.map_cons, List.map_nil]); first | done | rfl | (simp only [List.length_drop, List.length_take]; rfl)) ?_; (with_reducible refine (impl_CfgMeet.calls t231 t232 t233 t234 t235 t219 t220 t221 t222 t223 t252 t253 t254 t255 t256 true _ A83.out).mono ?_); rintro e w179 ⟨rfl, hb⟩; refine ⟨_, rfl, ?_⟩; have n0_ := mk_ (zq6 (by exact BK229.out) hb); have n1_ := mk_ (zq6 (by exact BK230.out) hb); have n2_ := mk_ (zq6 (by exact BK237.out) hb); have n3_ := mk_ (zq6 (by exact BK244.out) hb); have n4_ := mk_ (zq6 (by exact BK251.out) hb); have n5_ := mk_ (zr3 (by repeat (first | (with_reducible first | exact HB.out | apply zq7 | apply zq8 | apply zq9 | refine zr1 ?_ GE229.out | refine zr1 ?_ GE230.out | refine zr1 ?_ GE237.out | refine zr1 ?_ GE244.out | refine zr1 ?_ GE251.out) | exact HB.out)) hb); clear BK229; clear BK230; clear BK237; clear BK244; clear BK251; clear HB; have BK229 := n0_; have BK230 := n1_; have BK237 := n2_; have BK244 := n3_; have BK251 := n4_; have HB := n5_; clear n0_ n1_ n2_ n3_ n4_ n5_; (try clear hb); (try clear hb2); (try clear hk); (try clear hi)) | ((with_reducible refine gate_dst (N := 11) rfl ?_); (try (refine gate_guard (by rfl) ?_; dsimp only)); refine box_event ?hg (N := 11) ?hd (cs := #[.int .i64 0, .int .i64 0, .int .i64 0, .int .i64 0, .int .i64 0]) (t := 24) ?hr ?_; (case hd => rfl); (case hg => rfl); (case hr => first | (go_simp; done) | (go_simp; rfl)); intro gb258 hg w180 hbox hb; have n0_ := mk_ (zq6 (by exact BK229.out) hb); have n1_ := mk_ (zq6 (by exact BK230.out) hb); have n2_ := mk_ (zq6 (by exact BK237.out) hb); have n3_ := mk_ (zq6 (by exact BK244.out) hb); have n4_ := mk_ (zq6 (by exact BK251.out) hb); have n5_ := mk_ (zr3 (by repeat (first | (with_reducible first | exact HB.out | apply zq7 | apply zq8 | apply zq9 | refine zr1 ?_ GE229.out | refine zr1 ?_ GE230.out | refine zr1 ?_ GE237.out | refine zr1 ?_ GE244.out | refine zr1 ?_ GE251.out) | exact HB.out)) hb); have n6_ := mk_ (hbox); have n7_ := mk_ ((by rw [hg]; exact (zr2 (by repeat (first | (with_reducible first | exact HB.out | apply zq7 | apply zq8 | apply zq9 | refine zr1 ?_ GE229.out | refine zr1 ?_ GE230.out | refine zr1 ?_ GE237.out | refine zr1 ?_ GE244.out | refine zr1 ?_ GE251.out) | exact HB.out))) : w.heap.size ≤ gb258)); have n8_ := mk_ ((by rw [hg]; exact (zr2 (by repeat (first | (with_reducible first | exact HB.out | apply zq7 | apply zq8 | apply zq9 | refine zr1 ?_ GE229.out | refine zr1 ?_ GE230.out | refine zr1 ?_ GE237.out | refine zr1 ?_ GE244.out | refine zr1 ?_ GE251.out) | exact HB.out))) : w.heap.size ≤ gb258)); have n9_ := mk_ ((by rw [hg]; exact zm2 (zr6 (by exact BK229.out)) : gb229 ≠ gb258)); have n10_ := mk_ n9_.out.symm; have n11_ := mk_ ((by rw [hg]; exact zm2 (zr6 (by exact BK230.out)) : gb230 ≠ gb258)); have n12_ := mk_ n11_.out.symm; have n13_ := mk_ ((by rw [hg]; exact zm2 (zr6 (by exact BK237.out)) : gb237 ≠ gb258)); have n14_ := mk_ n13_.out.symm; have n15_ := mk_ ((by rw [hg]; exact zm2 (zr6 (by exact BK244.out)) : gb244 ≠ gb258)); have n16_ := mk_ n15_.out.symm; have n17_ := mk_ ((by rw [hg]; exact zm2 (zr6 (by exact BK251.out)) : gb251 ≠ gb258)); have n18_ := mk_ n17_.out.symm; clear BK229; clear BK230; clear BK237; clear BK244; clear BK251; clear HB; have BK229 := n0_; have BK230 := n1_; have BK237 := n2_; have BK244 := n3_; have BK251 := n4_; have HB := n5_; have BK258 := n6_; have GW258 := n7_; have GE258 := n8_; have NB229_258 := n9_; have NB258_229 := n10_; have NB230_258 := n11_; have NB258_230 := n12_; have NB237_258 := n13_; have NB258_237 := n14_; have NB244_258 := n15_; have NB258_244 := n16_; have NB251_258 := n17_; have NB258_251 := n18_; clear n0_ n1_ n2_ n3_ n4_ n5_ n6_ n7_ n8_ n9_ n10_ n11_ n12_ n13_ n14_ n15_ n16_ n17_ n18_; clear hb hbox hg; have hnb181 := NB258_229.out; have hnc181 := NB229_258.out; have hnb182 := NB258_230.out; have hnc182 := NB230_258.out; have hnb183 := NB258_237.out; have hnc183 := NB237_258.out; have hnb184 := NB258_244.out; have hnc184 := NB244_258.out; have hnb185 := NB258_251.out; have hnc185 := NB251_258.out; obtain ⟨hcz186_0, hcz186_1, hcz186_2, hcz186_3, hcz186_4⟩ := cz5 BK258.out; obtain ⟨hfz186_0, hfz186_1, hfz186_2, hfz186_3, hfz186_4⟩ := fz5 BK258.out; obtain ⟨hcz187_0, hcz187_1, hcz187_2, hcz187_3, hcz187_4⟩ := cz5 BK237.out; obtain ⟨hfz187_0, hfz187_1, hfz187_2, hfz187_3, hfz187_4⟩ := fz5 BK237.out) | ((with_reducible refine gate_callee (f := 18) rfl ?_); refine goesL_ (some 89) rfl rfl Try.func18 (by kernel_rfl) rfl #[.agg #[.int .i64 t231, .int .i64 t232, .int .i64 t233, .int .i64 t234, .int .i64 t235]] rfl (by (try simp only [List.map_toArray, List.map_cons, List.map_nil]); first | done | rfl | (simp only [List.length_drop, List.length_take]; rfl)) ?_; (with_reducible refine (impl_CfgOk.calls t231 t232 t233 t234 t235 true _ A84.out).mono ?_); rintro e w188 ⟨rfl, hb⟩; refine ⟨_, rfl, ?_⟩; have n0_ := mk_ (zq6 (g := gb229) (o := .cells #[.int .i64 t219, .int .i64 t220, .int .i64 t221, .int .i64 t222, .int .i64 t223] 24 (0, 0)) (by (with_reducible repeat (first | refine zq1 ?_ _ | refine zq2 ?_ | refine zq3 ?_ _)); refine zq5 ?_ NB229_258.out _; (with_reducible repeat (first | refine zq1 ?_ _ | refine zq2 ?_ | refine zq3 ?_ _)); refine zq5 ?_ NB229_258.out _; (with_reducible repeat (first | refine zq1 ?_ _ | refine zq2 ?_ | refine zq3 ?_ _)); refine zq5 ?_ NB229_258.out _; (with_reducible repeat (first | refine zq1 ?_ _ | refine zq2 ?_ | refine zq3 ?_ _)); refine zq5 ?_ NB229_258.out _; (with_reducible repeat (first | refine zq1 ?_ _ | refine zq2 ?_ | refine zq3 ?_ _)); refine zq5 ?_ NB229_258.out _; (with_reducible repeat (first | refine zq1 ?_ _ | refine zq2 ?_ | refine zq3 ?_ _)); exact BK229.out) hb); have n1_ := mk_ (zq6 (g := gb230) (o := .cells #[.int .i64 t224, .int .i64 t225, .int .i64 t226, .int .i64 t227, .int .i64 t228] 24 (0, 0)) (by (with_reducible repeat (first | refine zq1 ?_ _ | refine zq2 ?_ | refine zq3 ?_ _)); refine zq5 ?_ NB230_258.out _; (with_reducible repeat (first | refine zq1 ?_ _ | refine zq2 ?_ | refine zq3 ?_ _)); refine zq5 ?_ NB230_258.out _; (with_reducible repeat (first | refine zq1 ?_ _ | refine zq2 ?_ | refine zq3 ?_ _)); refine zq5 ?_ NB230_258.out _; (with_reducible repeat (first | refine zq1 ?_ _ | refine zq2 ?_ | refine zq3 ?_ _)); refine zq5 ?_ NB230_258.out _; (with_reducible repeat (first | refine zq1 ?_ _ | refine zq2 ?_ | refine zq3 ?_ _)); refine zq5 ?_ NB230_258.out _; (with_reducible repeat (first | refine zq1 ?_ _ | refine zq2 ?_ | refine zq3 ?_ _)); exact BK230.out) hb); have n2_ := mk_ (zq6 (g := gb237) (o := .cells #[.int .i64 t231, .int .i64 t232, .int .i64 t233, .int .i64 t234, .int .i64 t235] 24 (0, 0)) (by (with_reducible repeat (first | refine zq1 ?_ _ | refine zq2 ?_ | refine zq3 ?_ _)); refine zq5 ?_ NB237_258.out _; (with_reducible repeat (first | refine zq1 ?_ _ | refine zq2 ?_ | refine zq3 ?_ _)); refine zq5 ?_ NB237_258.out _; (with_reducible repeat (first | refine zq1 ?_ _ | refine zq2 ?_ | refine zq3 ?_ _)); refine zq5 ?_ NB237_258.out _; (with_reducible repeat (first | refine zq1 ?_ _ | refine zq2 ?_ | refine zq3 ?_ _)); refine zq5 ?_ NB237_258.out _; (with_reducible repeat (first | refine zq1 ?_ _ | refine zq2 ?_ | refine zq3 ?_ _)); refine zq5 ?_ NB237_258.out _; (with_reducible repeat (first | refine zq1 ?_ _ | refine zq2 ?_ | refine zq3 ?_ _)); exact BK237.out) hb); have n3_ := mk_ (zq6 (g := gb244) (o := .cells #[.int .i64 t238, .int .i64 t239, .int .i64 t240, .int .i64 t241, .int .i64 t242] 24 (0, 0)) (by (with_reducible repeat (first | refine zq1 ?_ _ | refine zq2 ?_ | refine zq3 ?_ _)); refine zq5 ?_ NB244_258.out _; (with_reducible repeat (first | refine zq1 ?_ _ | refine zq2 ?_ | refine zq3 ?_ _)); refine zq5 ?_ NB244_258.out _; (with_reducible repeat (first | refine zq1 ?_ _ | refine zq2 ?_ | refine zq3 ?_ _)); refine zq5 ?_ NB244_258.out _; (with_reducible repeat (first | refine zq1 ?_ _ | refine zq2 ?_ | refine zq3 ?_ _)); refine zq5 ?_ NB244_258.out _; (with_reducible repeat (first | refine zq1 ?_ _ | refine zq2 ?_ | refine zq3 ?_ _)); refine zq5 ?_ NB244_258.out _; (with_reducible repeat (first | refine zq1 ?_ _ | refine zq2 ?_ | refine zq3 ?_ _)); exact BK244.out) hb); have n4_ := mk_ (zq6 (g := gb251) (o := .cells #[.int .i64 t245, .int .i64 t246, .int .i64 t247, .int .i64 t248, .int .i64 t249] 24 (0, 0)) (by (with_reducible repeat (first | refine zq1 ?_ _ | refine zq2 ?_ | refine zq3 ?_ _)); refine zq5 ?_ NB251_258.out _; (with_reducible repeat (first | refine zq1 ?_ _ | refine zq2 ?_ | refine zq3 ?_ _)); refine zq5 ?_ NB251_258.out _; (with_reducible repeat (first | refine zq1 ?_ _ | refine zq2 ?_ | refine zq3 ?_ _)); refine zq5 ?_ NB251_258.out _; (with_reducible repeat (first | refine zq1 ?_ _ | refine zq2 ?_ | refine zq3 ?_ _)); refine zq5 ?_ NB251_258.out _; (with_reducible repeat (first | refine zq1 ?_ _ | refine zq2 ?_ | refine zq3 ?_ _)); refine zq5 ?_ NB251_258.out _; (with_reducible repeat (first | refine zq1 ?_ _ | refine zq2 ?_ | refine zq3 ?_ _)); exact BK251.out) hb); have n5_ := mk_ (zq6 (g := gb258) (o := .cells #[.int .i64 t252, .int .i64 t253, .int .i64 t254, .int .i64 t255, .int .i64 t256] 24 (0, 0)) (by (with_reducible repeat (first | refine zq1 ?_ _ | refine zq2 ?_ | refine zq3 ?_ _)); refine zq4 (cs := #[.int .i64 t252, .int .i64 t253, .int .i64 t254, .int .i64 t255, .int .i64 0]) ?_ 4 _ rfl; (with_reducible repeat (first | refine zq1 ?_ _ | refine zq2 ?_ | refine zq3 ?_ _)); refine zq4 (cs := #[.int .i64 t252, .int .i64 t253, .int .i64 t254, .int .i64 0, .int .i64 0]) ?_ 3 _ rfl; (with_reducible repeat (first | refine zq1 ?_ _ | refine zq2 ?_ | refine zq3 ?_ _)); refine zq4 (cs := #[.int .i64 t252, .int .i64 t253, .int .i64 0, .int .i64 0, .int .i64 0]) ?_ 2 _ rfl; (with_reducible repeat (first | refine zq1 ?_ _ | refine zq2 ?_ | refine zq3 ?_ _)); refine zq4 (cs := #[.int .i64 t252, .int .i64 0, .int .i64 0, .int .i64 0, .int .i64 0]) ?_ 1 _ rfl; (with_reducible repeat (first | refine zq1 ?_ _ | refine zq2 ?_ | refine zq3 ?_ _)); refine zq4 (cs := #[.int .i64 0, .int .i64 0, .int .i64 0, .int .i64 0, .int .i64 0]) ?_ 0 _ rfl; (with_reducible repeat (first | refine zq1 ?_ _ | refine zq2 ?_ | refine zq3 ?_ _)); exact BK258.out) hb); have n6_ := mk_ (zr3 (by repeat (first | (with_reducible first | exact HB.out | apply zq7 | apply zq8 | apply zq9 | refine zr1 ?_ GE229.out | refine zr1 ?_ GE230.out | refine zr1 ?_ GE237.out | refine zr1 ?_ GE244.out | refine zr1 ?_ GE251.out | refine zr1 ?_ GE258.out) | exact HB.out)) hb); clear BK229; clear BK230; clear BK237; clear BK244; clear BK251; clear BK258; clear HB; have BK229 := n0_; have BK230 := n1_; have BK237 := n2_; have BK244 := n3_; have BK251 := n4_; have BK258 := n5_; have HB := n6_; clear n0_ n1_ n2_ n3_ n4_ n5_ n6_; (try clear hb); (try clear hb2); (try clear hk); (try clear hi); obtain ⟨hcz189_0, hcz189_1, hcz189_2, hcz189_3, hcz189_4⟩ := cz5 BK258.out; obtain ⟨hfz189_0, hfz189_1, hfz189_2, hfz189_3, hfz189_4⟩ := fz5 BK258.out; obtain ⟨hcz190_0, hcz190_1, hcz190_2, hcz190_3, hcz190_4⟩ := cz5 BK237.out; obtain ⟨hfz190_0, hfz190_1, hfz190_2, hfz190_3, hfz190_4⟩ := fz5 BK237.out; obtain ⟨hcz191_0, hcz191_1, hcz191_2, hcz191_3, hcz191_4⟩ := cz5 BK229.out; obtain ⟨hfz191_0, hfz191_1, hfz191_2, hfz191_3, hfz191_4⟩ := fz5 BK229.out; have hnb192 := NB230_244.out; have hnc192 := NB244_230.out; have hnb193 := NB230_251.out; have hnc193 := NB251_230.out; obtain ⟨hcz194_0, hcz194_1, hcz194_2, hcz194_3, hcz194_4⟩ := cz5 BK230.out; obtain ⟨hfz194_0, hfz194_1, hfz194_2, hfz194_3, hfz194_4⟩ := fz5 BK230.out))
                    go_ret
                    exact ⟨by first | rfl | (simp [errW_none, errW_some] <;> rfl) | (simp only [← hji88]; first | rfl | (simp [errW_none, errW_some] <;> rfl)) | (simp [*, errW_none, errW_some] <;> rfl), by repeat (first | (with_reducible first | exact HB.out | apply zq7 | apply zq8 | apply zq9 | refine zr1 ?_ GE229.out | refine zr1 ?_ GE230.out | refine zr1 ?_ GE237.out | refine zr1 ?_ GE244.out | refine zr1 ?_ GE251.out | refine zr1 ?_ GE258.out) | exact HB.out)⟩
                · rw [if_neg c87] at H
                  have c87b0 : (t252 == t231 && (t253 == t232 && (t254 == t233 && (t255 == t234 && (t256 == t235))))) = false := by simpa using c87
                  (try (have c87b1 : decide (t252 = t231 && (t253 == t232 && (t254 == t233 && (t255 == t234 && (t256 == t235))))) = false := by simpa using c87))
                  (try (have c87b2 : (t252 == t231 && (t253 == t232 && (t254 == t233 && (t255 == t234 && (t256 == t235))))) = false := by simpa using c87))
                  (try (have c87b3 : ¬ (t252 = t231 && (t253 == t232 && (t254 == t233 && (t255 == t234 && (t256 == t235))))) := by simpa using c87))
                  clear c87
                  obtain rfl := Option.some.inj H
                  have hnb195 := NB237_229.out
                  have hnc195 := NB229_237.out
                  have hnb196 := NB237_230.out
                  have hnc196 := NB230_237.out
                  have hnb197 := NB237_244.out
                  have hnc197 := NB244_237.out
                  have hnb198 := NB237_251.out
                  have hnc198 := NB251_237.out
                  have hcz199_0 : wc.cell? ⟨gb237, 0, none⟩ = some (.int .i64 t231) := (zr4 BK237.out 0).trans rfl
                  have hcz199_1 : wc.cell? ⟨gb237, 1, none⟩ = some (.int .i64 t232) := (zr4 BK237.out 1).trans rfl
                  have hcz199_2 : wc.cell? ⟨gb237, 2, none⟩ = some (.int .i64 t233) := (zr4 BK237.out 2).trans rfl
                  have hcz199_3 : wc.cell? ⟨gb237, 3, none⟩ = some (.int .i64 t234) := (zr4 BK237.out 3).trans rfl
                  have hcz199_4 : wc.cell? ⟨gb237, 4, none⟩ = some (.int .i64 t235) := (zr4 BK237.out 4).trans rfl
                  have hfz199_0 := zr5 BK237.out 0
                  have hfz199_1 := zr5 BK237.out 1
                  have hfz199_2 := zr5 BK237.out 2
                  have hfz199_3 := zr5 BK237.out 3
                  have hfz199_4 := zr5 BK237.out 4
                  have hnb200 := NB229_230.out
                  have hnc200 := NB230_229.out
                  have hnb201 := NB229_244.out
                  have hnc201 := NB244_229.out
                  have hnb202 := NB229_251.out
                  have hnc202 := NB251_229.out
                  have hcz203_0 : wc.cell? ⟨gb229, 0, none⟩ = some (.int .i64 t219) := (zr4 BK229.out 0).trans rfl
                  have hcz203_1 : wc.cell? ⟨gb229, 1, none⟩ = some (.int .i64 t220) := (zr4 BK229.out 1).trans rfl
                  have hcz203_2 : wc.cell? ⟨gb229, 2, none⟩ = some (.int .i64 t221) := (zr4 BK229.out 2).trans rfl
                  have hcz203_3 : wc.cell? ⟨gb229, 3, none⟩ = some (.int .i64 t222) := (zr4 BK229.out 3).trans rfl
                  have hcz203_4 : wc.cell? ⟨gb229, 4, none⟩ = some (.int .i64 t223) := (zr4 BK229.out 4).trans rfl
                  have hfz203_0 := zr5 BK229.out 0
                  have hfz203_1 := zr5 BK229.out 1
                  have hfz203_2 := zr5 BK229.out 2
                  have hfz203_3 := zr5 BK229.out 3
                  have hfz203_4 := zr5 BK229.out 4
                  go_wp2_with (first | ((with_reducible refine gate_callee (f := 15) rfl ?_); refine goesL_ (some 85) rfl rfl Try.func15 (by kernel_rfl) rfl #[.agg #[.int .i64 t231, .int .i64 t232, .int .i64 t233, .int .i64 t234, .int .i64 t235], .agg #[.int .i64 t219, .int .i64 t220, .int .i64 t221, .int .i64 t222, .int .i64 t223]] rfl (by (try simp only [List.map_toArray, List.map_cons, List.map_nil]); first | done | rfl | (simp only [List.length_drop, List.length_take]; rfl)) ?_; (with_reducible refine (impl_CfgMeet.calls t231 t232 t233 t234 t235 t219 t220 t221 t222 t223 t252 t253 t254 t255 t256 true _ A83.out).mono ?_); rintro e w204 ⟨rfl, hb⟩; refine ⟨_, rfl, ?_⟩; have n0_ := mk_ (zq6 (by exact BK229.out) hb); have n1_ := mk_ (zq6 (by exact BK230.out) hb); have n2_ := mk_ (zq6 (by exact BK237.out) hb); have n3_ := mk_ (zq6 (by exact BK244.out) hb); have n4_ := mk_ (zq6 (by exact BK251.out) hb); have n5_ := mk_ (zr3 (by repeat (first | (with_reducible first | exact HB.out | apply zq7 | apply zq8 | apply zq9 | refine zr1 ?_ GE229.out | refine zr1 ?_ GE230.out | refine zr1 ?_ GE237.out | refine zr1 ?_ GE244.out | refine zr1 ?_ GE251.out) | exact HB.out)) hb); clear BK229; clear BK230; clear BK237; clear BK244; clear BK251; clear HB; have BK229 := n0_; have BK230 := n1_; have BK237 := n2_; have BK244 := n3_; have BK251 := n4_; have HB := n5_; clear n0_ n1_ n2_ n3_ n4_ n5_; (try clear hb); (try clear hb2); (try clear hk); (try clear hi)) | ((with_reducible refine gate_dst (N := 11) rfl ?_); (try (refine gate_guard (by rfl) ?_; dsimp only)); refine box_event ?hg (N := 11) ?hd (cs := #[.int .i64 0, .int .i64 0, .int .i64 0, .int .i64 0, .int .i64 0]) (t := 24) ?hr ?_; (case hd => rfl); (case hg => rfl); (case hr => first | (go_simp; done) | (go_simp; rfl)); intro gb258 hg w205 hbox hb; have n0_ := mk_ (zq6 (by exact BK229.out) hb); have n1_ := mk_ (zq6 (by exact BK230.out) hb); have n2_ := mk_ (zq6 (by exact BK237.out) hb); have n3_ := mk_ (zq6 (by exact BK244.out) hb); have n4_ := mk_ (zq6 (by exact BK251.out) hb); have n5_ := mk_ (zr3 (by repeat (first | (with_reducible first | exact HB.out | apply zq7 | apply zq8 | apply zq9 | refine zr1 ?_ GE229.out | refine zr1 ?_ GE230.out | refine zr1 ?_ GE237.out | refine zr1 ?_ GE244.out | refine zr1 ?_ GE251.out) | exact HB.out)) hb); have n6_ := mk_ (hbox); have n7_ := mk_ ((by rw [hg]; exact (zr2 (by repeat (first | (with_reducible first | exact HB.out | apply zq7 | apply zq8 | apply zq9 | refine zr1 ?_ GE229.out | refine zr1 ?_ GE230.out | refine zr1 ?_ GE237.out | refine zr1 ?_ GE244.out | refine zr1 ?_ GE251.out) | exact HB.out))) : w.heap.size ≤ gb258)); have n8_ := mk_ ((by rw [hg]; exact (zr2 (by repeat (first | (with_reducible first | exact HB.out | apply zq7 | apply zq8 | apply zq9 | refine zr1 ?_ GE229.out | refine zr1 ?_ GE230.out | refine zr1 ?_ GE237.out | refine zr1 ?_ GE244.out | refine zr1 ?_ GE251.out) | exact HB.out))) : w.heap.size ≤ gb258)); have n9_ := mk_ ((by rw [hg]; exact zm2 (zr6 (by exact BK229.out)) : gb229 ≠ gb258)); have n10_ := mk_ n9_.out.symm; have n11_ := mk_ ((by rw [hg]; exact zm2 (zr6 (by exact BK230.out)) : gb230 ≠ gb258)); have n12_ := mk_ n11_.out.symm; have n13_ := mk_ ((by rw [hg]; exact zm2 (zr6 (by exact BK237.out)) : gb237 ≠ gb258)); have n14_ := mk_ n13_.out.symm; have n15_ := mk_ ((by rw [hg]; exact zm2 (zr6 (by exact BK244.out)) : gb244 ≠ gb258)); have n16_ := mk_ n15_.out.symm; have n17_ := mk_ ((by rw [hg]; exact zm2 (zr6 (by exact BK251.out)) : gb251 ≠ gb258)); have n18_ := mk_ n17_.out.symm; clear BK229; clear BK230; clear BK237; clear BK244; clear BK251; clear HB; have BK229 := n0_; have BK230 := n1_; have BK237 := n2_; have BK244 := n3_; have BK251 := n4_; have HB := n5_; have BK258 := n6_; have GW258 := n7_; have GE258 := n8_; have NB229_258 := n9_; have NB258_229 := n10_; have NB230_258 := n11_; have NB258_230 := n12_; have NB237_258 := n13_; have NB258_237 := n14_; have NB244_258 := n15_; have NB258_244 := n16_; have NB251_258 := n17_; have NB258_251 := n18_; clear n0_ n1_ n2_ n3_ n4_ n5_ n6_ n7_ n8_ n9_ n10_ n11_ n12_ n13_ n14_ n15_ n16_ n17_ n18_; clear hb hbox hg; have hnb206 := NB258_229.out; have hnc206 := NB229_258.out; have hnb207 := NB258_230.out; have hnc207 := NB230_258.out; have hnb208 := NB258_237.out; have hnc208 := NB237_258.out; have hnb209 := NB258_244.out; have hnc209 := NB244_258.out; have hnb210 := NB258_251.out; have hnc210 := NB251_258.out; obtain ⟨hcz211_0, hcz211_1, hcz211_2, hcz211_3, hcz211_4⟩ := cz5 BK258.out; obtain ⟨hfz211_0, hfz211_1, hfz211_2, hfz211_3, hfz211_4⟩ := fz5 BK258.out; obtain ⟨hcz212_0, hcz212_1, hcz212_2, hcz212_3, hcz212_4⟩ := cz5 BK237.out; obtain ⟨hfz212_0, hfz212_1, hfz212_2, hfz212_3, hfz212_4⟩ := fz5 BK237.out) | ((with_reducible refine gate_callee (f := 18) rfl ?_); refine goesL_ (some 89) rfl rfl Try.func18 (by kernel_rfl) rfl #[.agg #[.int .i64 t231, .int .i64 t232, .int .i64 t233, .int .i64 t234, .int .i64 t235]] rfl (by (try simp only [List.map_toArray, List.map_cons, List.map_nil]); first | done | rfl | (simp only [List.length_drop, List.length_take]; rfl)) ?_; (with_reducible refine (impl_CfgOk.calls t231 t232 t233 t234 t235 true _ A84.out).mono ?_); rintro e w213 ⟨rfl, hb⟩; refine ⟨_, rfl, ?_⟩; have n0_ := mk_ (zq6 (g := gb229) (o := .cells #[.int .i64 t219, .int .i64 t220, .int .i64 t221, .int .i64 t222, .int .i64 t223] 24 (0, 0)) (by (with_reducible repeat (first | refine zq1 ?_ _ | refine zq2 ?_ | refine zq3 ?_ _)); refine zq5 ?_ NB229_258.out _; (with_reducible repeat (first | refine zq1 ?_ _ | refine zq2 ?_ | refine zq3 ?_ _)); refine zq5 ?_ NB229_258.out _; (with_reducible repeat (first | refine zq1 ?_ _ | refine zq2 ?_ | refine zq3 ?_ _)); refine zq5 ?_ NB229_258.out _; (with_reducible repeat (first | refine zq1 ?_ _ | refine zq2 ?_ | refine zq3 ?_ _)); refine zq5 ?_ NB229_258.out _; (with_reducible repeat (first | refine zq1 ?_ _ | refine zq2 ?_ | refine zq3 ?_ _)); refine zq5 ?_ NB229_258.out _; (with_reducible repeat (first | refine zq1 ?_ _ | refine zq2 ?_ | refine zq3 ?_ _)); exact BK229.out) hb); have n1_ := mk_ (zq6 (g := gb230) (o := .cells #[.int .i64 t224, .int .i64 t225, .int .i64 t226, .int .i64 t227, .int .i64 t228] 24 (0, 0)) (by (with_reducible repeat (first | refine zq1 ?_ _ | refine zq2 ?_ | refine zq3 ?_ _)); refine zq5 ?_ NB230_258.out _; (with_reducible repeat (first | refine zq1 ?_ _ | refine zq2 ?_ | refine zq3 ?_ _)); refine zq5 ?_ NB230_258.out _; (with_reducible repeat (first | refine zq1 ?_ _ | refine zq2 ?_ | refine zq3 ?_ _)); refine zq5 ?_ NB230_258.out _; (with_reducible repeat (first | refine zq1 ?_ _ | refine zq2 ?_ | refine zq3 ?_ _)); refine zq5 ?_ NB230_258.out _; (with_reducible repeat (first | refine zq1 ?_ _ | refine zq2 ?_ | refine zq3 ?_ _)); refine zq5 ?_ NB230_258.out _; (with_reducible repeat (first | refine zq1 ?_ _ | refine zq2 ?_ | refine zq3 ?_ _)); exact BK230.out) hb); have n2_ := mk_ (zq6 (g := gb237) (o := .cells #[.int .i64 t231, .int .i64 t232, .int .i64 t233, .int .i64 t234, .int .i64 t235] 24 (0, 0)) (by (with_reducible repeat (first | refine zq1 ?_ _ | refine zq2 ?_ | refine zq3 ?_ _)); refine zq5 ?_ NB237_258.out _; (with_reducible repeat (first | refine zq1 ?_ _ | refine zq2 ?_ | refine zq3 ?_ _)); refine zq5 ?_ NB237_258.out _; (with_reducible repeat (first | refine zq1 ?_ _ | refine zq2 ?_ | refine zq3 ?_ _)); refine zq5 ?_ NB237_258.out _; (with_reducible repeat (first | refine zq1 ?_ _ | refine zq2 ?_ | refine zq3 ?_ _)); refine zq5 ?_ NB237_258.out _; (with_reducible repeat (first | refine zq1 ?_ _ | refine zq2 ?_ | refine zq3 ?_ _)); refine zq5 ?_ NB237_258.out _; (with_reducible repeat (first | refine zq1 ?_ _ | refine zq2 ?_ | refine zq3 ?_ _)); exact BK237.out) hb); have n3_ := mk_ (zq6 (g := gb244) (o := .cells #[.int .i64 t238, .int .i64 t239, .int .i64 t240, .int .i64 t241, .int .i64 t242] 24 (0, 0)) (by (with_reducible repeat (first | refine zq1 ?_ _ | refine zq2 ?_ | refine zq3 ?_ _)); refine zq5 ?_ NB244_258.out _; (with_reducible repeat (first | refine zq1 ?_ _ | refine zq2 ?_ | refine zq3 ?_ _)); refine zq5 ?_ NB244_258.out _; (with_reducible repeat (first | refine zq1 ?_ _ | refine zq2 ?_ | refine zq3 ?_ _)); refine zq5 ?_ NB244_258.out _; (with_reducible repeat (first | refine zq1 ?_ _ | refine zq2 ?_ | refine zq3 ?_ _)); refine zq5 ?_ NB244_258.out _; (with_reducible repeat (first | refine zq1 ?_ _ | refine zq2 ?_ | refine zq3 ?_ _)); refine zq5 ?_ NB244_258.out _; (with_reducible repeat (first | refine zq1 ?_ _ | refine zq2 ?_ | refine zq3 ?_ _)); exact BK244.out) hb); have n4_ := mk_ (zq6 (g := gb251) (o := .cells #[.int .i64 t245, .int .i64 t246, .int .i64 t247, .int .i64 t248, .int .i64 t249] 24 (0, 0)) (by (with_reducible repeat (first | refine zq1 ?_ _ | refine zq2 ?_ | refine zq3 ?_ _)); refine zq5 ?_ NB251_258.out _; (with_reducible repeat (first | refine zq1 ?_ _ | refine zq2 ?_ | refine zq3 ?_ _)); refine zq5 ?_ NB251_258.out _; (with_reducible repeat (first | refine zq1 ?_ _ | refine zq2 ?_ | refine zq3 ?_ _)); refine zq5 ?_ NB251_258.out _; (with_reducible repeat (first | refine zq1 ?_ _ | refine zq2 ?_ | refine zq3 ?_ _)); refine zq5 ?_ NB251_258.out _; (with_reducible repeat (first | refine zq1 ?_ _ | refine zq2 ?_ | refine zq3 ?_ _)); refine zq5 ?_ NB251_258.out _; (with_reducible repeat (first | refine zq1 ?_ _ | refine zq2 ?_ | refine zq3 ?_ _)); exact BK251.out) hb); have n5_ := mk_ (zq6 (g := gb258) (o := .cells #[.int .i64 t252, .int .i64 t253, .int .i64 t254, .int .i64 t255, .int .i64 t256] 24 (0, 0)) (by (with_reducible repeat (first | refine zq1 ?_ _ | refine zq2 ?_ | refine zq3 ?_ _)); refine zq4 (cs := #[.int .i64 t252, .int .i64 t253, .int .i64 t254, .int .i64 t255, .int .i64 0]) ?_ 4 _ rfl; (with_reducible repeat (first | refine zq1 ?_ _ | refine zq2 ?_ | refine zq3 ?_ _)); refine zq4 (cs := #[.int .i64 t252, .int .i64 t253, .int .i64 t254, .int .i64 0, .int .i64 0]) ?_ 3 _ rfl; (with_reducible repeat (first | refine zq1 ?_ _ | refine zq2 ?_ | refine zq3 ?_ _)); refine zq4 (cs := #[.int .i64 t252, .int .i64 t253, .int .i64 0, .int .i64 0, .int .i64 0]) ?_ 2 _ rfl; (with_reducible repeat (first | refine zq1 ?_ _ | refine zq2 ?_ | refine zq3 ?_ _)); refine zq4 (cs := #[.int .i64 t252, .int .i64 0, .int .i64 0, .int .i64 0, .int .i64 0]) ?_ 1 _ rfl; (with_reducible repeat (first | refine zq1 ?_ _ | refine zq2 ?_ | refine zq3 ?_ _)); refine zq4 (cs := #[.int .i64 0, .int .i64 0, .int .i64 0, .int .i64 0, .int .i64 0]) ?_ 0 _ rfl; (with_reducible repeat (first | refine zq1 ?_ _ | refine zq2 ?_ | refine zq3 ?_ _)); exact BK258.out) hb); have n6_ := mk_ (zr3 (by repeat (first | (with_reducible first | exact HB.out | apply zq7 | apply zq8 | apply zq9 | refine zr1 ?_ GE229.out | refine zr1 ?_ GE230.out | refine zr1 ?_ GE237.out | refine zr1 ?_ GE244.out | refine zr1 ?_ GE251.out | refine zr1 ?_ GE258.out) | exact HB.out)) hb); clear BK229; clear BK230; clear BK237; clear BK244; clear BK251; clear BK258; clear HB; have BK229 := n0_; have BK230 := n1_; have BK237 := n2_; have BK244 := n3_; have BK251 := n4_; have BK258 := n5_; have HB := n6_; clear n0_ n1_ n2_ n3_ n4_ n5_ n6_; (try clear hb); (try clear hb2); (try clear hk); (try clear hi); obtain ⟨hcz214_0, hcz214_1, hcz214_2, hcz214_3, hcz214_4⟩ := cz5 BK258.out; obtain ⟨hfz214_0, hfz214_1, hfz214_2, hfz214_3, hfz214_4⟩ := fz5 BK258.out; obtain ⟨hcz215_0, hcz215_1, hcz215_2, hcz215_3, hcz215_4⟩ := cz5 BK237.out; obtain ⟨hfz215_0, hfz215_1, hfz215_2, hfz215_3, hfz215_4⟩ := fz5 BK237.out))
                  go_ret
                  exact ⟨by first | rfl | (simp [errW_none, errW_some] <;> rfl) | (simp [*, errW_none, errW_some] <;> rfl), by repeat (first | (with_reducible first | exact HB.out | apply zq7 | apply zq8 | apply zq9 | refine zr1 ?_ GE229.out | refine zr1 ?_ GE230.out | refine zr1 ?_ GE237.out | refine zr1 ?_ GE244.out | refine zr1 ?_ GE251.out | refine zr1 ?_ GE258.out) | exact HB.out)⟩
              · replace c86 := Bool.eq_false_iff.mpr c86
                subst c86
                have H1 : (some false) = some r := by rw [if_neg (show ¬ (false = true) by decide)] at H; exact H
                clear H
                have H := H1
                clear H1
                obtain rfl := Option.some.inj H
                have hnb216 := NB237_229.out
                have hnc216 := NB229_237.out
                have hnb217 := NB237_230.out
                have hnc217 := NB230_237.out
                have hnb218 := NB237_244.out
                have hnc218 := NB244_237.out
                have hnb219 := NB237_251.out
                have hnc219 := NB251_237.out
                have hcz220_0 : wc.cell? ⟨gb237, 0, none⟩ = some (.int .i64 t231) := (zr4 BK237.out 0).trans rfl
                have hcz220_1 : wc.cell? ⟨gb237, 1, none⟩ = some (.int .i64 t232) := (zr4 BK237.out 1).trans rfl
                have hcz220_2 : wc.cell? ⟨gb237, 2, none⟩ = some (.int .i64 t233) := (zr4 BK237.out 2).trans rfl
                have hcz220_3 : wc.cell? ⟨gb237, 3, none⟩ = some (.int .i64 t234) := (zr4 BK237.out 3).trans rfl
                have hcz220_4 : wc.cell? ⟨gb237, 4, none⟩ = some (.int .i64 t235) := (zr4 BK237.out 4).trans rfl
                have hfz220_0 := zr5 BK237.out 0
                have hfz220_1 := zr5 BK237.out 1
                have hfz220_2 := zr5 BK237.out 2
                have hfz220_3 := zr5 BK237.out 3
                have hfz220_4 := zr5 BK237.out 4
                have hnb221 := NB229_230.out
                have hnc221 := NB230_229.out
                have hnb222 := NB229_244.out
                have hnc222 := NB244_229.out
                have hnb223 := NB229_251.out
                have hnc223 := NB251_229.out
                have hcz224_0 : wc.cell? ⟨gb229, 0, none⟩ = some (.int .i64 t219) := (zr4 BK229.out 0).trans rfl
                have hcz224_1 : wc.cell? ⟨gb229, 1, none⟩ = some (.int .i64 t220) := (zr4 BK229.out 1).trans rfl
                have hcz224_2 : wc.cell? ⟨gb229, 2, none⟩ = some (.int .i64 t221) := (zr4 BK229.out 2).trans rfl
                have hcz224_3 : wc.cell? ⟨gb229, 3, none⟩ = some (.int .i64 t222) := (zr4 BK229.out 3).trans rfl
                have hcz224_4 : wc.cell? ⟨gb229, 4, none⟩ = some (.int .i64 t223) := (zr4 BK229.out 4).trans rfl
                have hfz224_0 := zr5 BK229.out 0
                have hfz224_1 := zr5 BK229.out 1
                have hfz224_2 := zr5 BK229.out 2
                have hfz224_3 := zr5 BK229.out 3
                have hfz224_4 := zr5 BK229.out 4
                go_wp2_with (first | ((with_reducible refine gate_callee (f := 15) rfl ?_); refine goesL_ (some 85) rfl rfl Try.func15 (by kernel_rfl) rfl #[.agg #[.int .i64 t231, .int .i64 t232, .int .i64 t233, .int .i64 t234, .int .i64 t235], .agg #[.int .i64 t219, .int .i64 t220, .int .i64 t221, .int .i64 t222, .int .i64 t223]] rfl (by (try simp only [List.map_toArray, List.map_cons, List.map_nil]); first | done | rfl | (simp only [List.length_drop, List.length_take]; rfl)) ?_; (with_reducible refine (impl_CfgMeet.calls t231 t232 t233 t234 t235 t219 t220 t221 t222 t223 t252 t253 t254 t255 t256 false _ A83.out).mono ?_); rintro e w225 ⟨rfl, hb⟩; refine ⟨_, rfl, ?_⟩; have n0_ := mk_ (zq6 (by exact BK229.out) hb); have n1_ := mk_ (zq6 (by exact BK230.out) hb); have n2_ := mk_ (zq6 (by exact BK237.out) hb); have n3_ := mk_ (zq6 (by exact BK244.out) hb); have n4_ := mk_ (zq6 (by exact BK251.out) hb); have n5_ := mk_ (zr3 (by repeat (first | (with_reducible first | exact HB.out | apply zq7 | apply zq8 | apply zq9 | refine zr1 ?_ GE229.out | refine zr1 ?_ GE230.out | refine zr1 ?_ GE237.out | refine zr1 ?_ GE244.out | refine zr1 ?_ GE251.out) | exact HB.out)) hb); clear BK229; clear BK230; clear BK237; clear BK244; clear BK251; clear HB; have BK229 := n0_; have BK230 := n1_; have BK237 := n2_; have BK244 := n3_; have BK251 := n4_; have HB := n5_; clear n0_ n1_ n2_ n3_ n4_ n5_; (try clear hb); (try clear hb2); (try clear hk); (try clear hi)) | ((with_reducible refine gate_dst (N := 11) rfl ?_); (try (refine gate_guard (by rfl) ?_; dsimp only)); refine box_event ?hg (N := 11) ?hd (cs := #[.int .i64 0, .int .i64 0, .int .i64 0, .int .i64 0, .int .i64 0]) (t := 24) ?hr ?_; (case hd => rfl); (case hg => rfl); (case hr => first | (go_simp; done) | (go_simp; rfl)); intro gb258 hg w226 hbox hb; have n0_ := mk_ (zq6 (by exact BK229.out) hb); have n1_ := mk_ (zq6 (by exact BK230.out) hb); have n2_ := mk_ (zq6 (by exact BK237.out) hb); have n3_ := mk_ (zq6 (by exact BK244.out) hb); have n4_ := mk_ (zq6 (by exact BK251.out) hb); have n5_ := mk_ (zr3 (by repeat (first | (with_reducible first | exact HB.out | apply zq7 | apply zq8 | apply zq9 | refine zr1 ?_ GE229.out | refine zr1 ?_ GE230.out | refine zr1 ?_ GE237.out | refine zr1 ?_ GE244.out | refine zr1 ?_ GE251.out) | exact HB.out)) hb); have n6_ := mk_ (hbox); have n7_ := mk_ ((by rw [hg]; exact (zr2 (by repeat (first | (with_reducible first | exact HB.out | apply zq7 | apply zq8 | apply zq9 | refine zr1 ?_ GE229.out | refine zr1 ?_ GE230.out | refine zr1 ?_ GE237.out | refine zr1 ?_ GE244.out | refine zr1 ?_ GE251.out) | exact HB.out))) : w.heap.size ≤ gb258)); have n8_ := mk_ ((by rw [hg]; exact (zr2 (by repeat (first | (with_reducible first | exact HB.out | apply zq7 | apply zq8 | apply zq9 | refine zr1 ?_ GE229.out | refine zr1 ?_ GE230.out | refine zr1 ?_ GE237.out | refine zr1 ?_ GE244.out | refine zr1 ?_ GE251.out) | exact HB.out))) : w.heap.size ≤ gb258)); have n9_ := mk_ ((by rw [hg]; exact zm2 (zr6 (by exact BK229.out)) : gb229 ≠ gb258)); have n10_ := mk_ n9_.out.symm; have n11_ := mk_ ((by rw [hg]; exact zm2 (zr6 (by exact BK230.out)) : gb230 ≠ gb258)); have n12_ := mk_ n11_.out.symm; have n13_ := mk_ ((by rw [hg]; exact zm2 (zr6 (by exact BK237.out)) : gb237 ≠ gb258)); have n14_ := mk_ n13_.out.symm; have n15_ := mk_ ((by rw [hg]; exact zm2 (zr6 (by exact BK244.out)) : gb244 ≠ gb258)); have n16_ := mk_ n15_.out.symm; have n17_ := mk_ ((by rw [hg]; exact zm2 (zr6 (by exact BK251.out)) : gb251 ≠ gb258)); have n18_ := mk_ n17_.out.symm; clear BK229; clear BK230; clear BK237; clear BK244; clear BK251; clear HB; have BK229 := n0_; have BK230 := n1_; have BK237 := n2_; have BK244 := n3_; have BK251 := n4_; have HB := n5_; have BK258 := n6_; have GW258 := n7_; have GE258 := n8_; have NB229_258 := n9_; have NB258_229 := n10_; have NB230_258 := n11_; have NB258_230 := n12_; have NB237_258 := n13_; have NB258_237 := n14_; have NB244_258 := n15_; have NB258_244 := n16_; have NB251_258 := n17_; have NB258_251 := n18_; clear n0_ n1_ n2_ n3_ n4_ n5_ n6_ n7_ n8_ n9_ n10_ n11_ n12_ n13_ n14_ n15_ n16_ n17_ n18_; clear hb hbox hg; have hnb227 := NB258_229.out; have hnc227 := NB229_258.out; have hnb228 := NB258_230.out; have hnc228 := NB230_258.out; have hnb229 := NB258_237.out; have hnc229 := NB237_258.out; have hnb230 := NB258_244.out; have hnc230 := NB244_258.out; have hnb231 := NB258_251.out; have hnc231 := NB251_258.out; obtain ⟨hcz232_0, hcz232_1, hcz232_2, hcz232_3, hcz232_4⟩ := cz5 BK258.out; obtain ⟨hfz232_0, hfz232_1, hfz232_2, hfz232_3, hfz232_4⟩ := fz5 BK258.out; obtain ⟨hcz233_0, hcz233_1, hcz233_2, hcz233_3, hcz233_4⟩ := cz5 BK237.out; obtain ⟨hfz233_0, hfz233_1, hfz233_2, hfz233_3, hfz233_4⟩ := fz5 BK237.out) | ((with_reducible refine gate_callee (f := 18) rfl ?_); refine goesL_ (some 89) rfl rfl Try.func18 (by kernel_rfl) rfl #[.agg #[.int .i64 t231, .int .i64 t232, .int .i64 t233, .int .i64 t234, .int .i64 t235]] rfl (by (try simp only [List.map_toArray, List.map_cons, List.map_nil]); first | done | rfl | (simp only [List.length_drop, List.length_take]; rfl)) ?_; (with_reducible refine (impl_CfgOk.calls t231 t232 t233 t234 t235 true _ A84.out).mono ?_); rintro e w234 ⟨rfl, hb⟩; refine ⟨_, rfl, ?_⟩; have n0_ := mk_ (zq6 (g := gb229) (o := .cells #[.int .i64 t219, .int .i64 t220, .int .i64 t221, .int .i64 t222, .int .i64 t223] 24 (0, 0)) (by (with_reducible repeat (first | refine zq1 ?_ _ | refine zq2 ?_ | refine zq3 ?_ _)); refine zq5 ?_ NB229_258.out _; (with_reducible repeat (first | refine zq1 ?_ _ | refine zq2 ?_ | refine zq3 ?_ _)); refine zq5 ?_ NB229_258.out _; (with_reducible repeat (first | refine zq1 ?_ _ | refine zq2 ?_ | refine zq3 ?_ _)); refine zq5 ?_ NB229_258.out _; (with_reducible repeat (first | refine zq1 ?_ _ | refine zq2 ?_ | refine zq3 ?_ _)); refine zq5 ?_ NB229_258.out _; (with_reducible repeat (first | refine zq1 ?_ _ | refine zq2 ?_ | refine zq3 ?_ _)); refine zq5 ?_ NB229_258.out _; (with_reducible repeat (first | refine zq1 ?_ _ | refine zq2 ?_ | refine zq3 ?_ _)); exact BK229.out) hb); have n1_ := mk_ (zq6 (g := gb230) (o := .cells #[.int .i64 t224, .int .i64 t225, .int .i64 t226, .int .i64 t227, .int .i64 t228] 24 (0, 0)) (by (with_reducible repeat (first | refine zq1 ?_ _ | refine zq2 ?_ | refine zq3 ?_ _)); refine zq5 ?_ NB230_258.out _; (with_reducible repeat (first | refine zq1 ?_ _ | refine zq2 ?_ | refine zq3 ?_ _)); refine zq5 ?_ NB230_258.out _; (with_reducible repeat (first | refine zq1 ?_ _ | refine zq2 ?_ | refine zq3 ?_ _)); refine zq5 ?_ NB230_258.out _; (with_reducible repeat (first | refine zq1 ?_ _ | refine zq2 ?_ | refine zq3 ?_ _)); refine zq5 ?_ NB230_258.out _; (with_reducible repeat (first | refine zq1 ?_ _ | refine zq2 ?_ | refine zq3 ?_ _)); refine zq5 ?_ NB230_258.out _; (with_reducible repeat (first | refine zq1 ?_ _ | refine zq2 ?_ | refine zq3 ?_ _)); exact BK230.out) hb); have n2_ := mk_ (zq6 (g := gb237) (o := .cells #[.int .i64 t231, .int .i64 t232, .int .i64 t233, .int .i64 t234, .int .i64 t235] 24 (0, 0)) (by (with_reducible repeat (first | refine zq1 ?_ _ | refine zq2 ?_ | refine zq3 ?_ _)); refine zq5 ?_ NB237_258.out _; (with_reducible repeat (first | refine zq1 ?_ _ | refine zq2 ?_ | refine zq3 ?_ _)); refine zq5 ?_ NB237_258.out _; (with_reducible repeat (first | refine zq1 ?_ _ | refine zq2 ?_ | refine zq3 ?_ _)); refine zq5 ?_ NB237_258.out _; (with_reducible repeat (first | refine zq1 ?_ _ | refine zq2 ?_ | refine zq3 ?_ _)); refine zq5 ?_ NB237_258.out _; (with_reducible repeat (first | refine zq1 ?_ _ | refine zq2 ?_ | refine zq3 ?_ _)); refine zq5 ?_ NB237_258.out _; (with_reducible repeat (first | refine zq1 ?_ _ | refine zq2 ?_ | refine zq3 ?_ _)); exact BK237.out) hb); have n3_ := mk_ (zq6 (g := gb244) (o := .cells #[.int .i64 t238, .int .i64 t239, .int .i64 t240, .int .i64 t241, .int .i64 t242] 24 (0, 0)) (by (with_reducible repeat (first | refine zq1 ?_ _ | refine zq2 ?_ | refine zq3 ?_ _)); refine zq5 ?_ NB244_258.out _; (with_reducible repeat (first | refine zq1 ?_ _ | refine zq2 ?_ | refine zq3 ?_ _)); refine zq5 ?_ NB244_258.out _; (with_reducible repeat (first | refine zq1 ?_ _ | refine zq2 ?_ | refine zq3 ?_ _)); refine zq5 ?_ NB244_258.out _; (with_reducible repeat (first | refine zq1 ?_ _ | refine zq2 ?_ | refine zq3 ?_ _)); refine zq5 ?_ NB244_258.out _; (with_reducible repeat (first | refine zq1 ?_ _ | refine zq2 ?_ | refine zq3 ?_ _)); refine zq5 ?_ NB244_258.out _; (with_reducible repeat (first | refine zq1 ?_ _ | refine zq2 ?_ | refine zq3 ?_ _)); exact BK244.out) hb); have n4_ := mk_ (zq6 (g := gb251) (o := .cells #[.int .i64 t245, .int .i64 t246, .int .i64 t247, .int .i64 t248, .int .i64 t249] 24 (0, 0)) (by (with_reducible repeat (first | refine zq1 ?_ _ | refine zq2 ?_ | refine zq3 ?_ _)); refine zq5 ?_ NB251_258.out _; (with_reducible repeat (first | refine zq1 ?_ _ | refine zq2 ?_ | refine zq3 ?_ _)); refine zq5 ?_ NB251_258.out _; (with_reducible repeat (first | refine zq1 ?_ _ | refine zq2 ?_ | refine zq3 ?_ _)); refine zq5 ?_ NB251_258.out _; (with_reducible repeat (first | refine zq1 ?_ _ | refine zq2 ?_ | refine zq3 ?_ _)); refine zq5 ?_ NB251_258.out _; (with_reducible repeat (first | refine zq1 ?_ _ | refine zq2 ?_ | refine zq3 ?_ _)); refine zq5 ?_ NB251_258.out _; (with_reducible repeat (first | refine zq1 ?_ _ | refine zq2 ?_ | refine zq3 ?_ _)); exact BK251.out) hb); have n5_ := mk_ (zq6 (g := gb258) (o := .cells #[.int .i64 t252, .int .i64 t253, .int .i64 t254, .int .i64 t255, .int .i64 t256] 24 (0, 0)) (by (with_reducible repeat (first | refine zq1 ?_ _ | refine zq2 ?_ | refine zq3 ?_ _)); refine zq4 (cs := #[.int .i64 t252, .int .i64 t253, .int .i64 t254, .int .i64 t255, .int .i64 0]) ?_ 4 _ rfl; (with_reducible repeat (first | refine zq1 ?_ _ | refine zq2 ?_ | refine zq3 ?_ _)); refine zq4 (cs := #[.int .i64 t252, .int .i64 t253, .int .i64 t254, .int .i64 0, .int .i64 0]) ?_ 3 _ rfl; (with_reducible repeat (first | refine zq1 ?_ _ | refine zq2 ?_ | refine zq3 ?_ _)); refine zq4 (cs := #[.int .i64 t252, .int .i64 t253, .int .i64 0, .int .i64 0, .int .i64 0]) ?_ 2 _ rfl; (with_reducible repeat (first | refine zq1 ?_ _ | refine zq2 ?_ | refine zq3 ?_ _)); refine zq4 (cs := #[.int .i64 t252, .int .i64 0, .int .i64 0, .int .i64 0, .int .i64 0]) ?_ 1 _ rfl; (with_reducible repeat (first | refine zq1 ?_ _ | refine zq2 ?_ | refine zq3 ?_ _)); refine zq4 (cs := #[.int .i64 0, .int .i64 0, .int .i64 0, .int .i64 0, .int .i64 0]) ?_ 0 _ rfl; (with_reducible repeat (first | refine zq1 ?_ _ | refine zq2 ?_ | refine zq3 ?_ _)); exact BK258.out) hb); have n6_ := mk_ (zr3 (by repeat (first | (with_reducible first | exact HB.out | apply zq7 | apply zq8 | apply zq9 | refine zr1 ?_ GE229.out | refine zr1 ?_ GE230.out | refine zr1 ?_ GE237.out | refine zr1 ?_ GE244.out | refine zr1 ?_ GE251.out | refine zr1 ?_ GE258.out) | exact HB.out)) hb); clear BK229; clear BK230; clear BK237; clear BK244; clear BK251; clear BK258; clear HB; have BK229 := n0_; have BK230 := n1_; have BK237 := n2_; have BK244 := n3_; have BK251 := n4_; have BK258 := n5_; have HB := n6_; clear n0_ n1_ n2_ n3_ n4_ n5_ n6_; (try clear hb); (try clear hb2); (try clear hk); (try clear hi)))
                go_ret
                exact ⟨by first | rfl | (simp [errW_none, errW_some] <;> rfl) | (simp [*, errW_none, errW_some] <;> rfl), by repeat (first | (with_reducible first | exact HB.out | apply zq7 | apply zq8 | apply zq9 | refine zr1 ?_ GE229.out | refine zr1 ?_ GE230.out | refine zr1 ?_ GE237.out | refine zr1 ?_ GE244.out | refine zr1 ?_ GE251.out | refine zr1 ?_ GE258.out) | exact HB.out)⟩
            · replace c85 := Bool.eq_false_iff.mpr c85
              subst c85
              have H1 : (some false) = some r := by rw [if_neg (show ¬ (false = true) by decide)] at H; exact H
              clear H
              have H := H1
              clear H1
              obtain rfl := Option.some.inj H
              have hnb235 := NB237_229.out
              have hnc235 := NB229_237.out
              have hnb236 := NB237_230.out
              have hnc236 := NB230_237.out
              have hnb237 := NB237_244.out
              have hnc237 := NB244_237.out
              have hnb238 := NB237_251.out
              have hnc238 := NB251_237.out
              have hcz239_0 : wc.cell? ⟨gb237, 0, none⟩ = some (.int .i64 t231) := (zr4 BK237.out 0).trans rfl
              have hcz239_1 : wc.cell? ⟨gb237, 1, none⟩ = some (.int .i64 t232) := (zr4 BK237.out 1).trans rfl
              have hcz239_2 : wc.cell? ⟨gb237, 2, none⟩ = some (.int .i64 t233) := (zr4 BK237.out 2).trans rfl
              have hcz239_3 : wc.cell? ⟨gb237, 3, none⟩ = some (.int .i64 t234) := (zr4 BK237.out 3).trans rfl
              have hcz239_4 : wc.cell? ⟨gb237, 4, none⟩ = some (.int .i64 t235) := (zr4 BK237.out 4).trans rfl
              have hfz239_0 := zr5 BK237.out 0
              have hfz239_1 := zr5 BK237.out 1
              have hfz239_2 := zr5 BK237.out 2
              have hfz239_3 := zr5 BK237.out 3
              have hfz239_4 := zr5 BK237.out 4
              have hnb240 := NB229_230.out
              have hnc240 := NB230_229.out
              have hnb241 := NB229_244.out
              have hnc241 := NB244_229.out
              have hnb242 := NB229_251.out
              have hnc242 := NB251_229.out
              have hcz243_0 : wc.cell? ⟨gb229, 0, none⟩ = some (.int .i64 t219) := (zr4 BK229.out 0).trans rfl
              have hcz243_1 : wc.cell? ⟨gb229, 1, none⟩ = some (.int .i64 t220) := (zr4 BK229.out 1).trans rfl
              have hcz243_2 : wc.cell? ⟨gb229, 2, none⟩ = some (.int .i64 t221) := (zr4 BK229.out 2).trans rfl
              have hcz243_3 : wc.cell? ⟨gb229, 3, none⟩ = some (.int .i64 t222) := (zr4 BK229.out 3).trans rfl
              have hcz243_4 : wc.cell? ⟨gb229, 4, none⟩ = some (.int .i64 t223) := (zr4 BK229.out 4).trans rfl
              have hfz243_0 := zr5 BK229.out 0
              have hfz243_1 := zr5 BK229.out 1
              have hfz243_2 := zr5 BK229.out 2
              have hfz243_3 := zr5 BK229.out 3
              have hfz243_4 := zr5 BK229.out 4
              go_wp2_with (first | ((with_reducible refine gate_callee (f := 15) rfl ?_); refine goesL_ (some 85) rfl rfl Try.func15 (by kernel_rfl) rfl #[.agg #[.int .i64 t231, .int .i64 t232, .int .i64 t233, .int .i64 t234, .int .i64 t235], .agg #[.int .i64 t219, .int .i64 t220, .int .i64 t221, .int .i64 t222, .int .i64 t223]] rfl (by (try simp only [List.map_toArray, List.map_cons, List.map_nil]); first | done | rfl | (simp only [List.length_drop, List.length_take]; rfl)) ?_; (with_reducible refine (impl_CfgMeet.calls t231 t232 t233 t234 t235 t219 t220 t221 t222 t223 t252 t253 t254 t255 t256 t257 _ A83.out).mono ?_); rintro e w244 ⟨rfl, hb⟩; refine ⟨_, rfl, ?_⟩; have n0_ := mk_ (zq6 (by exact BK229.out) hb); have n1_ := mk_ (zq6 (by exact BK230.out) hb); have n2_ := mk_ (zq6 (by exact BK237.out) hb); have n3_ := mk_ (zq6 (by exact BK244.out) hb); have n4_ := mk_ (zq6 (by exact BK251.out) hb); have n5_ := mk_ (zr3 (by repeat (first | (with_reducible first | exact HB.out | apply zq7 | apply zq8 | apply zq9 | refine zr1 ?_ GE229.out | refine zr1 ?_ GE230.out | refine zr1 ?_ GE237.out | refine zr1 ?_ GE244.out | refine zr1 ?_ GE251.out) | exact HB.out)) hb); clear BK229; clear BK230; clear BK237; clear BK244; clear BK251; clear HB; have BK229 := n0_; have BK230 := n1_; have BK237 := n2_; have BK244 := n3_; have BK251 := n4_; have HB := n5_; clear n0_ n1_ n2_ n3_ n4_ n5_; (try clear hb); (try clear hb2); (try clear hk); (try clear hi)) | ((with_reducible refine gate_dst (N := 11) rfl ?_); (try (refine gate_guard (by rfl) ?_; dsimp only)); refine box_event ?hg (N := 11) ?hd (cs := #[.int .i64 0, .int .i64 0, .int .i64 0, .int .i64 0, .int .i64 0]) (t := 24) ?hr ?_; (case hd => rfl); (case hg => rfl); (case hr => first | (go_simp; done) | (go_simp; rfl)); intro gb258 hg w245 hbox hb; have n0_ := mk_ (zq6 (by exact BK229.out) hb); have n1_ := mk_ (zq6 (by exact BK230.out) hb); have n2_ := mk_ (zq6 (by exact BK237.out) hb); have n3_ := mk_ (zq6 (by exact BK244.out) hb); have n4_ := mk_ (zq6 (by exact BK251.out) hb); have n5_ := mk_ (zr3 (by repeat (first | (with_reducible first | exact HB.out | apply zq7 | apply zq8 | apply zq9 | refine zr1 ?_ GE229.out | refine zr1 ?_ GE230.out | refine zr1 ?_ GE237.out | refine zr1 ?_ GE244.out | refine zr1 ?_ GE251.out) | exact HB.out)) hb); have n6_ := mk_ (hbox); have n7_ := mk_ ((by rw [hg]; exact (zr2 (by repeat (first | (with_reducible first | exact HB.out | apply zq7 | apply zq8 | apply zq9 | refine zr1 ?_ GE229.out | refine zr1 ?_ GE230.out | refine zr1 ?_ GE237.out | refine zr1 ?_ GE244.out | refine zr1 ?_ GE251.out) | exact HB.out))) : w.heap.size ≤ gb258)); have n8_ := mk_ ((by rw [hg]; exact (zr2 (by repeat (first | (with_reducible first | exact HB.out | apply zq7 | apply zq8 | apply zq9 | refine zr1 ?_ GE229.out | refine zr1 ?_ GE230.out | refine zr1 ?_ GE237.out | refine zr1 ?_ GE244.out | refine zr1 ?_ GE251.out) | exact HB.out))) : w.heap.size ≤ gb258)); have n9_ := mk_ ((by rw [hg]; exact zm2 (zr6 (by exact BK229.out)) : gb229 ≠ gb258)); have n10_ := mk_ n9_.out.symm; have n11_ := mk_ ((by rw [hg]; exact zm2 (zr6 (by exact BK230.out)) : gb230 ≠ gb258)); have n12_ := mk_ n11_.out.symm; have n13_ := mk_ ((by rw [hg]; exact zm2 (zr6 (by exact BK237.out)) : gb237 ≠ gb258)); have n14_ := mk_ n13_.out.symm; have n15_ := mk_ ((by rw [hg]; exact zm2 (zr6 (by exact BK244.out)) : gb244 ≠ gb258)); have n16_ := mk_ n15_.out.symm; have n17_ := mk_ ((by rw [hg]; exact zm2 (zr6 (by exact BK251.out)) : gb251 ≠ gb258)); have n18_ := mk_ n17_.out.symm; clear BK229; clear BK230; clear BK237; clear BK244; clear BK251; clear HB; have BK229 := n0_; have BK230 := n1_; have BK237 := n2_; have BK244 := n3_; have BK251 := n4_; have HB := n5_; have BK258 := n6_; have GW258 := n7_; have GE258 := n8_; have NB229_258 := n9_; have NB258_229 := n10_; have NB230_258 := n11_; have NB258_230 := n12_; have NB237_258 := n13_; have NB258_237 := n14_; have NB244_258 := n15_; have NB258_244 := n16_; have NB251_258 := n17_; have NB258_251 := n18_; clear n0_ n1_ n2_ n3_ n4_ n5_ n6_ n7_ n8_ n9_ n10_ n11_ n12_ n13_ n14_ n15_ n16_ n17_ n18_; clear hb hbox hg; have hnb246 := NB258_229.out; have hnc246 := NB229_258.out; have hnb247 := NB258_230.out; have hnc247 := NB230_258.out; have hnb248 := NB258_237.out; have hnc248 := NB237_258.out; have hnb249 := NB258_244.out; have hnc249 := NB244_258.out; have hnb250 := NB258_251.out; have hnc250 := NB251_258.out; obtain ⟨hcz251_0, hcz251_1, hcz251_2, hcz251_3, hcz251_4⟩ := cz5 BK258.out; obtain ⟨hfz251_0, hfz251_1, hfz251_2, hfz251_3, hfz251_4⟩ := fz5 BK258.out; obtain ⟨hcz252_0, hcz252_1, hcz252_2, hcz252_3, hcz252_4⟩ := cz5 BK237.out; obtain ⟨hfz252_0, hfz252_1, hfz252_2, hfz252_3, hfz252_4⟩ := fz5 BK237.out) | ((with_reducible refine gate_callee (f := 18) rfl ?_); refine goesL_ (some 89) rfl rfl Try.func18 (by kernel_rfl) rfl #[.agg #[.int .i64 t231, .int .i64 t232, .int .i64 t233, .int .i64 t234, .int .i64 t235]] rfl (by (try simp only [List.map_toArray, List.map_cons, List.map_nil]); first | done | rfl | (simp only [List.length_drop, List.length_take]; rfl)) ?_; (with_reducible refine (impl_CfgOk.calls t231 t232 t233 t234 t235 false _ A84.out).mono ?_); rintro e w253 ⟨rfl, hb⟩; refine ⟨_, rfl, ?_⟩; have n0_ := mk_ (zq6 (g := gb229) (o := .cells #[.int .i64 t219, .int .i64 t220, .int .i64 t221, .int .i64 t222, .int .i64 t223] 24 (0, 0)) (by (with_reducible repeat (first | refine zq1 ?_ _ | refine zq2 ?_ | refine zq3 ?_ _)); refine zq5 ?_ NB229_258.out _; (with_reducible repeat (first | refine zq1 ?_ _ | refine zq2 ?_ | refine zq3 ?_ _)); refine zq5 ?_ NB229_258.out _; (with_reducible repeat (first | refine zq1 ?_ _ | refine zq2 ?_ | refine zq3 ?_ _)); refine zq5 ?_ NB229_258.out _; (with_reducible repeat (first | refine zq1 ?_ _ | refine zq2 ?_ | refine zq3 ?_ _)); refine zq5 ?_ NB229_258.out _; (with_reducible repeat (first | refine zq1 ?_ _ | refine zq2 ?_ | refine zq3 ?_ _)); refine zq5 ?_ NB229_258.out _; (with_reducible repeat (first | refine zq1 ?_ _ | refine zq2 ?_ | refine zq3 ?_ _)); exact BK229.out) hb); have n1_ := mk_ (zq6 (g := gb230) (o := .cells #[.int .i64 t224, .int .i64 t225, .int .i64 t226, .int .i64 t227, .int .i64 t228] 24 (0, 0)) (by (with_reducible repeat (first | refine zq1 ?_ _ | refine zq2 ?_ | refine zq3 ?_ _)); refine zq5 ?_ NB230_258.out _; (with_reducible repeat (first | refine zq1 ?_ _ | refine zq2 ?_ | refine zq3 ?_ _)); refine zq5 ?_ NB230_258.out _; (with_reducible repeat (first | refine zq1 ?_ _ | refine zq2 ?_ | refine zq3 ?_ _)); refine zq5 ?_ NB230_258.out _; (with_reducible repeat (first | refine zq1 ?_ _ | refine zq2 ?_ | refine zq3 ?_ _)); refine zq5 ?_ NB230_258.out _; (with_reducible repeat (first | refine zq1 ?_ _ | refine zq2 ?_ | refine zq3 ?_ _)); refine zq5 ?_ NB230_258.out _; (with_reducible repeat (first | refine zq1 ?_ _ | refine zq2 ?_ | refine zq3 ?_ _)); exact BK230.out) hb); have n2_ := mk_ (zq6 (g := gb237) (o := .cells #[.int .i64 t231, .int .i64 t232, .int .i64 t233, .int .i64 t234, .int .i64 t235] 24 (0, 0)) (by (with_reducible repeat (first | refine zq1 ?_ _ | refine zq2 ?_ | refine zq3 ?_ _)); refine zq5 ?_ NB237_258.out _; (with_reducible repeat (first | refine zq1 ?_ _ | refine zq2 ?_ | refine zq3 ?_ _)); refine zq5 ?_ NB237_258.out _; (with_reducible repeat (first | refine zq1 ?_ _ | refine zq2 ?_ | refine zq3 ?_ _)); refine zq5 ?_ NB237_258.out _; (with_reducible repeat (first | refine zq1 ?_ _ | refine zq2 ?_ | refine zq3 ?_ _)); refine zq5 ?_ NB237_258.out _; (with_reducible repeat (first | refine zq1 ?_ _ | refine zq2 ?_ | refine zq3 ?_ _)); refine zq5 ?_ NB237_258.out _; (with_reducible repeat (first | refine zq1 ?_ _ | refine zq2 ?_ | refine zq3 ?_ _)); exact BK237.out) hb); have n3_ := mk_ (zq6 (g := gb244) (o := .cells #[.int .i64 t238, .int .i64 t239, .int .i64 t240, .int .i64 t241, .int .i64 t242] 24 (0, 0)) (by (with_reducible repeat (first | refine zq1 ?_ _ | refine zq2 ?_ | refine zq3 ?_ _)); refine zq5 ?_ NB244_258.out _; (with_reducible repeat (first | refine zq1 ?_ _ | refine zq2 ?_ | refine zq3 ?_ _)); refine zq5 ?_ NB244_258.out _; (with_reducible repeat (first | refine zq1 ?_ _ | refine zq2 ?_ | refine zq3 ?_ _)); refine zq5 ?_ NB244_258.out _; (with_reducible repeat (first | refine zq1 ?_ _ | refine zq2 ?_ | refine zq3 ?_ _)); refine zq5 ?_ NB244_258.out _; (with_reducible repeat (first | refine zq1 ?_ _ | refine zq2 ?_ | refine zq3 ?_ _)); refine zq5 ?_ NB244_258.out _; (with_reducible repeat (first | refine zq1 ?_ _ | refine zq2 ?_ | refine zq3 ?_ _)); exact BK244.out) hb); have n4_ := mk_ (zq6 (g := gb251) (o := .cells #[.int .i64 t245, .int .i64 t246, .int .i64 t247, .int .i64 t248, .int .i64 t249] 24 (0, 0)) (by (with_reducible repeat (first | refine zq1 ?_ _ | refine zq2 ?_ | refine zq3 ?_ _)); refine zq5 ?_ NB251_258.out _; (with_reducible repeat (first | refine zq1 ?_ _ | refine zq2 ?_ | refine zq3 ?_ _)); refine zq5 ?_ NB251_258.out _; (with_reducible repeat (first | refine zq1 ?_ _ | refine zq2 ?_ | refine zq3 ?_ _)); refine zq5 ?_ NB251_258.out _; (with_reducible repeat (first | refine zq1 ?_ _ | refine zq2 ?_ | refine zq3 ?_ _)); refine zq5 ?_ NB251_258.out _; (with_reducible repeat (first | refine zq1 ?_ _ | refine zq2 ?_ | refine zq3 ?_ _)); refine zq5 ?_ NB251_258.out _; (with_reducible repeat (first | refine zq1 ?_ _ | refine zq2 ?_ | refine zq3 ?_ _)); exact BK251.out) hb); have n5_ := mk_ (zq6 (g := gb258) (o := .cells #[.int .i64 t252, .int .i64 t253, .int .i64 t254, .int .i64 t255, .int .i64 t256] 24 (0, 0)) (by (with_reducible repeat (first | refine zq1 ?_ _ | refine zq2 ?_ | refine zq3 ?_ _)); refine zq4 (cs := #[.int .i64 t252, .int .i64 t253, .int .i64 t254, .int .i64 t255, .int .i64 0]) ?_ 4 _ rfl; (with_reducible repeat (first | refine zq1 ?_ _ | refine zq2 ?_ | refine zq3 ?_ _)); refine zq4 (cs := #[.int .i64 t252, .int .i64 t253, .int .i64 t254, .int .i64 0, .int .i64 0]) ?_ 3 _ rfl; (with_reducible repeat (first | refine zq1 ?_ _ | refine zq2 ?_ | refine zq3 ?_ _)); refine zq4 (cs := #[.int .i64 t252, .int .i64 t253, .int .i64 0, .int .i64 0, .int .i64 0]) ?_ 2 _ rfl; (with_reducible repeat (first | refine zq1 ?_ _ | refine zq2 ?_ | refine zq3 ?_ _)); refine zq4 (cs := #[.int .i64 t252, .int .i64 0, .int .i64 0, .int .i64 0, .int .i64 0]) ?_ 1 _ rfl; (with_reducible repeat (first | refine zq1 ?_ _ | refine zq2 ?_ | refine zq3 ?_ _)); refine zq4 (cs := #[.int .i64 0, .int .i64 0, .int .i64 0, .int .i64 0, .int .i64 0]) ?_ 0 _ rfl; (with_reducible repeat (first | refine zq1 ?_ _ | refine zq2 ?_ | refine zq3 ?_ _)); exact BK258.out) hb); have n6_ := mk_ (zr3 (by repeat (first | (with_reducible first | exact HB.out | apply zq7 | apply zq8 | apply zq9 | refine zr1 ?_ GE229.out | refine zr1 ?_ GE230.out | refine zr1 ?_ GE237.out | refine zr1 ?_ GE244.out | refine zr1 ?_ GE251.out | refine zr1 ?_ GE258.out) | exact HB.out)) hb); clear BK229; clear BK230; clear BK237; clear BK244; clear BK251; clear BK258; clear HB; have BK229 := n0_; have BK230 := n1_; have BK237 := n2_; have BK244 := n3_; have BK251 := n4_; have BK258 := n5_; have HB := n6_; clear n0_ n1_ n2_ n3_ n4_ n5_ n6_; (try clear hb); (try clear hb2); (try clear hk); (try clear hi)))
              go_ret
              exact ⟨by first | rfl | (simp [errW_none, errW_some] <;> rfl) | (simp [*, errW_none, errW_some] <;> rfl), by repeat (first | (with_reducible first | exact HB.out | apply zq7 | apply zq8 | apply zq9 | refine zr1 ?_ GE229.out | refine zr1 ?_ GE230.out | refine zr1 ?_ GE237.out | refine zr1 ?_ GE244.out | refine zr1 ?_ GE251.out | refine zr1 ?_ GE258.out) | exact HB.out)⟩
          · replace c82 := Bool.eq_false_iff.mpr c82
            subst c82
            have H1 : (if (t231 == 0 && (t232 == 0 && (t233 == 0 && (t234 == 0 && (t235 == 0))))) = true then ((spec_CfgOk.f t219 t220 t221 t222 t223).bind fun t260 => (if t260 = true then ((spec_CfgOk.f t224 t225 t226 t227 t228).bind fun t261 => (if t261 = true then (if t219 = t224 then (some false) else ((laws_liOk.f).bind fun t262 => (some t262))) else ((laws_liOk.f).bind fun t263 => (some t263)))) else ((laws_liOk.f).bind fun t264 => (some t264)))) else (some false)) = some r := by rw [if_neg (show ¬ (false = true) by decide)] at H; exact H
            clear H
            have H := H1
            clear H1
            by_cases c254 : (t231 == 0 && (t232 == 0 && (t233 == 0 && (t234 == 0 && (t235 == 0))))) = true
            · rw [if_pos c254] at H
              have c254b0 : (t231 == 0 && (t232 == 0 && (t233 == 0 && (t234 == 0 && (t235 == 0))))) = true := c254
              (try (have c254b1 : decide (t231 = 0 && (t232 == 0 && (t233 == 0 && (t234 == 0 && (t235 == 0))))) = true := by simpa using c254))
              (try (have c254b2 : (t231 == 0 && (t232 == 0 && (t233 == 0 && (t234 == 0 && (t235 == 0))))) = true := by simpa using c254))
              clear c254
              replace H := Option.bind_eq_some_iff.mp H
              obtain ⟨t260, A2550, H⟩ := H
              try dsimp only at H
              have A255 := mk_ A2550
              clear A2550
              by_cases c256 : t260 = true
              · subst c256
                have H1 : ((spec_CfgOk.f t224 t225 t226 t227 t228).bind fun t261 => (if t261 = true then (if t219 = t224 then (some false) else ((laws_liOk.f).bind fun t262 => (some t262))) else ((laws_liOk.f).bind fun t263 => (some t263)))) = some r := by rw [if_pos rfl] at H; exact H
                clear H
                have H := H1
                clear H1
                replace H := Option.bind_eq_some_iff.mp H
                obtain ⟨t261, A2570, H⟩ := H
                try dsimp only at H
                have A257 := mk_ A2570
                clear A2570
                by_cases c258 : t261 = true
                · subst c258
                  have H1 : (if t219 = t224 then (some false) else ((laws_liOk.f).bind fun t262 => (some t262))) = some r := by rw [if_pos rfl] at H; exact H
                  clear H
                  have H := H1
                  clear H1
                  by_cases c259 : t219 = t224
                  · rw [if_pos c259] at H
                    have c259b0 : (t219 == t224) = true := beq_iff_eq.mpr c259
                    have c259b1 : (t219 != t224) = false := bne_eq_false_iff_eq.mpr c259
                    clear c259
                    obtain rfl := Option.some.inj H
                    have hnb260 := NB237_229.out
                    have hnc260 := NB229_237.out
                    have hnb261 := NB237_230.out
                    have hnc261 := NB230_237.out
                    have hnb262 := NB237_244.out
                    have hnc262 := NB244_237.out
                    have hnb263 := NB237_251.out
                    have hnc263 := NB251_237.out
                    have hcz264_0 : wc.cell? ⟨gb237, 0, none⟩ = some (.int .i64 t231) := (zr4 BK237.out 0).trans rfl
                    have hcz264_1 : wc.cell? ⟨gb237, 1, none⟩ = some (.int .i64 t232) := (zr4 BK237.out 1).trans rfl
                    have hcz264_2 : wc.cell? ⟨gb237, 2, none⟩ = some (.int .i64 t233) := (zr4 BK237.out 2).trans rfl
                    have hcz264_3 : wc.cell? ⟨gb237, 3, none⟩ = some (.int .i64 t234) := (zr4 BK237.out 3).trans rfl
                    have hcz264_4 : wc.cell? ⟨gb237, 4, none⟩ = some (.int .i64 t235) := (zr4 BK237.out 4).trans rfl
                    have hfz264_0 := zr5 BK237.out 0
                    have hfz264_1 := zr5 BK237.out 1
                    have hfz264_2 := zr5 BK237.out 2
                    have hfz264_3 := zr5 BK237.out 3
                    have hfz264_4 := zr5 BK237.out 4
                    have hnb265 := NB229_230.out
                    have hnc265 := NB230_229.out
                    have hnb266 := NB229_244.out
                    have hnc266 := NB244_229.out
                    have hnb267 := NB229_251.out
                    have hnc267 := NB251_229.out
                    have hcz268_0 : wc.cell? ⟨gb229, 0, none⟩ = some (.int .i64 t219) := (zr4 BK229.out 0).trans rfl
                    have hcz268_1 : wc.cell? ⟨gb229, 1, none⟩ = some (.int .i64 t220) := (zr4 BK229.out 1).trans rfl
                    have hcz268_2 : wc.cell? ⟨gb229, 2, none⟩ = some (.int .i64 t221) := (zr4 BK229.out 2).trans rfl
                    have hcz268_3 : wc.cell? ⟨gb229, 3, none⟩ = some (.int .i64 t222) := (zr4 BK229.out 3).trans rfl
                    have hcz268_4 : wc.cell? ⟨gb229, 4, none⟩ = some (.int .i64 t223) := (zr4 BK229.out 4).trans rfl
                    have hfz268_0 := zr5 BK229.out 0
                    have hfz268_1 := zr5 BK229.out 1
                    have hfz268_2 := zr5 BK229.out 2
                    have hfz268_3 := zr5 BK229.out 3
                    have hfz268_4 := zr5 BK229.out 4
                    go_wp2_with (first | (go_at_call 17; (with_reducible refine (spec_CfgOk.calls t219 t220 t221 t222 t223 true _ A255.out).mono ?_); rintro e w269 ⟨rfl, hb⟩; have n0_ := mk_ (zq6 (by exact BK229.out) hb); have n1_ := mk_ (zq6 (by exact BK230.out) hb); have n2_ := mk_ (zq6 (by exact BK237.out) hb); have n3_ := mk_ (zq6 (by exact BK244.out) hb); have n4_ := mk_ (zq6 (by exact BK251.out) hb); have n5_ := mk_ (zr3 (by repeat (first | (with_reducible first | exact HB.out | apply zq7 | apply zq8 | apply zq9 | refine zr1 ?_ GE229.out | refine zr1 ?_ GE230.out | refine zr1 ?_ GE237.out | refine zr1 ?_ GE244.out | refine zr1 ?_ GE251.out) | exact HB.out)) hb); clear BK229; clear BK230; clear BK237; clear BK244; clear BK251; clear HB; have BK229 := n0_; have BK230 := n1_; have BK237 := n2_; have BK244 := n3_; have BK251 := n4_; have HB := n5_; clear n0_ n1_ n2_ n3_ n4_ n5_; (try clear hb); (try clear hb2); (try clear hk); (try clear hi); have hnb270 := NB230_244.out; have hnc270 := NB244_230.out; have hnb271 := NB230_251.out; have hnc271 := NB251_230.out; obtain ⟨hcz272_0, hcz272_1, hcz272_2, hcz272_3, hcz272_4⟩ := cz5 BK230.out; obtain ⟨hfz272_0, hfz272_1, hfz272_2, hfz272_3, hfz272_4⟩ := fz5 BK230.out) | (go_at_call 17; (with_reducible refine (spec_CfgOk.calls t224 t225 t226 t227 t228 true _ A257.out).mono ?_); rintro e w273 ⟨rfl, hb⟩; have n0_ := mk_ (zq6 (by exact BK229.out) hb); have n1_ := mk_ (zq6 (by exact BK230.out) hb); have n2_ := mk_ (zq6 (by exact BK237.out) hb); have n3_ := mk_ (zq6 (by exact BK244.out) hb); have n4_ := mk_ (zq6 (by exact BK251.out) hb); have n5_ := mk_ (zr3 (by repeat (first | (with_reducible first | exact HB.out | apply zq7 | apply zq8 | apply zq9 | refine zr1 ?_ GE229.out | refine zr1 ?_ GE230.out | refine zr1 ?_ GE237.out | refine zr1 ?_ GE244.out | refine zr1 ?_ GE251.out) | exact HB.out)) hb); clear BK229; clear BK230; clear BK237; clear BK244; clear BK251; clear HB; have BK229 := n0_; have BK230 := n1_; have BK237 := n2_; have BK244 := n3_; have BK251 := n4_; have HB := n5_; clear n0_ n1_ n2_ n3_ n4_ n5_; (try clear hb); (try clear hb2); (try clear hk); (try clear hi); obtain ⟨hcz274_0, hcz274_1, hcz274_2, hcz274_3, hcz274_4⟩ := cz5 BK229.out; obtain ⟨hfz274_0, hfz274_1, hfz274_2, hfz274_3, hfz274_4⟩ := fz5 BK229.out; obtain ⟨hcz275_0, hcz275_1, hcz275_2, hcz275_3, hcz275_4⟩ := cz5 BK230.out; obtain ⟨hfz275_0, hfz275_1, hfz275_2, hfz275_3, hfz275_4⟩ := fz5 BK230.out))
                    go_ret
                    exact ⟨by first | rfl | (simp [errW_none, errW_some] <;> rfl) | (simp [*, errW_none, errW_some] <;> rfl), by repeat (first | (with_reducible first | exact HB.out | apply zq7 | apply zq8 | apply zq9 | refine zr1 ?_ GE229.out | refine zr1 ?_ GE230.out | refine zr1 ?_ GE237.out | refine zr1 ?_ GE244.out | refine zr1 ?_ GE251.out) | exact HB.out)⟩
                  · rw [if_neg c259] at H
                    have c259b0 : (t219 == t224) = false := beq_eq_false_iff_ne.mpr c259
                    have c259b1 : (t219 != t224) = true := bne_iff_ne.mpr c259
                    replace H := Option.bind_eq_some_iff.mp H
                    obtain ⟨t262, A2760, H⟩ := H
                    try dsimp only at H
                    have A276 := mk_ A2760
                    clear A2760
                    obtain rfl := Option.some.inj H
                    have hnb277 := NB237_229.out
                    have hnc277 := NB229_237.out
                    have hnb278 := NB237_230.out
                    have hnc278 := NB230_237.out
                    have hnb279 := NB237_244.out
                    have hnc279 := NB244_237.out
                    have hnb280 := NB237_251.out
                    have hnc280 := NB251_237.out
                    have hcz281_0 : wc.cell? ⟨gb237, 0, none⟩ = some (.int .i64 t231) := (zr4 BK237.out 0).trans rfl
                    have hcz281_1 : wc.cell? ⟨gb237, 1, none⟩ = some (.int .i64 t232) := (zr4 BK237.out 1).trans rfl
                    have hcz281_2 : wc.cell? ⟨gb237, 2, none⟩ = some (.int .i64 t233) := (zr4 BK237.out 2).trans rfl
                    have hcz281_3 : wc.cell? ⟨gb237, 3, none⟩ = some (.int .i64 t234) := (zr4 BK237.out 3).trans rfl
                    have hcz281_4 : wc.cell? ⟨gb237, 4, none⟩ = some (.int .i64 t235) := (zr4 BK237.out 4).trans rfl
                    have hfz281_0 := zr5 BK237.out 0
                    have hfz281_1 := zr5 BK237.out 1
                    have hfz281_2 := zr5 BK237.out 2
                    have hfz281_3 := zr5 BK237.out 3
                    have hfz281_4 := zr5 BK237.out 4
                    have hnb282 := NB229_230.out
                    have hnc282 := NB230_229.out
                    have hnb283 := NB229_244.out
                    have hnc283 := NB244_229.out
                    have hnb284 := NB229_251.out
                    have hnc284 := NB251_229.out
                    have hcz285_0 : wc.cell? ⟨gb229, 0, none⟩ = some (.int .i64 t219) := (zr4 BK229.out 0).trans rfl
                    have hcz285_1 : wc.cell? ⟨gb229, 1, none⟩ = some (.int .i64 t220) := (zr4 BK229.out 1).trans rfl
                    have hcz285_2 : wc.cell? ⟨gb229, 2, none⟩ = some (.int .i64 t221) := (zr4 BK229.out 2).trans rfl
                    have hcz285_3 : wc.cell? ⟨gb229, 3, none⟩ = some (.int .i64 t222) := (zr4 BK229.out 3).trans rfl
                    have hcz285_4 : wc.cell? ⟨gb229, 4, none⟩ = some (.int .i64 t223) := (zr4 BK229.out 4).trans rfl
                    have hfz285_0 := zr5 BK229.out 0
                    have hfz285_1 := zr5 BK229.out 1
                    have hfz285_2 := zr5 BK229.out 2
                    have hfz285_3 := zr5 BK229.out 3
                    have hfz285_4 := zr5 BK229.out 4
                    go_wp2_with (first | (go_at_call 17; (with_reducible refine (spec_CfgOk.calls t219 t220 t221 t222 t223 true _ A255.out).mono ?_); rintro e w286 ⟨rfl, hb⟩; have n0_ := mk_ (zq6 (by exact BK229.out) hb); have n1_ := mk_ (zq6 (by exact BK230.out) hb); have n2_ := mk_ (zq6 (by exact BK237.out) hb); have n3_ := mk_ (zq6 (by exact BK244.out) hb); have n4_ := mk_ (zq6 (by exact BK251.out) hb); have n5_ := mk_ (zr3 (by repeat (first | (with_reducible first | exact HB.out | apply zq7 | apply zq8 | apply zq9 | refine zr1 ?_ GE229.out | refine zr1 ?_ GE230.out | refine zr1 ?_ GE237.out | refine zr1 ?_ GE244.out | refine zr1 ?_ GE251.out) | exact HB.out)) hb); clear BK229; clear BK230; clear BK237; clear BK244; clear BK251; clear HB; have BK229 := n0_; have BK230 := n1_; have BK237 := n2_; have BK244 := n3_; have BK251 := n4_; have HB := n5_; clear n0_ n1_ n2_ n3_ n4_ n5_; (try clear hb); (try clear hb2); (try clear hk); (try clear hi); have hnb287 := NB230_244.out; have hnc287 := NB244_230.out; have hnb288 := NB230_251.out; have hnc288 := NB251_230.out; obtain ⟨hcz289_0, hcz289_1, hcz289_2, hcz289_3, hcz289_4⟩ := cz5 BK230.out; obtain ⟨hfz289_0, hfz289_1, hfz289_2, hfz289_3, hfz289_4⟩ := fz5 BK230.out) | (go_at_call 17; (with_reducible refine (spec_CfgOk.calls t224 t225 t226 t227 t228 true _ A257.out).mono ?_); rintro e w290 ⟨rfl, hb⟩; have n0_ := mk_ (zq6 (by exact BK229.out) hb); have n1_ := mk_ (zq6 (by exact BK230.out) hb); have n2_ := mk_ (zq6 (by exact BK237.out) hb); have n3_ := mk_ (zq6 (by exact BK244.out) hb); have n4_ := mk_ (zq6 (by exact BK251.out) hb); have n5_ := mk_ (zr3 (by repeat (first | (with_reducible first | exact HB.out | apply zq7 | apply zq8 | apply zq9 | refine zr1 ?_ GE229.out | refine zr1 ?_ GE230.out | refine zr1 ?_ GE237.out | refine zr1 ?_ GE244.out | refine zr1 ?_ GE251.out) | exact HB.out)) hb); clear BK229; clear BK230; clear BK237; clear BK244; clear BK251; clear HB; have BK229 := n0_; have BK230 := n1_; have BK237 := n2_; have BK244 := n3_; have BK251 := n4_; have HB := n5_; clear n0_ n1_ n2_ n3_ n4_ n5_; (try clear hb); (try clear hb2); (try clear hk); (try clear hi); obtain ⟨hcz291_0, hcz291_1, hcz291_2, hcz291_3, hcz291_4⟩ := cz5 BK229.out; obtain ⟨hfz291_0, hfz291_1, hfz291_2, hfz291_3, hfz291_4⟩ := fz5 BK229.out; obtain ⟨hcz292_0, hcz292_1, hcz292_2, hcz292_3, hcz292_4⟩ := cz5 BK230.out; obtain ⟨hfz292_0, hfz292_1, hfz292_2, hfz292_3, hfz292_4⟩ := fz5 BK230.out) | (go_at_call 12; (with_reducible refine (laws_liOk.calls  t262 _ A276.out).mono ?_); rintro e w293 ⟨rfl, hb⟩; have n0_ := mk_ (zq6 (by exact BK229.out) hb); have n1_ := mk_ (zq6 (by exact BK230.out) hb); have n2_ := mk_ (zq6 (by exact BK237.out) hb); have n3_ := mk_ (zq6 (by exact BK244.out) hb); have n4_ := mk_ (zq6 (by exact BK251.out) hb); have n5_ := mk_ (zr3 (by repeat (first | (with_reducible first | exact HB.out | apply zq7 | apply zq8 | apply zq9 | refine zr1 ?_ GE229.out | refine zr1 ?_ GE230.out | refine zr1 ?_ GE237.out | refine zr1 ?_ GE244.out | refine zr1 ?_ GE251.out) | exact HB.out)) hb); clear BK229; clear BK230; clear BK237; clear BK244; clear BK251; clear HB; have BK229 := n0_; have BK230 := n1_; have BK237 := n2_; have BK244 := n3_; have BK251 := n4_; have HB := n5_; clear n0_ n1_ n2_ n3_ n4_ n5_; (try clear hb); (try clear hb2); (try clear hk); (try clear hi)))
                    go_ret
                    exact ⟨by first | rfl | (simp [errW_none, errW_some] <;> rfl) | (simp [*, errW_none, errW_some] <;> rfl), by repeat (first | (with_reducible first | exact HB.out | apply zq7 | apply zq8 | apply zq9 | refine zr1 ?_ GE229.out | refine zr1 ?_ GE230.out | refine zr1 ?_ GE237.out | refine zr1 ?_ GE244.out | refine zr1 ?_ GE251.out) | exact HB.out)⟩
                · replace c258 := Bool.eq_false_iff.mpr c258
                  subst c258
                  have H1 : ((laws_liOk.f).bind fun t263 => (some t263)) = some r := by rw [if_neg (show ¬ (false = true) by decide)] at H; exact H
                  clear H
                  have H := H1
                  clear H1
                  replace H := Option.bind_eq_some_iff.mp H
                  obtain ⟨t263, A2940, H⟩ := H
                  try dsimp only at H
                  have A294 := mk_ A2940
                  clear A2940
                  obtain rfl := Option.some.inj H
                  have hnb295 := NB237_229.out
                  have hnc295 := NB229_237.out
                  have hnb296 := NB237_230.out
                  have hnc296 := NB230_237.out
                  have hnb297 := NB237_244.out
                  have hnc297 := NB244_237.out
                  have hnb298 := NB237_251.out
                  have hnc298 := NB251_237.out
                  have hcz299_0 : wc.cell? ⟨gb237, 0, none⟩ = some (.int .i64 t231) := (zr4 BK237.out 0).trans rfl
                  have hcz299_1 : wc.cell? ⟨gb237, 1, none⟩ = some (.int .i64 t232) := (zr4 BK237.out 1).trans rfl
                  have hcz299_2 : wc.cell? ⟨gb237, 2, none⟩ = some (.int .i64 t233) := (zr4 BK237.out 2).trans rfl
                  have hcz299_3 : wc.cell? ⟨gb237, 3, none⟩ = some (.int .i64 t234) := (zr4 BK237.out 3).trans rfl
                  have hcz299_4 : wc.cell? ⟨gb237, 4, none⟩ = some (.int .i64 t235) := (zr4 BK237.out 4).trans rfl
                  have hfz299_0 := zr5 BK237.out 0
                  have hfz299_1 := zr5 BK237.out 1
                  have hfz299_2 := zr5 BK237.out 2
                  have hfz299_3 := zr5 BK237.out 3
                  have hfz299_4 := zr5 BK237.out 4
                  have hnb300 := NB229_230.out
                  have hnc300 := NB230_229.out
                  have hnb301 := NB229_244.out
                  have hnc301 := NB244_229.out
                  have hnb302 := NB229_251.out
                  have hnc302 := NB251_229.out
                  have hcz303_0 : wc.cell? ⟨gb229, 0, none⟩ = some (.int .i64 t219) := (zr4 BK229.out 0).trans rfl
                  have hcz303_1 : wc.cell? ⟨gb229, 1, none⟩ = some (.int .i64 t220) := (zr4 BK229.out 1).trans rfl
                  have hcz303_2 : wc.cell? ⟨gb229, 2, none⟩ = some (.int .i64 t221) := (zr4 BK229.out 2).trans rfl
                  have hcz303_3 : wc.cell? ⟨gb229, 3, none⟩ = some (.int .i64 t222) := (zr4 BK229.out 3).trans rfl
                  have hcz303_4 : wc.cell? ⟨gb229, 4, none⟩ = some (.int .i64 t223) := (zr4 BK229.out 4).trans rfl
                  have hfz303_0 := zr5 BK229.out 0
                  have hfz303_1 := zr5 BK229.out 1
                  have hfz303_2 := zr5 BK229.out 2
                  have hfz303_3 := zr5 BK229.out 3
                  have hfz303_4 := zr5 BK229.out 4
                  go_wp2_with (first | (go_at_call 17; (with_reducible refine (spec_CfgOk.calls t219 t220 t221 t222 t223 true _ A255.out).mono ?_); rintro e w304 ⟨rfl, hb⟩; have n0_ := mk_ (zq6 (by exact BK229.out) hb); have n1_ := mk_ (zq6 (by exact BK230.out) hb); have n2_ := mk_ (zq6 (by exact BK237.out) hb); have n3_ := mk_ (zq6 (by exact BK244.out) hb); have n4_ := mk_ (zq6 (by exact BK251.out) hb); have n5_ := mk_ (zr3 (by repeat (first | (with_reducible first | exact HB.out | apply zq7 | apply zq8 | apply zq9 | refine zr1 ?_ GE229.out | refine zr1 ?_ GE230.out | refine zr1 ?_ GE237.out | refine zr1 ?_ GE244.out | refine zr1 ?_ GE251.out) | exact HB.out)) hb); clear BK229; clear BK230; clear BK237; clear BK244; clear BK251; clear HB; have BK229 := n0_; have BK230 := n1_; have BK237 := n2_; have BK244 := n3_; have BK251 := n4_; have HB := n5_; clear n0_ n1_ n2_ n3_ n4_ n5_; (try clear hb); (try clear hb2); (try clear hk); (try clear hi); have hnb305 := NB230_244.out; have hnc305 := NB244_230.out; have hnb306 := NB230_251.out; have hnc306 := NB251_230.out; obtain ⟨hcz307_0, hcz307_1, hcz307_2, hcz307_3, hcz307_4⟩ := cz5 BK230.out; obtain ⟨hfz307_0, hfz307_1, hfz307_2, hfz307_3, hfz307_4⟩ := fz5 BK230.out) | (go_at_call 17; (with_reducible refine (spec_CfgOk.calls t224 t225 t226 t227 t228 false _ A257.out).mono ?_); rintro e w308 ⟨rfl, hb⟩; have n0_ := mk_ (zq6 (by exact BK229.out) hb); have n1_ := mk_ (zq6 (by exact BK230.out) hb); have n2_ := mk_ (zq6 (by exact BK237.out) hb); have n3_ := mk_ (zq6 (by exact BK244.out) hb); have n4_ := mk_ (zq6 (by exact BK251.out) hb); have n5_ := mk_ (zr3 (by repeat (first | (with_reducible first | exact HB.out | apply zq7 | apply zq8 | apply zq9 | refine zr1 ?_ GE229.out | refine zr1 ?_ GE230.out | refine zr1 ?_ GE237.out | refine zr1 ?_ GE244.out | refine zr1 ?_ GE251.out) | exact HB.out)) hb); clear BK229; clear BK230; clear BK237; clear BK244; clear BK251; clear HB; have BK229 := n0_; have BK230 := n1_; have BK237 := n2_; have BK244 := n3_; have BK251 := n4_; have HB := n5_; clear n0_ n1_ n2_ n3_ n4_ n5_; (try clear hb); (try clear hb2); (try clear hk); (try clear hi)) | (go_at_call 12; (with_reducible refine (laws_liOk.calls  t263 _ A294.out).mono ?_); rintro e w309 ⟨rfl, hb⟩; have n0_ := mk_ (zq6 (by exact BK229.out) hb); have n1_ := mk_ (zq6 (by exact BK230.out) hb); have n2_ := mk_ (zq6 (by exact BK237.out) hb); have n3_ := mk_ (zq6 (by exact BK244.out) hb); have n4_ := mk_ (zq6 (by exact BK251.out) hb); have n5_ := mk_ (zr3 (by repeat (first | (with_reducible first | exact HB.out | apply zq7 | apply zq8 | apply zq9 | refine zr1 ?_ GE229.out | refine zr1 ?_ GE230.out | refine zr1 ?_ GE237.out | refine zr1 ?_ GE244.out | refine zr1 ?_ GE251.out) | exact HB.out)) hb); clear BK229; clear BK230; clear BK237; clear BK244; clear BK251; clear HB; have BK229 := n0_; have BK230 := n1_; have BK237 := n2_; have BK244 := n3_; have BK251 := n4_; have HB := n5_; clear n0_ n1_ n2_ n3_ n4_ n5_; (try clear hb); (try clear hb2); (try clear hk); (try clear hi)))
                  go_ret
                  exact ⟨by first | rfl | (simp [errW_none, errW_some] <;> rfl) | (simp [*, errW_none, errW_some] <;> rfl), by repeat (first | (with_reducible first | exact HB.out | apply zq7 | apply zq8 | apply zq9 | refine zr1 ?_ GE229.out | refine zr1 ?_ GE230.out | refine zr1 ?_ GE237.out | refine zr1 ?_ GE244.out | refine zr1 ?_ GE251.out) | exact HB.out)⟩
              · replace c256 := Bool.eq_false_iff.mpr c256
                subst c256
                have H1 : ((laws_liOk.f).bind fun t264 => (some t264)) = some r := by rw [if_neg (show ¬ (false = true) by decide)] at H; exact H
                clear H
                have H := H1
                clear H1
                replace H := Option.bind_eq_some_iff.mp H
                obtain ⟨t264, A3100, H⟩ := H
                try dsimp only at H
                have A310 := mk_ A3100
                clear A3100
                obtain rfl := Option.some.inj H
                have hnb311 := NB237_229.out
                have hnc311 := NB229_237.out
                have hnb312 := NB237_230.out
                have hnc312 := NB230_237.out
                have hnb313 := NB237_244.out
                have hnc313 := NB244_237.out
                have hnb314 := NB237_251.out
                have hnc314 := NB251_237.out
                have hcz315_0 : wc.cell? ⟨gb237, 0, none⟩ = some (.int .i64 t231) := (zr4 BK237.out 0).trans rfl
                have hcz315_1 : wc.cell? ⟨gb237, 1, none⟩ = some (.int .i64 t232) := (zr4 BK237.out 1).trans rfl
                have hcz315_2 : wc.cell? ⟨gb237, 2, none⟩ = some (.int .i64 t233) := (zr4 BK237.out 2).trans rfl
                have hcz315_3 : wc.cell? ⟨gb237, 3, none⟩ = some (.int .i64 t234) := (zr4 BK237.out 3).trans rfl
                have hcz315_4 : wc.cell? ⟨gb237, 4, none⟩ = some (.int .i64 t235) := (zr4 BK237.out 4).trans rfl
                have hfz315_0 := zr5 BK237.out 0
                have hfz315_1 := zr5 BK237.out 1
                have hfz315_2 := zr5 BK237.out 2
                have hfz315_3 := zr5 BK237.out 3
                have hfz315_4 := zr5 BK237.out 4
                have hnb316 := NB229_230.out
                have hnc316 := NB230_229.out
                have hnb317 := NB229_244.out
                have hnc317 := NB244_229.out
                have hnb318 := NB229_251.out
                have hnc318 := NB251_229.out
                have hcz319_0 : wc.cell? ⟨gb229, 0, none⟩ = some (.int .i64 t219) := (zr4 BK229.out 0).trans rfl
                have hcz319_1 : wc.cell? ⟨gb229, 1, none⟩ = some (.int .i64 t220) := (zr4 BK229.out 1).trans rfl
                have hcz319_2 : wc.cell? ⟨gb229, 2, none⟩ = some (.int .i64 t221) := (zr4 BK229.out 2).trans rfl
                have hcz319_3 : wc.cell? ⟨gb229, 3, none⟩ = some (.int .i64 t222) := (zr4 BK229.out 3).trans rfl
                have hcz319_4 : wc.cell? ⟨gb229, 4, none⟩ = some (.int .i64 t223) := (zr4 BK229.out 4).trans rfl
                have hfz319_0 := zr5 BK229.out 0
                have hfz319_1 := zr5 BK229.out 1
                have hfz319_2 := zr5 BK229.out 2
                have hfz319_3 := zr5 BK229.out 3
                have hfz319_4 := zr5 BK229.out 4
                go_wp2_with (first | (go_at_call 17; (with_reducible refine (spec_CfgOk.calls t219 t220 t221 t222 t223 false _ A255.out).mono ?_); rintro e w320 ⟨rfl, hb⟩; have n0_ := mk_ (zq6 (by exact BK229.out) hb); have n1_ := mk_ (zq6 (by exact BK230.out) hb); have n2_ := mk_ (zq6 (by exact BK237.out) hb); have n3_ := mk_ (zq6 (by exact BK244.out) hb); have n4_ := mk_ (zq6 (by exact BK251.out) hb); have n5_ := mk_ (zr3 (by repeat (first | (with_reducible first | exact HB.out | apply zq7 | apply zq8 | apply zq9 | refine zr1 ?_ GE229.out | refine zr1 ?_ GE230.out | refine zr1 ?_ GE237.out | refine zr1 ?_ GE244.out | refine zr1 ?_ GE251.out) | exact HB.out)) hb); clear BK229; clear BK230; clear BK237; clear BK244; clear BK251; clear HB; have BK229 := n0_; have BK230 := n1_; have BK237 := n2_; have BK244 := n3_; have BK251 := n4_; have HB := n5_; clear n0_ n1_ n2_ n3_ n4_ n5_; (try clear hb); (try clear hb2); (try clear hk); (try clear hi)) | (go_at_call 12; (with_reducible refine (laws_liOk.calls  t264 _ A310.out).mono ?_); rintro e w321 ⟨rfl, hb⟩; have n0_ := mk_ (zq6 (by exact BK229.out) hb); have n1_ := mk_ (zq6 (by exact BK230.out) hb); have n2_ := mk_ (zq6 (by exact BK237.out) hb); have n3_ := mk_ (zq6 (by exact BK244.out) hb); have n4_ := mk_ (zq6 (by exact BK251.out) hb); have n5_ := mk_ (zr3 (by repeat (first | (with_reducible first | exact HB.out | apply zq7 | apply zq8 | apply zq9 | refine zr1 ?_ GE229.out | refine zr1 ?_ GE230.out | refine zr1 ?_ GE237.out | refine zr1 ?_ GE244.out | refine zr1 ?_ GE251.out) | exact HB.out)) hb); clear BK229; clear BK230; clear BK237; clear BK244; clear BK251; clear HB; have BK229 := n0_; have BK230 := n1_; have BK237 := n2_; have BK244 := n3_; have BK251 := n4_; have HB := n5_; clear n0_ n1_ n2_ n3_ n4_ n5_; (try clear hb); (try clear hb2); (try clear hk); (try clear hi)))
                go_ret
                exact ⟨by first | rfl | (simp [errW_none, errW_some] <;> rfl) | (simp [*, errW_none, errW_some] <;> rfl), by repeat (first | (with_reducible first | exact HB.out | apply zq7 | apply zq8 | apply zq9 | refine zr1 ?_ GE229.out | refine zr1 ?_ GE230.out | refine zr1 ?_ GE237.out | refine zr1 ?_ GE244.out | refine zr1 ?_ GE251.out) | exact HB.out)⟩
            · rw [if_neg c254] at H
              have c254b0 : (t231 == 0 && (t232 == 0 && (t233 == 0 && (t234 == 0 && (t235 == 0))))) = false := by simpa using c254
              (try (have c254b1 : decide (t231 = 0 && (t232 == 0 && (t233 == 0 && (t234 == 0 && (t235 == 0))))) = false := by simpa using c254))
              (try (have c254b2 : (t231 == 0 && (t232 == 0 && (t233 == 0 && (t234 == 0 && (t235 == 0))))) = false := by simpa using c254))
              (try (have c254b3 : ¬ (t231 = 0 && (t232 == 0 && (t233 == 0 && (t234 == 0 && (t235 == 0))))) := by simpa using c254))
              clear c254
              obtain rfl := Option.some.inj H
              have hnb322 := NB237_229.out
              have hnc322 := NB229_237.out
              have hnb323 := NB237_230.out
              have hnc323 := NB230_237.out
              have hnb324 := NB237_244.out
              have hnc324 := NB244_237.out
              have hnb325 := NB237_251.out
              have hnc325 := NB251_237.out
              have hcz326_0 : wc.cell? ⟨gb237, 0, none⟩ = some (.int .i64 t231) := (zr4 BK237.out 0).trans rfl
              have hcz326_1 : wc.cell? ⟨gb237, 1, none⟩ = some (.int .i64 t232) := (zr4 BK237.out 1).trans rfl
              have hcz326_2 : wc.cell? ⟨gb237, 2, none⟩ = some (.int .i64 t233) := (zr4 BK237.out 2).trans rfl
              have hcz326_3 : wc.cell? ⟨gb237, 3, none⟩ = some (.int .i64 t234) := (zr4 BK237.out 3).trans rfl
              have hcz326_4 : wc.cell? ⟨gb237, 4, none⟩ = some (.int .i64 t235) := (zr4 BK237.out 4).trans rfl
              have hfz326_0 := zr5 BK237.out 0
              have hfz326_1 := zr5 BK237.out 1
              have hfz326_2 := zr5 BK237.out 2
              have hfz326_3 := zr5 BK237.out 3
              have hfz326_4 := zr5 BK237.out 4
              go_wp2
              go_ret
              exact ⟨by first | rfl | (simp [errW_none, errW_some] <;> rfl) | (simp [*, errW_none, errW_some] <;> rfl), by repeat (first | (with_reducible first | exact HB.out | apply zq7 | apply zq8 | apply zq9 | refine zr1 ?_ GE229.out | refine zr1 ?_ GE230.out | refine zr1 ?_ GE237.out | refine zr1 ?_ GE244.out | refine zr1 ?_ GE251.out) | exact HB.out)⟩

/-- THE ONE PURE STATEMENT of laws_FnCfgMeet: yours. -/
def laws_FnCfgMeet.Pure : Prop := ∀ (l0 : List Int), l0.length ≤ maxLen → l0.length * 1 ≤ 140737488351232 → (∀ x ∈ l0, (Lit.int .u8 x).wf = true) → ∃ k, laws_FnCfgMeet.f k l0 = some true
theorem laws_FnCfgMeet.walk (P : laws_FnCfgMeet.Pure) (a0 : Option Addr) (len0 cap0 : Nat) (z0 : List Int) (w : World) (w0 : (a0 = none ∧ len0 = 0 ∧ cap0 = 0 ∧ z0 = []) ∨ ∃ x, a0 = some x ∧ len0 ≤ cap0 ∧ cap0 ≤ maxLen ∧ z0.length = cap0 ∧ (∀ i, i < z0.length → w.cell? (x.add i) = some (.int .u8 (z0.getD i 0))) ∧ ∀ n ∈ z0, (Lit.int .u8 n).wf = true) (y0 : len0 * 1 ≤ 140737488351232) :
    Calls Try.prog 4 #[.slice a0 len0 cap0] w fun e w' => e = .returned (.bool true) ∧ Below w.heap.size w w' := by
 obtain ⟨l0, rfl, hr0, hm0, hw0, hc0⟩ := ReadsInt.ofRowC w0
 obtain ⟨k, h⟩ := P l0 hm0 y0 hw0
 refine (laws_FnCfgMeet.calls k _ _ l0 true w (Kd.C_of_reads (d := (0 : Int)) (h1 := fun _ => rfl) hr0) hc0 h).mono ?_
 rintro e w' ⟨rfl, hd⟩
 exact ⟨rfl, hd⟩

end Go.Proofs.Ytommafidnphkcaa.QFnCfgMeet
