-- Written by a program of this session, a turned copy of the print (not by print.sh itself). Lean checks it.
import Derived.Test.YteknaofnageihaaQFnExactTxOkx0
import Derived.Test.YteknaofnageihaaQFnExactTxOkx1
import Derived.Test.YteknaofnageihaaQFnExactTxOkx2
namespace Go.Proofs.Yteknaofnageihaa.QFnExactTxOk
open Go.RowKit Go.Proofs.YteknaofnageihaaW.PrintWords Go.Proofs.YteknaofnageihaaW.PrintLast Go.Proofs.YteknaofnageihaaW.PrintMore Go.Proofs.YteknaofnageihaaLoc
attribute [local go_sem] max2_int min2_int max_two min_two max_three min_three max_four min_four   -- for this text's walks alone
set_option linter.unusedVariables false
set_option linter.unusedSimpArgs false

/-! ### spec_TxOk: function 48 -/
def spec_TxOk.j0 : Nat → Bool → Int → Int → Int → Int → Int → Int → Int → List (S39) → Int → List (S39) → Bool → Int → Bool → Int → Bool → Option (Bool)
  | 0, _, _, _, _, _, _, _, _, _, _, _, _, _, _, _, _ => none
  | k + 1, x75, x125000, x125001, x125002, x125003, x125004, x126000, x126001, x126002, x126003, x126004, x126005, x126006, x126007, x126008, x126009 => if x75 = true then (some false) else ((spec_l6Parts.f k x126002 x125002).bind fun t134 => (if t134 = true then ((spec_l6Parts.f k x126004 x125002).bind fun t135 => (some t135)) else (some false)))
def spec_TxOk.f (k : Nat) (a0_0 : Int) (a0_1 : Int) (a0_2 : Int) (a0_3 : Int) (a0_4 : Int) (a1_0 : Int) (a1_1 : Int) (l1_2 : List (S39)) (a1_3 : Int) (l1_4 : List (S39)) (a1_5 : Bool) (a1_6 : Int) (a1_7 : Bool) (a1_8 : Int) (a1_9 : Bool) : Option (Bool) := (spec_CfgOk.f a0_0 a0_1 a0_2 a0_3 a0_4).bind fun t126 => (if t126 = true then ((spec_l1In.f a1_0 0 7).bind fun t127 => (if t127 = true then ((spec_l1In.f a1_1 0 7).bind fun t128 => (if t128 = true then (if (l1_2.length : Int) > a0_1 then (spec_TxOk.j0 k true a0_0 a0_1 a0_2 a0_3 a0_4 a1_0 a1_1 l1_2 a1_3 l1_4 a1_5 a1_6 a1_7 a1_8 a1_9) else ((spec_NumFar.f a1_1 a1_0).bind fun t129 => (if t129 = (l1_2.length : Int) then ((spec_l1In.f a1_3 0 (l1_2.length : Int)).bind fun t130 => (if t130 = true then (if (l1_4.length : Int) > 24 then (spec_TxOk.j0 k true a0_0 a0_1 a0_2 a0_3 a0_4 a1_0 a1_1 l1_2 a1_3 l1_4 a1_5 a1_6 a1_7 a1_8 a1_9) else ((spec_l1In.f a1_6 0 a0_4).bind fun t131 => (if t131 = true then ((spec_l1In.f a1_8 0 9999).bind fun t132 => (if t132 = true then ((spec_NumOf.f a1_8).bind fun t133 => (spec_TxOk.j0 k (t133 != a1_1) a0_0 a0_1 a0_2 a0_3 a0_4 a1_0 a1_1 l1_2 a1_3 l1_4 a1_5 a1_6 a1_7 a1_8 a1_9)) else (spec_TxOk.j0 k true a0_0 a0_1 a0_2 a0_3 a0_4 a1_0 a1_1 l1_2 a1_3 l1_4 a1_5 a1_6 a1_7 a1_8 a1_9))) else (spec_TxOk.j0 k true a0_0 a0_1 a0_2 a0_3 a0_4 a1_0 a1_1 l1_2 a1_3 l1_4 a1_5 a1_6 a1_7 a1_8 a1_9)))) else (spec_TxOk.j0 k true a0_0 a0_1 a0_2 a0_3 a0_4 a1_0 a1_1 l1_2 a1_3 l1_4 a1_5 a1_6 a1_7 a1_8 a1_9))) else (spec_TxOk.j0 k true a0_0 a0_1 a0_2 a0_3 a0_4 a1_0 a1_1 l1_2 a1_3 l1_4 a1_5 a1_6 a1_7 a1_8 a1_9)))) else (spec_TxOk.j0 k true a0_0 a0_1 a0_2 a0_3 a0_4 a1_0 a1_1 l1_2 a1_3 l1_4 a1_5 a1_6 a1_7 a1_8 a1_9))) else (spec_TxOk.j0 k true a0_0 a0_1 a0_2 a0_3 a0_4 a1_0 a1_1 l1_2 a1_3 l1_4 a1_5 a1_6 a1_7 a1_8 a1_9))) else (spec_TxOk.j0 k true a0_0 a0_1 a0_2 a0_3 a0_4 a1_0 a1_1 l1_2 a1_3 l1_4 a1_5 a1_6 a1_7 a1_8 a1_9))
theorem spec_TxOk.mono_l : ∀ k, (∀ y0 y1 y2 y3 y4 y5 y6 y7 y8 y9 y10 y11 y12 y13 y14 y15, LeO (spec_TxOk.j0 k y0 y1 y2 y3 y4 y5 y6 y7 y8 y9 y10 y11 y12 y13 y14 y15) (spec_TxOk.j0 (k + 1) y0 y1 y2 y3 y4 y5 y6 y7 y8 y9 y10 y11 y12 y13 y14 y15))
  | 0 => fun _ _ _ _ _ _ _ _ _ _ _ _ _ _ _ _ r h => by simp [spec_TxOk.j0] at h
  | k + 1 => by
    have ih0 := spec_TxOk.mono_l k
    · intro y0 y1 y2 y3 y4 y5 y6 y7 y8 y9 y10 y11 y12 y13 y14 y15
      unfold spec_TxOk.j0
      repeat' first
      | (with_reducible exact ih0 _ _ _ _ _ _ _ _ _ _ _ _ _ _ _ _)
      | (with_reducible exact spec_l6Parts.mono _ _ _)
      | (with_reducible exact LeO.refl _)
      | (with_reducible exact LeO.none _)
      | (with_reducible refine LeO.ite ?_ ?_)
      | (with_reducible refine LeO.bind ?_ (fun _ => ?_))
      | exact ih0 _ _ _ _ _ _ _ _ _ _ _ _ _ _ _ _
      | exact spec_l6Parts.mono _ _ _
      | exact LeO.none _
      | refine LeO.ite ?_ ?_
      | refine LeO.bind ?_ (fun _ => ?_)
theorem spec_TxOk.mono : ∀ a0 a1 a2 a3 a4 a5 a6 a7 a8 a9 a10 a11 a12 a13 a14 k, LeO (spec_TxOk.f k a0 a1 a2 a3 a4 a5 a6 a7 a8 a9 a10 a11 a12 a13 a14) (spec_TxOk.f (k + 1) a0 a1 a2 a3 a4 a5 a6 a7 a8 a9 a10 a11 a12 a13 a14) := by
 intro a0 a1 a2 a3 a4 a5 a6 a7 a8 a9 a10 a11 a12 a13 a14 k
 have ih0 := spec_TxOk.mono_l k
 unfold spec_TxOk.f
 repeat' first
     | (with_reducible exact ih0 _ _ _ _ _ _ _ _ _ _ _ _ _ _ _ _)
     | (with_reducible exact spec_l6Parts.mono _ _ _)
     | (with_reducible exact LeO.refl _)
     | (with_reducible exact LeO.none _)
     | (with_reducible refine LeO.ite ?_ ?_)
     | (with_reducible refine LeO.bind ?_ (fun _ => ?_))
     | exact ih0 _ _ _ _ _ _ _ _ _ _ _ _ _ _ _ _
     | exact spec_l6Parts.mono _ _ _
     | exact LeO.none _
     | refine LeO.ite ?_ ?_
     | refine LeO.bind ?_ (fun _ => ?_)
def spec_TxOk.T1 : Bool × List (List Nat × List Nat) := (true, [([], []), ([0], [0]), ([1], [1]), ([2, 1], [2]), ([3], [3]), ([4, 3], [3, 4]), ([5, 3, 3], [3, 5]), ([6, 3], [3, 6]), ([3, 7], [3, 7]), ([8, 6], [8]), ([9], [9]), ([10, 9], [9, 10]), ([11, 9, 9], [9, 11]), ([12, 9], [9, 12]), ([9, 13], [9, 13]), ([14, 12], [14]), ([15], [15]), ([16, 15], [15, 16]), ([17, 15], [15, 17]), ([15], [15]), ([19, 15], [15, 19]), ([18, 20, 15], [15, 18, 20]), ([15, 21], [15, 21]), ([22, 15], [22]), ([23], [23]), ([24, 23], [23, 24]), ([23], [23]), ([26, 23], [23, 26]), ([25, 27, 23, 23], [23, 25, 27]), ([23], [23]), ([29, 23], [23, 29]), ([30, 23], [23, 30]), ([28, 31, 23], [23, 28, 31]), ([23, 32], [23, 32]), ([33, 28], [33]), ([34], [34]), ([35, 34], [34, 35]), ([34], [34]), ([37, 34], [34, 37]), ([38, 34], [34, 38]), ([36, 39, 34, 34], [34, 36, 39]), ([40, 34], [34, 40]), ([34, 41], [34, 41]), ([42, 40], [42]), ([43], [43]), ([44, 43], [43, 44]), ([45, 43], [43, 45]), ([46, 43], [43, 46]), ([43, 47], [43, 47]), ([48, 43], [48]), ([49], [49]), ([50, 49], [49, 50]), ([49], [49]), ([52, 49], [49, 52]), ([51, 53, 49, 49], [49, 51, 53]), ([54, 49], [49, 54]), ([49, 55], [49, 55]), ([56, 54], [56]), ([57], [57]), ([58, 57], [57, 58]), ([59, 57, 57], [57, 59]), ([60, 57], [57, 60]), ([57, 61], [57, 61]), ([62, 60], [62]), ([63], [63]), ([64, 63], [63, 64]), ([65, 63, 63], [63, 65]), ([63], [63]), ([67, 63], [63, 67]), ([66, 68, 63], [63, 66, 68]), ([63, 69], [63, 69])])
def spec_TxOk.B1 : List Nat := [0, 1, 3, 7, 15, 31, 63, 127, 255, 511, 1023, 2047, 4095, 8191, 16383, 32767, 65535, 131071, 262143, 65535, 589823, 2097151, 4194303, 8388607, 16777215, 33554431, 16777215, 83886079, 268435455, 16777215, 553648127, 1627389951, 4294967295, 8589934591, 17179869183, 34359738367, 68719476735, 34359738367, 171798691839, 446676598783, 1099511627775, 2199023255551, 4398046511103, 8796093022207, 17592186044415, 35184372088831, 70368744177663, 140737488355327, 281474976710655, 562949953421311, 1125899906842623, 2251799813685247, 1125899906842623, 5629499534213119, 18014398509481983, 36028797018963967, 72057594037927935, 144115188075855871, 288230376151711743, 576460752303423487, 1152921504606846975, 2305843009213693951, 4611686018427387903, 9223372036854775807, 18446744073709551615, 36893488147419103231, 73786976294838206463, 18446744073709551615, 166020696663385964543, 590295810358705651711, 1180591620717411303423]
theorem spec_TxOk.tab1 : rtab .any (opsOf Try.f48 1) = spec_TxOk.T1 := by kernel_rfl
theorem spec_TxOk.bits1 : waitsOk spec_TxOk.T1.2 spec_TxOk.B1 = true := by kernel_rfl
set_option maxHeartbeats 60000000 in
set_option maxRecDepth 100000 in
theorem spec_TxOk.calls (k : Nat) (a0_0 : Int) (a0_1 : Int) (a0_2 : Int) (a0_3 : Int) (a0_4 : Int) (a1_0 : Int) (a1_1 : Int) (A1_2 : Option Addr) (c1_2 : Nat) (l1_2 : List (S39)) (a1_3 : Int) (A1_4 : Option Addr) (c1_4 : Nat) (l1_4 : List (S39)) (a1_5 : Bool) (a1_6 : Int) (a1_7 : Bool) (a1_8 : Int) (a1_9 : Bool) (r : Bool) (w : World) (hr1_2 : Kd.C k39 w A1_2 l1_2.length l1_2) (hc1_2 : l1_2.length ≤ c1_2) (hr1_4 : Kd.C k39 w A1_4 l1_4.length l1_4) (hc1_4 : l1_4.length ≤ c1_4) (h : spec_TxOk.f k a0_0 a0_1 a0_2 a0_3 a0_4 a1_0 a1_1 l1_2 a1_3 l1_4 a1_5 a1_6 a1_7 a1_8 a1_9 = some r) :
    Calls Try.prog 48 #[.agg #[.int .i64 a0_0, .int .i64 a0_1, .int .i64 a0_2, .int .i64 a0_3, .int .i64 a0_4], .agg #[.int .i64 a1_0, .int .i64 a1_1, .slice A1_2 l1_2.length c1_2, .int .i64 a1_3, .slice A1_4 l1_4.length c1_4, .bool a1_5, .int .i64 a1_6, .bool a1_7, .int .i64 a1_8, .bool a1_9]] w fun e w' => e = .returned (.bool r) ∧ Below w.heap.size w w' := by
  have hu66 := Try.underlying66
  have hu69 := Try.underlying69
  have HR1_2 := mk_ hr1_2
  have HC1_2 := mk_ hc1_2
  clear hr1_2 hc1_2
  have HR1_4 := mk_ hr1_4
  have HC1_4 := mk_ hc1_4
  clear hr1_4 hc1_4
  have HB := mk_ (Below.refl w.heap.size w)
  have H : ((spec_CfgOk.f a0_0 a0_1 a0_2 a0_3 a0_4).bind fun t126 => (if t126 = true then ((spec_l1In.f a1_0 0 7).bind fun t127 => (if t127 = true then ((spec_l1In.f a1_1 0 7).bind fun t128 => (if t128 = true then (if (l1_2.length : Int) > a0_1 then (spec_TxOk.j0 k true a0_0 a0_1 a0_2 a0_3 a0_4 a1_0 a1_1 l1_2 a1_3 l1_4 a1_5 a1_6 a1_7 a1_8 a1_9) else ((spec_NumFar.f a1_1 a1_0).bind fun t129 => (if t129 = (l1_2.length : Int) then ((spec_l1In.f a1_3 0 (l1_2.length : Int)).bind fun t130 => (if t130 = true then (if (l1_4.length : Int) > 24 then (spec_TxOk.j0 k true a0_0 a0_1 a0_2 a0_3 a0_4 a1_0 a1_1 l1_2 a1_3 l1_4 a1_5 a1_6 a1_7 a1_8 a1_9) else ((spec_l1In.f a1_6 0 a0_4).bind fun t131 => (if t131 = true then ((spec_l1In.f a1_8 0 9999).bind fun t132 => (if t132 = true then ((spec_NumOf.f a1_8).bind fun t133 => (spec_TxOk.j0 k (t133 != a1_1) a0_0 a0_1 a0_2 a0_3 a0_4 a1_0 a1_1 l1_2 a1_3 l1_4 a1_5 a1_6 a1_7 a1_8 a1_9)) else (spec_TxOk.j0 k true a0_0 a0_1 a0_2 a0_3 a0_4 a1_0 a1_1 l1_2 a1_3 l1_4 a1_5 a1_6 a1_7 a1_8 a1_9))) else (spec_TxOk.j0 k true a0_0 a0_1 a0_2 a0_3 a0_4 a1_0 a1_1 l1_2 a1_3 l1_4 a1_5 a1_6 a1_7 a1_8 a1_9)))) else (spec_TxOk.j0 k true a0_0 a0_1 a0_2 a0_3 a0_4 a1_0 a1_1 l1_2 a1_3 l1_4 a1_5 a1_6 a1_7 a1_8 a1_9))) else (spec_TxOk.j0 k true a0_0 a0_1 a0_2 a0_3 a0_4 a1_0 a1_1 l1_2 a1_3 l1_4 a1_5 a1_6 a1_7 a1_8 a1_9)))) else (spec_TxOk.j0 k true a0_0 a0_1 a0_2 a0_3 a0_4 a1_0 a1_1 l1_2 a1_3 l1_4 a1_5 a1_6 a1_7 a1_8 a1_9))) else (spec_TxOk.j0 k true a0_0 a0_1 a0_2 a0_3 a0_4 a1_0 a1_1 l1_2 a1_3 l1_4 a1_5 a1_6 a1_7 a1_8 a1_9))) else (spec_TxOk.j0 k true a0_0 a0_1 a0_2 a0_3 a0_4 a1_0 a1_1 l1_2 a1_3 l1_4 a1_5 a1_6 a1_7 a1_8 a1_9))) = some r := h
  clear h
  have HC3 := mk_ H
  clear H
  go_enter Try.func48, Try.ntmps48
  go_upto_region 1 with (first | ((with_reducible refine gate_dst (N := 2) rfl ?_); (try (refine gate_guard (by rfl) ?_; dsimp only)); refine box_event ?hg (N := 2) ?hd (cs := #[.int .i64 a0_0, .int .i64 a0_1, .int .i64 a0_2, .int .i64 a0_3, .int .i64 a0_4]) (t := 66) ?hr ?_; (case hd => rfl); (case hg => rfl); (case hr => first | (go_simp; done) | (go_simp; rfl)); intro gb124 hg w4 hbox hb; have BK124 := mk_ (hbox); have GW124 := mk_ ((by rw [hg]; exact (zr2 (by repeat (first | (with_reducible first | exact HB.out | apply zq7 | apply zq8 | apply zq9) | exact HB.out))) : w.heap.size ≤ gb124)); have GE124 := GW124; replace HB := mk_ (zr3 (by repeat (first | (with_reducible first | exact HB.out | apply zq7 | apply zq8 | apply zq9) | exact HB.out)) hb); clear hb hbox hg) | ((with_reducible refine gate_dst (N := 3) rfl ?_); (try (refine gate_guard (by rfl) ?_; dsimp only)); refine box_event ?hg (N := 3) ?hd (cs := #[.int .i64 a1_0, .int .i64 a1_1, .slice A1_2 l1_2.length c1_2, .int .i64 a1_3, .slice A1_4 l1_4.length c1_4, .bool a1_5, .int .i64 a1_6, .bool a1_7, .int .i64 a1_8, .bool a1_9]) (t := 69) ?hr ?_; (case hd => rfl); (case hg => rfl); (case hr => first | (go_simp; done) | (go_simp; rfl)); intro gb125 hg w5 hbox hb; have BK125 := mk_ (hbox); have GW125 := mk_ ((by rw [hg]; exact (zr2 (by repeat (first | (with_reducible first | exact HB.out | apply zq7 | apply zq8 | apply zq9 | refine zr1 ?_ GE124.out) | exact HB.out))) : w.heap.size ≤ gb125)); have GE125 := GW125; replace HB := mk_ (zr3 (by repeat (first | (with_reducible first | exact HB.out | apply zq7 | apply zq8 | apply zq9 | refine zr1 ?_ GE124.out) | exact HB.out)) hb); have NB124_125 := mk_ ((by rw [hg]; exact zm2 (zr6 (by exact BK124.out)) : gb124 ≠ gb125)); replace BK124 := mk_ (zq6 (by exact BK124.out) hb); have NB125_124 := mk_ NB124_125.out.symm; clear hb hbox hg))
  (try simp only [Act.put, List.setIfInBounds_toArray, List.set_cons_zero, List.set_cons_succ])
  go_cut [75] (fun v75 wc => ∃ (kq : Nat) (x75_2 : Bool), v75 = .bool x75_2 ∧ Aside0 (spec_TxOk.j0 kq x75_2 a0_0 a0_1 a0_2 a0_3 a0_4 a1_0 a1_1 l1_2 a1_3 l1_4 a1_5 a1_6 a1_7 a1_8 a1_9 = some r) ∧ Aside0 (kq ≤ k) ∧ Aside0 (wc.heap[gb124]? = some (.cells #[.int .i64 a0_0, .int .i64 a0_1, .int .i64 a0_2, .int .i64 a0_3, .int .i64 a0_4] 66 (0, 0))) ∧ Aside0 (wc.heap[gb125]? = some (.cells #[.int .i64 a1_0, .int .i64 a1_1, (.slice A1_2 l1_2.length c1_2), .int .i64 a1_3, (.slice A1_4 l1_4.length c1_4), .bool a1_5, .int .i64 a1_6, .bool a1_7, .int .i64 a1_8, .bool a1_9] 69 (0, 0))) ∧ Aside0 (Below w.heap.size w wc))
  case first =>
    have H := HC3.out
    clear HC3
    replace H := Option.bind_eq_some_iff.mp H
    obtain ⟨t126, A60, H⟩ := H
    try dsimp only at H
    have A6 := mk_ A60
    clear A60
    by_cases c7 : t126 = true
    · subst c7
      have H1 : ((spec_l1In.f a1_0 0 7).bind fun t127 => (if t127 = true then ((spec_l1In.f a1_1 0 7).bind fun t128 => (if t128 = true then (if (l1_2.length : Int) > a0_1 then (spec_TxOk.j0 k true a0_0 a0_1 a0_2 a0_3 a0_4 a1_0 a1_1 l1_2 a1_3 l1_4 a1_5 a1_6 a1_7 a1_8 a1_9) else ((spec_NumFar.f a1_1 a1_0).bind fun t129 => (if t129 = (l1_2.length : Int) then ((spec_l1In.f a1_3 0 (l1_2.length : Int)).bind fun t130 => (if t130 = true then (if (l1_4.length : Int) > 24 then (spec_TxOk.j0 k true a0_0 a0_1 a0_2 a0_3 a0_4 a1_0 a1_1 l1_2 a1_3 l1_4 a1_5 a1_6 a1_7 a1_8 a1_9) else ((spec_l1In.f a1_6 0 a0_4).bind fun t131 => (if t131 = true then ((spec_l1In.f a1_8 0 9999).bind fun t132 => (if t132 = true then ((spec_NumOf.f a1_8).bind fun t133 => (spec_TxOk.j0 k (t133 != a1_1) a0_0 a0_1 a0_2 a0_3 a0_4 a1_0 a1_1 l1_2 a1_3 l1_4 a1_5 a1_6 a1_7 a1_8 a1_9)) else (spec_TxOk.j0 k true a0_0 a0_1 a0_2 a0_3 a0_4 a1_0 a1_1 l1_2 a1_3 l1_4 a1_5 a1_6 a1_7 a1_8 a1_9))) else (spec_TxOk.j0 k true a0_0 a0_1 a0_2 a0_3 a0_4 a1_0 a1_1 l1_2 a1_3 l1_4 a1_5 a1_6 a1_7 a1_8 a1_9)))) else (spec_TxOk.j0 k true a0_0 a0_1 a0_2 a0_3 a0_4 a1_0 a1_1 l1_2 a1_3 l1_4 a1_5 a1_6 a1_7 a1_8 a1_9))) else (spec_TxOk.j0 k true a0_0 a0_1 a0_2 a0_3 a0_4 a1_0 a1_1 l1_2 a1_3 l1_4 a1_5 a1_6 a1_7 a1_8 a1_9)))) else (spec_TxOk.j0 k true a0_0 a0_1 a0_2 a0_3 a0_4 a1_0 a1_1 l1_2 a1_3 l1_4 a1_5 a1_6 a1_7 a1_8 a1_9))) else (spec_TxOk.j0 k true a0_0 a0_1 a0_2 a0_3 a0_4 a1_0 a1_1 l1_2 a1_3 l1_4 a1_5 a1_6 a1_7 a1_8 a1_9))) = some r := by rw [if_pos rfl] at H; exact H
      clear H
      have H := H1
      clear H1
      replace H := Option.bind_eq_some_iff.mp H
      obtain ⟨t127, A80, H⟩ := H
      try dsimp only at H
      have A8 := mk_ A80
      clear A80
      by_cases c9 : t127 = true
      · subst c9
        have H1 : ((spec_l1In.f a1_1 0 7).bind fun t128 => (if t128 = true then (if (l1_2.length : Int) > a0_1 then (spec_TxOk.j0 k true a0_0 a0_1 a0_2 a0_3 a0_4 a1_0 a1_1 l1_2 a1_3 l1_4 a1_5 a1_6 a1_7 a1_8 a1_9) else ((spec_NumFar.f a1_1 a1_0).bind fun t129 => (if t129 = (l1_2.length : Int) then ((spec_l1In.f a1_3 0 (l1_2.length : Int)).bind fun t130 => (if t130 = true then (if (l1_4.length : Int) > 24 then (spec_TxOk.j0 k true a0_0 a0_1 a0_2 a0_3 a0_4 a1_0 a1_1 l1_2 a1_3 l1_4 a1_5 a1_6 a1_7 a1_8 a1_9) else ((spec_l1In.f a1_6 0 a0_4).bind fun t131 => (if t131 = true then ((spec_l1In.f a1_8 0 9999).bind fun t132 => (if t132 = true then ((spec_NumOf.f a1_8).bind fun t133 => (spec_TxOk.j0 k (t133 != a1_1) a0_0 a0_1 a0_2 a0_3 a0_4 a1_0 a1_1 l1_2 a1_3 l1_4 a1_5 a1_6 a1_7 a1_8 a1_9)) else (spec_TxOk.j0 k true a0_0 a0_1 a0_2 a0_3 a0_4 a1_0 a1_1 l1_2 a1_3 l1_4 a1_5 a1_6 a1_7 a1_8 a1_9))) else (spec_TxOk.j0 k true a0_0 a0_1 a0_2 a0_3 a0_4 a1_0 a1_1 l1_2 a1_3 l1_4 a1_5 a1_6 a1_7 a1_8 a1_9)))) else (spec_TxOk.j0 k true a0_0 a0_1 a0_2 a0_3 a0_4 a1_0 a1_1 l1_2 a1_3 l1_4 a1_5 a1_6 a1_7 a1_8 a1_9))) else (spec_TxOk.j0 k true a0_0 a0_1 a0_2 a0_3 a0_4 a1_0 a1_1 l1_2 a1_3 l1_4 a1_5 a1_6 a1_7 a1_8 a1_9)))) else (spec_TxOk.j0 k true a0_0 a0_1 a0_2 a0_3 a0_4 a1_0 a1_1 l1_2 a1_3 l1_4 a1_5 a1_6 a1_7 a1_8 a1_9))) = some r := by rw [if_pos rfl] at H; exact H
        clear H
        have H := H1
        clear H1
        replace H := Option.bind_eq_some_iff.mp H
        obtain ⟨t128, A100, H⟩ := H
        try dsimp only at H
        have A10 := mk_ A100
        clear A100
        by_cases c11 : t128 = true
        · subst c11
          have H1 : (if (l1_2.length : Int) > a0_1 then (spec_TxOk.j0 k true a0_0 a0_1 a0_2 a0_3 a0_4 a1_0 a1_1 l1_2 a1_3 l1_4 a1_5 a1_6 a1_7 a1_8 a1_9) else ((spec_NumFar.f a1_1 a1_0).bind fun t129 => (if t129 = (l1_2.length : Int) then ((spec_l1In.f a1_3 0 (l1_2.length : Int)).bind fun t130 => (if t130 = true then (if (l1_4.length : Int) > 24 then (spec_TxOk.j0 k true a0_0 a0_1 a0_2 a0_3 a0_4 a1_0 a1_1 l1_2 a1_3 l1_4 a1_5 a1_6 a1_7 a1_8 a1_9) else ((spec_l1In.f a1_6 0 a0_4).bind fun t131 => (if t131 = true then ((spec_l1In.f a1_8 0 9999).bind fun t132 => (if t132 = true then ((spec_NumOf.f a1_8).bind fun t133 => (spec_TxOk.j0 k (t133 != a1_1) a0_0 a0_1 a0_2 a0_3 a0_4 a1_0 a1_1 l1_2 a1_3 l1_4 a1_5 a1_6 a1_7 a1_8 a1_9)) else (spec_TxOk.j0 k true a0_0 a0_1 a0_2 a0_3 a0_4 a1_0 a1_1 l1_2 a1_3 l1_4 a1_5 a1_6 a1_7 a1_8 a1_9))) else (spec_TxOk.j0 k true a0_0 a0_1 a0_2 a0_3 a0_4 a1_0 a1_1 l1_2 a1_3 l1_4 a1_5 a1_6 a1_7 a1_8 a1_9)))) else (spec_TxOk.j0 k true a0_0 a0_1 a0_2 a0_3 a0_4 a1_0 a1_1 l1_2 a1_3 l1_4 a1_5 a1_6 a1_7 a1_8 a1_9))) else (spec_TxOk.j0 k true a0_0 a0_1 a0_2 a0_3 a0_4 a1_0 a1_1 l1_2 a1_3 l1_4 a1_5 a1_6 a1_7 a1_8 a1_9)))) = some r := by rw [if_pos rfl] at H; exact H
          clear H
          have H := H1
          clear H1
          by_cases c12 : (l1_2.length : Int) > a0_1
          · rw [if_pos c12] at H
            have c12b0 : decide (a0_1 < (l1_2.length : Int)) = true := decide_eq_true c12
            clear c12
            (first | rw [c12b0] | (simp only [i64_w, i32_w]; rw [c12b0]) | skip)
            have H' := mk_ H
            clear H
            try go_wp2
            replace BK124 := mk_ (zq2 BK124.out)
            replace BK125 := mk_ (zq2 BK125.out)
            replace HB := mk_ (zq9 HB.out)
            refine start_ (n := 71) (S := fun w' => w'.cell? ⟨gb124, 0, none⟩ = some (.int .i64 a0_0) ∧ w'.cell? ⟨gb124, 1, none⟩ = some (.int .i64 a0_1) ∧ w'.cell? ⟨gb124, 2, none⟩ = some (.int .i64 a0_2) ∧ w'.cell? ⟨gb124, 3, none⟩ = some (.int .i64 a0_3) ∧ w'.cell? ⟨gb124, 4, none⟩ = some (.int .i64 a0_4) ∧ w'.cell? ⟨gb125, 0, none⟩ = some (.int .i64 a1_0) ∧ w'.cell? ⟨gb125, 1, none⟩ = some (.int .i64 a1_1) ∧ w'.cell? ⟨gb125, 2, none⟩ = some (.slice A1_2 l1_2.length c1_2) ∧ w'.cell? ⟨gb125, 3, none⟩ = some (.int .i64 a1_3) ∧ w'.cell? ⟨gb125, 4, none⟩ = some (.slice A1_4 l1_4.length c1_4) ∧ w'.cell? ⟨gb125, 5, none⟩ = some (.bool a1_5) ∧ w'.cell? ⟨gb125, 6, none⟩ = some (.int .i64 a1_6) ∧ w'.cell? ⟨gb125, 7, none⟩ = some (.bool a1_7) ∧ w'.cell? ⟨gb125, 8, none⟩ = some (.int .i64 a1_8) ∧ w'.cell? ⟨gb125, 9, none⟩ = some (.bool a1_9)) (ds := []) (bm 71 0) (by kernel_rfl) rfl rfl ⟨(zr4 BK124.out 0).trans rfl, (zr4 BK124.out 1).trans rfl, (zr4 BK124.out 2).trans rfl, (zr4 BK124.out 3).trans rfl, (zr4 BK124.out 4).trans rfl, (zr4 BK125.out 0).trans rfl, (zr4 BK125.out 1).trans rfl, (zr4 BK125.out 2).trans rfl, (zr4 BK125.out 3).trans rfl, (zr4 BK125.out 4).trans rfl, (zr4 BK125.out 5).trans rfl, (zr4 BK125.out 6).trans rfl, (zr4 BK125.out 7).trans rfl, (zr4 BK125.out 8).trans rfl, (zr4 BK125.out 9).trans rfl⟩ (fun hHeld => ?_); refine with_tabW spec_TxOk.tab1 spec_TxOk.bits1 (fun HT_ HW_ => ?_)
            generalize w5.drew = w13 at BK124 BK125 HB hHeld ⊢
            refine tA 0 (some 5) (bm 71 1) rfl rfl HT_.out HW_.out (by kernel_rfl) (fun _ _ _ h => h) (by rfl) hHeld (by rintro w' ⟨s0, s1, s2, s3, s4, s5, s6, s7, s8, s9, s10, s11, s12, s13, s14⟩; go_simp; with_reducible rfl) (by simp only [Act.put, zs1, zs2, zs3, i64_w, i32_w]; rfl) ?_
            refine one_ (i := 1) (N := some 6) (bm 71 3) rfl rfl (one_of HT_.out (by kernel_rfl)) (by decide) (fun K hK => ?_)
            refine goes_ Try.func81 (by kernel_rfl) rfl #[.agg #[.int .i64 a0_0, .int .i64 a0_1, .int .i64 a0_2, .int .i64 a0_3, .int .i64 a0_4]] (by rfl) rfl rfl (by (try simp only [List.map_toArray, List.map_cons, List.map_nil]); first | done | rfl | (simp only [List.length_drop, List.length_take]; rfl)) ?_
            with_reducible refine (spec_CfgOk.calls a0_0 a0_1 a0_2 a0_3 a0_4 true _ A6.out).mono ?_
            rintro e w14 ⟨rfl, hb⟩
            refine ⟨_, rfl, ?_⟩
            replace BK124 := mk_ (zq6 (by exact BK124.out) hb)
            replace BK125 := mk_ (zq6 (by exact BK125.out) hb)
            replace HB := mk_ (zr3 (by repeat (first | (with_reducible first | exact HB.out | apply zq7 | apply zq8 | apply zq9 | refine zr1 ?_ GE124.out | refine zr1 ?_ GE125.out) | exact HB.out)) hb)
            (try clear hb)
            (try clear hb2)
            (try clear hk)
            (try clear hi)
            refine hK.out _ _ ⟨(zr4 BK124.out 0).trans rfl, (zr4 BK124.out 1).trans rfl, (zr4 BK124.out 2).trans rfl, (zr4 BK124.out 3).trans rfl, (zr4 BK124.out 4).trans rfl, (zr4 BK125.out 0).trans rfl, (zr4 BK125.out 1).trans rfl, (zr4 BK125.out 2).trans rfl, (zr4 BK125.out 3).trans rfl, (zr4 BK125.out 4).trans rfl, (zr4 BK125.out 5).trans rfl, (zr4 BK125.out 6).trans rfl, (zr4 BK125.out 7).trans rfl, (zr4 BK125.out 8).trans rfl, (zr4 BK125.out 9).trans rfl⟩ (fun hHeld => ?_)
            clear hK K
            refine norm_ (a' := ?_) ?_ ?_
            rotate_left
            · show Act.put _ (some 6) _ = _
              simp only [Act.put, zs1, zs2, zs3, i64_w, i32_w]
              rfl
            refine pA 2 (some 7) (bm 71 7) rfl rfl HT_.out (by kernel_rfl) (fun _ _ _ h => h) (by rfl) (by intro w'; go_simp; with_reducible rfl) (by simp only [Act.put, zs1, zs2, zs3, i64_w, i32_w]; rfl) ?_
            refine pA 3 (some 8) (bm 71 15) rfl rfl HT_.out (by kernel_rfl) (fun _ _ _ h => h) (by rfl) (by intro w'; go_simp; with_reducible rfl) (by simp only [Act.put, zs1, zs2, zs3, i64_w, i32_w]; rfl) ?_
            refine pA 4 (some 9) (bm 71 31) rfl rfl HT_.out (by kernel_rfl) (fun _ _ _ h => h) (by rfl) (by intro w'; go_simp; with_reducible rfl) (by simp only [Act.put, zs1, zs2, zs3, i64_w, i32_w]; rfl) ?_
            refine tA 5 (some 10) (bm 71 63) rfl rfl HT_.out HW_.out (by kernel_rfl) (fun _ _ _ h => h) (by rfl) hHeld (by rintro w' ⟨s0, s1, s2, s3, s4, s5, s6, s7, s8, s9, s10, s11, s12, s13, s14⟩; go_simp; with_reducible rfl) (by simp only [Act.put, zs1, zs2, zs3, i64_w, i32_w]; rfl) ?_
            refine one_ (i := 6) (N := some 11) (bm 71 127) rfl rfl (one_of HT_.out (by kernel_rfl)) (by decide) (fun K hK => ?_)
            refine goes_ Try.func64 (by kernel_rfl) rfl #[.int .i64 a1_0, .int .i64 0, .int .i64 7] (by rfl) rfl rfl (by (try simp only [List.map_toArray, List.map_cons, List.map_nil]); first | done | rfl | (simp only [List.length_drop, List.length_take]; rfl)) ?_
            with_reducible refine (spec_l1In.calls a1_0 0 7 true _ A8.out).mono ?_
            rintro e w' ⟨rfl, ⟨nd, rfl⟩⟩
            refine ⟨_, rfl, ?_⟩
            refine hK.out _ _ ⟨(zr4 BK124.out 0).trans rfl, (zr4 BK124.out 1).trans rfl, (zr4 BK124.out 2).trans rfl, (zr4 BK124.out 3).trans rfl, (zr4 BK124.out 4).trans rfl, (zr4 BK125.out 0).trans rfl, (zr4 BK125.out 1).trans rfl, (zr4 BK125.out 2).trans rfl, (zr4 BK125.out 3).trans rfl, (zr4 BK125.out 4).trans rfl, (zr4 BK125.out 5).trans rfl, (zr4 BK125.out 6).trans rfl, (zr4 BK125.out 7).trans rfl, (zr4 BK125.out 8).trans rfl, (zr4 BK125.out 9).trans rfl⟩ (fun hHeld => ?_)
            clear hK K
            refine norm_ (a' := ?_) ?_ ?_
            rotate_left
            · show Act.put _ (some 11) _ = _
              simp only [Act.put, zs1, zs2, zs3, i64_w, i32_w]
              rfl
            refine pA 7 (some 12) (bm 71 255) rfl rfl HT_.out (by kernel_rfl) (fun _ _ _ h => h) (by rfl) (by intro w'; go_simp; with_reducible rfl) (by simp only [Act.put, zs1, zs2, zs3, i64_w, i32_w]; rfl) ?_
            refine pA 8 (some 13) (bm 71 511) rfl rfl HT_.out (by kernel_rfl) (fun _ _ _ h => h) (by rfl) (by intro w'; go_simp; with_reducible rfl) (by simp only [Act.put, zs1, zs2, zs3, i64_w, i32_w]; rfl) ?_
            refine pA 9 (some 14) (bm 71 1023) rfl rfl HT_.out (by kernel_rfl) (fun _ _ _ h => h) (by rfl) (by intro w'; go_simp; with_reducible rfl) (by simp only [Act.put, zs1, zs2, zs3, i64_w, i32_w]; rfl) ?_
            refine pA 10 (some 15) (bm 71 2047) rfl rfl HT_.out (by kernel_rfl) (fun _ _ _ h => h) (by rfl) (by intro w'; go_simp; with_reducible rfl) (by simp only [Act.put, zs1, zs2, zs3, i64_w, i32_w]; rfl) ?_
            refine tA 11 (some 16) (bm 71 4095) rfl rfl HT_.out HW_.out (by kernel_rfl) (fun _ _ _ h => h) (by rfl) hHeld (by rintro w' ⟨s0, s1, s2, s3, s4, s5, s6, s7, s8, s9, s10, s11, s12, s13, s14⟩; go_simp; with_reducible rfl) (by simp only [Act.put, zs1, zs2, zs3, i64_w, i32_w]; rfl) ?_
            refine one_ (i := 12) (N := some 17) (bm 71 8191) rfl rfl (one_of HT_.out (by kernel_rfl)) (by decide) (fun K hK => ?_)
            refine goes_ Try.func64 (by kernel_rfl) rfl #[.int .i64 a1_1, .int .i64 0, .int .i64 7] (by rfl) rfl rfl (by (try simp only [List.map_toArray, List.map_cons, List.map_nil]); first | done | rfl | (simp only [List.length_drop, List.length_take]; rfl)) ?_
            with_reducible refine (spec_l1In.calls a1_1 0 7 true _ A10.out).mono ?_
            rintro e w' ⟨rfl, ⟨nd, rfl⟩⟩
            refine ⟨_, rfl, ?_⟩
            refine hK.out _ _ ⟨(zr4 BK124.out 0).trans rfl, (zr4 BK124.out 1).trans rfl, (zr4 BK124.out 2).trans rfl, (zr4 BK124.out 3).trans rfl, (zr4 BK124.out 4).trans rfl, (zr4 BK125.out 0).trans rfl, (zr4 BK125.out 1).trans rfl, (zr4 BK125.out 2).trans rfl, (zr4 BK125.out 3).trans rfl, (zr4 BK125.out 4).trans rfl, (zr4 BK125.out 5).trans rfl, (zr4 BK125.out 6).trans rfl, (zr4 BK125.out 7).trans rfl, (zr4 BK125.out 8).trans rfl, (zr4 BK125.out 9).trans rfl⟩ (fun hHeld => ?_)
            clear hK K
            refine norm_ (a' := ?_) ?_ ?_
            rotate_left
            · show Act.put _ (some 17) _ = _
              simp only [Act.put, zs1, zs2, zs3, i64_w, i32_w]
              rfl
            refine pA 13 (some 18) (bm 71 16383) rfl rfl HT_.out (by kernel_rfl) (fun _ _ _ h => h) (by rfl) (by intro w'; go_simp; with_reducible rfl) (by simp only [Act.put, zs1, zs2, zs3, i64_w, i32_w]; rfl) ?_
            refine pA 14 (some 19) (bm 71 32767) rfl rfl HT_.out (by kernel_rfl) (fun _ _ _ h => h) (by rfl) (by intro w'; go_simp; with_reducible rfl) (by simp only [Act.put, zs1, zs2, zs3, i64_w, i32_w]; rfl) ?_
            refine pA 15 (some 20) (bm 71 65535) rfl rfl HT_.out (by kernel_rfl) (fun _ _ _ h => h) (by rfl) (by intro w'; go_simp; with_reducible rfl) (by simp only [Act.put, zs1, zs2, zs3, i64_w, i32_w]; rfl) ?_
            refine pA 16 (some 21) (bm 71 131071) rfl rfl HT_.out (by kernel_rfl) (fun _ _ _ h => h) (by rfl) (by intro w'; go_simp; with_reducible rfl) (by simp only [Act.put, zs1, zs2, zs3, i64_w, i32_w]; rfl) ?_
            refine pA 19 (some 24) (bm 71 655359) rfl rfl HT_.out (by kernel_rfl) (fun _ _ _ h => h) (by rfl) (by intro w'; go_simp; with_reducible rfl) (by simp only [Act.put, zs1, zs2, zs3, i64_w, i32_w]; rfl) ?_
            refine tA 17 (some 22) (bm 71 786431) rfl rfl HT_.out HW_.out (by kernel_rfl) (fun _ _ _ h => h) (by rfl) hHeld (by rintro w' ⟨s0, s1, s2, s3, s4, s5, s6, s7, s8, s9, s10, s11, s12, s13, s14⟩; go_simp; with_reducible rfl) (by simp only [Act.put, zs1, zs2, zs3, i64_w, i32_w]; rfl) ?_
            refine pA 18 (some 23) (bm 71 1048575) rfl rfl HT_.out (by kernel_rfl) (fun _ _ _ h => h) (by rfl) (by intro w'; go_simp; with_reducible rfl) (by simp only [Act.put, zs1, zs2, zs3, i64_w, i32_w]; rfl) ?_
            refine tA 20 (some 25) (bm 71 2097151) rfl rfl HT_.out HW_.out (by kernel_rfl) (fun _ _ _ h => h) (by rfl) hHeld (by rintro w' ⟨s0, s1, s2, s3, s4, s5, s6, s7, s8, s9, s10, s11, s12, s13, s14⟩; go_simp; with_reducible rfl) (by simp only [Act.put, zs1, zs2, zs3, i64_w, i32_w]; rfl) ?_
            refine pA 21 (some 26) (bm 71 4194303) rfl rfl HT_.out (by kernel_rfl) (fun _ _ _ h => h) (by rfl) (by intro w'; go_simp; with_reducible rfl) (by simp only [Act.put, zs1, zs2, zs3, i64_w, i32_w]; rfl) ?_
            refine pA 22 (some 27) (bm 71 8388607) rfl rfl HT_.out (by kernel_rfl) (fun _ _ _ h => h) (by rfl) (by intro w'; go_simp; with_reducible rfl) (by simp only [Act.put, zs1, zs2, zs3, i64_w, i32_w]; rfl) ?_
            refine pA 23 (some 28) (bm 71 16777215) rfl rfl HT_.out (by kernel_rfl) (fun _ _ _ h => h) (by rfl) (by intro w'; go_simp; with_reducible rfl) (by simp only [Act.put, zs1, zs2, zs3, i64_w, i32_w]; rfl) ?_
            refine pB 24 (some 29) (bm 71 33554431) rfl rfl HT_.out (by kernel_rfl) (fun _ _ _ h => h) (by rfl) (by simp only [Act.put, zs1, zs2, zs3, i64_w, i32_w]; rfl) ?_
            refine pB 25 (some 30) (bm 71 67108863) rfl rfl HT_.out (by kernel_rfl) (fun _ _ _ h => h) (by rfl) (by simp only [Act.put, zs1, zs2, zs3, i64_w, i32_w]; rfl) ?_
            refine pB 26 (some 31) (bm 71 134217727) rfl rfl HT_.out (by kernel_rfl) (fun _ _ _ h => h) (by rfl) (by simp only [Act.put, zs1, zs2, zs3, i64_w, i32_w]; rfl) ?_
            refine pB 27 (some 32) (bm 71 268435455) rfl rfl HT_.out (by kernel_rfl) (fun _ _ _ h => h) (by rfl) (by simp only [Act.put, zs1, zs2, zs3, i64_w, i32_w]; rfl) ?_
            refine pB 28 (some 33) (bm 71 536870911) rfl rfl HT_.out (by kernel_rfl) (fun _ _ _ h => h) (by rfl) (by simp only [Act.put, zs1, zs2, zs3, i64_w, i32_w]; rfl) ?_
            refine pB 29 (some 34) (bm 71 1073741823) rfl rfl HT_.out (by kernel_rfl) (fun _ _ _ h => h) (by rfl) (by simp only [Act.put, zs1, zs2, zs3, i64_w, i32_w]; rfl) ?_
            refine pB 30 (some 35) (bm 71 2147483647) rfl rfl HT_.out (by kernel_rfl) (fun _ _ _ h => h) (by rfl) (by simp only [Act.put, zs1, zs2, zs3, i64_w, i32_w]; rfl) ?_
            refine pB 31 (some 36) (bm 71 4294967295) rfl rfl HT_.out (by kernel_rfl) (fun _ _ _ h => h) (by rfl) (by simp only [Act.put, zs1, zs2, zs3, i64_w, i32_w]; rfl) ?_
            refine pB 32 (some 37) (bm 71 8589934591) rfl rfl HT_.out (by kernel_rfl) (fun _ _ _ h => h) (by rfl) (by simp only [Act.put, zs1, zs2, zs3, i64_w, i32_w]; rfl) ?_
            refine pA 33 (some 38) (bm 71 17179869183) rfl rfl HT_.out (by kernel_rfl) (fun _ _ _ h => h) (by rfl) (by intro w'; go_simp; with_reducible rfl) (by simp only [Act.put, zs1, zs2, zs3, i64_w, i32_w]; rfl) ?_
            refine pA 34 (some 39) (bm 71 34359738367) rfl rfl HT_.out (by kernel_rfl) (fun _ _ _ h => h) (by rfl) (by intro w'; go_simp; with_reducible rfl) (by simp only [Act.put, zs1, zs2, zs3, i64_w, i32_w]; rfl) ?_
            refine pB 35 (some 40) (bm 71 68719476735) rfl rfl HT_.out (by kernel_rfl) (fun _ _ _ h => h) (by rfl) (by simp only [Act.put, zs1, zs2, zs3, i64_w, i32_w]; rfl) ?_
            refine pB 36 (some 41) (bm 71 137438953471) rfl rfl HT_.out (by kernel_rfl) (fun _ _ _ h => h) (by rfl) (by simp only [Act.put, zs1, zs2, zs3, i64_w, i32_w]; rfl) ?_
            refine pB 37 (some 42) (bm 71 274877906943) rfl rfl HT_.out (by kernel_rfl) (fun _ _ _ h => h) (by rfl) (by simp only [Act.put, zs1, zs2, zs3, i64_w, i32_w]; rfl) ?_
            refine pB 38 (some 43) (bm 71 549755813887) rfl rfl HT_.out (by kernel_rfl) (fun _ _ _ h => h) (by rfl) (by simp only [Act.put, zs1, zs2, zs3, i64_w, i32_w]; rfl) ?_
            refine pB 39 (some 44) (bm 71 1099511627775) rfl rfl HT_.out (by kernel_rfl) (fun _ _ _ h => h) (by rfl) (by simp only [Act.put, zs1, zs2, zs3, i64_w, i32_w]; rfl) ?_
            refine pB 40 (some 45) (bm 71 2199023255551) rfl rfl HT_.out (by kernel_rfl) (fun _ _ _ h => h) (by rfl) (by simp only [Act.put, zs1, zs2, zs3, i64_w, i32_w]; rfl) ?_
            refine pB 41 (some 46) (bm 71 4398046511103) rfl rfl HT_.out (by kernel_rfl) (fun _ _ _ h => h) (by rfl) (by simp only [Act.put, zs1, zs2, zs3, i64_w, i32_w]; rfl) ?_
            refine pA 42 (some 47) (bm 71 8796093022207) rfl rfl HT_.out (by kernel_rfl) (fun _ _ _ h => h) (by rfl) (by intro w'; go_simp; with_reducible rfl) (by simp only [Act.put, zs1, zs2, zs3, i64_w, i32_w]; rfl) ?_
            refine pA 43 (some 48) (bm 71 17592186044415) rfl rfl HT_.out (by kernel_rfl) (fun _ _ _ h => h) (by rfl) (by intro w'; go_simp; with_reducible rfl) (by simp only [Act.put, zs1, zs2, zs3, i64_w, i32_w]; rfl) ?_
            refine pB 44 (some 49) (bm 71 35184372088831) rfl rfl HT_.out (by kernel_rfl) (fun _ _ _ h => h) (by rfl) (by simp only [Act.put, zs1, zs2, zs3, i64_w, i32_w]; rfl) ?_
            refine pB 45 (some 50) (bm 71 70368744177663) rfl rfl HT_.out (by kernel_rfl) (fun _ _ _ h => h) (by rfl) (by simp only [Act.put, zs1, zs2, zs3, i64_w, i32_w]; rfl) ?_
            refine pB 46 (some 51) (bm 71 140737488355327) rfl rfl HT_.out (by kernel_rfl) (fun _ _ _ h => h) (by rfl) (by simp only [Act.put, zs1, zs2, zs3, i64_w, i32_w]; rfl) ?_
            refine pB 47 (some 52) (bm 71 281474976710655) rfl rfl HT_.out (by kernel_rfl) (fun _ _ _ h => h) (by rfl) (by simp only [Act.put, zs1, zs2, zs3, i64_w, i32_w]; rfl) ?_
            refine pA 48 (some 53) (bm 71 562949953421311) rfl rfl HT_.out (by kernel_rfl) (fun _ _ _ h => h) (by rfl) (by intro w'; go_simp; with_reducible rfl) (by simp only [Act.put, zs1, zs2, zs3, i64_w, i32_w]; rfl) ?_
            refine pA 49 (some 54) (bm 71 1125899906842623) rfl rfl HT_.out (by kernel_rfl) (fun _ _ _ h => h) (by rfl) (by intro w'; go_simp; with_reducible rfl) (by simp only [Act.put, zs1, zs2, zs3, i64_w, i32_w]; rfl) ?_
            refine pB 50 (some 55) (bm 71 2251799813685247) rfl rfl HT_.out (by kernel_rfl) (fun _ _ _ h => h) (by rfl) (by simp only [Act.put, zs1, zs2, zs3, i64_w, i32_w]; rfl) ?_
            refine pB 51 (some 56) (bm 71 4503599627370495) rfl rfl HT_.out (by kernel_rfl) (fun _ _ _ h => h) (by rfl) (by simp only [Act.put, zs1, zs2, zs3, i64_w, i32_w]; rfl) ?_
            refine pB 52 (some 57) (bm 71 9007199254740991) rfl rfl HT_.out (by kernel_rfl) (fun _ _ _ h => h) (by rfl) (by simp only [Act.put, zs1, zs2, zs3, i64_w, i32_w]; rfl) ?_
            refine pB 53 (some 58) (bm 71 18014398509481983) rfl rfl HT_.out (by kernel_rfl) (fun _ _ _ h => h) (by rfl) (by simp only [Act.put, zs1, zs2, zs3, i64_w, i32_w]; rfl) ?_
            refine pB 54 (some 59) (bm 71 36028797018963967) rfl rfl HT_.out (by kernel_rfl) (fun _ _ _ h => h) (by rfl) (by simp only [Act.put, zs1, zs2, zs3, i64_w, i32_w]; rfl) ?_
            refine pB 55 (some 60) (bm 71 72057594037927935) rfl rfl HT_.out (by kernel_rfl) (fun _ _ _ h => h) (by rfl) (by simp only [Act.put, zs1, zs2, zs3, i64_w, i32_w]; rfl) ?_
            refine pA 56 (some 61) (bm 71 144115188075855871) rfl rfl HT_.out (by kernel_rfl) (fun _ _ _ h => h) (by rfl) (by intro w'; go_simp; with_reducible rfl) (by simp only [Act.put, zs1, zs2, zs3, i64_w, i32_w]; rfl) ?_
            refine pA 57 (some 62) (bm 71 288230376151711743) rfl rfl HT_.out (by kernel_rfl) (fun _ _ _ h => h) (by rfl) (by intro w'; go_simp; with_reducible rfl) (by simp only [Act.put, zs1, zs2, zs3, i64_w, i32_w]; rfl) ?_
            refine pB 58 (some 63) (bm 71 576460752303423487) rfl rfl HT_.out (by kernel_rfl) (fun _ _ _ h => h) (by rfl) (by simp only [Act.put, zs1, zs2, zs3, i64_w, i32_w]; rfl) ?_
            refine pB 59 (some 64) (bm 71 1152921504606846975) rfl rfl HT_.out (by kernel_rfl) (fun _ _ _ h => h) (by rfl) (by simp only [Act.put, zs1, zs2, zs3, i64_w, i32_w]; rfl) ?_
            refine pB 60 (some 65) (bm 71 2305843009213693951) rfl rfl HT_.out (by kernel_rfl) (fun _ _ _ h => h) (by rfl) (by simp only [Act.put, zs1, zs2, zs3, i64_w, i32_w]; rfl) ?_
            refine pB 61 (some 66) (bm 71 4611686018427387903) rfl rfl HT_.out (by kernel_rfl) (fun _ _ _ h => h) (by rfl) (by simp only [Act.put, zs1, zs2, zs3, i64_w, i32_w]; rfl) ?_
            refine pA 62 (some 67) (bm 71 9223372036854775807) rfl rfl HT_.out (by kernel_rfl) (fun _ _ _ h => h) (by rfl) (by intro w'; go_simp; with_reducible rfl) (by simp only [Act.put, zs1, zs2, zs3, i64_w, i32_w]; rfl) ?_
            refine pA 63 (some 68) (bm 71 18446744073709551615) rfl rfl HT_.out (by kernel_rfl) (fun _ _ _ h => h) (by rfl) (by intro w'; go_simp; with_reducible rfl) (by simp only [Act.put, zs1, zs2, zs3, i64_w, i32_w]; rfl) ?_
            refine pB 64 (some 69) (bm 71 36893488147419103231) rfl rfl HT_.out (by kernel_rfl) (fun _ _ _ h => h) (by rfl) (by simp only [Act.put, zs1, zs2, zs3, i64_w, i32_w]; rfl) ?_
            refine pB 65 (some 70) (bm 71 73786976294838206463) rfl rfl HT_.out (by kernel_rfl) (fun _ _ _ h => h) (by rfl) (by simp only [Act.put, zs1, zs2, zs3, i64_w, i32_w]; rfl) ?_
            refine pB 66 (some 71) (bm 71 147573952589676412927) rfl rfl HT_.out (by kernel_rfl) (fun _ _ _ h => h) (by rfl) (by simp only [Act.put, zs1, zs2, zs3, i64_w, i32_w]; rfl) ?_
            refine pB 67 (some 72) (bm 71 295147905179352825855) rfl rfl HT_.out (by kernel_rfl) (fun _ _ _ h => h) (by rfl) (by simp only [Act.put, zs1, zs2, zs3, i64_w, i32_w]; rfl) ?_
            refine pB 68 (some 73) (bm 71 590295810358705651711) rfl rfl HT_.out (by kernel_rfl) (fun _ _ _ h => h) (by rfl) (by simp only [Act.put, zs1, zs2, zs3, i64_w, i32_w]; rfl) ?_
            refine pB 69 (some 74) (bm 71 1180591620717411303423) rfl rfl HT_.out (by kernel_rfl) (fun _ _ _ h => h) (by rfl) (by simp only [Act.put, zs1, zs2, zs3, i64_w, i32_w]; rfl) ?_
            refine pA 70 (some 75) (bm 71 2361183241434822606847) rfl rfl HT_.out (by kernel_rfl) (fun _ _ _ h => h) (by rfl) (by intro w'; go_simp; with_reducible rfl) (by simp only [Act.put, zs1, zs2, zs3, i64_w, i32_w]; rfl) ?_
            refine done_ (done_of HT_.out (by kernel_rfl)) ?_
            try go_wp2
            go_meet
            case rel => exact ⟨_, (true), (by first | rfl | (simp; done) | (simp [*]; done)), H', ⟨by first | omega | exact Nat.le_refl _⟩, ⟨by (with_reducible repeat (first | refine zq1 ?_ _ | refine zq2 ?_ | refine zq3 ?_ _)); exact BK124.out⟩, ⟨by (with_reducible repeat (first | refine zq1 ?_ _ | refine zq2 ?_ | refine zq3 ?_ _)); exact BK125.out⟩, ⟨by repeat (first | (with_reducible first | exact HB.out | apply zq7 | apply zq8 | apply zq9 | refine zr1 ?_ GE124.out | refine zr1 ?_ GE125.out) | exact HB.out)⟩⟩
          · rw [if_neg c12] at H
            have c12b0 : decide (a0_1 < (l1_2.length : Int)) = false := decide_eq_false c12
            clear c12
            (first | rw [c12b0] | (simp only [i64_w, i32_w]; rw [c12b0]) | skip)
            replace H := Option.bind_eq_some_iff.mp H
            obtain ⟨t129, A150, H⟩ := H
            try dsimp only at H
            have A15 := mk_ A150
            clear A150
            by_cases c16 : t129 = (l1_2.length : Int)
            · rw [if_pos c16] at H
              have c16b0 : (t129 == (l1_2.length : Int)) = true := beq_iff_eq.mpr c16
              have c16b1 : (t129 != (l1_2.length : Int)) = false := bne_eq_false_iff_eq.mpr c16
              clear c16
              replace H := Option.bind_eq_some_iff.mp H
              obtain ⟨t130, A170, H⟩ := H
              try dsimp only at H
              have A17 := mk_ A170
              clear A170
              by_cases c18 : t130 = true
              · subst c18
                have H1 : (if (l1_4.length : Int) > 24 then (spec_TxOk.j0 k true a0_0 a0_1 a0_2 a0_3 a0_4 a1_0 a1_1 l1_2 a1_3 l1_4 a1_5 a1_6 a1_7 a1_8 a1_9) else ((spec_l1In.f a1_6 0 a0_4).bind fun t131 => (if t131 = true then ((spec_l1In.f a1_8 0 9999).bind fun t132 => (if t132 = true then ((spec_NumOf.f a1_8).bind fun t133 => (spec_TxOk.j0 k (t133 != a1_1) a0_0 a0_1 a0_2 a0_3 a0_4 a1_0 a1_1 l1_2 a1_3 l1_4 a1_5 a1_6 a1_7 a1_8 a1_9)) else (spec_TxOk.j0 k true a0_0 a0_1 a0_2 a0_3 a0_4 a1_0 a1_1 l1_2 a1_3 l1_4 a1_5 a1_6 a1_7 a1_8 a1_9))) else (spec_TxOk.j0 k true a0_0 a0_1 a0_2 a0_3 a0_4 a1_0 a1_1 l1_2 a1_3 l1_4 a1_5 a1_6 a1_7 a1_8 a1_9)))) = some r := by rw [if_pos rfl] at H; exact H
                clear H
                have H := H1
                clear H1
                by_cases c19 : (l1_4.length : Int) > 24
                · rw [if_pos c19] at H
                  have c19b0 : decide (24 < (l1_4.length : Int)) = true := decide_eq_true c19
                  have c19b1 : decide (24 < l1_4.length) = true := decide_eq_true (by omega)
                  clear c19
                  have H' := mk_ H
                  clear H
                  try go_wp2
                  replace BK124 := mk_ (zq2 BK124.out)
                  replace BK125 := mk_ (zq2 BK125.out)
                  replace HB := mk_ (zq9 HB.out)
                  refine start_ (n := 71) (S := fun w' => w'.cell? ⟨gb124, 0, none⟩ = some (.int .i64 a0_0) ∧ w'.cell? ⟨gb124, 1, none⟩ = some (.int .i64 a0_1) ∧ w'.cell? ⟨gb124, 2, none⟩ = some (.int .i64 a0_2) ∧ w'.cell? ⟨gb124, 3, none⟩ = some (.int .i64 a0_3) ∧ w'.cell? ⟨gb124, 4, none⟩ = some (.int .i64 a0_4) ∧ w'.cell? ⟨gb125, 0, none⟩ = some (.int .i64 a1_0) ∧ w'.cell? ⟨gb125, 1, none⟩ = some (.int .i64 a1_1) ∧ w'.cell? ⟨gb125, 2, none⟩ = some (.slice A1_2 l1_2.length c1_2) ∧ w'.cell? ⟨gb125, 3, none⟩ = some (.int .i64 a1_3) ∧ w'.cell? ⟨gb125, 4, none⟩ = some (.slice A1_4 l1_4.length c1_4) ∧ w'.cell? ⟨gb125, 5, none⟩ = some (.bool a1_5) ∧ w'.cell? ⟨gb125, 6, none⟩ = some (.int .i64 a1_6) ∧ w'.cell? ⟨gb125, 7, none⟩ = some (.bool a1_7) ∧ w'.cell? ⟨gb125, 8, none⟩ = some (.int .i64 a1_8) ∧ w'.cell? ⟨gb125, 9, none⟩ = some (.bool a1_9)) (ds := []) (bm 71 0) (by kernel_rfl) rfl rfl ⟨(zr4 BK124.out 0).trans rfl, (zr4 BK124.out 1).trans rfl, (zr4 BK124.out 2).trans rfl, (zr4 BK124.out 3).trans rfl, (zr4 BK124.out 4).trans rfl, (zr4 BK125.out 0).trans rfl, (zr4 BK125.out 1).trans rfl, (zr4 BK125.out 2).trans rfl, (zr4 BK125.out 3).trans rfl, (zr4 BK125.out 4).trans rfl, (zr4 BK125.out 5).trans rfl, (zr4 BK125.out 6).trans rfl, (zr4 BK125.out 7).trans rfl, (zr4 BK125.out 8).trans rfl, (zr4 BK125.out 9).trans rfl⟩ (fun hHeld => ?_); refine with_tabW spec_TxOk.tab1 spec_TxOk.bits1 (fun HT_ HW_ => ?_)
                  generalize w5.drew = w20 at BK124 BK125 HB hHeld ⊢
                  refine tA 0 (some 5) (bm 71 1) rfl rfl HT_.out HW_.out (by kernel_rfl) (fun _ _ _ h => h) (by rfl) hHeld (by rintro w' ⟨s0, s1, s2, s3, s4, s5, s6, s7, s8, s9, s10, s11, s12, s13, s14⟩; go_simp; with_reducible rfl) (by simp only [Act.put, zs1, zs2, zs3, i64_w, i32_w]; rfl) ?_
                  refine one_ (i := 1) (N := some 6) (bm 71 3) rfl rfl (one_of HT_.out (by kernel_rfl)) (by decide) (fun K hK => ?_)
                  refine goes_ Try.func81 (by kernel_rfl) rfl #[.agg #[.int .i64 a0_0, .int .i64 a0_1, .int .i64 a0_2, .int .i64 a0_3, .int .i64 a0_4]] (by rfl) rfl rfl (by (try simp only [List.map_toArray, List.map_cons, List.map_nil]); first | done | rfl | (simp only [List.length_drop, List.length_take]; rfl)) ?_
                  with_reducible refine (spec_CfgOk.calls a0_0 a0_1 a0_2 a0_3 a0_4 true _ A6.out).mono ?_
                  rintro e w21 ⟨rfl, hb⟩
                  refine ⟨_, rfl, ?_⟩
                  replace BK124 := mk_ (zq6 (by exact BK124.out) hb)
                  replace BK125 := mk_ (zq6 (by exact BK125.out) hb)
                  replace HB := mk_ (zr3 (by repeat (first | (with_reducible first | exact HB.out | apply zq7 | apply zq8 | apply zq9 | refine zr1 ?_ GE124.out | refine zr1 ?_ GE125.out) | exact HB.out)) hb)
                  (try clear hb)
                  (try clear hb2)
                  (try clear hk)
                  (try clear hi)
                  refine hK.out _ _ ⟨(zr4 BK124.out 0).trans rfl, (zr4 BK124.out 1).trans rfl, (zr4 BK124.out 2).trans rfl, (zr4 BK124.out 3).trans rfl, (zr4 BK124.out 4).trans rfl, (zr4 BK125.out 0).trans rfl, (zr4 BK125.out 1).trans rfl, (zr4 BK125.out 2).trans rfl, (zr4 BK125.out 3).trans rfl, (zr4 BK125.out 4).trans rfl, (zr4 BK125.out 5).trans rfl, (zr4 BK125.out 6).trans rfl, (zr4 BK125.out 7).trans rfl, (zr4 BK125.out 8).trans rfl, (zr4 BK125.out 9).trans rfl⟩ (fun hHeld => ?_)
                  clear hK K
                  refine norm_ (a' := ?_) ?_ ?_
                  rotate_left
                  · show Act.put _ (some 6) _ = _
                    simp only [Act.put, zs1, zs2, zs3, i64_w, i32_w]
                    rfl
                  refine pA 2 (some 7) (bm 71 7) rfl rfl HT_.out (by kernel_rfl) (fun _ _ _ h => h) (by rfl) (by intro w'; go_simp; with_reducible rfl) (by simp only [Act.put, zs1, zs2, zs3, i64_w, i32_w]; rfl) ?_
                  refine pA 3 (some 8) (bm 71 15) rfl rfl HT_.out (by kernel_rfl) (fun _ _ _ h => h) (by rfl) (by intro w'; go_simp; with_reducible rfl) (by simp only [Act.put, zs1, zs2, zs3, i64_w, i32_w]; rfl) ?_
                  refine pA 4 (some 9) (bm 71 31) rfl rfl HT_.out (by kernel_rfl) (fun _ _ _ h => h) (by rfl) (by intro w'; go_simp; with_reducible rfl) (by simp only [Act.put, zs1, zs2, zs3, i64_w, i32_w]; rfl) ?_
                  refine tA 5 (some 10) (bm 71 63) rfl rfl HT_.out HW_.out (by kernel_rfl) (fun _ _ _ h => h) (by rfl) hHeld (by rintro w' ⟨s0, s1, s2, s3, s4, s5, s6, s7, s8, s9, s10, s11, s12, s13, s14⟩; go_simp; with_reducible rfl) (by simp only [Act.put, zs1, zs2, zs3, i64_w, i32_w]; rfl) ?_
                  refine one_ (i := 6) (N := some 11) (bm 71 127) rfl rfl (one_of HT_.out (by kernel_rfl)) (by decide) (fun K hK => ?_)
                  refine goes_ Try.func64 (by kernel_rfl) rfl #[.int .i64 a1_0, .int .i64 0, .int .i64 7] (by rfl) rfl rfl (by (try simp only [List.map_toArray, List.map_cons, List.map_nil]); first | done | rfl | (simp only [List.length_drop, List.length_take]; rfl)) ?_
                  with_reducible refine (spec_l1In.calls a1_0 0 7 true _ A8.out).mono ?_
                  rintro e w' ⟨rfl, ⟨nd, rfl⟩⟩
                  refine ⟨_, rfl, ?_⟩
                  refine hK.out _ _ ⟨(zr4 BK124.out 0).trans rfl, (zr4 BK124.out 1).trans rfl, (zr4 BK124.out 2).trans rfl, (zr4 BK124.out 3).trans rfl, (zr4 BK124.out 4).trans rfl, (zr4 BK125.out 0).trans rfl, (zr4 BK125.out 1).trans rfl, (zr4 BK125.out 2).trans rfl, (zr4 BK125.out 3).trans rfl, (zr4 BK125.out 4).trans rfl, (zr4 BK125.out 5).trans rfl, (zr4 BK125.out 6).trans rfl, (zr4 BK125.out 7).trans rfl, (zr4 BK125.out 8).trans rfl, (zr4 BK125.out 9).trans rfl⟩ (fun hHeld => ?_)
                  clear hK K
                  refine norm_ (a' := ?_) ?_ ?_
                  rotate_left
                  · show Act.put _ (some 11) _ = _
                    simp only [Act.put, zs1, zs2, zs3, i64_w, i32_w]
                    rfl
                  refine pA 7 (some 12) (bm 71 255) rfl rfl HT_.out (by kernel_rfl) (fun _ _ _ h => h) (by rfl) (by intro w'; go_simp; with_reducible rfl) (by simp only [Act.put, zs1, zs2, zs3, i64_w, i32_w]; rfl) ?_
                  refine pA 8 (some 13) (bm 71 511) rfl rfl HT_.out (by kernel_rfl) (fun _ _ _ h => h) (by rfl) (by intro w'; go_simp; with_reducible rfl) (by simp only [Act.put, zs1, zs2, zs3, i64_w, i32_w]; rfl) ?_
                  refine pA 9 (some 14) (bm 71 1023) rfl rfl HT_.out (by kernel_rfl) (fun _ _ _ h => h) (by rfl) (by intro w'; go_simp; with_reducible rfl) (by simp only [Act.put, zs1, zs2, zs3, i64_w, i32_w]; rfl) ?_
                  refine pA 10 (some 15) (bm 71 2047) rfl rfl HT_.out (by kernel_rfl) (fun _ _ _ h => h) (by rfl) (by intro w'; go_simp; with_reducible rfl) (by simp only [Act.put, zs1, zs2, zs3, i64_w, i32_w]; rfl) ?_
                  refine tA 11 (some 16) (bm 71 4095) rfl rfl HT_.out HW_.out (by kernel_rfl) (fun _ _ _ h => h) (by rfl) hHeld (by rintro w' ⟨s0, s1, s2, s3, s4, s5, s6, s7, s8, s9, s10, s11, s12, s13, s14⟩; go_simp; with_reducible rfl) (by simp only [Act.put, zs1, zs2, zs3, i64_w, i32_w]; rfl) ?_
                  refine one_ (i := 12) (N := some 17) (bm 71 8191) rfl rfl (one_of HT_.out (by kernel_rfl)) (by decide) (fun K hK => ?_)
                  refine goes_ Try.func64 (by kernel_rfl) rfl #[.int .i64 a1_1, .int .i64 0, .int .i64 7] (by rfl) rfl rfl (by (try simp only [List.map_toArray, List.map_cons, List.map_nil]); first | done | rfl | (simp only [List.length_drop, List.length_take]; rfl)) ?_
                  with_reducible refine (spec_l1In.calls a1_1 0 7 true _ A10.out).mono ?_
                  rintro e w' ⟨rfl, ⟨nd, rfl⟩⟩
                  refine ⟨_, rfl, ?_⟩
                  refine hK.out _ _ ⟨(zr4 BK124.out 0).trans rfl, (zr4 BK124.out 1).trans rfl, (zr4 BK124.out 2).trans rfl, (zr4 BK124.out 3).trans rfl, (zr4 BK124.out 4).trans rfl, (zr4 BK125.out 0).trans rfl, (zr4 BK125.out 1).trans rfl, (zr4 BK125.out 2).trans rfl, (zr4 BK125.out 3).trans rfl, (zr4 BK125.out 4).trans rfl, (zr4 BK125.out 5).trans rfl, (zr4 BK125.out 6).trans rfl, (zr4 BK125.out 7).trans rfl, (zr4 BK125.out 8).trans rfl, (zr4 BK125.out 9).trans rfl⟩ (fun hHeld => ?_)
                  clear hK K
                  refine norm_ (a' := ?_) ?_ ?_
                  rotate_left
                  · show Act.put _ (some 17) _ = _
                    simp only [Act.put, zs1, zs2, zs3, i64_w, i32_w]
                    rfl
                  refine pA 13 (some 18) (bm 71 16383) rfl rfl HT_.out (by kernel_rfl) (fun _ _ _ h => h) (by rfl) (by intro w'; go_simp; with_reducible rfl) (by simp only [Act.put, zs1, zs2, zs3, i64_w, i32_w]; rfl) ?_
                  refine pA 14 (some 19) (bm 71 32767) rfl rfl HT_.out (by kernel_rfl) (fun _ _ _ h => h) (by rfl) (by intro w'; go_simp; with_reducible rfl) (by simp only [Act.put, zs1, zs2, zs3, i64_w, i32_w]; rfl) ?_
                  refine pA 15 (some 20) (bm 71 65535) rfl rfl HT_.out (by kernel_rfl) (fun _ _ _ h => h) (by rfl) (by intro w'; go_simp; with_reducible rfl) (by simp only [Act.put, zs1, zs2, zs3, i64_w, i32_w]; rfl) ?_
                  refine pA 16 (some 21) (bm 71 131071) rfl rfl HT_.out (by kernel_rfl) (fun _ _ _ h => h) (by rfl) (by intro w'; go_simp; with_reducible rfl) (by simp only [Act.put, zs1, zs2, zs3, i64_w, i32_w]; rfl) ?_
                  refine pA 19 (some 24) (bm 71 655359) rfl rfl HT_.out (by kernel_rfl) (fun _ _ _ h => h) (by rfl) (by intro w'; go_simp; with_reducible rfl) (by simp only [Act.put, zs1, zs2, zs3, i64_w, i32_w]; rfl) ?_
                  refine tA 17 (some 22) (bm 71 786431) rfl rfl HT_.out HW_.out (by kernel_rfl) (fun _ _ _ h => h) (by rfl) hHeld (by rintro w' ⟨s0, s1, s2, s3, s4, s5, s6, s7, s8, s9, s10, s11, s12, s13, s14⟩; go_simp; with_reducible rfl) (by simp only [Act.put, zs1, zs2, zs3, i64_w, i32_w]; rfl) ?_
                  refine pA 18 (some 23) (bm 71 1048575) rfl rfl HT_.out (by kernel_rfl) (fun _ _ _ h => h) (by rfl) (by intro w'; go_simp; with_reducible rfl) (by simp only [Act.put, zs1, zs2, zs3, i64_w, i32_w]; rfl) ?_
                  refine tA 20 (some 25) (bm 71 2097151) rfl rfl HT_.out HW_.out (by kernel_rfl) (fun _ _ _ h => h) (by rfl) hHeld (by rintro w' ⟨s0, s1, s2, s3, s4, s5, s6, s7, s8, s9, s10, s11, s12, s13, s14⟩; go_simp; with_reducible rfl) (by simp only [Act.put, zs1, zs2, zs3, i64_w, i32_w]; rfl) ?_
                  refine pA 21 (some 26) (bm 71 4194303) rfl rfl HT_.out (by kernel_rfl) (fun _ _ _ h => h) (by rfl) (by intro w'; go_simp; with_reducible rfl) (by simp only [Act.put, zs1, zs2, zs3, i64_w, i32_w]; rfl) ?_
                  refine pA 22 (some 27) (bm 71 8388607) rfl rfl HT_.out (by kernel_rfl) (fun _ _ _ h => h) (by rfl) (by intro w'; go_simp; with_reducible rfl) (by simp only [Act.put, zs1, zs2, zs3, i64_w, i32_w]; rfl) ?_
                  refine pA 23 (some 28) (bm 71 16777215) rfl rfl HT_.out (by kernel_rfl) (fun _ _ _ h => h) (by rfl) (by intro w'; go_simp; with_reducible rfl) (by simp only [Act.put, zs1, zs2, zs3, i64_w, i32_w]; rfl) ?_
                  refine pA 24 (some 29) (bm 71 33554431) rfl rfl HT_.out (by kernel_rfl) (fun _ _ _ h => h) (by rfl) (by intro w'; go_simp; with_reducible rfl) (by simp only [Act.put, zs1, zs2, zs3, i64_w, i32_w]; rfl) ?_
                  refine pA 26 (some 31) (bm 71 100663295) rfl rfl HT_.out (by kernel_rfl) (fun _ _ _ h => h) (by rfl) (by intro w'; go_simp; with_reducible rfl) (by simp only [Act.put, zs1, zs2, zs3, i64_w, i32_w]; rfl) ?_
                  refine pA 29 (some 34) (bm 71 637534207) rfl rfl HT_.out (by kernel_rfl) (fun _ _ _ h => h) (by rfl) (by intro w'; go_simp; with_reducible rfl) (by simp only [Act.put, zs1, zs2, zs3, i64_w, i32_w]; rfl) ?_
                  refine tA 25 (some 30) (bm 71 671088639) rfl rfl HT_.out HW_.out (by kernel_rfl) (fun _ _ _ h => h) (by rfl) hHeld (by rintro w' ⟨s0, s1, s2, s3, s4, s5, s6, s7, s8, s9, s10, s11, s12, s13, s14⟩; go_simp; with_reducible rfl) (by simp only [Act.put, zs1, zs2, zs3, i64_w, i32_w]; rfl) ?_
                  refine tA 27 (some 32) (bm 71 805306367) rfl rfl HT_.out HW_.out (by kernel_rfl) (fun _ _ _ h => h) (by rfl) hHeld (by rintro w' ⟨s0, s1, s2, s3, s4, s5, s6, s7, s8, s9, s10, s11, s12, s13, s14⟩; go_simp; with_reducible rfl) (by simp only [Act.put, zs1, zs2, zs3, i64_w, i32_w]; rfl) ?_
                  refine tA 30 (some 35) (bm 71 1879048191) rfl rfl HT_.out HW_.out (by kernel_rfl) (fun _ _ _ h => h) (by rfl) hHeld (by rintro w' ⟨s0, s1, s2, s3, s4, s5, s6, s7, s8, s9, s10, s11, s12, s13, s14⟩; go_simp; with_reducible rfl) (by simp only [Act.put, zs1, zs2, zs3, i64_w, i32_w]; rfl) ?_
                  refine pA 31 (some 36) (bm 71 4026531839) rfl rfl HT_.out (by kernel_rfl) (fun _ _ _ h => h) (by rfl) (by intro w'; go_simp; with_reducible rfl) (by simp only [Act.put, zs1, zs2, zs3, i64_w, i32_w]; rfl) ?_
                  refine one_ (i := 28) (N := some 33) (bm 71 4294967295) rfl rfl (one_of HT_.out (by kernel_rfl)) (by decide) (fun K hK => ?_)
                  refine goes_ Try.func82 (by kernel_rfl) rfl #[.int .i64 a1_1, .int .i64 a1_0] (by rfl) rfl rfl (by (try simp only [List.map_toArray, List.map_cons, List.map_nil]); first | done | rfl | (simp only [List.length_drop, List.length_take]; rfl)) ?_
                  with_reducible refine (spec_NumFar.calls a1_1 a1_0 t129 _ A15.out).mono ?_
                  rintro e w' ⟨rfl, ⟨nd, rfl⟩⟩
                  refine ⟨_, rfl, ?_⟩
                  refine hK.out _ _ ⟨(zr4 BK124.out 0).trans rfl, (zr4 BK124.out 1).trans rfl, (zr4 BK124.out 2).trans rfl, (zr4 BK124.out 3).trans rfl, (zr4 BK124.out 4).trans rfl, (zr4 BK125.out 0).trans rfl, (zr4 BK125.out 1).trans rfl, (zr4 BK125.out 2).trans rfl, (zr4 BK125.out 3).trans rfl, (zr4 BK125.out 4).trans rfl, (zr4 BK125.out 5).trans rfl, (zr4 BK125.out 6).trans rfl, (zr4 BK125.out 7).trans rfl, (zr4 BK125.out 8).trans rfl, (zr4 BK125.out 9).trans rfl⟩ (fun hHeld => ?_)
                  clear hK K
                  refine norm_ (a' := ?_) ?_ ?_
                  rotate_left
                  · show Act.put _ (some 33) _ = _
                    simp only [Act.put, zs1, zs2, zs3, i64_w, i32_w]
                    rfl
                  refine pA 32 (some 37) (bm 71 8589934591) rfl rfl HT_.out (by kernel_rfl) (fun _ _ _ h => h) (by rfl) (by intro w'; go_simp; with_reducible rfl) (by simp only [Act.put, zs1, zs2, zs3, i64_w, i32_w]; rfl) ?_
                  refine pA 33 (some 38) (bm 71 17179869183) rfl rfl HT_.out (by kernel_rfl) (fun _ _ _ h => h) (by rfl) (by intro w'; go_simp; with_reducible rfl) (by simp only [Act.put, zs1, zs2, zs3, i64_w, i32_w]; rfl) ?_
                  refine pA 34 (some 39) (bm 71 34359738367) rfl rfl HT_.out (by kernel_rfl) (fun _ _ _ h => h) (by rfl) (by intro w'; go_simp; with_reducible rfl) (by simp only [Act.put, zs1, zs2, zs3, i64_w, i32_w]; rfl) ?_
                  refine pA 35 (some 40) (bm 71 68719476735) rfl rfl HT_.out (by kernel_rfl) (fun _ _ _ h => h) (by rfl) (by intro w'; go_simp; with_reducible rfl) (by simp only [Act.put, zs1, zs2, zs3, i64_w, i32_w]; rfl) ?_
                  refine pA 37 (some 42) (bm 71 206158430207) rfl rfl HT_.out (by kernel_rfl) (fun _ _ _ h => h) (by rfl) (by intro w'; go_simp; with_reducible rfl) (by simp only [Act.put, zs1, zs2, zs3, i64_w, i32_w]; rfl) ?_
                  refine tA 36 (some 41) (bm 71 274877906943) rfl rfl HT_.out HW_.out (by kernel_rfl) (fun _ _ _ h => h) (by rfl) hHeld (by rintro w' ⟨s0, s1, s2, s3, s4, s5, s6, s7, s8, s9, s10, s11, s12, s13, s14⟩; go_simp; with_reducible rfl) (by simp only [Act.put, zs1, zs2, zs3, i64_w, i32_w]; rfl) ?_
                  refine tA 38 (some 43) (bm 71 549755813887) rfl rfl HT_.out HW_.out (by kernel_rfl) (fun _ _ _ h => h) (by rfl) hHeld (by rintro w' ⟨s0, s1, s2, s3, s4, s5, s6, s7, s8, s9, s10, s11, s12, s13, s14⟩; go_simp; with_reducible rfl) (by simp only [Act.put, zs1, zs2, zs3, i64_w, i32_w]; rfl) ?_
                  refine pA 39 (some 44) (bm 71 1099511627775) rfl rfl HT_.out (by kernel_rfl) (fun _ _ _ h => h) (by rfl) (by intro w'; go_simp; with_reducible rfl) (by simp only [Act.put, zs1, zs2, zs3, i64_w, i32_w]; rfl) ?_
                  refine one_ (i := 40) (N := some 45) (bm 71 2199023255551) rfl rfl (one_of HT_.out (by kernel_rfl)) (by decide) (fun K hK => ?_)
                  refine goes_ Try.func64 (by kernel_rfl) rfl #[.int .i64 a1_3, .int .i64 0, .int .i64 (l1_2.length : Int)] (by rfl) rfl rfl (by (try simp only [List.map_toArray, List.map_cons, List.map_nil]); first | done | rfl | (simp only [List.length_drop, List.length_take]; rfl)) ?_
                  with_reducible refine (spec_l1In.calls a1_3 0 (l1_2.length : Int) true _ A17.out).mono ?_
                  rintro e w' ⟨rfl, ⟨nd, rfl⟩⟩
                  refine ⟨_, rfl, ?_⟩
                  refine hK.out _ _ ⟨(zr4 BK124.out 0).trans rfl, (zr4 BK124.out 1).trans rfl, (zr4 BK124.out 2).trans rfl, (zr4 BK124.out 3).trans rfl, (zr4 BK124.out 4).trans rfl, (zr4 BK125.out 0).trans rfl, (zr4 BK125.out 1).trans rfl, (zr4 BK125.out 2).trans rfl, (zr4 BK125.out 3).trans rfl, (zr4 BK125.out 4).trans rfl, (zr4 BK125.out 5).trans rfl, (zr4 BK125.out 6).trans rfl, (zr4 BK125.out 7).trans rfl, (zr4 BK125.out 8).trans rfl, (zr4 BK125.out 9).trans rfl⟩ (fun hHeld => ?_)
                  clear hK K
                  refine norm_ (a' := ?_) ?_ ?_
                  rotate_left
                  · show Act.put _ (some 45) _ = _
                    simp only [Act.put, zs1, zs2, zs3, i64_w, i32_w]
                    rfl
                  refine pA 41 (some 46) (bm 71 4398046511103) rfl rfl HT_.out (by kernel_rfl) (fun _ _ _ h => h) (by rfl) (by intro w'; go_simp; with_reducible rfl) (by simp only [Act.put, zs1, zs2, zs3, i64_w, i32_w]; rfl) ?_
                  refine pA 42 (some 47) (bm 71 8796093022207) rfl rfl HT_.out (by kernel_rfl) (fun _ _ _ h => h) (by rfl) (by intro w'; go_simp; with_reducible rfl) (by simp only [Act.put, zs1, zs2, zs3, i64_w, i32_w]; rfl) ?_
                  refine pA 43 (some 48) (bm 71 17592186044415) rfl rfl HT_.out (by kernel_rfl) (fun _ _ _ h => h) (by rfl) (by intro w'; go_simp; with_reducible rfl) (by simp only [Act.put, zs1, zs2, zs3, i64_w, i32_w]; rfl) ?_
                  refine pA 44 (some 49) (bm 71 35184372088831) rfl rfl HT_.out (by kernel_rfl) (fun _ _ _ h => h) (by rfl) (by intro w'; go_simp; with_reducible rfl) (by simp only [Act.put, zs1, zs2, zs3, i64_w, i32_w]; rfl) ?_
                  refine tA 45 (some 50) (bm 71 70368744177663) rfl rfl HT_.out HW_.out (by kernel_rfl) (fun _ _ _ h => h) (by rfl) hHeld (by rintro w' ⟨s0, s1, s2, s3, s4, s5, s6, s7, s8, s9, s10, s11, s12, s13, s14⟩; go_simp; with_reducible rfl) (by simp only [Act.put, zs1, zs2, zs3, i64_w, i32_w]; rfl) ?_
                  refine pA 46 (some 51) (bm 71 140737488355327) rfl rfl HT_.out (by kernel_rfl) (fun _ _ _ h => h) (by rfl) (by intro w'; go_simp; with_reducible rfl) (by simp only [Act.put, zs1, zs2, zs3, i64_w, i32_w]; rfl) ?_
                  refine pA 47 (some 52) (bm 71 281474976710655) rfl rfl HT_.out (by kernel_rfl) (fun _ _ _ h => h) (by rfl) (by intro w'; go_simp; with_reducible rfl) (by simp only [Act.put, zs1, zs2, zs3, i64_w, i32_w]; rfl) ?_
                  refine pA 48 (some 53) (bm 71 562949953421311) rfl rfl HT_.out (by kernel_rfl) (fun _ _ _ h => h) (by rfl) (by intro w'; go_simp; with_reducible rfl) (by simp only [Act.put, zs1, zs2, zs3, i64_w, i32_w]; rfl) ?_
                  refine pA 49 (some 54) (bm 71 1125899906842623) rfl rfl HT_.out (by kernel_rfl) (fun _ _ _ h => h) (by rfl) (by intro w'; go_simp; with_reducible rfl) (by simp only [Act.put, zs1, zs2, zs3, i64_w, i32_w]; rfl) ?_
                  refine pB 50 (some 55) (bm 71 2251799813685247) rfl rfl HT_.out (by kernel_rfl) (fun _ _ _ h => h) (by rfl) (by simp only [Act.put, zs1, zs2, zs3, i64_w, i32_w]; rfl) ?_
                  refine pB 51 (some 56) (bm 71 4503599627370495) rfl rfl HT_.out (by kernel_rfl) (fun _ _ _ h => h) (by rfl) (by simp only [Act.put, zs1, zs2, zs3, i64_w, i32_w]; rfl) ?_
                  refine pB 52 (some 57) (bm 71 9007199254740991) rfl rfl HT_.out (by kernel_rfl) (fun _ _ _ h => h) (by rfl) (by simp only [Act.put, zs1, zs2, zs3, i64_w, i32_w]; rfl) ?_
                  refine pB 53 (some 58) (bm 71 18014398509481983) rfl rfl HT_.out (by kernel_rfl) (fun _ _ _ h => h) (by rfl) (by simp only [Act.put, zs1, zs2, zs3, i64_w, i32_w]; rfl) ?_
                  refine pB 54 (some 59) (bm 71 36028797018963967) rfl rfl HT_.out (by kernel_rfl) (fun _ _ _ h => h) (by rfl) (by simp only [Act.put, zs1, zs2, zs3, i64_w, i32_w]; rfl) ?_
                  refine pB 55 (some 60) (bm 71 72057594037927935) rfl rfl HT_.out (by kernel_rfl) (fun _ _ _ h => h) (by rfl) (by simp only [Act.put, zs1, zs2, zs3, i64_w, i32_w]; rfl) ?_
                  refine pA 56 (some 61) (bm 71 144115188075855871) rfl rfl HT_.out (by kernel_rfl) (fun _ _ _ h => h) (by rfl) (by intro w'; go_simp; with_reducible rfl) (by simp only [Act.put, zs1, zs2, zs3, i64_w, i32_w]; rfl) ?_
                  refine pA 57 (some 62) (bm 71 288230376151711743) rfl rfl HT_.out (by kernel_rfl) (fun _ _ _ h => h) (by rfl) (by intro w'; go_simp; with_reducible rfl) (by simp only [Act.put, zs1, zs2, zs3, i64_w, i32_w]; rfl) ?_
                  refine pB 58 (some 63) (bm 71 576460752303423487) rfl rfl HT_.out (by kernel_rfl) (fun _ _ _ h => h) (by rfl) (by simp only [Act.put, zs1, zs2, zs3, i64_w, i32_w]; rfl) ?_
                  refine pB 59 (some 64) (bm 71 1152921504606846975) rfl rfl HT_.out (by kernel_rfl) (fun _ _ _ h => h) (by rfl) (by simp only [Act.put, zs1, zs2, zs3, i64_w, i32_w]; rfl) ?_
                  refine pB 60 (some 65) (bm 71 2305843009213693951) rfl rfl HT_.out (by kernel_rfl) (fun _ _ _ h => h) (by rfl) (by simp only [Act.put, zs1, zs2, zs3, i64_w, i32_w]; rfl) ?_
                  refine pB 61 (some 66) (bm 71 4611686018427387903) rfl rfl HT_.out (by kernel_rfl) (fun _ _ _ h => h) (by rfl) (by simp only [Act.put, zs1, zs2, zs3, i64_w, i32_w]; rfl) ?_
                  refine pA 62 (some 67) (bm 71 9223372036854775807) rfl rfl HT_.out (by kernel_rfl) (fun _ _ _ h => h) (by rfl) (by intro w'; go_simp; with_reducible rfl) (by simp only [Act.put, zs1, zs2, zs3, i64_w, i32_w]; rfl) ?_
                  refine pA 63 (some 68) (bm 71 18446744073709551615) rfl rfl HT_.out (by kernel_rfl) (fun _ _ _ h => h) (by rfl) (by intro w'; go_simp; with_reducible rfl) (by simp only [Act.put, zs1, zs2, zs3, i64_w, i32_w]; rfl) ?_
                  refine pB 64 (some 69) (bm 71 36893488147419103231) rfl rfl HT_.out (by kernel_rfl) (fun _ _ _ h => h) (by rfl) (by simp only [Act.put, zs1, zs2, zs3, i64_w, i32_w]; rfl) ?_
                  refine pB 65 (some 70) (bm 71 73786976294838206463) rfl rfl HT_.out (by kernel_rfl) (fun _ _ _ h => h) (by rfl) (by simp only [Act.put, zs1, zs2, zs3, i64_w, i32_w]; rfl) ?_
                  refine pB 66 (some 71) (bm 71 147573952589676412927) rfl rfl HT_.out (by kernel_rfl) (fun _ _ _ h => h) (by rfl) (by simp only [Act.put, zs1, zs2, zs3, i64_w, i32_w]; rfl) ?_
                  refine pB 67 (some 72) (bm 71 295147905179352825855) rfl rfl HT_.out (by kernel_rfl) (fun _ _ _ h => h) (by rfl) (by simp only [Act.put, zs1, zs2, zs3, i64_w, i32_w]; rfl) ?_
                  refine pB 68 (some 73) (bm 71 590295810358705651711) rfl rfl HT_.out (by kernel_rfl) (fun _ _ _ h => h) (by rfl) (by simp only [Act.put, zs1, zs2, zs3, i64_w, i32_w]; rfl) ?_
                  refine pB 69 (some 74) (bm 71 1180591620717411303423) rfl rfl HT_.out (by kernel_rfl) (fun _ _ _ h => h) (by rfl) (by simp only [Act.put, zs1, zs2, zs3, i64_w, i32_w]; rfl) ?_
                  refine pA 70 (some 75) (bm 71 2361183241434822606847) rfl rfl HT_.out (by kernel_rfl) (fun _ _ _ h => h) (by rfl) (by intro w'; go_simp; with_reducible rfl) (by simp only [Act.put, zs1, zs2, zs3, i64_w, i32_w]; rfl) ?_
                  refine done_ (done_of HT_.out (by kernel_rfl)) ?_
                  try go_wp2
                  go_meet
                  case rel => exact ⟨_, (true), (by first | rfl | (simp; done) | (simp [*]; done)), H', ⟨by first | omega | exact Nat.le_refl _⟩, ⟨by (with_reducible repeat (first | refine zq1 ?_ _ | refine zq2 ?_ | refine zq3 ?_ _)); exact BK124.out⟩, ⟨by (with_reducible repeat (first | refine zq1 ?_ _ | refine zq2 ?_ | refine zq3 ?_ _)); exact BK125.out⟩, ⟨by repeat (first | (with_reducible first | exact HB.out | apply zq7 | apply zq8 | apply zq9 | refine zr1 ?_ GE124.out | refine zr1 ?_ GE125.out) | exact HB.out)⟩⟩
                · rw [if_neg c19] at H
                  have c19b0 : decide (24 < (l1_4.length : Int)) = false := decide_eq_false c19
                  have c19b1 : decide (24 < l1_4.length) = false := decide_eq_false (by omega)
                  clear c19
                  replace H := Option.bind_eq_some_iff.mp H
                  obtain ⟨t131, A220, H⟩ := H
                  try dsimp only at H
                  have A22 := mk_ A220
                  clear A220
                  by_cases c23 : t131 = true
                  · subst c23
                    have H1 : ((spec_l1In.f a1_8 0 9999).bind fun t132 => (if t132 = true then ((spec_NumOf.f a1_8).bind fun t133 => (spec_TxOk.j0 k (t133 != a1_1) a0_0 a0_1 a0_2 a0_3 a0_4 a1_0 a1_1 l1_2 a1_3 l1_4 a1_5 a1_6 a1_7 a1_8 a1_9)) else (spec_TxOk.j0 k true a0_0 a0_1 a0_2 a0_3 a0_4 a1_0 a1_1 l1_2 a1_3 l1_4 a1_5 a1_6 a1_7 a1_8 a1_9))) = some r := by rw [if_pos rfl] at H; exact H
                    clear H
                    have H := H1
                    clear H1
                    replace H := Option.bind_eq_some_iff.mp H
                    obtain ⟨t132, A240, H⟩ := H
                    try dsimp only at H
                    have A24 := mk_ A240
                    clear A240
                    by_cases c25 : t132 = true
                    · subst c25
                      have H1 : ((spec_NumOf.f a1_8).bind fun t133 => (spec_TxOk.j0 k (t133 != a1_1) a0_0 a0_1 a0_2 a0_3 a0_4 a1_0 a1_1 l1_2 a1_3 l1_4 a1_5 a1_6 a1_7 a1_8 a1_9)) = some r := by rw [if_pos rfl] at H; exact H
                      clear H
                      have H := H1
                      clear H1
                      replace H := Option.bind_eq_some_iff.mp H
                      obtain ⟨t133, A260, H⟩ := H
                      try dsimp only at H
                      have A26 := mk_ A260
                      clear A260
                      have H' := mk_ H
                      clear H
                      try go_wp2
                      replace BK124 := mk_ (zq2 BK124.out)
                      replace BK125 := mk_ (zq2 BK125.out)
                      replace HB := mk_ (zq9 HB.out)
                      refine start_ (n := 71) (S := fun w' => w'.cell? ⟨gb124, 0, none⟩ = some (.int .i64 a0_0) ∧ w'.cell? ⟨gb124, 1, none⟩ = some (.int .i64 a0_1) ∧ w'.cell? ⟨gb124, 2, none⟩ = some (.int .i64 a0_2) ∧ w'.cell? ⟨gb124, 3, none⟩ = some (.int .i64 a0_3) ∧ w'.cell? ⟨gb124, 4, none⟩ = some (.int .i64 a0_4) ∧ w'.cell? ⟨gb125, 0, none⟩ = some (.int .i64 a1_0) ∧ w'.cell? ⟨gb125, 1, none⟩ = some (.int .i64 a1_1) ∧ w'.cell? ⟨gb125, 2, none⟩ = some (.slice A1_2 l1_2.length c1_2) ∧ w'.cell? ⟨gb125, 3, none⟩ = some (.int .i64 a1_3) ∧ w'.cell? ⟨gb125, 4, none⟩ = some (.slice A1_4 l1_4.length c1_4) ∧ w'.cell? ⟨gb125, 5, none⟩ = some (.bool a1_5) ∧ w'.cell? ⟨gb125, 6, none⟩ = some (.int .i64 a1_6) ∧ w'.cell? ⟨gb125, 7, none⟩ = some (.bool a1_7) ∧ w'.cell? ⟨gb125, 8, none⟩ = some (.int .i64 a1_8) ∧ w'.cell? ⟨gb125, 9, none⟩ = some (.bool a1_9)) (ds := []) (bm 71 0) (by kernel_rfl) rfl rfl ⟨(zr4 BK124.out 0).trans rfl, (zr4 BK124.out 1).trans rfl, (zr4 BK124.out 2).trans rfl, (zr4 BK124.out 3).trans rfl, (zr4 BK124.out 4).trans rfl, (zr4 BK125.out 0).trans rfl, (zr4 BK125.out 1).trans rfl, (zr4 BK125.out 2).trans rfl, (zr4 BK125.out 3).trans rfl, (zr4 BK125.out 4).trans rfl, (zr4 BK125.out 5).trans rfl, (zr4 BK125.out 6).trans rfl, (zr4 BK125.out 7).trans rfl, (zr4 BK125.out 8).trans rfl, (zr4 BK125.out 9).trans rfl⟩ (fun hHeld => ?_); refine with_tabW spec_TxOk.tab1 spec_TxOk.bits1 (fun HT_ HW_ => ?_)
                      generalize w5.drew = w27 at BK124 BK125 HB hHeld ⊢
                      refine tA 0 (some 5) (bm 71 1) rfl rfl HT_.out HW_.out (by kernel_rfl) (fun _ _ _ h => h) (by rfl) hHeld (by rintro w' ⟨s0, s1, s2, s3, s4, s5, s6, s7, s8, s9, s10, s11, s12, s13, s14⟩; go_simp; with_reducible rfl) (by simp only [Act.put, zs1, zs2, zs3, i64_w, i32_w]; rfl) ?_
                      refine one_ (i := 1) (N := some 6) (bm 71 3) rfl rfl (one_of HT_.out (by kernel_rfl)) (by decide) (fun K hK => ?_)
                      refine goes_ Try.func81 (by kernel_rfl) rfl #[.agg #[.int .i64 a0_0, .int .i64 a0_1, .int .i64 a0_2, .int .i64 a0_3, .int .i64 a0_4]] (by rfl) rfl rfl (by (try simp only [List.map_toArray, List.map_cons, List.map_nil]); first | done | rfl | (simp only [List.length_drop, List.length_take]; rfl)) ?_
                      with_reducible refine (spec_CfgOk.calls a0_0 a0_1 a0_2 a0_3 a0_4 true _ A6.out).mono ?_
                      rintro e w28 ⟨rfl, hb⟩
                      refine ⟨_, rfl, ?_⟩
                      replace BK124 := mk_ (zq6 (by exact BK124.out) hb)
                      replace BK125 := mk_ (zq6 (by exact BK125.out) hb)
                      replace HB := mk_ (zr3 (by repeat (first | (with_reducible first | exact HB.out | apply zq7 | apply zq8 | apply zq9 | refine zr1 ?_ GE124.out | refine zr1 ?_ GE125.out) | exact HB.out)) hb)
                      (try clear hb)
                      (try clear hb2)
                      (try clear hk)
                      (try clear hi)
                      refine hK.out _ _ ⟨(zr4 BK124.out 0).trans rfl, (zr4 BK124.out 1).trans rfl, (zr4 BK124.out 2).trans rfl, (zr4 BK124.out 3).trans rfl, (zr4 BK124.out 4).trans rfl, (zr4 BK125.out 0).trans rfl, (zr4 BK125.out 1).trans rfl, (zr4 BK125.out 2).trans rfl, (zr4 BK125.out 3).trans rfl, (zr4 BK125.out 4).trans rfl, (zr4 BK125.out 5).trans rfl, (zr4 BK125.out 6).trans rfl, (zr4 BK125.out 7).trans rfl, (zr4 BK125.out 8).trans rfl, (zr4 BK125.out 9).trans rfl⟩ (fun hHeld => ?_)
                      clear hK K
                      refine norm_ (a' := ?_) ?_ ?_
                      rotate_left
                      · show Act.put _ (some 6) _ = _
                        simp only [Act.put, zs1, zs2, zs3, i64_w, i32_w]
                        rfl
                      refine pA 2 (some 7) (bm 71 7) rfl rfl HT_.out (by kernel_rfl) (fun _ _ _ h => h) (by rfl) (by intro w'; go_simp; with_reducible rfl) (by simp only [Act.put, zs1, zs2, zs3, i64_w, i32_w]; rfl) ?_
                      refine pA 3 (some 8) (bm 71 15) rfl rfl HT_.out (by kernel_rfl) (fun _ _ _ h => h) (by rfl) (by intro w'; go_simp; with_reducible rfl) (by simp only [Act.put, zs1, zs2, zs3, i64_w, i32_w]; rfl) ?_
                      refine pA 4 (some 9) (bm 71 31) rfl rfl HT_.out (by kernel_rfl) (fun _ _ _ h => h) (by rfl) (by intro w'; go_simp; with_reducible rfl) (by simp only [Act.put, zs1, zs2, zs3, i64_w, i32_w]; rfl) ?_
                      refine tA 5 (some 10) (bm 71 63) rfl rfl HT_.out HW_.out (by kernel_rfl) (fun _ _ _ h => h) (by rfl) hHeld (by rintro w' ⟨s0, s1, s2, s3, s4, s5, s6, s7, s8, s9, s10, s11, s12, s13, s14⟩; go_simp; with_reducible rfl) (by simp only [Act.put, zs1, zs2, zs3, i64_w, i32_w]; rfl) ?_
                      refine one_ (i := 6) (N := some 11) (bm 71 127) rfl rfl (one_of HT_.out (by kernel_rfl)) (by decide) (fun K hK => ?_)
                      refine goes_ Try.func64 (by kernel_rfl) rfl #[.int .i64 a1_0, .int .i64 0, .int .i64 7] (by rfl) rfl rfl (by (try simp only [List.map_toArray, List.map_cons, List.map_nil]); first | done | rfl | (simp only [List.length_drop, List.length_take]; rfl)) ?_
                      with_reducible refine (spec_l1In.calls a1_0 0 7 true _ A8.out).mono ?_
                      rintro e w' ⟨rfl, ⟨nd, rfl⟩⟩
                      refine ⟨_, rfl, ?_⟩
                      refine hK.out _ _ ⟨(zr4 BK124.out 0).trans rfl, (zr4 BK124.out 1).trans rfl, (zr4 BK124.out 2).trans rfl, (zr4 BK124.out 3).trans rfl, (zr4 BK124.out 4).trans rfl, (zr4 BK125.out 0).trans rfl, (zr4 BK125.out 1).trans rfl, (zr4 BK125.out 2).trans rfl, (zr4 BK125.out 3).trans rfl, (zr4 BK125.out 4).trans rfl, (zr4 BK125.out 5).trans rfl, (zr4 BK125.out 6).trans rfl, (zr4 BK125.out 7).trans rfl, (zr4 BK125.out 8).trans rfl, (zr4 BK125.out 9).trans rfl⟩ (fun hHeld => ?_)
                      clear hK K
                      refine norm_ (a' := ?_) ?_ ?_
                      rotate_left
                      · show Act.put _ (some 11) _ = _
                        simp only [Act.put, zs1, zs2, zs3, i64_w, i32_w]
                        rfl
                      refine pA 7 (some 12) (bm 71 255) rfl rfl HT_.out (by kernel_rfl) (fun _ _ _ h => h) (by rfl) (by intro w'; go_simp; with_reducible rfl) (by simp only [Act.put, zs1, zs2, zs3, i64_w, i32_w]; rfl) ?_
                      refine pA 8 (some 13) (bm 71 511) rfl rfl HT_.out (by kernel_rfl) (fun _ _ _ h => h) (by rfl) (by intro w'; go_simp; with_reducible rfl) (by simp only [Act.put, zs1, zs2, zs3, i64_w, i32_w]; rfl) ?_
                      refine pA 9 (some 14) (bm 71 1023) rfl rfl HT_.out (by kernel_rfl) (fun _ _ _ h => h) (by rfl) (by intro w'; go_simp; with_reducible rfl) (by simp only [Act.put, zs1, zs2, zs3, i64_w, i32_w]; rfl) ?_
                      refine pA 10 (some 15) (bm 71 2047) rfl rfl HT_.out (by kernel_rfl) (fun _ _ _ h => h) (by rfl) (by intro w'; go_simp; with_reducible rfl) (by simp only [Act.put, zs1, zs2, zs3, i64_w, i32_w]; rfl) ?_
                      refine tA 11 (some 16) (bm 71 4095) rfl rfl HT_.out HW_.out (by kernel_rfl) (fun _ _ _ h => h) (by rfl) hHeld (by rintro w' ⟨s0, s1, s2, s3, s4, s5, s6, s7, s8, s9, s10, s11, s12, s13, s14⟩; go_simp; with_reducible rfl) (by simp only [Act.put, zs1, zs2, zs3, i64_w, i32_w]; rfl) ?_
                      refine one_ (i := 12) (N := some 17) (bm 71 8191) rfl rfl (one_of HT_.out (by kernel_rfl)) (by decide) (fun K hK => ?_)
                      refine goes_ Try.func64 (by kernel_rfl) rfl #[.int .i64 a1_1, .int .i64 0, .int .i64 7] (by rfl) rfl rfl (by (try simp only [List.map_toArray, List.map_cons, List.map_nil]); first | done | rfl | (simp only [List.length_drop, List.length_take]; rfl)) ?_
                      with_reducible refine (spec_l1In.calls a1_1 0 7 true _ A10.out).mono ?_
                      rintro e w' ⟨rfl, ⟨nd, rfl⟩⟩
                      refine ⟨_, rfl, ?_⟩
                      refine hK.out _ _ ⟨(zr4 BK124.out 0).trans rfl, (zr4 BK124.out 1).trans rfl, (zr4 BK124.out 2).trans rfl, (zr4 BK124.out 3).trans rfl, (zr4 BK124.out 4).trans rfl, (zr4 BK125.out 0).trans rfl, (zr4 BK125.out 1).trans rfl, (zr4 BK125.out 2).trans rfl, (zr4 BK125.out 3).trans rfl, (zr4 BK125.out 4).trans rfl, (zr4 BK125.out 5).trans rfl, (zr4 BK125.out 6).trans rfl, (zr4 BK125.out 7).trans rfl, (zr4 BK125.out 8).trans rfl, (zr4 BK125.out 9).trans rfl⟩ (fun hHeld => ?_)
                      clear hK K
                      refine norm_ (a' := ?_) ?_ ?_
                      rotate_left
                      · show Act.put _ (some 17) _ = _
                        simp only [Act.put, zs1, zs2, zs3, i64_w, i32_w]
                        rfl
                      refine pA 13 (some 18) (bm 71 16383) rfl rfl HT_.out (by kernel_rfl) (fun _ _ _ h => h) (by rfl) (by intro w'; go_simp; with_reducible rfl) (by simp only [Act.put, zs1, zs2, zs3, i64_w, i32_w]; rfl) ?_
                      refine pA 14 (some 19) (bm 71 32767) rfl rfl HT_.out (by kernel_rfl) (fun _ _ _ h => h) (by rfl) (by intro w'; go_simp; with_reducible rfl) (by simp only [Act.put, zs1, zs2, zs3, i64_w, i32_w]; rfl) ?_
                      refine pA 15 (some 20) (bm 71 65535) rfl rfl HT_.out (by kernel_rfl) (fun _ _ _ h => h) (by rfl) (by intro w'; go_simp; with_reducible rfl) (by simp only [Act.put, zs1, zs2, zs3, i64_w, i32_w]; rfl) ?_
                      refine pA 16 (some 21) (bm 71 131071) rfl rfl HT_.out (by kernel_rfl) (fun _ _ _ h => h) (by rfl) (by intro w'; go_simp; with_reducible rfl) (by simp only [Act.put, zs1, zs2, zs3, i64_w, i32_w]; rfl) ?_
                      refine pA 19 (some 24) (bm 71 655359) rfl rfl HT_.out (by kernel_rfl) (fun _ _ _ h => h) (by rfl) (by intro w'; go_simp; with_reducible rfl) (by simp only [Act.put, zs1, zs2, zs3, i64_w, i32_w]; rfl) ?_
                      refine tA 17 (some 22) (bm 71 786431) rfl rfl HT_.out HW_.out (by kernel_rfl) (fun _ _ _ h => h) (by rfl) hHeld (by rintro w' ⟨s0, s1, s2, s3, s4, s5, s6, s7, s8, s9, s10, s11, s12, s13, s14⟩; go_simp; with_reducible rfl) (by simp only [Act.put, zs1, zs2, zs3, i64_w, i32_w]; rfl) ?_
                      refine pA 18 (some 23) (bm 71 1048575) rfl rfl HT_.out (by kernel_rfl) (fun _ _ _ h => h) (by rfl) (by intro w'; go_simp; with_reducible rfl) (by simp only [Act.put, zs1, zs2, zs3, i64_w, i32_w]; rfl) ?_
                      refine tA 20 (some 25) (bm 71 2097151) rfl rfl HT_.out HW_.out (by kernel_rfl) (fun _ _ _ h => h) (by rfl) hHeld (by rintro w' ⟨s0, s1, s2, s3, s4, s5, s6, s7, s8, s9, s10, s11, s12, s13, s14⟩; go_simp; with_reducible rfl) (by simp only [Act.put, zs1, zs2, zs3, i64_w, i32_w]; rfl) ?_
                      refine pA 21 (some 26) (bm 71 4194303) rfl rfl HT_.out (by kernel_rfl) (fun _ _ _ h => h) (by rfl) (by intro w'; go_simp; with_reducible rfl) (by simp only [Act.put, zs1, zs2, zs3, i64_w, i32_w]; rfl) ?_
                      refine pA 22 (some 27) (bm 71 8388607) rfl rfl HT_.out (by kernel_rfl) (fun _ _ _ h => h) (by rfl) (by intro w'; go_simp; with_reducible rfl) (by simp only [Act.put, zs1, zs2, zs3, i64_w, i32_w]; rfl) ?_
                      refine pA 23 (some 28) (bm 71 16777215) rfl rfl HT_.out (by kernel_rfl) (fun _ _ _ h => h) (by rfl) (by intro w'; go_simp; with_reducible rfl) (by simp only [Act.put, zs1, zs2, zs3, i64_w, i32_w]; rfl) ?_
                      refine pA 24 (some 29) (bm 71 33554431) rfl rfl HT_.out (by kernel_rfl) (fun _ _ _ h => h) (by rfl) (by intro w'; go_simp; with_reducible rfl) (by simp only [Act.put, zs1, zs2, zs3, i64_w, i32_w]; rfl) ?_
                      refine pA 26 (some 31) (bm 71 100663295) rfl rfl HT_.out (by kernel_rfl) (fun _ _ _ h => h) (by rfl) (by intro w'; go_simp; with_reducible rfl) (by simp only [Act.put, zs1, zs2, zs3, i64_w, i32_w]; rfl) ?_
                      refine pA 29 (some 34) (bm 71 637534207) rfl rfl HT_.out (by kernel_rfl) (fun _ _ _ h => h) (by rfl) (by intro w'; go_simp; with_reducible rfl) (by simp only [Act.put, zs1, zs2, zs3, i64_w, i32_w]; rfl) ?_
                      refine tA 25 (some 30) (bm 71 671088639) rfl rfl HT_.out HW_.out (by kernel_rfl) (fun _ _ _ h => h) (by rfl) hHeld (by rintro w' ⟨s0, s1, s2, s3, s4, s5, s6, s7, s8, s9, s10, s11, s12, s13, s14⟩; go_simp; with_reducible rfl) (by simp only [Act.put, zs1, zs2, zs3, i64_w, i32_w]; rfl) ?_
                      refine tA 27 (some 32) (bm 71 805306367) rfl rfl HT_.out HW_.out (by kernel_rfl) (fun _ _ _ h => h) (by rfl) hHeld (by rintro w' ⟨s0, s1, s2, s3, s4, s5, s6, s7, s8, s9, s10, s11, s12, s13, s14⟩; go_simp; with_reducible rfl) (by simp only [Act.put, zs1, zs2, zs3, i64_w, i32_w]; rfl) ?_
                      refine tA 30 (some 35) (bm 71 1879048191) rfl rfl HT_.out HW_.out (by kernel_rfl) (fun _ _ _ h => h) (by rfl) hHeld (by rintro w' ⟨s0, s1, s2, s3, s4, s5, s6, s7, s8, s9, s10, s11, s12, s13, s14⟩; go_simp; with_reducible rfl) (by simp only [Act.put, zs1, zs2, zs3, i64_w, i32_w]; rfl) ?_
                      refine pA 31 (some 36) (bm 71 4026531839) rfl rfl HT_.out (by kernel_rfl) (fun _ _ _ h => h) (by rfl) (by intro w'; go_simp; with_reducible rfl) (by simp only [Act.put, zs1, zs2, zs3, i64_w, i32_w]; rfl) ?_
                      refine one_ (i := 28) (N := some 33) (bm 71 4294967295) rfl rfl (one_of HT_.out (by kernel_rfl)) (by decide) (fun K hK => ?_)
                      refine goes_ Try.func82 (by kernel_rfl) rfl #[.int .i64 a1_1, .int .i64 a1_0] (by rfl) rfl rfl (by (try simp only [List.map_toArray, List.map_cons, List.map_nil]); first | done | rfl | (simp only [List.length_drop, List.length_take]; rfl)) ?_
                      with_reducible refine (spec_NumFar.calls a1_1 a1_0 t129 _ A15.out).mono ?_
                      rintro e w' ⟨rfl, ⟨nd, rfl⟩⟩
                      refine ⟨_, rfl, ?_⟩
                      refine hK.out _ _ ⟨(zr4 BK124.out 0).trans rfl, (zr4 BK124.out 1).trans rfl, (zr4 BK124.out 2).trans rfl, (zr4 BK124.out 3).trans rfl, (zr4 BK124.out 4).trans rfl, (zr4 BK125.out 0).trans rfl, (zr4 BK125.out 1).trans rfl, (zr4 BK125.out 2).trans rfl, (zr4 BK125.out 3).trans rfl, (zr4 BK125.out 4).trans rfl, (zr4 BK125.out 5).trans rfl, (zr4 BK125.out 6).trans rfl, (zr4 BK125.out 7).trans rfl, (zr4 BK125.out 8).trans rfl, (zr4 BK125.out 9).trans rfl⟩ (fun hHeld => ?_)
                      clear hK K
                      refine norm_ (a' := ?_) ?_ ?_
                      rotate_left
                      · show Act.put _ (some 33) _ = _
                        simp only [Act.put, zs1, zs2, zs3, i64_w, i32_w]
                        rfl
                      refine pA 32 (some 37) (bm 71 8589934591) rfl rfl HT_.out (by kernel_rfl) (fun _ _ _ h => h) (by rfl) (by intro w'; go_simp; with_reducible rfl) (by simp only [Act.put, zs1, zs2, zs3, i64_w, i32_w]; rfl) ?_
                      refine pA 33 (some 38) (bm 71 17179869183) rfl rfl HT_.out (by kernel_rfl) (fun _ _ _ h => h) (by rfl) (by intro w'; go_simp; with_reducible rfl) (by simp only [Act.put, zs1, zs2, zs3, i64_w, i32_w]; rfl) ?_
                      refine pA 34 (some 39) (bm 71 34359738367) rfl rfl HT_.out (by kernel_rfl) (fun _ _ _ h => h) (by rfl) (by intro w'; go_simp; with_reducible rfl) (by simp only [Act.put, zs1, zs2, zs3, i64_w, i32_w]; rfl) ?_
                      refine pA 35 (some 40) (bm 71 68719476735) rfl rfl HT_.out (by kernel_rfl) (fun _ _ _ h => h) (by rfl) (by intro w'; go_simp; with_reducible rfl) (by simp only [Act.put, zs1, zs2, zs3, i64_w, i32_w]; rfl) ?_
                      refine pA 37 (some 42) (bm 71 206158430207) rfl rfl HT_.out (by kernel_rfl) (fun _ _ _ h => h) (by rfl) (by intro w'; go_simp; with_reducible rfl) (by simp only [Act.put, zs1, zs2, zs3, i64_w, i32_w]; rfl) ?_
                      refine tA 36 (some 41) (bm 71 274877906943) rfl rfl HT_.out HW_.out (by kernel_rfl) (fun _ _ _ h => h) (by rfl) hHeld (by rintro w' ⟨s0, s1, s2, s3, s4, s5, s6, s7, s8, s9, s10, s11, s12, s13, s14⟩; go_simp; with_reducible rfl) (by simp only [Act.put, zs1, zs2, zs3, i64_w, i32_w]; rfl) ?_
                      refine tA 38 (some 43) (bm 71 549755813887) rfl rfl HT_.out HW_.out (by kernel_rfl) (fun _ _ _ h => h) (by rfl) hHeld (by rintro w' ⟨s0, s1, s2, s3, s4, s5, s6, s7, s8, s9, s10, s11, s12, s13, s14⟩; go_simp; with_reducible rfl) (by simp only [Act.put, zs1, zs2, zs3, i64_w, i32_w]; rfl) ?_
                      refine pA 39 (some 44) (bm 71 1099511627775) rfl rfl HT_.out (by kernel_rfl) (fun _ _ _ h => h) (by rfl) (by intro w'; go_simp; with_reducible rfl) (by simp only [Act.put, zs1, zs2, zs3, i64_w, i32_w]; rfl) ?_
                      refine one_ (i := 40) (N := some 45) (bm 71 2199023255551) rfl rfl (one_of HT_.out (by kernel_rfl)) (by decide) (fun K hK => ?_)
                      refine goes_ Try.func64 (by kernel_rfl) rfl #[.int .i64 a1_3, .int .i64 0, .int .i64 (l1_2.length : Int)] (by rfl) rfl rfl (by (try simp only [List.map_toArray, List.map_cons, List.map_nil]); first | done | rfl | (simp only [List.length_drop, List.length_take]; rfl)) ?_
                      with_reducible refine (spec_l1In.calls a1_3 0 (l1_2.length : Int) true _ A17.out).mono ?_
                      rintro e w' ⟨rfl, ⟨nd, rfl⟩⟩
                      refine ⟨_, rfl, ?_⟩
                      refine hK.out _ _ ⟨(zr4 BK124.out 0).trans rfl, (zr4 BK124.out 1).trans rfl, (zr4 BK124.out 2).trans rfl, (zr4 BK124.out 3).trans rfl, (zr4 BK124.out 4).trans rfl, (zr4 BK125.out 0).trans rfl, (zr4 BK125.out 1).trans rfl, (zr4 BK125.out 2).trans rfl, (zr4 BK125.out 3).trans rfl, (zr4 BK125.out 4).trans rfl, (zr4 BK125.out 5).trans rfl, (zr4 BK125.out 6).trans rfl, (zr4 BK125.out 7).trans rfl, (zr4 BK125.out 8).trans rfl, (zr4 BK125.out 9).trans rfl⟩ (fun hHeld => ?_)
                      clear hK K
                      refine norm_ (a' := ?_) ?_ ?_
                      rotate_left
                      · show Act.put _ (some 45) _ = _
                        simp only [Act.put, zs1, zs2, zs3, i64_w, i32_w]
                        rfl
                      refine pA 41 (some 46) (bm 71 4398046511103) rfl rfl HT_.out (by kernel_rfl) (fun _ _ _ h => h) (by rfl) (by intro w'; go_simp; with_reducible rfl) (by simp only [Act.put, zs1, zs2, zs3, i64_w, i32_w]; rfl) ?_
                      refine pA 42 (some 47) (bm 71 8796093022207) rfl rfl HT_.out (by kernel_rfl) (fun _ _ _ h => h) (by rfl) (by intro w'; go_simp; with_reducible rfl) (by simp only [Act.put, zs1, zs2, zs3, i64_w, i32_w]; rfl) ?_
                      refine pA 43 (some 48) (bm 71 17592186044415) rfl rfl HT_.out (by kernel_rfl) (fun _ _ _ h => h) (by rfl) (by intro w'; go_simp; with_reducible rfl) (by simp only [Act.put, zs1, zs2, zs3, i64_w, i32_w]; rfl) ?_
                      refine pA 44 (some 49) (bm 71 35184372088831) rfl rfl HT_.out (by kernel_rfl) (fun _ _ _ h => h) (by rfl) (by intro w'; go_simp; with_reducible rfl) (by simp only [Act.put, zs1, zs2, zs3, i64_w, i32_w]; rfl) ?_
                      refine tA 45 (some 50) (bm 71 70368744177663) rfl rfl HT_.out HW_.out (by kernel_rfl) (fun _ _ _ h => h) (by rfl) hHeld (by rintro w' ⟨s0, s1, s2, s3, s4, s5, s6, s7, s8, s9, s10, s11, s12, s13, s14⟩; go_simp; with_reducible rfl) (by simp only [Act.put, zs1, zs2, zs3, i64_w, i32_w]; rfl) ?_
                      refine pA 46 (some 51) (bm 71 140737488355327) rfl rfl HT_.out (by kernel_rfl) (fun _ _ _ h => h) (by rfl) (by intro w'; go_simp; with_reducible rfl) (by simp only [Act.put, zs1, zs2, zs3, i64_w, i32_w]; rfl) ?_
                      refine pA 47 (some 52) (bm 71 281474976710655) rfl rfl HT_.out (by kernel_rfl) (fun _ _ _ h => h) (by rfl) (by intro w'; go_simp; with_reducible rfl) (by simp only [Act.put, zs1, zs2, zs3, i64_w, i32_w]; rfl) ?_
                      refine pA 48 (some 53) (bm 71 562949953421311) rfl rfl HT_.out (by kernel_rfl) (fun _ _ _ h => h) (by rfl) (by intro w'; go_simp; with_reducible rfl) (by simp only [Act.put, zs1, zs2, zs3, i64_w, i32_w]; rfl) ?_
                      refine pA 49 (some 54) (bm 71 1125899906842623) rfl rfl HT_.out (by kernel_rfl) (fun _ _ _ h => h) (by rfl) (by intro w'; go_simp; with_reducible rfl) (by simp only [Act.put, zs1, zs2, zs3, i64_w, i32_w]; rfl) ?_
                      refine pA 50 (some 55) (bm 71 2251799813685247) rfl rfl HT_.out (by kernel_rfl) (fun _ _ _ h => h) (by rfl) (by intro w'; go_simp; with_reducible rfl) (by simp only [Act.put, zs1, zs2, zs3, i64_w, i32_w]; rfl) ?_
                      refine pA 52 (some 57) (bm 71 6755399441055743) rfl rfl HT_.out (by kernel_rfl) (fun _ _ _ h => h) (by rfl) (by intro w'; go_simp; with_reducible rfl) (by simp only [Act.put, zs1, zs2, zs3, i64_w, i32_w]; rfl) ?_
                      refine tA 51 (some 56) (bm 71 9007199254740991) rfl rfl HT_.out HW_.out (by kernel_rfl) (fun _ _ _ h => h) (by rfl) hHeld (by rintro w' ⟨s0, s1, s2, s3, s4, s5, s6, s7, s8, s9, s10, s11, s12, s13, s14⟩; go_simp; with_reducible rfl) (by simp only [Act.put, zs1, zs2, zs3, i64_w, i32_w]; rfl) ?_
                      refine tA 53 (some 58) (bm 71 18014398509481983) rfl rfl HT_.out HW_.out (by kernel_rfl) (fun _ _ _ h => h) (by rfl) hHeld (by rintro w' ⟨s0, s1, s2, s3, s4, s5, s6, s7, s8, s9, s10, s11, s12, s13, s14⟩; go_simp; with_reducible rfl) (by simp only [Act.put, zs1, zs2, zs3, i64_w, i32_w]; rfl) ?_
                      refine one_ (i := 54) (N := some 59) (bm 71 36028797018963967) rfl rfl (one_of HT_.out (by kernel_rfl)) (by decide) (fun K hK => ?_)
                      refine goes_ Try.func64 (by kernel_rfl) rfl #[.int .i64 a1_6, .int .i64 0, .int .i64 a0_4] (by rfl) rfl rfl (by (try simp only [List.map_toArray, List.map_cons, List.map_nil]); first | done | rfl | (simp only [List.length_drop, List.length_take]; rfl)) ?_
                      with_reducible refine (spec_l1In.calls a1_6 0 a0_4 true _ A22.out).mono ?_
                      rintro e w' ⟨rfl, ⟨nd, rfl⟩⟩
                      refine ⟨_, rfl, ?_⟩
                      refine hK.out _ _ ⟨(zr4 BK124.out 0).trans rfl, (zr4 BK124.out 1).trans rfl, (zr4 BK124.out 2).trans rfl, (zr4 BK124.out 3).trans rfl, (zr4 BK124.out 4).trans rfl, (zr4 BK125.out 0).trans rfl, (zr4 BK125.out 1).trans rfl, (zr4 BK125.out 2).trans rfl, (zr4 BK125.out 3).trans rfl, (zr4 BK125.out 4).trans rfl, (zr4 BK125.out 5).trans rfl, (zr4 BK125.out 6).trans rfl, (zr4 BK125.out 7).trans rfl, (zr4 BK125.out 8).trans rfl, (zr4 BK125.out 9).trans rfl⟩ (fun hHeld => ?_)
                      clear hK K
                      refine norm_ (a' := ?_) ?_ ?_
                      rotate_left
                      · show Act.put _ (some 59) _ = _
                        simp only [Act.put, zs1, zs2, zs3, i64_w, i32_w]
                        rfl
                      refine pA 55 (some 60) (bm 71 72057594037927935) rfl rfl HT_.out (by kernel_rfl) (fun _ _ _ h => h) (by rfl) (by intro w'; go_simp; with_reducible rfl) (by simp only [Act.put, zs1, zs2, zs3, i64_w, i32_w]; rfl) ?_
                      refine pA 56 (some 61) (bm 71 144115188075855871) rfl rfl HT_.out (by kernel_rfl) (fun _ _ _ h => h) (by rfl) (by intro w'; go_simp; with_reducible rfl) (by simp only [Act.put, zs1, zs2, zs3, i64_w, i32_w]; rfl) ?_
                      refine pA 57 (some 62) (bm 71 288230376151711743) rfl rfl HT_.out (by kernel_rfl) (fun _ _ _ h => h) (by rfl) (by intro w'; go_simp; with_reducible rfl) (by simp only [Act.put, zs1, zs2, zs3, i64_w, i32_w]; rfl) ?_
                      refine pA 58 (some 63) (bm 71 576460752303423487) rfl rfl HT_.out (by kernel_rfl) (fun _ _ _ h => h) (by rfl) (by intro w'; go_simp; with_reducible rfl) (by simp only [Act.put, zs1, zs2, zs3, i64_w, i32_w]; rfl) ?_
                      refine tA 59 (some 64) (bm 71 1152921504606846975) rfl rfl HT_.out HW_.out (by kernel_rfl) (fun _ _ _ h => h) (by rfl) hHeld (by rintro w' ⟨s0, s1, s2, s3, s4, s5, s6, s7, s8, s9, s10, s11, s12, s13, s14⟩; go_simp; with_reducible rfl) (by simp only [Act.put, zs1, zs2, zs3, i64_w, i32_w]; rfl) ?_
                      refine one_ (i := 60) (N := some 65) (bm 71 2305843009213693951) rfl rfl (one_of HT_.out (by kernel_rfl)) (by decide) (fun K hK => ?_)
                      refine goes_ Try.func64 (by kernel_rfl) rfl #[.int .i64 a1_8, .int .i64 0, .int .i64 9999] (by rfl) rfl rfl (by (try simp only [List.map_toArray, List.map_cons, List.map_nil]); first | done | rfl | (simp only [List.length_drop, List.length_take]; rfl)) ?_
                      with_reducible refine (spec_l1In.calls a1_8 0 9999 true _ A24.out).mono ?_
                      rintro e w' ⟨rfl, ⟨nd, rfl⟩⟩
                      refine ⟨_, rfl, ?_⟩
                      refine hK.out _ _ ⟨(zr4 BK124.out 0).trans rfl, (zr4 BK124.out 1).trans rfl, (zr4 BK124.out 2).trans rfl, (zr4 BK124.out 3).trans rfl, (zr4 BK124.out 4).trans rfl, (zr4 BK125.out 0).trans rfl, (zr4 BK125.out 1).trans rfl, (zr4 BK125.out 2).trans rfl, (zr4 BK125.out 3).trans rfl, (zr4 BK125.out 4).trans rfl, (zr4 BK125.out 5).trans rfl, (zr4 BK125.out 6).trans rfl, (zr4 BK125.out 7).trans rfl, (zr4 BK125.out 8).trans rfl, (zr4 BK125.out 9).trans rfl⟩ (fun hHeld => ?_)
                      clear hK K
                      refine norm_ (a' := ?_) ?_ ?_
                      rotate_left
                      · show Act.put _ (some 65) _ = _
                        simp only [Act.put, zs1, zs2, zs3, i64_w, i32_w]
                        rfl
                      refine pA 61 (some 66) (bm 71 4611686018427387903) rfl rfl HT_.out (by kernel_rfl) (fun _ _ _ h => h) (by rfl) (by intro w'; go_simp; with_reducible rfl) (by simp only [Act.put, zs1, zs2, zs3, i64_w, i32_w]; rfl) ?_
                      refine pA 62 (some 67) (bm 71 9223372036854775807) rfl rfl HT_.out (by kernel_rfl) (fun _ _ _ h => h) (by rfl) (by intro w'; go_simp; with_reducible rfl) (by simp only [Act.put, zs1, zs2, zs3, i64_w, i32_w]; rfl) ?_
                      refine pA 63 (some 68) (bm 71 18446744073709551615) rfl rfl HT_.out (by kernel_rfl) (fun _ _ _ h => h) (by rfl) (by intro w'; go_simp; with_reducible rfl) (by simp only [Act.put, zs1, zs2, zs3, i64_w, i32_w]; rfl) ?_
                      refine pA 64 (some 69) (bm 71 36893488147419103231) rfl rfl HT_.out (by kernel_rfl) (fun _ _ _ h => h) (by rfl) (by intro w'; go_simp; with_reducible rfl) (by simp only [Act.put, zs1, zs2, zs3, i64_w, i32_w]; rfl) ?_
                      refine pA 67 (some 72) (bm 71 184467440737095516159) rfl rfl HT_.out (by kernel_rfl) (fun _ _ _ h => h) (by rfl) (by intro w'; go_simp; with_reducible rfl) (by simp only [Act.put, zs1, zs2, zs3, i64_w, i32_w]; rfl) ?_
                      refine tA 65 (some 70) (bm 71 221360928884514619391) rfl rfl HT_.out HW_.out (by kernel_rfl) (fun _ _ _ h => h) (by rfl) hHeld (by rintro w' ⟨s0, s1, s2, s3, s4, s5, s6, s7, s8, s9, s10, s11, s12, s13, s14⟩; go_simp; with_reducible rfl) (by simp only [Act.put, zs1, zs2, zs3, i64_w, i32_w]; rfl) ?_
                      refine tA 68 (some 73) (bm 71 516508834063867445247) rfl rfl HT_.out HW_.out (by kernel_rfl) (fun _ _ _ h => h) (by rfl) hHeld (by rintro w' ⟨s0, s1, s2, s3, s4, s5, s6, s7, s8, s9, s10, s11, s12, s13, s14⟩; go_simp; with_reducible rfl) (by simp only [Act.put, zs1, zs2, zs3, i64_w, i32_w]; rfl) ?_
                      refine one_ (i := 66) (N := some 71) (bm 71 590295810358705651711) rfl rfl (one_of HT_.out (by kernel_rfl)) (by decide) (fun K hK => ?_)
                      refine goes_ Try.func83 (by kernel_rfl) rfl #[.int .i64 a1_8] (by rfl) rfl rfl (by (try simp only [List.map_toArray, List.map_cons, List.map_nil]); first | done | rfl | (simp only [List.length_drop, List.length_take]; rfl)) ?_
                      with_reducible refine (spec_NumOf.calls a1_8 t133 _ A26.out).mono ?_
                      rintro e w' ⟨rfl, ⟨nd, rfl⟩⟩
                      refine ⟨_, rfl, ?_⟩
                      refine hK.out _ _ ⟨(zr4 BK124.out 0).trans rfl, (zr4 BK124.out 1).trans rfl, (zr4 BK124.out 2).trans rfl, (zr4 BK124.out 3).trans rfl, (zr4 BK124.out 4).trans rfl, (zr4 BK125.out 0).trans rfl, (zr4 BK125.out 1).trans rfl, (zr4 BK125.out 2).trans rfl, (zr4 BK125.out 3).trans rfl, (zr4 BK125.out 4).trans rfl, (zr4 BK125.out 5).trans rfl, (zr4 BK125.out 6).trans rfl, (zr4 BK125.out 7).trans rfl, (zr4 BK125.out 8).trans rfl, (zr4 BK125.out 9).trans rfl⟩ (fun hHeld => ?_)
                      clear hK K
                      refine norm_ (a' := ?_) ?_ ?_
                      rotate_left
                      · show Act.put _ (some 71) _ = _
                        simp only [Act.put, zs1, zs2, zs3, i64_w, i32_w]
                        rfl
                      refine pA 69 (some 74) (bm 71 1180591620717411303423) rfl rfl HT_.out (by kernel_rfl) (fun _ _ _ h => h) (by rfl) (by intro w'; go_simp; with_reducible rfl) (by simp only [Act.put, zs1, zs2, zs3, i64_w, i32_w]; rfl) ?_
                      refine pA 70 (some 75) (bm 71 2361183241434822606847) rfl rfl HT_.out (by kernel_rfl) (fun _ _ _ h => h) (by rfl) (by intro w'; go_simp; with_reducible rfl) (by simp only [Act.put, zs1, zs2, zs3, i64_w, i32_w]; rfl) ?_
                      refine done_ (done_of HT_.out (by kernel_rfl)) ?_
                      try go_wp2
                      go_meet
                      case rel => exact ⟨_, ((t133 != a1_1)), (by first | rfl | (simp; done) | (simp [*]; done)), H', ⟨by first | omega | exact Nat.le_refl _⟩, ⟨by (with_reducible repeat (first | refine zq1 ?_ _ | refine zq2 ?_ | refine zq3 ?_ _)); exact BK124.out⟩, ⟨by (with_reducible repeat (first | refine zq1 ?_ _ | refine zq2 ?_ | refine zq3 ?_ _)); exact BK125.out⟩, ⟨by repeat (first | (with_reducible first | exact HB.out | apply zq7 | apply zq8 | apply zq9 | refine zr1 ?_ GE124.out | refine zr1 ?_ GE125.out) | exact HB.out)⟩⟩
                    · replace c25 := Bool.eq_false_iff.mpr c25
                      subst c25
                      have H1 : (spec_TxOk.j0 k true a0_0 a0_1 a0_2 a0_3 a0_4 a1_0 a1_1 l1_2 a1_3 l1_4 a1_5 a1_6 a1_7 a1_8 a1_9) = some r := by rw [if_neg (show ¬ (false = true) by decide)] at H; exact H
                      clear H
                      have H := H1
                      clear H1
                      have H' := mk_ H
                      clear H
                      try go_wp2
                      replace BK124 := mk_ (zq2 BK124.out)
                      replace BK125 := mk_ (zq2 BK125.out)
                      replace HB := mk_ (zq9 HB.out)
                      refine start_ (n := 71) (S := fun w' => w'.cell? ⟨gb124, 0, none⟩ = some (.int .i64 a0_0) ∧ w'.cell? ⟨gb124, 1, none⟩ = some (.int .i64 a0_1) ∧ w'.cell? ⟨gb124, 2, none⟩ = some (.int .i64 a0_2) ∧ w'.cell? ⟨gb124, 3, none⟩ = some (.int .i64 a0_3) ∧ w'.cell? ⟨gb124, 4, none⟩ = some (.int .i64 a0_4) ∧ w'.cell? ⟨gb125, 0, none⟩ = some (.int .i64 a1_0) ∧ w'.cell? ⟨gb125, 1, none⟩ = some (.int .i64 a1_1) ∧ w'.cell? ⟨gb125, 2, none⟩ = some (.slice A1_2 l1_2.length c1_2) ∧ w'.cell? ⟨gb125, 3, none⟩ = some (.int .i64 a1_3) ∧ w'.cell? ⟨gb125, 4, none⟩ = some (.slice A1_4 l1_4.length c1_4) ∧ w'.cell? ⟨gb125, 5, none⟩ = some (.bool a1_5) ∧ w'.cell? ⟨gb125, 6, none⟩ = some (.int .i64 a1_6) ∧ w'.cell? ⟨gb125, 7, none⟩ = some (.bool a1_7) ∧ w'.cell? ⟨gb125, 8, none⟩ = some (.int .i64 a1_8) ∧ w'.cell? ⟨gb125, 9, none⟩ = some (.bool a1_9)) (ds := []) (bm 71 0) (by kernel_rfl) rfl rfl ⟨(zr4 BK124.out 0).trans rfl, (zr4 BK124.out 1).trans rfl, (zr4 BK124.out 2).trans rfl, (zr4 BK124.out 3).trans rfl, (zr4 BK124.out 4).trans rfl, (zr4 BK125.out 0).trans rfl, (zr4 BK125.out 1).trans rfl, (zr4 BK125.out 2).trans rfl, (zr4 BK125.out 3).trans rfl, (zr4 BK125.out 4).trans rfl, (zr4 BK125.out 5).trans rfl, (zr4 BK125.out 6).trans rfl, (zr4 BK125.out 7).trans rfl, (zr4 BK125.out 8).trans rfl, (zr4 BK125.out 9).trans rfl⟩ (fun hHeld => ?_); refine with_tabW spec_TxOk.tab1 spec_TxOk.bits1 (fun HT_ HW_ => ?_)
                      generalize w5.drew = w29 at BK124 BK125 HB hHeld ⊢
                      refine tA 0 (some 5) (bm 71 1) rfl rfl HT_.out HW_.out (by kernel_rfl) (fun _ _ _ h => h) (by rfl) hHeld (by rintro w' ⟨s0, s1, s2, s3, s4, s5, s6, s7, s8, s9, s10, s11, s12, s13, s14⟩; go_simp; with_reducible rfl) (by simp only [Act.put, zs1, zs2, zs3, i64_w, i32_w]; rfl) ?_
                      refine one_ (i := 1) (N := some 6) (bm 71 3) rfl rfl (one_of HT_.out (by kernel_rfl)) (by decide) (fun K hK => ?_)
                      refine goes_ Try.func81 (by kernel_rfl) rfl #[.agg #[.int .i64 a0_0, .int .i64 a0_1, .int .i64 a0_2, .int .i64 a0_3, .int .i64 a0_4]] (by rfl) rfl rfl (by (try simp only [List.map_toArray, List.map_cons, List.map_nil]); first | done | rfl | (simp only [List.length_drop, List.length_take]; rfl)) ?_
                      with_reducible refine (spec_CfgOk.calls a0_0 a0_1 a0_2 a0_3 a0_4 true _ A6.out).mono ?_
                      rintro e w30 ⟨rfl, hb⟩
                      refine ⟨_, rfl, ?_⟩
                      replace BK124 := mk_ (zq6 (by exact BK124.out) hb)
                      replace BK125 := mk_ (zq6 (by exact BK125.out) hb)
                      replace HB := mk_ (zr3 (by repeat (first | (with_reducible first | exact HB.out | apply zq7 | apply zq8 | apply zq9 | refine zr1 ?_ GE124.out | refine zr1 ?_ GE125.out) | exact HB.out)) hb)
                      (try clear hb)
                      (try clear hb2)
                      (try clear hk)
                      (try clear hi)
                      refine hK.out _ _ ⟨(zr4 BK124.out 0).trans rfl, (zr4 BK124.out 1).trans rfl, (zr4 BK124.out 2).trans rfl, (zr4 BK124.out 3).trans rfl, (zr4 BK124.out 4).trans rfl, (zr4 BK125.out 0).trans rfl, (zr4 BK125.out 1).trans rfl, (zr4 BK125.out 2).trans rfl, (zr4 BK125.out 3).trans rfl, (zr4 BK125.out 4).trans rfl, (zr4 BK125.out 5).trans rfl, (zr4 BK125.out 6).trans rfl, (zr4 BK125.out 7).trans rfl, (zr4 BK125.out 8).trans rfl, (zr4 BK125.out 9).trans rfl⟩ (fun hHeld => ?_)
                      clear hK K
                      refine norm_ (a' := ?_) ?_ ?_
                      rotate_left
                      · show Act.put _ (some 6) _ = _
                        simp only [Act.put, zs1, zs2, zs3, i64_w, i32_w]
                        rfl
                      refine pA 2 (some 7) (bm 71 7) rfl rfl HT_.out (by kernel_rfl) (fun _ _ _ h => h) (by rfl) (by intro w'; go_simp; with_reducible rfl) (by simp only [Act.put, zs1, zs2, zs3, i64_w, i32_w]; rfl) ?_
                      refine pA 3 (some 8) (bm 71 15) rfl rfl HT_.out (by kernel_rfl) (fun _ _ _ h => h) (by rfl) (by intro w'; go_simp; with_reducible rfl) (by simp only [Act.put, zs1, zs2, zs3, i64_w, i32_w]; rfl) ?_
                      refine pA 4 (some 9) (bm 71 31) rfl rfl HT_.out (by kernel_rfl) (fun _ _ _ h => h) (by rfl) (by intro w'; go_simp; with_reducible rfl) (by simp only [Act.put, zs1, zs2, zs3, i64_w, i32_w]; rfl) ?_
                      refine tA 5 (some 10) (bm 71 63) rfl rfl HT_.out HW_.out (by kernel_rfl) (fun _ _ _ h => h) (by rfl) hHeld (by rintro w' ⟨s0, s1, s2, s3, s4, s5, s6, s7, s8, s9, s10, s11, s12, s13, s14⟩; go_simp; with_reducible rfl) (by simp only [Act.put, zs1, zs2, zs3, i64_w, i32_w]; rfl) ?_
                      refine one_ (i := 6) (N := some 11) (bm 71 127) rfl rfl (one_of HT_.out (by kernel_rfl)) (by decide) (fun K hK => ?_)
                      refine goes_ Try.func64 (by kernel_rfl) rfl #[.int .i64 a1_0, .int .i64 0, .int .i64 7] (by rfl) rfl rfl (by (try simp only [List.map_toArray, List.map_cons, List.map_nil]); first | done | rfl | (simp only [List.length_drop, List.length_take]; rfl)) ?_
                      with_reducible refine (spec_l1In.calls a1_0 0 7 true _ A8.out).mono ?_
                      rintro e w' ⟨rfl, ⟨nd, rfl⟩⟩
                      refine ⟨_, rfl, ?_⟩
                      refine hK.out _ _ ⟨(zr4 BK124.out 0).trans rfl, (zr4 BK124.out 1).trans rfl, (zr4 BK124.out 2).trans rfl, (zr4 BK124.out 3).trans rfl, (zr4 BK124.out 4).trans rfl, (zr4 BK125.out 0).trans rfl, (zr4 BK125.out 1).trans rfl, (zr4 BK125.out 2).trans rfl, (zr4 BK125.out 3).trans rfl, (zr4 BK125.out 4).trans rfl, (zr4 BK125.out 5).trans rfl, (zr4 BK125.out 6).trans rfl, (zr4 BK125.out 7).trans rfl, (zr4 BK125.out 8).trans rfl, (zr4 BK125.out 9).trans rfl⟩ (fun hHeld => ?_)
                      clear hK K
                      refine norm_ (a' := ?_) ?_ ?_
                      rotate_left
                      · show Act.put _ (some 11) _ = _
                        simp only [Act.put, zs1, zs2, zs3, i64_w, i32_w]
                        rfl
                      refine pA 7 (some 12) (bm 71 255) rfl rfl HT_.out (by kernel_rfl) (fun _ _ _ h => h) (by rfl) (by intro w'; go_simp; with_reducible rfl) (by simp only [Act.put, zs1, zs2, zs3, i64_w, i32_w]; rfl) ?_
                      refine pA 8 (some 13) (bm 71 511) rfl rfl HT_.out (by kernel_rfl) (fun _ _ _ h => h) (by rfl) (by intro w'; go_simp; with_reducible rfl) (by simp only [Act.put, zs1, zs2, zs3, i64_w, i32_w]; rfl) ?_
                      refine pA 9 (some 14) (bm 71 1023) rfl rfl HT_.out (by kernel_rfl) (fun _ _ _ h => h) (by rfl) (by intro w'; go_simp; with_reducible rfl) (by simp only [Act.put, zs1, zs2, zs3, i64_w, i32_w]; rfl) ?_
                      refine pA 10 (some 15) (bm 71 2047) rfl rfl HT_.out (by kernel_rfl) (fun _ _ _ h => h) (by rfl) (by intro w'; go_simp; with_reducible rfl) (by simp only [Act.put, zs1, zs2, zs3, i64_w, i32_w]; rfl) ?_
                      refine tA 11 (some 16) (bm 71 4095) rfl rfl HT_.out HW_.out (by kernel_rfl) (fun _ _ _ h => h) (by rfl) hHeld (by rintro w' ⟨s0, s1, s2, s3, s4, s5, s6, s7, s8, s9, s10, s11, s12, s13, s14⟩; go_simp; with_reducible rfl) (by simp only [Act.put, zs1, zs2, zs3, i64_w, i32_w]; rfl) ?_
                      refine one_ (i := 12) (N := some 17) (bm 71 8191) rfl rfl (one_of HT_.out (by kernel_rfl)) (by decide) (fun K hK => ?_)
                      refine goes_ Try.func64 (by kernel_rfl) rfl #[.int .i64 a1_1, .int .i64 0, .int .i64 7] (by rfl) rfl rfl (by (try simp only [List.map_toArray, List.map_cons, List.map_nil]); first | done | rfl | (simp only [List.length_drop, List.length_take]; rfl)) ?_
                      with_reducible refine (spec_l1In.calls a1_1 0 7 true _ A10.out).mono ?_
                      rintro e w' ⟨rfl, ⟨nd, rfl⟩⟩
                      refine ⟨_, rfl, ?_⟩
                      refine hK.out _ _ ⟨(zr4 BK124.out 0).trans rfl, (zr4 BK124.out 1).trans rfl, (zr4 BK124.out 2).trans rfl, (zr4 BK124.out 3).trans rfl, (zr4 BK124.out 4).trans rfl, (zr4 BK125.out 0).trans rfl, (zr4 BK125.out 1).trans rfl, (zr4 BK125.out 2).trans rfl, (zr4 BK125.out 3).trans rfl, (zr4 BK125.out 4).trans rfl, (zr4 BK125.out 5).trans rfl, (zr4 BK125.out 6).trans rfl, (zr4 BK125.out 7).trans rfl, (zr4 BK125.out 8).trans rfl, (zr4 BK125.out 9).trans rfl⟩ (fun hHeld => ?_)
                      clear hK K
                      refine norm_ (a' := ?_) ?_ ?_
                      rotate_left
                      · show Act.put _ (some 17) _ = _
                        simp only [Act.put, zs1, zs2, zs3, i64_w, i32_w]
                        rfl
                      refine pA 13 (some 18) (bm 71 16383) rfl rfl HT_.out (by kernel_rfl) (fun _ _ _ h => h) (by rfl) (by intro w'; go_simp; with_reducible rfl) (by simp only [Act.put, zs1, zs2, zs3, i64_w, i32_w]; rfl) ?_
                      refine pA 14 (some 19) (bm 71 32767) rfl rfl HT_.out (by kernel_rfl) (fun _ _ _ h => h) (by rfl) (by intro w'; go_simp; with_reducible rfl) (by simp only [Act.put, zs1, zs2, zs3, i64_w, i32_w]; rfl) ?_
                      refine pA 15 (some 20) (bm 71 65535) rfl rfl HT_.out (by kernel_rfl) (fun _ _ _ h => h) (by rfl) (by intro w'; go_simp; with_reducible rfl) (by simp only [Act.put, zs1, zs2, zs3, i64_w, i32_w]; rfl) ?_
                      refine pA 16 (some 21) (bm 71 131071) rfl rfl HT_.out (by kernel_rfl) (fun _ _ _ h => h) (by rfl) (by intro w'; go_simp; with_reducible rfl) (by simp only [Act.put, zs1, zs2, zs3, i64_w, i32_w]; rfl) ?_
                      refine pA 19 (some 24) (bm 71 655359) rfl rfl HT_.out (by kernel_rfl) (fun _ _ _ h => h) (by rfl) (by intro w'; go_simp; with_reducible rfl) (by simp only [Act.put, zs1, zs2, zs3, i64_w, i32_w]; rfl) ?_
                      refine tA 17 (some 22) (bm 71 786431) rfl rfl HT_.out HW_.out (by kernel_rfl) (fun _ _ _ h => h) (by rfl) hHeld (by rintro w' ⟨s0, s1, s2, s3, s4, s5, s6, s7, s8, s9, s10, s11, s12, s13, s14⟩; go_simp; with_reducible rfl) (by simp only [Act.put, zs1, zs2, zs3, i64_w, i32_w]; rfl) ?_
                      refine pA 18 (some 23) (bm 71 1048575) rfl rfl HT_.out (by kernel_rfl) (fun _ _ _ h => h) (by rfl) (by intro w'; go_simp; with_reducible rfl) (by simp only [Act.put, zs1, zs2, zs3, i64_w, i32_w]; rfl) ?_
                      refine tA 20 (some 25) (bm 71 2097151) rfl rfl HT_.out HW_.out (by kernel_rfl) (fun _ _ _ h => h) (by rfl) hHeld (by rintro w' ⟨s0, s1, s2, s3, s4, s5, s6, s7, s8, s9, s10, s11, s12, s13, s14⟩; go_simp; with_reducible rfl) (by simp only [Act.put, zs1, zs2, zs3, i64_w, i32_w]; rfl) ?_
                      refine pA 21 (some 26) (bm 71 4194303) rfl rfl HT_.out (by kernel_rfl) (fun _ _ _ h => h) (by rfl) (by intro w'; go_simp; with_reducible rfl) (by simp only [Act.put, zs1, zs2, zs3, i64_w, i32_w]; rfl) ?_
                      refine pA 22 (some 27) (bm 71 8388607) rfl rfl HT_.out (by kernel_rfl) (fun _ _ _ h => h) (by rfl) (by intro w'; go_simp; with_reducible rfl) (by simp only [Act.put, zs1, zs2, zs3, i64_w, i32_w]; rfl) ?_
                      refine pA 23 (some 28) (bm 71 16777215) rfl rfl HT_.out (by kernel_rfl) (fun _ _ _ h => h) (by rfl) (by intro w'; go_simp; with_reducible rfl) (by simp only [Act.put, zs1, zs2, zs3, i64_w, i32_w]; rfl) ?_
                      refine pA 24 (some 29) (bm 71 33554431) rfl rfl HT_.out (by kernel_rfl) (fun _ _ _ h => h) (by rfl) (by intro w'; go_simp; with_reducible rfl) (by simp only [Act.put, zs1, zs2, zs3, i64_w, i32_w]; rfl) ?_
                      refine pA 26 (some 31) (bm 71 100663295) rfl rfl HT_.out (by kernel_rfl) (fun _ _ _ h => h) (by rfl) (by intro w'; go_simp; with_reducible rfl) (by simp only [Act.put, zs1, zs2, zs3, i64_w, i32_w]; rfl) ?_
                      refine pA 29 (some 34) (bm 71 637534207) rfl rfl HT_.out (by kernel_rfl) (fun _ _ _ h => h) (by rfl) (by intro w'; go_simp; with_reducible rfl) (by simp only [Act.put, zs1, zs2, zs3, i64_w, i32_w]; rfl) ?_
                      refine tA 25 (some 30) (bm 71 671088639) rfl rfl HT_.out HW_.out (by kernel_rfl) (fun _ _ _ h => h) (by rfl) hHeld (by rintro w' ⟨s0, s1, s2, s3, s4, s5, s6, s7, s8, s9, s10, s11, s12, s13, s14⟩; go_simp; with_reducible rfl) (by simp only [Act.put, zs1, zs2, zs3, i64_w, i32_w]; rfl) ?_
                      refine tA 27 (some 32) (bm 71 805306367) rfl rfl HT_.out HW_.out (by kernel_rfl) (fun _ _ _ h => h) (by rfl) hHeld (by rintro w' ⟨s0, s1, s2, s3, s4, s5, s6, s7, s8, s9, s10, s11, s12, s13, s14⟩; go_simp; with_reducible rfl) (by simp only [Act.put, zs1, zs2, zs3, i64_w, i32_w]; rfl) ?_
                      refine tA 30 (some 35) (bm 71 1879048191) rfl rfl HT_.out HW_.out (by kernel_rfl) (fun _ _ _ h => h) (by rfl) hHeld (by rintro w' ⟨s0, s1, s2, s3, s4, s5, s6, s7, s8, s9, s10, s11, s12, s13, s14⟩; go_simp; with_reducible rfl) (by simp only [Act.put, zs1, zs2, zs3, i64_w, i32_w]; rfl) ?_
                      refine pA 31 (some 36) (bm 71 4026531839) rfl rfl HT_.out (by kernel_rfl) (fun _ _ _ h => h) (by rfl) (by intro w'; go_simp; with_reducible rfl) (by simp only [Act.put, zs1, zs2, zs3, i64_w, i32_w]; rfl) ?_
                      refine one_ (i := 28) (N := some 33) (bm 71 4294967295) rfl rfl (one_of HT_.out (by kernel_rfl)) (by decide) (fun K hK => ?_)
                      refine goes_ Try.func82 (by kernel_rfl) rfl #[.int .i64 a1_1, .int .i64 a1_0] (by rfl) rfl rfl (by (try simp only [List.map_toArray, List.map_cons, List.map_nil]); first | done | rfl | (simp only [List.length_drop, List.length_take]; rfl)) ?_
                      with_reducible refine (spec_NumFar.calls a1_1 a1_0 t129 _ A15.out).mono ?_
                      rintro e w' ⟨rfl, ⟨nd, rfl⟩⟩
                      refine ⟨_, rfl, ?_⟩
                      refine hK.out _ _ ⟨(zr4 BK124.out 0).trans rfl, (zr4 BK124.out 1).trans rfl, (zr4 BK124.out 2).trans rfl, (zr4 BK124.out 3).trans rfl, (zr4 BK124.out 4).trans rfl, (zr4 BK125.out 0).trans rfl, (zr4 BK125.out 1).trans rfl, (zr4 BK125.out 2).trans rfl, (zr4 BK125.out 3).trans rfl, (zr4 BK125.out 4).trans rfl, (zr4 BK125.out 5).trans rfl, (zr4 BK125.out 6).trans rfl, (zr4 BK125.out 7).trans rfl, (zr4 BK125.out 8).trans rfl, (zr4 BK125.out 9).trans rfl⟩ (fun hHeld => ?_)
                      clear hK K
                      refine norm_ (a' := ?_) ?_ ?_
                      rotate_left
                      · show Act.put _ (some 33) _ = _
                        simp only [Act.put, zs1, zs2, zs3, i64_w, i32_w]
                        rfl
                      refine pA 32 (some 37) (bm 71 8589934591) rfl rfl HT_.out (by kernel_rfl) (fun _ _ _ h => h) (by rfl) (by intro w'; go_simp; with_reducible rfl) (by simp only [Act.put, zs1, zs2, zs3, i64_w, i32_w]; rfl) ?_
                      refine pA 33 (some 38) (bm 71 17179869183) rfl rfl HT_.out (by kernel_rfl) (fun _ _ _ h => h) (by rfl) (by intro w'; go_simp; with_reducible rfl) (by simp only [Act.put, zs1, zs2, zs3, i64_w, i32_w]; rfl) ?_
                      refine pA 34 (some 39) (bm 71 34359738367) rfl rfl HT_.out (by kernel_rfl) (fun _ _ _ h => h) (by rfl) (by intro w'; go_simp; with_reducible rfl) (by simp only [Act.put, zs1, zs2, zs3, i64_w, i32_w]; rfl) ?_
                      refine pA 35 (some 40) (bm 71 68719476735) rfl rfl HT_.out (by kernel_rfl) (fun _ _ _ h => h) (by rfl) (by intro w'; go_simp; with_reducible rfl) (by simp only [Act.put, zs1, zs2, zs3, i64_w, i32_w]; rfl) ?_
                      refine pA 37 (some 42) (bm 71 206158430207) rfl rfl HT_.out (by kernel_rfl) (fun _ _ _ h => h) (by rfl) (by intro w'; go_simp; with_reducible rfl) (by simp only [Act.put, zs1, zs2, zs3, i64_w, i32_w]; rfl) ?_
                      refine tA 36 (some 41) (bm 71 274877906943) rfl rfl HT_.out HW_.out (by kernel_rfl) (fun _ _ _ h => h) (by rfl) hHeld (by rintro w' ⟨s0, s1, s2, s3, s4, s5, s6, s7, s8, s9, s10, s11, s12, s13, s14⟩; go_simp; with_reducible rfl) (by simp only [Act.put, zs1, zs2, zs3, i64_w, i32_w]; rfl) ?_
                      refine tA 38 (some 43) (bm 71 549755813887) rfl rfl HT_.out HW_.out (by kernel_rfl) (fun _ _ _ h => h) (by rfl) hHeld (by rintro w' ⟨s0, s1, s2, s3, s4, s5, s6, s7, s8, s9, s10, s11, s12, s13, s14⟩; go_simp; with_reducible rfl) (by simp only [Act.put, zs1, zs2, zs3, i64_w, i32_w]; rfl) ?_
                      refine pA 39 (some 44) (bm 71 1099511627775) rfl rfl HT_.out (by kernel_rfl) (fun _ _ _ h => h) (by rfl) (by intro w'; go_simp; with_reducible rfl) (by simp only [Act.put, zs1, zs2, zs3, i64_w, i32_w]; rfl) ?_
                      refine one_ (i := 40) (N := some 45) (bm 71 2199023255551) rfl rfl (one_of HT_.out (by kernel_rfl)) (by decide) (fun K hK => ?_)
                      refine goes_ Try.func64 (by kernel_rfl) rfl #[.int .i64 a1_3, .int .i64 0, .int .i64 (l1_2.length : Int)] (by rfl) rfl rfl (by (try simp only [List.map_toArray, List.map_cons, List.map_nil]); first | done | rfl | (simp only [List.length_drop, List.length_take]; rfl)) ?_
                      with_reducible refine (spec_l1In.calls a1_3 0 (l1_2.length : Int) true _ A17.out).mono ?_
                      rintro e w' ⟨rfl, ⟨nd, rfl⟩⟩
                      refine ⟨_, rfl, ?_⟩
                      refine hK.out _ _ ⟨(zr4 BK124.out 0).trans rfl, (zr4 BK124.out 1).trans rfl, (zr4 BK124.out 2).trans rfl, (zr4 BK124.out 3).trans rfl, (zr4 BK124.out 4).trans rfl, (zr4 BK125.out 0).trans rfl, (zr4 BK125.out 1).trans rfl, (zr4 BK125.out 2).trans rfl, (zr4 BK125.out 3).trans rfl, (zr4 BK125.out 4).trans rfl, (zr4 BK125.out 5).trans rfl, (zr4 BK125.out 6).trans rfl, (zr4 BK125.out 7).trans rfl, (zr4 BK125.out 8).trans rfl, (zr4 BK125.out 9).trans rfl⟩ (fun hHeld => ?_)
                      clear hK K
                      refine norm_ (a' := ?_) ?_ ?_
                      rotate_left
                      · show Act.put _ (some 45) _ = _
                        simp only [Act.put, zs1, zs2, zs3, i64_w, i32_w]
                        rfl
                      refine pA 41 (some 46) (bm 71 4398046511103) rfl rfl HT_.out (by kernel_rfl) (fun _ _ _ h => h) (by rfl) (by intro w'; go_simp; with_reducible rfl) (by simp only [Act.put, zs1, zs2, zs3, i64_w, i32_w]; rfl) ?_
                      refine pA 42 (some 47) (bm 71 8796093022207) rfl rfl HT_.out (by kernel_rfl) (fun _ _ _ h => h) (by rfl) (by intro w'; go_simp; with_reducible rfl) (by simp only [Act.put, zs1, zs2, zs3, i64_w, i32_w]; rfl) ?_
                      refine pA 43 (some 48) (bm 71 17592186044415) rfl rfl HT_.out (by kernel_rfl) (fun _ _ _ h => h) (by rfl) (by intro w'; go_simp; with_reducible rfl) (by simp only [Act.put, zs1, zs2, zs3, i64_w, i32_w]; rfl) ?_
                      refine pA 44 (some 49) (bm 71 35184372088831) rfl rfl HT_.out (by kernel_rfl) (fun _ _ _ h => h) (by rfl) (by intro w'; go_simp; with_reducible rfl) (by simp only [Act.put, zs1, zs2, zs3, i64_w, i32_w]; rfl) ?_
                      refine tA 45 (some 50) (bm 71 70368744177663) rfl rfl HT_.out HW_.out (by kernel_rfl) (fun _ _ _ h => h) (by rfl) hHeld (by rintro w' ⟨s0, s1, s2, s3, s4, s5, s6, s7, s8, s9, s10, s11, s12, s13, s14⟩; go_simp; with_reducible rfl) (by simp only [Act.put, zs1, zs2, zs3, i64_w, i32_w]; rfl) ?_
                      refine pA 46 (some 51) (bm 71 140737488355327) rfl rfl HT_.out (by kernel_rfl) (fun _ _ _ h => h) (by rfl) (by intro w'; go_simp; with_reducible rfl) (by simp only [Act.put, zs1, zs2, zs3, i64_w, i32_w]; rfl) ?_
                      refine pA 47 (some 52) (bm 71 281474976710655) rfl rfl HT_.out (by kernel_rfl) (fun _ _ _ h => h) (by rfl) (by intro w'; go_simp; with_reducible rfl) (by simp only [Act.put, zs1, zs2, zs3, i64_w, i32_w]; rfl) ?_
                      refine pA 48 (some 53) (bm 71 562949953421311) rfl rfl HT_.out (by kernel_rfl) (fun _ _ _ h => h) (by rfl) (by intro w'; go_simp; with_reducible rfl) (by simp only [Act.put, zs1, zs2, zs3, i64_w, i32_w]; rfl) ?_
                      refine pA 49 (some 54) (bm 71 1125899906842623) rfl rfl HT_.out (by kernel_rfl) (fun _ _ _ h => h) (by rfl) (by intro w'; go_simp; with_reducible rfl) (by simp only [Act.put, zs1, zs2, zs3, i64_w, i32_w]; rfl) ?_
                      refine pA 50 (some 55) (bm 71 2251799813685247) rfl rfl HT_.out (by kernel_rfl) (fun _ _ _ h => h) (by rfl) (by intro w'; go_simp; with_reducible rfl) (by simp only [Act.put, zs1, zs2, zs3, i64_w, i32_w]; rfl) ?_
                      refine pA 52 (some 57) (bm 71 6755399441055743) rfl rfl HT_.out (by kernel_rfl) (fun _ _ _ h => h) (by rfl) (by intro w'; go_simp; with_reducible rfl) (by simp only [Act.put, zs1, zs2, zs3, i64_w, i32_w]; rfl) ?_
                      refine tA 51 (some 56) (bm 71 9007199254740991) rfl rfl HT_.out HW_.out (by kernel_rfl) (fun _ _ _ h => h) (by rfl) hHeld (by rintro w' ⟨s0, s1, s2, s3, s4, s5, s6, s7, s8, s9, s10, s11, s12, s13, s14⟩; go_simp; with_reducible rfl) (by simp only [Act.put, zs1, zs2, zs3, i64_w, i32_w]; rfl) ?_
                      refine tA 53 (some 58) (bm 71 18014398509481983) rfl rfl HT_.out HW_.out (by kernel_rfl) (fun _ _ _ h => h) (by rfl) hHeld (by rintro w' ⟨s0, s1, s2, s3, s4, s5, s6, s7, s8, s9, s10, s11, s12, s13, s14⟩; go_simp; with_reducible rfl) (by simp only [Act.put, zs1, zs2, zs3, i64_w, i32_w]; rfl) ?_
                      refine one_ (i := 54) (N := some 59) (bm 71 36028797018963967) rfl rfl (one_of HT_.out (by kernel_rfl)) (by decide) (fun K hK => ?_)
                      refine goes_ Try.func64 (by kernel_rfl) rfl #[.int .i64 a1_6, .int .i64 0, .int .i64 a0_4] (by rfl) rfl rfl (by (try simp only [List.map_toArray, List.map_cons, List.map_nil]); first | done | rfl | (simp only [List.length_drop, List.length_take]; rfl)) ?_
                      with_reducible refine (spec_l1In.calls a1_6 0 a0_4 true _ A22.out).mono ?_
                      rintro e w' ⟨rfl, ⟨nd, rfl⟩⟩
                      refine ⟨_, rfl, ?_⟩
                      refine hK.out _ _ ⟨(zr4 BK124.out 0).trans rfl, (zr4 BK124.out 1).trans rfl, (zr4 BK124.out 2).trans rfl, (zr4 BK124.out 3).trans rfl, (zr4 BK124.out 4).trans rfl, (zr4 BK125.out 0).trans rfl, (zr4 BK125.out 1).trans rfl, (zr4 BK125.out 2).trans rfl, (zr4 BK125.out 3).trans rfl, (zr4 BK125.out 4).trans rfl, (zr4 BK125.out 5).trans rfl, (zr4 BK125.out 6).trans rfl, (zr4 BK125.out 7).trans rfl, (zr4 BK125.out 8).trans rfl, (zr4 BK125.out 9).trans rfl⟩ (fun hHeld => ?_)
                      clear hK K
                      refine norm_ (a' := ?_) ?_ ?_
                      rotate_left
                      · show Act.put _ (some 59) _ = _
                        simp only [Act.put, zs1, zs2, zs3, i64_w, i32_w]
                        rfl
                      refine pA 55 (some 60) (bm 71 72057594037927935) rfl rfl HT_.out (by kernel_rfl) (fun _ _ _ h => h) (by rfl) (by intro w'; go_simp; with_reducible rfl) (by simp only [Act.put, zs1, zs2, zs3, i64_w, i32_w]; rfl) ?_
                      refine pA 56 (some 61) (bm 71 144115188075855871) rfl rfl HT_.out (by kernel_rfl) (fun _ _ _ h => h) (by rfl) (by intro w'; go_simp; with_reducible rfl) (by simp only [Act.put, zs1, zs2, zs3, i64_w, i32_w]; rfl) ?_
                      refine pA 57 (some 62) (bm 71 288230376151711743) rfl rfl HT_.out (by kernel_rfl) (fun _ _ _ h => h) (by rfl) (by intro w'; go_simp; with_reducible rfl) (by simp only [Act.put, zs1, zs2, zs3, i64_w, i32_w]; rfl) ?_
                      refine pA 58 (some 63) (bm 71 576460752303423487) rfl rfl HT_.out (by kernel_rfl) (fun _ _ _ h => h) (by rfl) (by intro w'; go_simp; with_reducible rfl) (by simp only [Act.put, zs1, zs2, zs3, i64_w, i32_w]; rfl) ?_
                      refine tA 59 (some 64) (bm 71 1152921504606846975) rfl rfl HT_.out HW_.out (by kernel_rfl) (fun _ _ _ h => h) (by rfl) hHeld (by rintro w' ⟨s0, s1, s2, s3, s4, s5, s6, s7, s8, s9, s10, s11, s12, s13, s14⟩; go_simp; with_reducible rfl) (by simp only [Act.put, zs1, zs2, zs3, i64_w, i32_w]; rfl) ?_
                      refine one_ (i := 60) (N := some 65) (bm 71 2305843009213693951) rfl rfl (one_of HT_.out (by kernel_rfl)) (by decide) (fun K hK => ?_)
                      refine goes_ Try.func64 (by kernel_rfl) rfl #[.int .i64 a1_8, .int .i64 0, .int .i64 9999] (by rfl) rfl rfl (by (try simp only [List.map_toArray, List.map_cons, List.map_nil]); first | done | rfl | (simp only [List.length_drop, List.length_take]; rfl)) ?_
                      with_reducible refine (spec_l1In.calls a1_8 0 9999 false _ A24.out).mono ?_
                      rintro e w' ⟨rfl, ⟨nd, rfl⟩⟩
                      refine ⟨_, rfl, ?_⟩
                      refine hK.out _ _ ⟨(zr4 BK124.out 0).trans rfl, (zr4 BK124.out 1).trans rfl, (zr4 BK124.out 2).trans rfl, (zr4 BK124.out 3).trans rfl, (zr4 BK124.out 4).trans rfl, (zr4 BK125.out 0).trans rfl, (zr4 BK125.out 1).trans rfl, (zr4 BK125.out 2).trans rfl, (zr4 BK125.out 3).trans rfl, (zr4 BK125.out 4).trans rfl, (zr4 BK125.out 5).trans rfl, (zr4 BK125.out 6).trans rfl, (zr4 BK125.out 7).trans rfl, (zr4 BK125.out 8).trans rfl, (zr4 BK125.out 9).trans rfl⟩ (fun hHeld => ?_)
                      clear hK K
                      refine norm_ (a' := ?_) ?_ ?_
                      rotate_left
                      · show Act.put _ (some 65) _ = _
                        simp only [Act.put, zs1, zs2, zs3, i64_w, i32_w]
                        rfl
                      refine pA 61 (some 66) (bm 71 4611686018427387903) rfl rfl HT_.out (by kernel_rfl) (fun _ _ _ h => h) (by rfl) (by intro w'; go_simp; with_reducible rfl) (by simp only [Act.put, zs1, zs2, zs3, i64_w, i32_w]; rfl) ?_
                      refine pA 62 (some 67) (bm 71 9223372036854775807) rfl rfl HT_.out (by kernel_rfl) (fun _ _ _ h => h) (by rfl) (by intro w'; go_simp; with_reducible rfl) (by simp only [Act.put, zs1, zs2, zs3, i64_w, i32_w]; rfl) ?_
                      refine pA 63 (some 68) (bm 71 18446744073709551615) rfl rfl HT_.out (by kernel_rfl) (fun _ _ _ h => h) (by rfl) (by intro w'; go_simp; with_reducible rfl) (by simp only [Act.put, zs1, zs2, zs3, i64_w, i32_w]; rfl) ?_
                      refine pB 64 (some 69) (bm 71 36893488147419103231) rfl rfl HT_.out (by kernel_rfl) (fun _ _ _ h => h) (by rfl) (by simp only [Act.put, zs1, zs2, zs3, i64_w, i32_w]; rfl) ?_
                      refine pB 65 (some 70) (bm 71 73786976294838206463) rfl rfl HT_.out (by kernel_rfl) (fun _ _ _ h => h) (by rfl) (by simp only [Act.put, zs1, zs2, zs3, i64_w, i32_w]; rfl) ?_
                      refine pB 66 (some 71) (bm 71 147573952589676412927) rfl rfl HT_.out (by kernel_rfl) (fun _ _ _ h => h) (by rfl) (by simp only [Act.put, zs1, zs2, zs3, i64_w, i32_w]; rfl) ?_
                      refine pB 67 (some 72) (bm 71 295147905179352825855) rfl rfl HT_.out (by kernel_rfl) (fun _ _ _ h => h) (by rfl) (by simp only [Act.put, zs1, zs2, zs3, i64_w, i32_w]; rfl) ?_
                      refine pB 68 (some 73) (bm 71 590295810358705651711) rfl rfl HT_.out (by kernel_rfl) (fun _ _ _ h => h) (by rfl) (by simp only [Act.put, zs1, zs2, zs3, i64_w, i32_w]; rfl) ?_
                      refine pB 69 (some 74) (bm 71 1180591620717411303423) rfl rfl HT_.out (by kernel_rfl) (fun _ _ _ h => h) (by rfl) (by simp only [Act.put, zs1, zs2, zs3, i64_w, i32_w]; rfl) ?_
                      refine pA 70 (some 75) (bm 71 2361183241434822606847) rfl rfl HT_.out (by kernel_rfl) (fun _ _ _ h => h) (by rfl) (by intro w'; go_simp; with_reducible rfl) (by simp only [Act.put, zs1, zs2, zs3, i64_w, i32_w]; rfl) ?_
                      refine done_ (done_of HT_.out (by kernel_rfl)) ?_
                      try go_wp2
                      go_meet
                      case rel => exact ⟨_, (true), (by first | rfl | (simp; done) | (simp [*]; done)), H', ⟨by first | omega | exact Nat.le_refl _⟩, ⟨by (with_reducible repeat (first | refine zq1 ?_ _ | refine zq2 ?_ | refine zq3 ?_ _)); exact BK124.out⟩, ⟨by (with_reducible repeat (first | refine zq1 ?_ _ | refine zq2 ?_ | refine zq3 ?_ _)); exact BK125.out⟩, ⟨by repeat (first | (with_reducible first | exact HB.out | apply zq7 | apply zq8 | apply zq9 | refine zr1 ?_ GE124.out | refine zr1 ?_ GE125.out) | exact HB.out)⟩⟩
                  · replace c23 := Bool.eq_false_iff.mpr c23
                    subst c23
                    have H1 : (spec_TxOk.j0 k true a0_0 a0_1 a0_2 a0_3 a0_4 a1_0 a1_1 l1_2 a1_3 l1_4 a1_5 a1_6 a1_7 a1_8 a1_9) = some r := by rw [if_neg (show ¬ (false = true) by decide)] at H; exact H
                    clear H
                    have H := H1
                    clear H1
                    have H' := mk_ H
                    clear H
                    try go_wp2
                    replace BK124 := mk_ (zq2 BK124.out)
                    replace BK125 := mk_ (zq2 BK125.out)
                    replace HB := mk_ (zq9 HB.out)
                    refine start_ (n := 71) (S := fun w' => w'.cell? ⟨gb124, 0, none⟩ = some (.int .i64 a0_0) ∧ w'.cell? ⟨gb124, 1, none⟩ = some (.int .i64 a0_1) ∧ w'.cell? ⟨gb124, 2, none⟩ = some (.int .i64 a0_2) ∧ w'.cell? ⟨gb124, 3, none⟩ = some (.int .i64 a0_3) ∧ w'.cell? ⟨gb124, 4, none⟩ = some (.int .i64 a0_4) ∧ w'.cell? ⟨gb125, 0, none⟩ = some (.int .i64 a1_0) ∧ w'.cell? ⟨gb125, 1, none⟩ = some (.int .i64 a1_1) ∧ w'.cell? ⟨gb125, 2, none⟩ = some (.slice A1_2 l1_2.length c1_2) ∧ w'.cell? ⟨gb125, 3, none⟩ = some (.int .i64 a1_3) ∧ w'.cell? ⟨gb125, 4, none⟩ = some (.slice A1_4 l1_4.length c1_4) ∧ w'.cell? ⟨gb125, 5, none⟩ = some (.bool a1_5) ∧ w'.cell? ⟨gb125, 6, none⟩ = some (.int .i64 a1_6) ∧ w'.cell? ⟨gb125, 7, none⟩ = some (.bool a1_7) ∧ w'.cell? ⟨gb125, 8, none⟩ = some (.int .i64 a1_8) ∧ w'.cell? ⟨gb125, 9, none⟩ = some (.bool a1_9)) (ds := []) (bm 71 0) (by kernel_rfl) rfl rfl ⟨(zr4 BK124.out 0).trans rfl, (zr4 BK124.out 1).trans rfl, (zr4 BK124.out 2).trans rfl, (zr4 BK124.out 3).trans rfl, (zr4 BK124.out 4).trans rfl, (zr4 BK125.out 0).trans rfl, (zr4 BK125.out 1).trans rfl, (zr4 BK125.out 2).trans rfl, (zr4 BK125.out 3).trans rfl, (zr4 BK125.out 4).trans rfl, (zr4 BK125.out 5).trans rfl, (zr4 BK125.out 6).trans rfl, (zr4 BK125.out 7).trans rfl, (zr4 BK125.out 8).trans rfl, (zr4 BK125.out 9).trans rfl⟩ (fun hHeld => ?_); refine with_tabW spec_TxOk.tab1 spec_TxOk.bits1 (fun HT_ HW_ => ?_)
                    generalize w5.drew = w31 at BK124 BK125 HB hHeld ⊢
                    refine tA 0 (some 5) (bm 71 1) rfl rfl HT_.out HW_.out (by kernel_rfl) (fun _ _ _ h => h) (by rfl) hHeld (by rintro w' ⟨s0, s1, s2, s3, s4, s5, s6, s7, s8, s9, s10, s11, s12, s13, s14⟩; go_simp; with_reducible rfl) (by simp only [Act.put, zs1, zs2, zs3, i64_w, i32_w]; rfl) ?_
                    refine one_ (i := 1) (N := some 6) (bm 71 3) rfl rfl (one_of HT_.out (by kernel_rfl)) (by decide) (fun K hK => ?_)
                    refine goes_ Try.func81 (by kernel_rfl) rfl #[.agg #[.int .i64 a0_0, .int .i64 a0_1, .int .i64 a0_2, .int .i64 a0_3, .int .i64 a0_4]] (by rfl) rfl rfl (by (try simp only [List.map_toArray, List.map_cons, List.map_nil]); first | done | rfl | (simp only [List.length_drop, List.length_take]; rfl)) ?_
                    with_reducible refine (spec_CfgOk.calls a0_0 a0_1 a0_2 a0_3 a0_4 true _ A6.out).mono ?_
                    rintro e w32 ⟨rfl, hb⟩
                    refine ⟨_, rfl, ?_⟩
                    replace BK124 := mk_ (zq6 (by exact BK124.out) hb)
                    replace BK125 := mk_ (zq6 (by exact BK125.out) hb)
                    replace HB := mk_ (zr3 (by repeat (first | (with_reducible first | exact HB.out | apply zq7 | apply zq8 | apply zq9 | refine zr1 ?_ GE124.out | refine zr1 ?_ GE125.out) | exact HB.out)) hb)
                    (try clear hb)
                    (try clear hb2)
                    (try clear hk)
                    (try clear hi)
                    refine hK.out _ _ ⟨(zr4 BK124.out 0).trans rfl, (zr4 BK124.out 1).trans rfl, (zr4 BK124.out 2).trans rfl, (zr4 BK124.out 3).trans rfl, (zr4 BK124.out 4).trans rfl, (zr4 BK125.out 0).trans rfl, (zr4 BK125.out 1).trans rfl, (zr4 BK125.out 2).trans rfl, (zr4 BK125.out 3).trans rfl, (zr4 BK125.out 4).trans rfl, (zr4 BK125.out 5).trans rfl, (zr4 BK125.out 6).trans rfl, (zr4 BK125.out 7).trans rfl, (zr4 BK125.out 8).trans rfl, (zr4 BK125.out 9).trans rfl⟩ (fun hHeld => ?_)
                    clear hK K
                    refine norm_ (a' := ?_) ?_ ?_
                    rotate_left
                    · show Act.put _ (some 6) _ = _
                      simp only [Act.put, zs1, zs2, zs3, i64_w, i32_w]
                      rfl
                    refine pA 2 (some 7) (bm 71 7) rfl rfl HT_.out (by kernel_rfl) (fun _ _ _ h => h) (by rfl) (by intro w'; go_simp; with_reducible rfl) (by simp only [Act.put, zs1, zs2, zs3, i64_w, i32_w]; rfl) ?_
                    refine pA 3 (some 8) (bm 71 15) rfl rfl HT_.out (by kernel_rfl) (fun _ _ _ h => h) (by rfl) (by intro w'; go_simp; with_reducible rfl) (by simp only [Act.put, zs1, zs2, zs3, i64_w, i32_w]; rfl) ?_
                    refine pA 4 (some 9) (bm 71 31) rfl rfl HT_.out (by kernel_rfl) (fun _ _ _ h => h) (by rfl) (by intro w'; go_simp; with_reducible rfl) (by simp only [Act.put, zs1, zs2, zs3, i64_w, i32_w]; rfl) ?_
                    refine tA 5 (some 10) (bm 71 63) rfl rfl HT_.out HW_.out (by kernel_rfl) (fun _ _ _ h => h) (by rfl) hHeld (by rintro w' ⟨s0, s1, s2, s3, s4, s5, s6, s7, s8, s9, s10, s11, s12, s13, s14⟩; go_simp; with_reducible rfl) (by simp only [Act.put, zs1, zs2, zs3, i64_w, i32_w]; rfl) ?_
                    refine one_ (i := 6) (N := some 11) (bm 71 127) rfl rfl (one_of HT_.out (by kernel_rfl)) (by decide) (fun K hK => ?_)
                    refine goes_ Try.func64 (by kernel_rfl) rfl #[.int .i64 a1_0, .int .i64 0, .int .i64 7] (by rfl) rfl rfl (by (try simp only [List.map_toArray, List.map_cons, List.map_nil]); first | done | rfl | (simp only [List.length_drop, List.length_take]; rfl)) ?_
                    with_reducible refine (spec_l1In.calls a1_0 0 7 true _ A8.out).mono ?_
                    rintro e w' ⟨rfl, ⟨nd, rfl⟩⟩
                    refine ⟨_, rfl, ?_⟩
                    refine hK.out _ _ ⟨(zr4 BK124.out 0).trans rfl, (zr4 BK124.out 1).trans rfl, (zr4 BK124.out 2).trans rfl, (zr4 BK124.out 3).trans rfl, (zr4 BK124.out 4).trans rfl, (zr4 BK125.out 0).trans rfl, (zr4 BK125.out 1).trans rfl, (zr4 BK125.out 2).trans rfl, (zr4 BK125.out 3).trans rfl, (zr4 BK125.out 4).trans rfl, (zr4 BK125.out 5).trans rfl, (zr4 BK125.out 6).trans rfl, (zr4 BK125.out 7).trans rfl, (zr4 BK125.out 8).trans rfl, (zr4 BK125.out 9).trans rfl⟩ (fun hHeld => ?_)
                    clear hK K
                    refine norm_ (a' := ?_) ?_ ?_
                    rotate_left
                    · show Act.put _ (some 11) _ = _
                      simp only [Act.put, zs1, zs2, zs3, i64_w, i32_w]
                      rfl
                    refine pA 7 (some 12) (bm 71 255) rfl rfl HT_.out (by kernel_rfl) (fun _ _ _ h => h) (by rfl) (by intro w'; go_simp; with_reducible rfl) (by simp only [Act.put, zs1, zs2, zs3, i64_w, i32_w]; rfl) ?_
                    refine pA 8 (some 13) (bm 71 511) rfl rfl HT_.out (by kernel_rfl) (fun _ _ _ h => h) (by rfl) (by intro w'; go_simp; with_reducible rfl) (by simp only [Act.put, zs1, zs2, zs3, i64_w, i32_w]; rfl) ?_
                    refine pA 9 (some 14) (bm 71 1023) rfl rfl HT_.out (by kernel_rfl) (fun _ _ _ h => h) (by rfl) (by intro w'; go_simp; with_reducible rfl) (by simp only [Act.put, zs1, zs2, zs3, i64_w, i32_w]; rfl) ?_
                    refine pA 10 (some 15) (bm 71 2047) rfl rfl HT_.out (by kernel_rfl) (fun _ _ _ h => h) (by rfl) (by intro w'; go_simp; with_reducible rfl) (by simp only [Act.put, zs1, zs2, zs3, i64_w, i32_w]; rfl) ?_
                    refine tA 11 (some 16) (bm 71 4095) rfl rfl HT_.out HW_.out (by kernel_rfl) (fun _ _ _ h => h) (by rfl) hHeld (by rintro w' ⟨s0, s1, s2, s3, s4, s5, s6, s7, s8, s9, s10, s11, s12, s13, s14⟩; go_simp; with_reducible rfl) (by simp only [Act.put, zs1, zs2, zs3, i64_w, i32_w]; rfl) ?_
                    refine one_ (i := 12) (N := some 17) (bm 71 8191) rfl rfl (one_of HT_.out (by kernel_rfl)) (by decide) (fun K hK => ?_)
                    refine goes_ Try.func64 (by kernel_rfl) rfl #[.int .i64 a1_1, .int .i64 0, .int .i64 7] (by rfl) rfl rfl (by (try simp only [List.map_toArray, List.map_cons, List.map_nil]); first | done | rfl | (simp only [List.length_drop, List.length_take]; rfl)) ?_
                    with_reducible refine (spec_l1In.calls a1_1 0 7 true _ A10.out).mono ?_
                    rintro e w' ⟨rfl, ⟨nd, rfl⟩⟩
                    refine ⟨_, rfl, ?_⟩
                    refine hK.out _ _ ⟨(zr4 BK124.out 0).trans rfl, (zr4 BK124.out 1).trans rfl, (zr4 BK124.out 2).trans rfl, (zr4 BK124.out 3).trans rfl, (zr4 BK124.out 4).trans rfl, (zr4 BK125.out 0).trans rfl, (zr4 BK125.out 1).trans rfl, (zr4 BK125.out 2).trans rfl, (zr4 BK125.out 3).trans rfl, (zr4 BK125.out 4).trans rfl, (zr4 BK125.out 5).trans rfl, (zr4 BK125.out 6).trans rfl, (zr4 BK125.out 7).trans rfl, (zr4 BK125.out 8).trans rfl, (zr4 BK125.out 9).trans rfl⟩ (fun hHeld => ?_)
                    clear hK K
                    refine norm_ (a' := ?_) ?_ ?_
                    rotate_left
                    · show Act.put _ (some 17) _ = _
                      simp only [Act.put, zs1, zs2, zs3, i64_w, i32_w]
                      rfl
                    refine pA 13 (some 18) (bm 71 16383) rfl rfl HT_.out (by kernel_rfl) (fun _ _ _ h => h) (by rfl) (by intro w'; go_simp; with_reducible rfl) (by simp only [Act.put, zs1, zs2, zs3, i64_w, i32_w]; rfl) ?_
                    refine pA 14 (some 19) (bm 71 32767) rfl rfl HT_.out (by kernel_rfl) (fun _ _ _ h => h) (by rfl) (by intro w'; go_simp; with_reducible rfl) (by simp only [Act.put, zs1, zs2, zs3, i64_w, i32_w]; rfl) ?_
                    refine pA 15 (some 20) (bm 71 65535) rfl rfl HT_.out (by kernel_rfl) (fun _ _ _ h => h) (by rfl) (by intro w'; go_simp; with_reducible rfl) (by simp only [Act.put, zs1, zs2, zs3, i64_w, i32_w]; rfl) ?_
                    refine pA 16 (some 21) (bm 71 131071) rfl rfl HT_.out (by kernel_rfl) (fun _ _ _ h => h) (by rfl) (by intro w'; go_simp; with_reducible rfl) (by simp only [Act.put, zs1, zs2, zs3, i64_w, i32_w]; rfl) ?_
                    refine pA 19 (some 24) (bm 71 655359) rfl rfl HT_.out (by kernel_rfl) (fun _ _ _ h => h) (by rfl) (by intro w'; go_simp; with_reducible rfl) (by simp only [Act.put, zs1, zs2, zs3, i64_w, i32_w]; rfl) ?_
                    refine tA 17 (some 22) (bm 71 786431) rfl rfl HT_.out HW_.out (by kernel_rfl) (fun _ _ _ h => h) (by rfl) hHeld (by rintro w' ⟨s0, s1, s2, s3, s4, s5, s6, s7, s8, s9, s10, s11, s12, s13, s14⟩; go_simp; with_reducible rfl) (by simp only [Act.put, zs1, zs2, zs3, i64_w, i32_w]; rfl) ?_
                    refine pA 18 (some 23) (bm 71 1048575) rfl rfl HT_.out (by kernel_rfl) (fun _ _ _ h => h) (by rfl) (by intro w'; go_simp; with_reducible rfl) (by simp only [Act.put, zs1, zs2, zs3, i64_w, i32_w]; rfl) ?_
                    refine tA 20 (some 25) (bm 71 2097151) rfl rfl HT_.out HW_.out (by kernel_rfl) (fun _ _ _ h => h) (by rfl) hHeld (by rintro w' ⟨s0, s1, s2, s3, s4, s5, s6, s7, s8, s9, s10, s11, s12, s13, s14⟩; go_simp; with_reducible rfl) (by simp only [Act.put, zs1, zs2, zs3, i64_w, i32_w]; rfl) ?_
                    refine pA 21 (some 26) (bm 71 4194303) rfl rfl HT_.out (by kernel_rfl) (fun _ _ _ h => h) (by rfl) (by intro w'; go_simp; with_reducible rfl) (by simp only [Act.put, zs1, zs2, zs3, i64_w, i32_w]; rfl) ?_
                    refine pA 22 (some 27) (bm 71 8388607) rfl rfl HT_.out (by kernel_rfl) (fun _ _ _ h => h) (by rfl) (by intro w'; go_simp; with_reducible rfl) (by simp only [Act.put, zs1, zs2, zs3, i64_w, i32_w]; rfl) ?_
                    refine pA 23 (some 28) (bm 71 16777215) rfl rfl HT_.out (by kernel_rfl) (fun _ _ _ h => h) (by rfl) (by intro w'; go_simp; with_reducible rfl) (by simp only [Act.put, zs1, zs2, zs3, i64_w, i32_w]; rfl) ?_
                    refine pA 24 (some 29) (bm 71 33554431) rfl rfl HT_.out (by kernel_rfl) (fun _ _ _ h => h) (by rfl) (by intro w'; go_simp; with_reducible rfl) (by simp only [Act.put, zs1, zs2, zs3, i64_w, i32_w]; rfl) ?_
                    refine pA 26 (some 31) (bm 71 100663295) rfl rfl HT_.out (by kernel_rfl) (fun _ _ _ h => h) (by rfl) (by intro w'; go_simp; with_reducible rfl) (by simp only [Act.put, zs1, zs2, zs3, i64_w, i32_w]; rfl) ?_
                    refine pA 29 (some 34) (bm 71 637534207) rfl rfl HT_.out (by kernel_rfl) (fun _ _ _ h => h) (by rfl) (by intro w'; go_simp; with_reducible rfl) (by simp only [Act.put, zs1, zs2, zs3, i64_w, i32_w]; rfl) ?_
                    refine tA 25 (some 30) (bm 71 671088639) rfl rfl HT_.out HW_.out (by kernel_rfl) (fun _ _ _ h => h) (by rfl) hHeld (by rintro w' ⟨s0, s1, s2, s3, s4, s5, s6, s7, s8, s9, s10, s11, s12, s13, s14⟩; go_simp; with_reducible rfl) (by simp only [Act.put, zs1, zs2, zs3, i64_w, i32_w]; rfl) ?_
                    refine tA 27 (some 32) (bm 71 805306367) rfl rfl HT_.out HW_.out (by kernel_rfl) (fun _ _ _ h => h) (by rfl) hHeld (by rintro w' ⟨s0, s1, s2, s3, s4, s5, s6, s7, s8, s9, s10, s11, s12, s13, s14⟩; go_simp; with_reducible rfl) (by simp only [Act.put, zs1, zs2, zs3, i64_w, i32_w]; rfl) ?_
                    refine tA 30 (some 35) (bm 71 1879048191) rfl rfl HT_.out HW_.out (by kernel_rfl) (fun _ _ _ h => h) (by rfl) hHeld (by rintro w' ⟨s0, s1, s2, s3, s4, s5, s6, s7, s8, s9, s10, s11, s12, s13, s14⟩; go_simp; with_reducible rfl) (by simp only [Act.put, zs1, zs2, zs3, i64_w, i32_w]; rfl) ?_
                    refine pA 31 (some 36) (bm 71 4026531839) rfl rfl HT_.out (by kernel_rfl) (fun _ _ _ h => h) (by rfl) (by intro w'; go_simp; with_reducible rfl) (by simp only [Act.put, zs1, zs2, zs3, i64_w, i32_w]; rfl) ?_
                    refine one_ (i := 28) (N := some 33) (bm 71 4294967295) rfl rfl (one_of HT_.out (by kernel_rfl)) (by decide) (fun K hK => ?_)
                    refine goes_ Try.func82 (by kernel_rfl) rfl #[.int .i64 a1_1, .int .i64 a1_0] (by rfl) rfl rfl (by (try simp only [List.map_toArray, List.map_cons, List.map_nil]); first | done | rfl | (simp only [List.length_drop, List.length_take]; rfl)) ?_
                    with_reducible refine (spec_NumFar.calls a1_1 a1_0 t129 _ A15.out).mono ?_
                    rintro e w' ⟨rfl, ⟨nd, rfl⟩⟩
                    refine ⟨_, rfl, ?_⟩
                    refine hK.out _ _ ⟨(zr4 BK124.out 0).trans rfl, (zr4 BK124.out 1).trans rfl, (zr4 BK124.out 2).trans rfl, (zr4 BK124.out 3).trans rfl, (zr4 BK124.out 4).trans rfl, (zr4 BK125.out 0).trans rfl, (zr4 BK125.out 1).trans rfl, (zr4 BK125.out 2).trans rfl, (zr4 BK125.out 3).trans rfl, (zr4 BK125.out 4).trans rfl, (zr4 BK125.out 5).trans rfl, (zr4 BK125.out 6).trans rfl, (zr4 BK125.out 7).trans rfl, (zr4 BK125.out 8).trans rfl, (zr4 BK125.out 9).trans rfl⟩ (fun hHeld => ?_)
                    clear hK K
                    refine norm_ (a' := ?_) ?_ ?_
                    rotate_left
                    · show Act.put _ (some 33) _ = _
                      simp only [Act.put, zs1, zs2, zs3, i64_w, i32_w]
                      rfl
                    refine pA 32 (some 37) (bm 71 8589934591) rfl rfl HT_.out (by kernel_rfl) (fun _ _ _ h => h) (by rfl) (by intro w'; go_simp; with_reducible rfl) (by simp only [Act.put, zs1, zs2, zs3, i64_w, i32_w]; rfl) ?_
                    refine pA 33 (some 38) (bm 71 17179869183) rfl rfl HT_.out (by kernel_rfl) (fun _ _ _ h => h) (by rfl) (by intro w'; go_simp; with_reducible rfl) (by simp only [Act.put, zs1, zs2, zs3, i64_w, i32_w]; rfl) ?_
                    refine pA 34 (some 39) (bm 71 34359738367) rfl rfl HT_.out (by kernel_rfl) (fun _ _ _ h => h) (by rfl) (by intro w'; go_simp; with_reducible rfl) (by simp only [Act.put, zs1, zs2, zs3, i64_w, i32_w]; rfl) ?_
                    refine pA 35 (some 40) (bm 71 68719476735) rfl rfl HT_.out (by kernel_rfl) (fun _ _ _ h => h) (by rfl) (by intro w'; go_simp; with_reducible rfl) (by simp only [Act.put, zs1, zs2, zs3, i64_w, i32_w]; rfl) ?_
                    refine pA 37 (some 42) (bm 71 206158430207) rfl rfl HT_.out (by kernel_rfl) (fun _ _ _ h => h) (by rfl) (by intro w'; go_simp; with_reducible rfl) (by simp only [Act.put, zs1, zs2, zs3, i64_w, i32_w]; rfl) ?_
                    refine tA 36 (some 41) (bm 71 274877906943) rfl rfl HT_.out HW_.out (by kernel_rfl) (fun _ _ _ h => h) (by rfl) hHeld (by rintro w' ⟨s0, s1, s2, s3, s4, s5, s6, s7, s8, s9, s10, s11, s12, s13, s14⟩; go_simp; with_reducible rfl) (by simp only [Act.put, zs1, zs2, zs3, i64_w, i32_w]; rfl) ?_
                    refine tA 38 (some 43) (bm 71 549755813887) rfl rfl HT_.out HW_.out (by kernel_rfl) (fun _ _ _ h => h) (by rfl) hHeld (by rintro w' ⟨s0, s1, s2, s3, s4, s5, s6, s7, s8, s9, s10, s11, s12, s13, s14⟩; go_simp; with_reducible rfl) (by simp only [Act.put, zs1, zs2, zs3, i64_w, i32_w]; rfl) ?_
                    refine pA 39 (some 44) (bm 71 1099511627775) rfl rfl HT_.out (by kernel_rfl) (fun _ _ _ h => h) (by rfl) (by intro w'; go_simp; with_reducible rfl) (by simp only [Act.put, zs1, zs2, zs3, i64_w, i32_w]; rfl) ?_
                    refine one_ (i := 40) (N := some 45) (bm 71 2199023255551) rfl rfl (one_of HT_.out (by kernel_rfl)) (by decide) (fun K hK => ?_)
                    refine goes_ Try.func64 (by kernel_rfl) rfl #[.int .i64 a1_3, .int .i64 0, .int .i64 (l1_2.length : Int)] (by rfl) rfl rfl (by (try simp only [List.map_toArray, List.map_cons, List.map_nil]); first | done | rfl | (simp only [List.length_drop, List.length_take]; rfl)) ?_
                    with_reducible refine (spec_l1In.calls a1_3 0 (l1_2.length : Int) true _ A17.out).mono ?_
                    rintro e w' ⟨rfl, ⟨nd, rfl⟩⟩
                    refine ⟨_, rfl, ?_⟩
                    refine hK.out _ _ ⟨(zr4 BK124.out 0).trans rfl, (zr4 BK124.out 1).trans rfl, (zr4 BK124.out 2).trans rfl, (zr4 BK124.out 3).trans rfl, (zr4 BK124.out 4).trans rfl, (zr4 BK125.out 0).trans rfl, (zr4 BK125.out 1).trans rfl, (zr4 BK125.out 2).trans rfl, (zr4 BK125.out 3).trans rfl, (zr4 BK125.out 4).trans rfl, (zr4 BK125.out 5).trans rfl, (zr4 BK125.out 6).trans rfl, (zr4 BK125.out 7).trans rfl, (zr4 BK125.out 8).trans rfl, (zr4 BK125.out 9).trans rfl⟩ (fun hHeld => ?_)
                    clear hK K
                    refine norm_ (a' := ?_) ?_ ?_
                    rotate_left
                    · show Act.put _ (some 45) _ = _
                      simp only [Act.put, zs1, zs2, zs3, i64_w, i32_w]
                      rfl
                    refine pA 41 (some 46) (bm 71 4398046511103) rfl rfl HT_.out (by kernel_rfl) (fun _ _ _ h => h) (by rfl) (by intro w'; go_simp; with_reducible rfl) (by simp only [Act.put, zs1, zs2, zs3, i64_w, i32_w]; rfl) ?_
                    refine pA 42 (some 47) (bm 71 8796093022207) rfl rfl HT_.out (by kernel_rfl) (fun _ _ _ h => h) (by rfl) (by intro w'; go_simp; with_reducible rfl) (by simp only [Act.put, zs1, zs2, zs3, i64_w, i32_w]; rfl) ?_
                    refine pA 43 (some 48) (bm 71 17592186044415) rfl rfl HT_.out (by kernel_rfl) (fun _ _ _ h => h) (by rfl) (by intro w'; go_simp; with_reducible rfl) (by simp only [Act.put, zs1, zs2, zs3, i64_w, i32_w]; rfl) ?_
                    refine pA 44 (some 49) (bm 71 35184372088831) rfl rfl HT_.out (by kernel_rfl) (fun _ _ _ h => h) (by rfl) (by intro w'; go_simp; with_reducible rfl) (by simp only [Act.put, zs1, zs2, zs3, i64_w, i32_w]; rfl) ?_
                    refine tA 45 (some 50) (bm 71 70368744177663) rfl rfl HT_.out HW_.out (by kernel_rfl) (fun _ _ _ h => h) (by rfl) hHeld (by rintro w' ⟨s0, s1, s2, s3, s4, s5, s6, s7, s8, s9, s10, s11, s12, s13, s14⟩; go_simp; with_reducible rfl) (by simp only [Act.put, zs1, zs2, zs3, i64_w, i32_w]; rfl) ?_
                    refine pA 46 (some 51) (bm 71 140737488355327) rfl rfl HT_.out (by kernel_rfl) (fun _ _ _ h => h) (by rfl) (by intro w'; go_simp; with_reducible rfl) (by simp only [Act.put, zs1, zs2, zs3, i64_w, i32_w]; rfl) ?_
                    refine pA 47 (some 52) (bm 71 281474976710655) rfl rfl HT_.out (by kernel_rfl) (fun _ _ _ h => h) (by rfl) (by intro w'; go_simp; with_reducible rfl) (by simp only [Act.put, zs1, zs2, zs3, i64_w, i32_w]; rfl) ?_
                    refine pA 48 (some 53) (bm 71 562949953421311) rfl rfl HT_.out (by kernel_rfl) (fun _ _ _ h => h) (by rfl) (by intro w'; go_simp; with_reducible rfl) (by simp only [Act.put, zs1, zs2, zs3, i64_w, i32_w]; rfl) ?_
                    refine pA 49 (some 54) (bm 71 1125899906842623) rfl rfl HT_.out (by kernel_rfl) (fun _ _ _ h => h) (by rfl) (by intro w'; go_simp; with_reducible rfl) (by simp only [Act.put, zs1, zs2, zs3, i64_w, i32_w]; rfl) ?_
                    refine pA 50 (some 55) (bm 71 2251799813685247) rfl rfl HT_.out (by kernel_rfl) (fun _ _ _ h => h) (by rfl) (by intro w'; go_simp; with_reducible rfl) (by simp only [Act.put, zs1, zs2, zs3, i64_w, i32_w]; rfl) ?_
                    refine pA 52 (some 57) (bm 71 6755399441055743) rfl rfl HT_.out (by kernel_rfl) (fun _ _ _ h => h) (by rfl) (by intro w'; go_simp; with_reducible rfl) (by simp only [Act.put, zs1, zs2, zs3, i64_w, i32_w]; rfl) ?_
                    refine tA 51 (some 56) (bm 71 9007199254740991) rfl rfl HT_.out HW_.out (by kernel_rfl) (fun _ _ _ h => h) (by rfl) hHeld (by rintro w' ⟨s0, s1, s2, s3, s4, s5, s6, s7, s8, s9, s10, s11, s12, s13, s14⟩; go_simp; with_reducible rfl) (by simp only [Act.put, zs1, zs2, zs3, i64_w, i32_w]; rfl) ?_
                    refine tA 53 (some 58) (bm 71 18014398509481983) rfl rfl HT_.out HW_.out (by kernel_rfl) (fun _ _ _ h => h) (by rfl) hHeld (by rintro w' ⟨s0, s1, s2, s3, s4, s5, s6, s7, s8, s9, s10, s11, s12, s13, s14⟩; go_simp; with_reducible rfl) (by simp only [Act.put, zs1, zs2, zs3, i64_w, i32_w]; rfl) ?_
                    refine one_ (i := 54) (N := some 59) (bm 71 36028797018963967) rfl rfl (one_of HT_.out (by kernel_rfl)) (by decide) (fun K hK => ?_)
                    refine goes_ Try.func64 (by kernel_rfl) rfl #[.int .i64 a1_6, .int .i64 0, .int .i64 a0_4] (by rfl) rfl rfl (by (try simp only [List.map_toArray, List.map_cons, List.map_nil]); first | done | rfl | (simp only [List.length_drop, List.length_take]; rfl)) ?_
                    with_reducible refine (spec_l1In.calls a1_6 0 a0_4 false _ A22.out).mono ?_
                    rintro e w' ⟨rfl, ⟨nd, rfl⟩⟩
                    refine ⟨_, rfl, ?_⟩
                    refine hK.out _ _ ⟨(zr4 BK124.out 0).trans rfl, (zr4 BK124.out 1).trans rfl, (zr4 BK124.out 2).trans rfl, (zr4 BK124.out 3).trans rfl, (zr4 BK124.out 4).trans rfl, (zr4 BK125.out 0).trans rfl, (zr4 BK125.out 1).trans rfl, (zr4 BK125.out 2).trans rfl, (zr4 BK125.out 3).trans rfl, (zr4 BK125.out 4).trans rfl, (zr4 BK125.out 5).trans rfl, (zr4 BK125.out 6).trans rfl, (zr4 BK125.out 7).trans rfl, (zr4 BK125.out 8).trans rfl, (zr4 BK125.out 9).trans rfl⟩ (fun hHeld => ?_)
                    clear hK K
                    refine norm_ (a' := ?_) ?_ ?_
                    rotate_left
                    · show Act.put _ (some 59) _ = _
                      simp only [Act.put, zs1, zs2, zs3, i64_w, i32_w]
                      rfl
                    refine pA 55 (some 60) (bm 71 72057594037927935) rfl rfl HT_.out (by kernel_rfl) (fun _ _ _ h => h) (by rfl) (by intro w'; go_simp; with_reducible rfl) (by simp only [Act.put, zs1, zs2, zs3, i64_w, i32_w]; rfl) ?_
                    refine pA 56 (some 61) (bm 71 144115188075855871) rfl rfl HT_.out (by kernel_rfl) (fun _ _ _ h => h) (by rfl) (by intro w'; go_simp; with_reducible rfl) (by simp only [Act.put, zs1, zs2, zs3, i64_w, i32_w]; rfl) ?_
                    refine pA 57 (some 62) (bm 71 288230376151711743) rfl rfl HT_.out (by kernel_rfl) (fun _ _ _ h => h) (by rfl) (by intro w'; go_simp; with_reducible rfl) (by simp only [Act.put, zs1, zs2, zs3, i64_w, i32_w]; rfl) ?_
                    refine pB 58 (some 63) (bm 71 576460752303423487) rfl rfl HT_.out (by kernel_rfl) (fun _ _ _ h => h) (by rfl) (by simp only [Act.put, zs1, zs2, zs3, i64_w, i32_w]; rfl) ?_
                    refine pB 59 (some 64) (bm 71 1152921504606846975) rfl rfl HT_.out (by kernel_rfl) (fun _ _ _ h => h) (by rfl) (by simp only [Act.put, zs1, zs2, zs3, i64_w, i32_w]; rfl) ?_
                    refine pB 60 (some 65) (bm 71 2305843009213693951) rfl rfl HT_.out (by kernel_rfl) (fun _ _ _ h => h) (by rfl) (by simp only [Act.put, zs1, zs2, zs3, i64_w, i32_w]; rfl) ?_
                    refine pB 61 (some 66) (bm 71 4611686018427387903) rfl rfl HT_.out (by kernel_rfl) (fun _ _ _ h => h) (by rfl) (by simp only [Act.put, zs1, zs2, zs3, i64_w, i32_w]; rfl) ?_
                    refine pA 62 (some 67) (bm 71 9223372036854775807) rfl rfl HT_.out (by kernel_rfl) (fun _ _ _ h => h) (by rfl) (by intro w'; go_simp; with_reducible rfl) (by simp only [Act.put, zs1, zs2, zs3, i64_w, i32_w]; rfl) ?_
                    refine pA 63 (some 68) (bm 71 18446744073709551615) rfl rfl HT_.out (by kernel_rfl) (fun _ _ _ h => h) (by rfl) (by intro w'; go_simp; with_reducible rfl) (by simp only [Act.put, zs1, zs2, zs3, i64_w, i32_w]; rfl) ?_
                    refine pB 64 (some 69) (bm 71 36893488147419103231) rfl rfl HT_.out (by kernel_rfl) (fun _ _ _ h => h) (by rfl) (by simp only [Act.put, zs1, zs2, zs3, i64_w, i32_w]; rfl) ?_
                    refine pB 65 (some 70) (bm 71 73786976294838206463) rfl rfl HT_.out (by kernel_rfl) (fun _ _ _ h => h) (by rfl) (by simp only [Act.put, zs1, zs2, zs3, i64_w, i32_w]; rfl) ?_
                    refine pB 66 (some 71) (bm 71 147573952589676412927) rfl rfl HT_.out (by kernel_rfl) (fun _ _ _ h => h) (by rfl) (by simp only [Act.put, zs1, zs2, zs3, i64_w, i32_w]; rfl) ?_
                    refine pB 67 (some 72) (bm 71 295147905179352825855) rfl rfl HT_.out (by kernel_rfl) (fun _ _ _ h => h) (by rfl) (by simp only [Act.put, zs1, zs2, zs3, i64_w, i32_w]; rfl) ?_
                    refine pB 68 (some 73) (bm 71 590295810358705651711) rfl rfl HT_.out (by kernel_rfl) (fun _ _ _ h => h) (by rfl) (by simp only [Act.put, zs1, zs2, zs3, i64_w, i32_w]; rfl) ?_
                    refine pB 69 (some 74) (bm 71 1180591620717411303423) rfl rfl HT_.out (by kernel_rfl) (fun _ _ _ h => h) (by rfl) (by simp only [Act.put, zs1, zs2, zs3, i64_w, i32_w]; rfl) ?_
                    refine pA 70 (some 75) (bm 71 2361183241434822606847) rfl rfl HT_.out (by kernel_rfl) (fun _ _ _ h => h) (by rfl) (by intro w'; go_simp; with_reducible rfl) (by simp only [Act.put, zs1, zs2, zs3, i64_w, i32_w]; rfl) ?_
                    refine done_ (done_of HT_.out (by kernel_rfl)) ?_
                    try go_wp2
                    go_meet
                    case rel => exact ⟨_, (true), (by first | rfl | (simp; done) | (simp [*]; done)), H', ⟨by first | omega | exact Nat.le_refl _⟩, ⟨by (with_reducible repeat (first | refine zq1 ?_ _ | refine zq2 ?_ | refine zq3 ?_ _)); exact BK124.out⟩, ⟨by (with_reducible repeat (first | refine zq1 ?_ _ | refine zq2 ?_ | refine zq3 ?_ _)); exact BK125.out⟩, ⟨by repeat (first | (with_reducible first | exact HB.out | apply zq7 | apply zq8 | apply zq9 | refine zr1 ?_ GE124.out | refine zr1 ?_ GE125.out) | exact HB.out)⟩⟩
              · replace c18 := Bool.eq_false_iff.mpr c18
                subst c18
                have H1 : (spec_TxOk.j0 k true a0_0 a0_1 a0_2 a0_3 a0_4 a1_0 a1_1 l1_2 a1_3 l1_4 a1_5 a1_6 a1_7 a1_8 a1_9) = some r := by rw [if_neg (show ¬ (false = true) by decide)] at H; exact H
                clear H
                have H := H1
                clear H1
                have H' := mk_ H
                clear H
                try go_wp2
                replace BK124 := mk_ (zq2 BK124.out)
                replace BK125 := mk_ (zq2 BK125.out)
                replace HB := mk_ (zq9 HB.out)
                refine start_ (n := 71) (S := fun w' => w'.cell? ⟨gb124, 0, none⟩ = some (.int .i64 a0_0) ∧ w'.cell? ⟨gb124, 1, none⟩ = some (.int .i64 a0_1) ∧ w'.cell? ⟨gb124, 2, none⟩ = some (.int .i64 a0_2) ∧ w'.cell? ⟨gb124, 3, none⟩ = some (.int .i64 a0_3) ∧ w'.cell? ⟨gb124, 4, none⟩ = some (.int .i64 a0_4) ∧ w'.cell? ⟨gb125, 0, none⟩ = some (.int .i64 a1_0) ∧ w'.cell? ⟨gb125, 1, none⟩ = some (.int .i64 a1_1) ∧ w'.cell? ⟨gb125, 2, none⟩ = some (.slice A1_2 l1_2.length c1_2) ∧ w'.cell? ⟨gb125, 3, none⟩ = some (.int .i64 a1_3) ∧ w'.cell? ⟨gb125, 4, none⟩ = some (.slice A1_4 l1_4.length c1_4) ∧ w'.cell? ⟨gb125, 5, none⟩ = some (.bool a1_5) ∧ w'.cell? ⟨gb125, 6, none⟩ = some (.int .i64 a1_6) ∧ w'.cell? ⟨gb125, 7, none⟩ = some (.bool a1_7) ∧ w'.cell? ⟨gb125, 8, none⟩ = some (.int .i64 a1_8) ∧ w'.cell? ⟨gb125, 9, none⟩ = some (.bool a1_9)) (ds := []) (bm 71 0) (by kernel_rfl) rfl rfl ⟨(zr4 BK124.out 0).trans rfl, (zr4 BK124.out 1).trans rfl, (zr4 BK124.out 2).trans rfl, (zr4 BK124.out 3).trans rfl, (zr4 BK124.out 4).trans rfl, (zr4 BK125.out 0).trans rfl, (zr4 BK125.out 1).trans rfl, (zr4 BK125.out 2).trans rfl, (zr4 BK125.out 3).trans rfl, (zr4 BK125.out 4).trans rfl, (zr4 BK125.out 5).trans rfl, (zr4 BK125.out 6).trans rfl, (zr4 BK125.out 7).trans rfl, (zr4 BK125.out 8).trans rfl, (zr4 BK125.out 9).trans rfl⟩ (fun hHeld => ?_); refine with_tabW spec_TxOk.tab1 spec_TxOk.bits1 (fun HT_ HW_ => ?_)
                generalize w5.drew = w33 at BK124 BK125 HB hHeld ⊢
                refine tA 0 (some 5) (bm 71 1) rfl rfl HT_.out HW_.out (by kernel_rfl) (fun _ _ _ h => h) (by rfl) hHeld (by rintro w' ⟨s0, s1, s2, s3, s4, s5, s6, s7, s8, s9, s10, s11, s12, s13, s14⟩; go_simp; with_reducible rfl) (by simp only [Act.put, zs1, zs2, zs3, i64_w, i32_w]; rfl) ?_
                refine one_ (i := 1) (N := some 6) (bm 71 3) rfl rfl (one_of HT_.out (by kernel_rfl)) (by decide) (fun K hK => ?_)
                refine goes_ Try.func81 (by kernel_rfl) rfl #[.agg #[.int .i64 a0_0, .int .i64 a0_1, .int .i64 a0_2, .int .i64 a0_3, .int .i64 a0_4]] (by rfl) rfl rfl (by (try simp only [List.map_toArray, List.map_cons, List.map_nil]); first | done | rfl | (simp only [List.length_drop, List.length_take]; rfl)) ?_
                with_reducible refine (spec_CfgOk.calls a0_0 a0_1 a0_2 a0_3 a0_4 true _ A6.out).mono ?_
                rintro e w34 ⟨rfl, hb⟩
                refine ⟨_, rfl, ?_⟩
                replace BK124 := mk_ (zq6 (by exact BK124.out) hb)
                replace BK125 := mk_ (zq6 (by exact BK125.out) hb)
                replace HB := mk_ (zr3 (by repeat (first | (with_reducible first | exact HB.out | apply zq7 | apply zq8 | apply zq9 | refine zr1 ?_ GE124.out | refine zr1 ?_ GE125.out) | exact HB.out)) hb)
                (try clear hb)
                (try clear hb2)
                (try clear hk)
                (try clear hi)
                refine hK.out _ _ ⟨(zr4 BK124.out 0).trans rfl, (zr4 BK124.out 1).trans rfl, (zr4 BK124.out 2).trans rfl, (zr4 BK124.out 3).trans rfl, (zr4 BK124.out 4).trans rfl, (zr4 BK125.out 0).trans rfl, (zr4 BK125.out 1).trans rfl, (zr4 BK125.out 2).trans rfl, (zr4 BK125.out 3).trans rfl, (zr4 BK125.out 4).trans rfl, (zr4 BK125.out 5).trans rfl, (zr4 BK125.out 6).trans rfl, (zr4 BK125.out 7).trans rfl, (zr4 BK125.out 8).trans rfl, (zr4 BK125.out 9).trans rfl⟩ (fun hHeld => ?_)
                clear hK K
                refine norm_ (a' := ?_) ?_ ?_
                rotate_left
                · show Act.put _ (some 6) _ = _
                  simp only [Act.put, zs1, zs2, zs3, i64_w, i32_w]
                  rfl
                refine pA 2 (some 7) (bm 71 7) rfl rfl HT_.out (by kernel_rfl) (fun _ _ _ h => h) (by rfl) (by intro w'; go_simp; with_reducible rfl) (by simp only [Act.put, zs1, zs2, zs3, i64_w, i32_w]; rfl) ?_
                refine pA 3 (some 8) (bm 71 15) rfl rfl HT_.out (by kernel_rfl) (fun _ _ _ h => h) (by rfl) (by intro w'; go_simp; with_reducible rfl) (by simp only [Act.put, zs1, zs2, zs3, i64_w, i32_w]; rfl) ?_
                refine pA 4 (some 9) (bm 71 31) rfl rfl HT_.out (by kernel_rfl) (fun _ _ _ h => h) (by rfl) (by intro w'; go_simp; with_reducible rfl) (by simp only [Act.put, zs1, zs2, zs3, i64_w, i32_w]; rfl) ?_
                refine tA 5 (some 10) (bm 71 63) rfl rfl HT_.out HW_.out (by kernel_rfl) (fun _ _ _ h => h) (by rfl) hHeld (by rintro w' ⟨s0, s1, s2, s3, s4, s5, s6, s7, s8, s9, s10, s11, s12, s13, s14⟩; go_simp; with_reducible rfl) (by simp only [Act.put, zs1, zs2, zs3, i64_w, i32_w]; rfl) ?_
                refine one_ (i := 6) (N := some 11) (bm 71 127) rfl rfl (one_of HT_.out (by kernel_rfl)) (by decide) (fun K hK => ?_)
                refine goes_ Try.func64 (by kernel_rfl) rfl #[.int .i64 a1_0, .int .i64 0, .int .i64 7] (by rfl) rfl rfl (by (try simp only [List.map_toArray, List.map_cons, List.map_nil]); first | done | rfl | (simp only [List.length_drop, List.length_take]; rfl)) ?_
                with_reducible refine (spec_l1In.calls a1_0 0 7 true _ A8.out).mono ?_
                rintro e w' ⟨rfl, ⟨nd, rfl⟩⟩
                refine ⟨_, rfl, ?_⟩
                refine hK.out _ _ ⟨(zr4 BK124.out 0).trans rfl, (zr4 BK124.out 1).trans rfl, (zr4 BK124.out 2).trans rfl, (zr4 BK124.out 3).trans rfl, (zr4 BK124.out 4).trans rfl, (zr4 BK125.out 0).trans rfl, (zr4 BK125.out 1).trans rfl, (zr4 BK125.out 2).trans rfl, (zr4 BK125.out 3).trans rfl, (zr4 BK125.out 4).trans rfl, (zr4 BK125.out 5).trans rfl, (zr4 BK125.out 6).trans rfl, (zr4 BK125.out 7).trans rfl, (zr4 BK125.out 8).trans rfl, (zr4 BK125.out 9).trans rfl⟩ (fun hHeld => ?_)
                clear hK K
                refine norm_ (a' := ?_) ?_ ?_
                rotate_left
                · show Act.put _ (some 11) _ = _
                  simp only [Act.put, zs1, zs2, zs3, i64_w, i32_w]
                  rfl
                refine pA 7 (some 12) (bm 71 255) rfl rfl HT_.out (by kernel_rfl) (fun _ _ _ h => h) (by rfl) (by intro w'; go_simp; with_reducible rfl) (by simp only [Act.put, zs1, zs2, zs3, i64_w, i32_w]; rfl) ?_
                refine pA 8 (some 13) (bm 71 511) rfl rfl HT_.out (by kernel_rfl) (fun _ _ _ h => h) (by rfl) (by intro w'; go_simp; with_reducible rfl) (by simp only [Act.put, zs1, zs2, zs3, i64_w, i32_w]; rfl) ?_
                refine pA 9 (some 14) (bm 71 1023) rfl rfl HT_.out (by kernel_rfl) (fun _ _ _ h => h) (by rfl) (by intro w'; go_simp; with_reducible rfl) (by simp only [Act.put, zs1, zs2, zs3, i64_w, i32_w]; rfl) ?_
                refine pA 10 (some 15) (bm 71 2047) rfl rfl HT_.out (by kernel_rfl) (fun _ _ _ h => h) (by rfl) (by intro w'; go_simp; with_reducible rfl) (by simp only [Act.put, zs1, zs2, zs3, i64_w, i32_w]; rfl) ?_
                refine tA 11 (some 16) (bm 71 4095) rfl rfl HT_.out HW_.out (by kernel_rfl) (fun _ _ _ h => h) (by rfl) hHeld (by rintro w' ⟨s0, s1, s2, s3, s4, s5, s6, s7, s8, s9, s10, s11, s12, s13, s14⟩; go_simp; with_reducible rfl) (by simp only [Act.put, zs1, zs2, zs3, i64_w, i32_w]; rfl) ?_
                refine one_ (i := 12) (N := some 17) (bm 71 8191) rfl rfl (one_of HT_.out (by kernel_rfl)) (by decide) (fun K hK => ?_)
                refine goes_ Try.func64 (by kernel_rfl) rfl #[.int .i64 a1_1, .int .i64 0, .int .i64 7] (by rfl) rfl rfl (by (try simp only [List.map_toArray, List.map_cons, List.map_nil]); first | done | rfl | (simp only [List.length_drop, List.length_take]; rfl)) ?_
                with_reducible refine (spec_l1In.calls a1_1 0 7 true _ A10.out).mono ?_
                rintro e w' ⟨rfl, ⟨nd, rfl⟩⟩
                refine ⟨_, rfl, ?_⟩
                refine hK.out _ _ ⟨(zr4 BK124.out 0).trans rfl, (zr4 BK124.out 1).trans rfl, (zr4 BK124.out 2).trans rfl, (zr4 BK124.out 3).trans rfl, (zr4 BK124.out 4).trans rfl, (zr4 BK125.out 0).trans rfl, (zr4 BK125.out 1).trans rfl, (zr4 BK125.out 2).trans rfl, (zr4 BK125.out 3).trans rfl, (zr4 BK125.out 4).trans rfl, (zr4 BK125.out 5).trans rfl, (zr4 BK125.out 6).trans rfl, (zr4 BK125.out 7).trans rfl, (zr4 BK125.out 8).trans rfl, (zr4 BK125.out 9).trans rfl⟩ (fun hHeld => ?_)
                clear hK K
                refine norm_ (a' := ?_) ?_ ?_
                rotate_left
                · show Act.put _ (some 17) _ = _
                  simp only [Act.put, zs1, zs2, zs3, i64_w, i32_w]
                  rfl
                refine pA 13 (some 18) (bm 71 16383) rfl rfl HT_.out (by kernel_rfl) (fun _ _ _ h => h) (by rfl) (by intro w'; go_simp; with_reducible rfl) (by simp only [Act.put, zs1, zs2, zs3, i64_w, i32_w]; rfl) ?_
                refine pA 14 (some 19) (bm 71 32767) rfl rfl HT_.out (by kernel_rfl) (fun _ _ _ h => h) (by rfl) (by intro w'; go_simp; with_reducible rfl) (by simp only [Act.put, zs1, zs2, zs3, i64_w, i32_w]; rfl) ?_
                refine pA 15 (some 20) (bm 71 65535) rfl rfl HT_.out (by kernel_rfl) (fun _ _ _ h => h) (by rfl) (by intro w'; go_simp; with_reducible rfl) (by simp only [Act.put, zs1, zs2, zs3, i64_w, i32_w]; rfl) ?_
                refine pA 16 (some 21) (bm 71 131071) rfl rfl HT_.out (by kernel_rfl) (fun _ _ _ h => h) (by rfl) (by intro w'; go_simp; with_reducible rfl) (by simp only [Act.put, zs1, zs2, zs3, i64_w, i32_w]; rfl) ?_
                refine pA 19 (some 24) (bm 71 655359) rfl rfl HT_.out (by kernel_rfl) (fun _ _ _ h => h) (by rfl) (by intro w'; go_simp; with_reducible rfl) (by simp only [Act.put, zs1, zs2, zs3, i64_w, i32_w]; rfl) ?_
                refine tA 17 (some 22) (bm 71 786431) rfl rfl HT_.out HW_.out (by kernel_rfl) (fun _ _ _ h => h) (by rfl) hHeld (by rintro w' ⟨s0, s1, s2, s3, s4, s5, s6, s7, s8, s9, s10, s11, s12, s13, s14⟩; go_simp; with_reducible rfl) (by simp only [Act.put, zs1, zs2, zs3, i64_w, i32_w]; rfl) ?_
                refine pA 18 (some 23) (bm 71 1048575) rfl rfl HT_.out (by kernel_rfl) (fun _ _ _ h => h) (by rfl) (by intro w'; go_simp; with_reducible rfl) (by simp only [Act.put, zs1, zs2, zs3, i64_w, i32_w]; rfl) ?_
                refine tA 20 (some 25) (bm 71 2097151) rfl rfl HT_.out HW_.out (by kernel_rfl) (fun _ _ _ h => h) (by rfl) hHeld (by rintro w' ⟨s0, s1, s2, s3, s4, s5, s6, s7, s8, s9, s10, s11, s12, s13, s14⟩; go_simp; with_reducible rfl) (by simp only [Act.put, zs1, zs2, zs3, i64_w, i32_w]; rfl) ?_
                refine pA 21 (some 26) (bm 71 4194303) rfl rfl HT_.out (by kernel_rfl) (fun _ _ _ h => h) (by rfl) (by intro w'; go_simp; with_reducible rfl) (by simp only [Act.put, zs1, zs2, zs3, i64_w, i32_w]; rfl) ?_
                refine pA 22 (some 27) (bm 71 8388607) rfl rfl HT_.out (by kernel_rfl) (fun _ _ _ h => h) (by rfl) (by intro w'; go_simp; with_reducible rfl) (by simp only [Act.put, zs1, zs2, zs3, i64_w, i32_w]; rfl) ?_
                refine pA 23 (some 28) (bm 71 16777215) rfl rfl HT_.out (by kernel_rfl) (fun _ _ _ h => h) (by rfl) (by intro w'; go_simp; with_reducible rfl) (by simp only [Act.put, zs1, zs2, zs3, i64_w, i32_w]; rfl) ?_
                refine pA 24 (some 29) (bm 71 33554431) rfl rfl HT_.out (by kernel_rfl) (fun _ _ _ h => h) (by rfl) (by intro w'; go_simp; with_reducible rfl) (by simp only [Act.put, zs1, zs2, zs3, i64_w, i32_w]; rfl) ?_
                refine pA 26 (some 31) (bm 71 100663295) rfl rfl HT_.out (by kernel_rfl) (fun _ _ _ h => h) (by rfl) (by intro w'; go_simp; with_reducible rfl) (by simp only [Act.put, zs1, zs2, zs3, i64_w, i32_w]; rfl) ?_
                refine pA 29 (some 34) (bm 71 637534207) rfl rfl HT_.out (by kernel_rfl) (fun _ _ _ h => h) (by rfl) (by intro w'; go_simp; with_reducible rfl) (by simp only [Act.put, zs1, zs2, zs3, i64_w, i32_w]; rfl) ?_
                refine tA 25 (some 30) (bm 71 671088639) rfl rfl HT_.out HW_.out (by kernel_rfl) (fun _ _ _ h => h) (by rfl) hHeld (by rintro w' ⟨s0, s1, s2, s3, s4, s5, s6, s7, s8, s9, s10, s11, s12, s13, s14⟩; go_simp; with_reducible rfl) (by simp only [Act.put, zs1, zs2, zs3, i64_w, i32_w]; rfl) ?_
                refine tA 27 (some 32) (bm 71 805306367) rfl rfl HT_.out HW_.out (by kernel_rfl) (fun _ _ _ h => h) (by rfl) hHeld (by rintro w' ⟨s0, s1, s2, s3, s4, s5, s6, s7, s8, s9, s10, s11, s12, s13, s14⟩; go_simp; with_reducible rfl) (by simp only [Act.put, zs1, zs2, zs3, i64_w, i32_w]; rfl) ?_
                refine tA 30 (some 35) (bm 71 1879048191) rfl rfl HT_.out HW_.out (by kernel_rfl) (fun _ _ _ h => h) (by rfl) hHeld (by rintro w' ⟨s0, s1, s2, s3, s4, s5, s6, s7, s8, s9, s10, s11, s12, s13, s14⟩; go_simp; with_reducible rfl) (by simp only [Act.put, zs1, zs2, zs3, i64_w, i32_w]; rfl) ?_
                refine pA 31 (some 36) (bm 71 4026531839) rfl rfl HT_.out (by kernel_rfl) (fun _ _ _ h => h) (by rfl) (by intro w'; go_simp; with_reducible rfl) (by simp only [Act.put, zs1, zs2, zs3, i64_w, i32_w]; rfl) ?_
                refine one_ (i := 28) (N := some 33) (bm 71 4294967295) rfl rfl (one_of HT_.out (by kernel_rfl)) (by decide) (fun K hK => ?_)
                refine goes_ Try.func82 (by kernel_rfl) rfl #[.int .i64 a1_1, .int .i64 a1_0] (by rfl) rfl rfl (by (try simp only [List.map_toArray, List.map_cons, List.map_nil]); first | done | rfl | (simp only [List.length_drop, List.length_take]; rfl)) ?_
                with_reducible refine (spec_NumFar.calls a1_1 a1_0 t129 _ A15.out).mono ?_
                rintro e w' ⟨rfl, ⟨nd, rfl⟩⟩
                refine ⟨_, rfl, ?_⟩
                refine hK.out _ _ ⟨(zr4 BK124.out 0).trans rfl, (zr4 BK124.out 1).trans rfl, (zr4 BK124.out 2).trans rfl, (zr4 BK124.out 3).trans rfl, (zr4 BK124.out 4).trans rfl, (zr4 BK125.out 0).trans rfl, (zr4 BK125.out 1).trans rfl, (zr4 BK125.out 2).trans rfl, (zr4 BK125.out 3).trans rfl, (zr4 BK125.out 4).trans rfl, (zr4 BK125.out 5).trans rfl, (zr4 BK125.out 6).trans rfl, (zr4 BK125.out 7).trans rfl, (zr4 BK125.out 8).trans rfl, (zr4 BK125.out 9).trans rfl⟩ (fun hHeld => ?_)
                clear hK K
                refine norm_ (a' := ?_) ?_ ?_
                rotate_left
                · show Act.put _ (some 33) _ = _
                  simp only [Act.put, zs1, zs2, zs3, i64_w, i32_w]
                  rfl
                refine pA 32 (some 37) (bm 71 8589934591) rfl rfl HT_.out (by kernel_rfl) (fun _ _ _ h => h) (by rfl) (by intro w'; go_simp; with_reducible rfl) (by simp only [Act.put, zs1, zs2, zs3, i64_w, i32_w]; rfl) ?_
                refine pA 33 (some 38) (bm 71 17179869183) rfl rfl HT_.out (by kernel_rfl) (fun _ _ _ h => h) (by rfl) (by intro w'; go_simp; with_reducible rfl) (by simp only [Act.put, zs1, zs2, zs3, i64_w, i32_w]; rfl) ?_
                refine pA 34 (some 39) (bm 71 34359738367) rfl rfl HT_.out (by kernel_rfl) (fun _ _ _ h => h) (by rfl) (by intro w'; go_simp; with_reducible rfl) (by simp only [Act.put, zs1, zs2, zs3, i64_w, i32_w]; rfl) ?_
                refine pA 35 (some 40) (bm 71 68719476735) rfl rfl HT_.out (by kernel_rfl) (fun _ _ _ h => h) (by rfl) (by intro w'; go_simp; with_reducible rfl) (by simp only [Act.put, zs1, zs2, zs3, i64_w, i32_w]; rfl) ?_
                refine pA 37 (some 42) (bm 71 206158430207) rfl rfl HT_.out (by kernel_rfl) (fun _ _ _ h => h) (by rfl) (by intro w'; go_simp; with_reducible rfl) (by simp only [Act.put, zs1, zs2, zs3, i64_w, i32_w]; rfl) ?_
                refine tA 36 (some 41) (bm 71 274877906943) rfl rfl HT_.out HW_.out (by kernel_rfl) (fun _ _ _ h => h) (by rfl) hHeld (by rintro w' ⟨s0, s1, s2, s3, s4, s5, s6, s7, s8, s9, s10, s11, s12, s13, s14⟩; go_simp; with_reducible rfl) (by simp only [Act.put, zs1, zs2, zs3, i64_w, i32_w]; rfl) ?_
                refine tA 38 (some 43) (bm 71 549755813887) rfl rfl HT_.out HW_.out (by kernel_rfl) (fun _ _ _ h => h) (by rfl) hHeld (by rintro w' ⟨s0, s1, s2, s3, s4, s5, s6, s7, s8, s9, s10, s11, s12, s13, s14⟩; go_simp; with_reducible rfl) (by simp only [Act.put, zs1, zs2, zs3, i64_w, i32_w]; rfl) ?_
                refine pA 39 (some 44) (bm 71 1099511627775) rfl rfl HT_.out (by kernel_rfl) (fun _ _ _ h => h) (by rfl) (by intro w'; go_simp; with_reducible rfl) (by simp only [Act.put, zs1, zs2, zs3, i64_w, i32_w]; rfl) ?_
                refine one_ (i := 40) (N := some 45) (bm 71 2199023255551) rfl rfl (one_of HT_.out (by kernel_rfl)) (by decide) (fun K hK => ?_)
                refine goes_ Try.func64 (by kernel_rfl) rfl #[.int .i64 a1_3, .int .i64 0, .int .i64 (l1_2.length : Int)] (by rfl) rfl rfl (by (try simp only [List.map_toArray, List.map_cons, List.map_nil]); first | done | rfl | (simp only [List.length_drop, List.length_take]; rfl)) ?_
                with_reducible refine (spec_l1In.calls a1_3 0 (l1_2.length : Int) false _ A17.out).mono ?_
                rintro e w' ⟨rfl, ⟨nd, rfl⟩⟩
                refine ⟨_, rfl, ?_⟩
                refine hK.out _ _ ⟨(zr4 BK124.out 0).trans rfl, (zr4 BK124.out 1).trans rfl, (zr4 BK124.out 2).trans rfl, (zr4 BK124.out 3).trans rfl, (zr4 BK124.out 4).trans rfl, (zr4 BK125.out 0).trans rfl, (zr4 BK125.out 1).trans rfl, (zr4 BK125.out 2).trans rfl, (zr4 BK125.out 3).trans rfl, (zr4 BK125.out 4).trans rfl, (zr4 BK125.out 5).trans rfl, (zr4 BK125.out 6).trans rfl, (zr4 BK125.out 7).trans rfl, (zr4 BK125.out 8).trans rfl, (zr4 BK125.out 9).trans rfl⟩ (fun hHeld => ?_)
                clear hK K
                refine norm_ (a' := ?_) ?_ ?_
                rotate_left
                · show Act.put _ (some 45) _ = _
                  simp only [Act.put, zs1, zs2, zs3, i64_w, i32_w]
                  rfl
                refine pA 41 (some 46) (bm 71 4398046511103) rfl rfl HT_.out (by kernel_rfl) (fun _ _ _ h => h) (by rfl) (by intro w'; go_simp; with_reducible rfl) (by simp only [Act.put, zs1, zs2, zs3, i64_w, i32_w]; rfl) ?_
                refine pA 42 (some 47) (bm 71 8796093022207) rfl rfl HT_.out (by kernel_rfl) (fun _ _ _ h => h) (by rfl) (by intro w'; go_simp; with_reducible rfl) (by simp only [Act.put, zs1, zs2, zs3, i64_w, i32_w]; rfl) ?_
                refine pA 43 (some 48) (bm 71 17592186044415) rfl rfl HT_.out (by kernel_rfl) (fun _ _ _ h => h) (by rfl) (by intro w'; go_simp; with_reducible rfl) (by simp only [Act.put, zs1, zs2, zs3, i64_w, i32_w]; rfl) ?_
                refine pB 44 (some 49) (bm 71 35184372088831) rfl rfl HT_.out (by kernel_rfl) (fun _ _ _ h => h) (by rfl) (by simp only [Act.put, zs1, zs2, zs3, i64_w, i32_w]; rfl) ?_
                refine pB 45 (some 50) (bm 71 70368744177663) rfl rfl HT_.out (by kernel_rfl) (fun _ _ _ h => h) (by rfl) (by simp only [Act.put, zs1, zs2, zs3, i64_w, i32_w]; rfl) ?_
                refine pB 46 (some 51) (bm 71 140737488355327) rfl rfl HT_.out (by kernel_rfl) (fun _ _ _ h => h) (by rfl) (by simp only [Act.put, zs1, zs2, zs3, i64_w, i32_w]; rfl) ?_
                refine pB 47 (some 52) (bm 71 281474976710655) rfl rfl HT_.out (by kernel_rfl) (fun _ _ _ h => h) (by rfl) (by simp only [Act.put, zs1, zs2, zs3, i64_w, i32_w]; rfl) ?_
                refine pA 48 (some 53) (bm 71 562949953421311) rfl rfl HT_.out (by kernel_rfl) (fun _ _ _ h => h) (by rfl) (by intro w'; go_simp; with_reducible rfl) (by simp only [Act.put, zs1, zs2, zs3, i64_w, i32_w]; rfl) ?_
                refine pA 49 (some 54) (bm 71 1125899906842623) rfl rfl HT_.out (by kernel_rfl) (fun _ _ _ h => h) (by rfl) (by intro w'; go_simp; with_reducible rfl) (by simp only [Act.put, zs1, zs2, zs3, i64_w, i32_w]; rfl) ?_
                refine pB 50 (some 55) (bm 71 2251799813685247) rfl rfl HT_.out (by kernel_rfl) (fun _ _ _ h => h) (by rfl) (by simp only [Act.put, zs1, zs2, zs3, i64_w, i32_w]; rfl) ?_
                refine pB 51 (some 56) (bm 71 4503599627370495) rfl rfl HT_.out (by kernel_rfl) (fun _ _ _ h => h) (by rfl) (by simp only [Act.put, zs1, zs2, zs3, i64_w, i32_w]; rfl) ?_
                refine pB 52 (some 57) (bm 71 9007199254740991) rfl rfl HT_.out (by kernel_rfl) (fun _ _ _ h => h) (by rfl) (by simp only [Act.put, zs1, zs2, zs3, i64_w, i32_w]; rfl) ?_
                refine pB 53 (some 58) (bm 71 18014398509481983) rfl rfl HT_.out (by kernel_rfl) (fun _ _ _ h => h) (by rfl) (by simp only [Act.put, zs1, zs2, zs3, i64_w, i32_w]; rfl) ?_
                refine pB 54 (some 59) (bm 71 36028797018963967) rfl rfl HT_.out (by kernel_rfl) (fun _ _ _ h => h) (by rfl) (by simp only [Act.put, zs1, zs2, zs3, i64_w, i32_w]; rfl) ?_
                refine pB 55 (some 60) (bm 71 72057594037927935) rfl rfl HT_.out (by kernel_rfl) (fun _ _ _ h => h) (by rfl) (by simp only [Act.put, zs1, zs2, zs3, i64_w, i32_w]; rfl) ?_
                refine pA 56 (some 61) (bm 71 144115188075855871) rfl rfl HT_.out (by kernel_rfl) (fun _ _ _ h => h) (by rfl) (by intro w'; go_simp; with_reducible rfl) (by simp only [Act.put, zs1, zs2, zs3, i64_w, i32_w]; rfl) ?_
                refine pA 57 (some 62) (bm 71 288230376151711743) rfl rfl HT_.out (by kernel_rfl) (fun _ _ _ h => h) (by rfl) (by intro w'; go_simp; with_reducible rfl) (by simp only [Act.put, zs1, zs2, zs3, i64_w, i32_w]; rfl) ?_
                refine pB 58 (some 63) (bm 71 576460752303423487) rfl rfl HT_.out (by kernel_rfl) (fun _ _ _ h => h) (by rfl) (by simp only [Act.put, zs1, zs2, zs3, i64_w, i32_w]; rfl) ?_
                refine pB 59 (some 64) (bm 71 1152921504606846975) rfl rfl HT_.out (by kernel_rfl) (fun _ _ _ h => h) (by rfl) (by simp only [Act.put, zs1, zs2, zs3, i64_w, i32_w]; rfl) ?_
                refine pB 60 (some 65) (bm 71 2305843009213693951) rfl rfl HT_.out (by kernel_rfl) (fun _ _ _ h => h) (by rfl) (by simp only [Act.put, zs1, zs2, zs3, i64_w, i32_w]; rfl) ?_
                refine pB 61 (some 66) (bm 71 4611686018427387903) rfl rfl HT_.out (by kernel_rfl) (fun _ _ _ h => h) (by rfl) (by simp only [Act.put, zs1, zs2, zs3, i64_w, i32_w]; rfl) ?_
                refine pA 62 (some 67) (bm 71 9223372036854775807) rfl rfl HT_.out (by kernel_rfl) (fun _ _ _ h => h) (by rfl) (by intro w'; go_simp; with_reducible rfl) (by simp only [Act.put, zs1, zs2, zs3, i64_w, i32_w]; rfl) ?_
                refine pA 63 (some 68) (bm 71 18446744073709551615) rfl rfl HT_.out (by kernel_rfl) (fun _ _ _ h => h) (by rfl) (by intro w'; go_simp; with_reducible rfl) (by simp only [Act.put, zs1, zs2, zs3, i64_w, i32_w]; rfl) ?_
                refine pB 64 (some 69) (bm 71 36893488147419103231) rfl rfl HT_.out (by kernel_rfl) (fun _ _ _ h => h) (by rfl) (by simp only [Act.put, zs1, zs2, zs3, i64_w, i32_w]; rfl) ?_
                refine pB 65 (some 70) (bm 71 73786976294838206463) rfl rfl HT_.out (by kernel_rfl) (fun _ _ _ h => h) (by rfl) (by simp only [Act.put, zs1, zs2, zs3, i64_w, i32_w]; rfl) ?_
                refine pB 66 (some 71) (bm 71 147573952589676412927) rfl rfl HT_.out (by kernel_rfl) (fun _ _ _ h => h) (by rfl) (by simp only [Act.put, zs1, zs2, zs3, i64_w, i32_w]; rfl) ?_
                refine pB 67 (some 72) (bm 71 295147905179352825855) rfl rfl HT_.out (by kernel_rfl) (fun _ _ _ h => h) (by rfl) (by simp only [Act.put, zs1, zs2, zs3, i64_w, i32_w]; rfl) ?_
                refine pB 68 (some 73) (bm 71 590295810358705651711) rfl rfl HT_.out (by kernel_rfl) (fun _ _ _ h => h) (by rfl) (by simp only [Act.put, zs1, zs2, zs3, i64_w, i32_w]; rfl) ?_
                refine pB 69 (some 74) (bm 71 1180591620717411303423) rfl rfl HT_.out (by kernel_rfl) (fun _ _ _ h => h) (by rfl) (by simp only [Act.put, zs1, zs2, zs3, i64_w, i32_w]; rfl) ?_
                refine pA 70 (some 75) (bm 71 2361183241434822606847) rfl rfl HT_.out (by kernel_rfl) (fun _ _ _ h => h) (by rfl) (by intro w'; go_simp; with_reducible rfl) (by simp only [Act.put, zs1, zs2, zs3, i64_w, i32_w]; rfl) ?_
                refine done_ (done_of HT_.out (by kernel_rfl)) ?_
                try go_wp2
                go_meet
                case rel => exact ⟨_, (true), (by first | rfl | (simp; done) | (simp [*]; done)), H', ⟨by first | omega | exact Nat.le_refl _⟩, ⟨by (with_reducible repeat (first | refine zq1 ?_ _ | refine zq2 ?_ | refine zq3 ?_ _)); exact BK124.out⟩, ⟨by (with_reducible repeat (first | refine zq1 ?_ _ | refine zq2 ?_ | refine zq3 ?_ _)); exact BK125.out⟩, ⟨by repeat (first | (with_reducible first | exact HB.out | apply zq7 | apply zq8 | apply zq9 | refine zr1 ?_ GE124.out | refine zr1 ?_ GE125.out) | exact HB.out)⟩⟩
            · rw [if_neg c16] at H
              have c16b0 : (t129 == (l1_2.length : Int)) = false := beq_eq_false_iff_ne.mpr c16
              have c16b1 : (t129 != (l1_2.length : Int)) = true := bne_iff_ne.mpr c16
              have H' := mk_ H
              clear H
              try go_wp2
              replace BK124 := mk_ (zq2 BK124.out)
              replace BK125 := mk_ (zq2 BK125.out)
              replace HB := mk_ (zq9 HB.out)
              refine start_ (n := 71) (S := fun w' => w'.cell? ⟨gb124, 0, none⟩ = some (.int .i64 a0_0) ∧ w'.cell? ⟨gb124, 1, none⟩ = some (.int .i64 a0_1) ∧ w'.cell? ⟨gb124, 2, none⟩ = some (.int .i64 a0_2) ∧ w'.cell? ⟨gb124, 3, none⟩ = some (.int .i64 a0_3) ∧ w'.cell? ⟨gb124, 4, none⟩ = some (.int .i64 a0_4) ∧ w'.cell? ⟨gb125, 0, none⟩ = some (.int .i64 a1_0) ∧ w'.cell? ⟨gb125, 1, none⟩ = some (.int .i64 a1_1) ∧ w'.cell? ⟨gb125, 2, none⟩ = some (.slice A1_2 l1_2.length c1_2) ∧ w'.cell? ⟨gb125, 3, none⟩ = some (.int .i64 a1_3) ∧ w'.cell? ⟨gb125, 4, none⟩ = some (.slice A1_4 l1_4.length c1_4) ∧ w'.cell? ⟨gb125, 5, none⟩ = some (.bool a1_5) ∧ w'.cell? ⟨gb125, 6, none⟩ = some (.int .i64 a1_6) ∧ w'.cell? ⟨gb125, 7, none⟩ = some (.bool a1_7) ∧ w'.cell? ⟨gb125, 8, none⟩ = some (.int .i64 a1_8) ∧ w'.cell? ⟨gb125, 9, none⟩ = some (.bool a1_9)) (ds := []) (bm 71 0) (by kernel_rfl) rfl rfl ⟨(zr4 BK124.out 0).trans rfl, (zr4 BK124.out 1).trans rfl, (zr4 BK124.out 2).trans rfl, (zr4 BK124.out 3).trans rfl, (zr4 BK124.out 4).trans rfl, (zr4 BK125.out 0).trans rfl, (zr4 BK125.out 1).trans rfl, (zr4 BK125.out 2).trans rfl, (zr4 BK125.out 3).trans rfl, (zr4 BK125.out 4).trans rfl, (zr4 BK125.out 5).trans rfl, (zr4 BK125.out 6).trans rfl, (zr4 BK125.out 7).trans rfl, (zr4 BK125.out 8).trans rfl, (zr4 BK125.out 9).trans rfl⟩ (fun hHeld => ?_); refine with_tabW spec_TxOk.tab1 spec_TxOk.bits1 (fun HT_ HW_ => ?_)
              generalize w5.drew = w35 at BK124 BK125 HB hHeld ⊢
              refine tA 0 (some 5) (bm 71 1) rfl rfl HT_.out HW_.out (by kernel_rfl) (fun _ _ _ h => h) (by rfl) hHeld (by rintro w' ⟨s0, s1, s2, s3, s4, s5, s6, s7, s8, s9, s10, s11, s12, s13, s14⟩; go_simp; with_reducible rfl) (by simp only [Act.put, zs1, zs2, zs3, i64_w, i32_w]; rfl) ?_
              refine one_ (i := 1) (N := some 6) (bm 71 3) rfl rfl (one_of HT_.out (by kernel_rfl)) (by decide) (fun K hK => ?_)
              refine goes_ Try.func81 (by kernel_rfl) rfl #[.agg #[.int .i64 a0_0, .int .i64 a0_1, .int .i64 a0_2, .int .i64 a0_3, .int .i64 a0_4]] (by rfl) rfl rfl (by (try simp only [List.map_toArray, List.map_cons, List.map_nil]); first | done | rfl | (simp only [List.length_drop, List.length_take]; rfl)) ?_
              with_reducible refine (spec_CfgOk.calls a0_0 a0_1 a0_2 a0_3 a0_4 true _ A6.out).mono ?_
              rintro e w36 ⟨rfl, hb⟩
              refine ⟨_, rfl, ?_⟩
              replace BK124 := mk_ (zq6 (by exact BK124.out) hb)
              replace BK125 := mk_ (zq6 (by exact BK125.out) hb)
              replace HB := mk_ (zr3 (by repeat (first | (with_reducible first | exact HB.out | apply zq7 | apply zq8 | apply zq9 | refine zr1 ?_ GE124.out | refine zr1 ?_ GE125.out) | exact HB.out)) hb)
              (try clear hb)
              (try clear hb2)
              (try clear hk)
              (try clear hi)
              refine hK.out _ _ ⟨(zr4 BK124.out 0).trans rfl, (zr4 BK124.out 1).trans rfl, (zr4 BK124.out 2).trans rfl, (zr4 BK124.out 3).trans rfl, (zr4 BK124.out 4).trans rfl, (zr4 BK125.out 0).trans rfl, (zr4 BK125.out 1).trans rfl, (zr4 BK125.out 2).trans rfl, (zr4 BK125.out 3).trans rfl, (zr4 BK125.out 4).trans rfl, (zr4 BK125.out 5).trans rfl, (zr4 BK125.out 6).trans rfl, (zr4 BK125.out 7).trans rfl, (zr4 BK125.out 8).trans rfl, (zr4 BK125.out 9).trans rfl⟩ (fun hHeld => ?_)
              clear hK K
              refine norm_ (a' := ?_) ?_ ?_
              rotate_left
              · show Act.put _ (some 6) _ = _
                simp only [Act.put, zs1, zs2, zs3, i64_w, i32_w]
                rfl
              refine pA 2 (some 7) (bm 71 7) rfl rfl HT_.out (by kernel_rfl) (fun _ _ _ h => h) (by rfl) (by intro w'; go_simp; with_reducible rfl) (by simp only [Act.put, zs1, zs2, zs3, i64_w, i32_w]; rfl) ?_
              refine pA 3 (some 8) (bm 71 15) rfl rfl HT_.out (by kernel_rfl) (fun _ _ _ h => h) (by rfl) (by intro w'; go_simp; with_reducible rfl) (by simp only [Act.put, zs1, zs2, zs3, i64_w, i32_w]; rfl) ?_
              refine pA 4 (some 9) (bm 71 31) rfl rfl HT_.out (by kernel_rfl) (fun _ _ _ h => h) (by rfl) (by intro w'; go_simp; with_reducible rfl) (by simp only [Act.put, zs1, zs2, zs3, i64_w, i32_w]; rfl) ?_
              refine tA 5 (some 10) (bm 71 63) rfl rfl HT_.out HW_.out (by kernel_rfl) (fun _ _ _ h => h) (by rfl) hHeld (by rintro w' ⟨s0, s1, s2, s3, s4, s5, s6, s7, s8, s9, s10, s11, s12, s13, s14⟩; go_simp; with_reducible rfl) (by simp only [Act.put, zs1, zs2, zs3, i64_w, i32_w]; rfl) ?_
              refine one_ (i := 6) (N := some 11) (bm 71 127) rfl rfl (one_of HT_.out (by kernel_rfl)) (by decide) (fun K hK => ?_)
              refine goes_ Try.func64 (by kernel_rfl) rfl #[.int .i64 a1_0, .int .i64 0, .int .i64 7] (by rfl) rfl rfl (by (try simp only [List.map_toArray, List.map_cons, List.map_nil]); first | done | rfl | (simp only [List.length_drop, List.length_take]; rfl)) ?_
              with_reducible refine (spec_l1In.calls a1_0 0 7 true _ A8.out).mono ?_
              rintro e w' ⟨rfl, ⟨nd, rfl⟩⟩
              refine ⟨_, rfl, ?_⟩
              refine hK.out _ _ ⟨(zr4 BK124.out 0).trans rfl, (zr4 BK124.out 1).trans rfl, (zr4 BK124.out 2).trans rfl, (zr4 BK124.out 3).trans rfl, (zr4 BK124.out 4).trans rfl, (zr4 BK125.out 0).trans rfl, (zr4 BK125.out 1).trans rfl, (zr4 BK125.out 2).trans rfl, (zr4 BK125.out 3).trans rfl, (zr4 BK125.out 4).trans rfl, (zr4 BK125.out 5).trans rfl, (zr4 BK125.out 6).trans rfl, (zr4 BK125.out 7).trans rfl, (zr4 BK125.out 8).trans rfl, (zr4 BK125.out 9).trans rfl⟩ (fun hHeld => ?_)
              clear hK K
              refine norm_ (a' := ?_) ?_ ?_
              rotate_left
              · show Act.put _ (some 11) _ = _
                simp only [Act.put, zs1, zs2, zs3, i64_w, i32_w]
                rfl
              refine pA 7 (some 12) (bm 71 255) rfl rfl HT_.out (by kernel_rfl) (fun _ _ _ h => h) (by rfl) (by intro w'; go_simp; with_reducible rfl) (by simp only [Act.put, zs1, zs2, zs3, i64_w, i32_w]; rfl) ?_
              refine pA 8 (some 13) (bm 71 511) rfl rfl HT_.out (by kernel_rfl) (fun _ _ _ h => h) (by rfl) (by intro w'; go_simp; with_reducible rfl) (by simp only [Act.put, zs1, zs2, zs3, i64_w, i32_w]; rfl) ?_
              refine pA 9 (some 14) (bm 71 1023) rfl rfl HT_.out (by kernel_rfl) (fun _ _ _ h => h) (by rfl) (by intro w'; go_simp; with_reducible rfl) (by simp only [Act.put, zs1, zs2, zs3, i64_w, i32_w]; rfl) ?_
              refine pA 10 (some 15) (bm 71 2047) rfl rfl HT_.out (by kernel_rfl) (fun _ _ _ h => h) (by rfl) (by intro w'; go_simp; with_reducible rfl) (by simp only [Act.put, zs1, zs2, zs3, i64_w, i32_w]; rfl) ?_
              refine tA 11 (some 16) (bm 71 4095) rfl rfl HT_.out HW_.out (by kernel_rfl) (fun _ _ _ h => h) (by rfl) hHeld (by rintro w' ⟨s0, s1, s2, s3, s4, s5, s6, s7, s8, s9, s10, s11, s12, s13, s14⟩; go_simp; with_reducible rfl) (by simp only [Act.put, zs1, zs2, zs3, i64_w, i32_w]; rfl) ?_
              refine one_ (i := 12) (N := some 17) (bm 71 8191) rfl rfl (one_of HT_.out (by kernel_rfl)) (by decide) (fun K hK => ?_)
              refine goes_ Try.func64 (by kernel_rfl) rfl #[.int .i64 a1_1, .int .i64 0, .int .i64 7] (by rfl) rfl rfl (by (try simp only [List.map_toArray, List.map_cons, List.map_nil]); first | done | rfl | (simp only [List.length_drop, List.length_take]; rfl)) ?_
              with_reducible refine (spec_l1In.calls a1_1 0 7 true _ A10.out).mono ?_
              rintro e w' ⟨rfl, ⟨nd, rfl⟩⟩
              refine ⟨_, rfl, ?_⟩
              refine hK.out _ _ ⟨(zr4 BK124.out 0).trans rfl, (zr4 BK124.out 1).trans rfl, (zr4 BK124.out 2).trans rfl, (zr4 BK124.out 3).trans rfl, (zr4 BK124.out 4).trans rfl, (zr4 BK125.out 0).trans rfl, (zr4 BK125.out 1).trans rfl, (zr4 BK125.out 2).trans rfl, (zr4 BK125.out 3).trans rfl, (zr4 BK125.out 4).trans rfl, (zr4 BK125.out 5).trans rfl, (zr4 BK125.out 6).trans rfl, (zr4 BK125.out 7).trans rfl, (zr4 BK125.out 8).trans rfl, (zr4 BK125.out 9).trans rfl⟩ (fun hHeld => ?_)
              clear hK K
              refine norm_ (a' := ?_) ?_ ?_
              rotate_left
              · show Act.put _ (some 17) _ = _
                simp only [Act.put, zs1, zs2, zs3, i64_w, i32_w]
                rfl
              refine pA 13 (some 18) (bm 71 16383) rfl rfl HT_.out (by kernel_rfl) (fun _ _ _ h => h) (by rfl) (by intro w'; go_simp; with_reducible rfl) (by simp only [Act.put, zs1, zs2, zs3, i64_w, i32_w]; rfl) ?_
              refine pA 14 (some 19) (bm 71 32767) rfl rfl HT_.out (by kernel_rfl) (fun _ _ _ h => h) (by rfl) (by intro w'; go_simp; with_reducible rfl) (by simp only [Act.put, zs1, zs2, zs3, i64_w, i32_w]; rfl) ?_
              refine pA 15 (some 20) (bm 71 65535) rfl rfl HT_.out (by kernel_rfl) (fun _ _ _ h => h) (by rfl) (by intro w'; go_simp; with_reducible rfl) (by simp only [Act.put, zs1, zs2, zs3, i64_w, i32_w]; rfl) ?_
              refine pA 16 (some 21) (bm 71 131071) rfl rfl HT_.out (by kernel_rfl) (fun _ _ _ h => h) (by rfl) (by intro w'; go_simp; with_reducible rfl) (by simp only [Act.put, zs1, zs2, zs3, i64_w, i32_w]; rfl) ?_
              refine pA 19 (some 24) (bm 71 655359) rfl rfl HT_.out (by kernel_rfl) (fun _ _ _ h => h) (by rfl) (by intro w'; go_simp; with_reducible rfl) (by simp only [Act.put, zs1, zs2, zs3, i64_w, i32_w]; rfl) ?_
              refine tA 17 (some 22) (bm 71 786431) rfl rfl HT_.out HW_.out (by kernel_rfl) (fun _ _ _ h => h) (by rfl) hHeld (by rintro w' ⟨s0, s1, s2, s3, s4, s5, s6, s7, s8, s9, s10, s11, s12, s13, s14⟩; go_simp; with_reducible rfl) (by simp only [Act.put, zs1, zs2, zs3, i64_w, i32_w]; rfl) ?_
              refine pA 18 (some 23) (bm 71 1048575) rfl rfl HT_.out (by kernel_rfl) (fun _ _ _ h => h) (by rfl) (by intro w'; go_simp; with_reducible rfl) (by simp only [Act.put, zs1, zs2, zs3, i64_w, i32_w]; rfl) ?_
              refine tA 20 (some 25) (bm 71 2097151) rfl rfl HT_.out HW_.out (by kernel_rfl) (fun _ _ _ h => h) (by rfl) hHeld (by rintro w' ⟨s0, s1, s2, s3, s4, s5, s6, s7, s8, s9, s10, s11, s12, s13, s14⟩; go_simp; with_reducible rfl) (by simp only [Act.put, zs1, zs2, zs3, i64_w, i32_w]; rfl) ?_
              refine pA 21 (some 26) (bm 71 4194303) rfl rfl HT_.out (by kernel_rfl) (fun _ _ _ h => h) (by rfl) (by intro w'; go_simp; with_reducible rfl) (by simp only [Act.put, zs1, zs2, zs3, i64_w, i32_w]; rfl) ?_
              refine pA 22 (some 27) (bm 71 8388607) rfl rfl HT_.out (by kernel_rfl) (fun _ _ _ h => h) (by rfl) (by intro w'; go_simp; with_reducible rfl) (by simp only [Act.put, zs1, zs2, zs3, i64_w, i32_w]; rfl) ?_
              refine pA 23 (some 28) (bm 71 16777215) rfl rfl HT_.out (by kernel_rfl) (fun _ _ _ h => h) (by rfl) (by intro w'; go_simp; with_reducible rfl) (by simp only [Act.put, zs1, zs2, zs3, i64_w, i32_w]; rfl) ?_
              refine pA 24 (some 29) (bm 71 33554431) rfl rfl HT_.out (by kernel_rfl) (fun _ _ _ h => h) (by rfl) (by intro w'; go_simp; with_reducible rfl) (by simp only [Act.put, zs1, zs2, zs3, i64_w, i32_w]; rfl) ?_
              refine pA 26 (some 31) (bm 71 100663295) rfl rfl HT_.out (by kernel_rfl) (fun _ _ _ h => h) (by rfl) (by intro w'; go_simp; with_reducible rfl) (by simp only [Act.put, zs1, zs2, zs3, i64_w, i32_w]; rfl) ?_
              refine pA 29 (some 34) (bm 71 637534207) rfl rfl HT_.out (by kernel_rfl) (fun _ _ _ h => h) (by rfl) (by intro w'; go_simp; with_reducible rfl) (by simp only [Act.put, zs1, zs2, zs3, i64_w, i32_w]; rfl) ?_
              refine tA 25 (some 30) (bm 71 671088639) rfl rfl HT_.out HW_.out (by kernel_rfl) (fun _ _ _ h => h) (by rfl) hHeld (by rintro w' ⟨s0, s1, s2, s3, s4, s5, s6, s7, s8, s9, s10, s11, s12, s13, s14⟩; go_simp; with_reducible rfl) (by simp only [Act.put, zs1, zs2, zs3, i64_w, i32_w]; rfl) ?_
              refine tA 27 (some 32) (bm 71 805306367) rfl rfl HT_.out HW_.out (by kernel_rfl) (fun _ _ _ h => h) (by rfl) hHeld (by rintro w' ⟨s0, s1, s2, s3, s4, s5, s6, s7, s8, s9, s10, s11, s12, s13, s14⟩; go_simp; with_reducible rfl) (by simp only [Act.put, zs1, zs2, zs3, i64_w, i32_w]; rfl) ?_
              refine tA 30 (some 35) (bm 71 1879048191) rfl rfl HT_.out HW_.out (by kernel_rfl) (fun _ _ _ h => h) (by rfl) hHeld (by rintro w' ⟨s0, s1, s2, s3, s4, s5, s6, s7, s8, s9, s10, s11, s12, s13, s14⟩; go_simp; with_reducible rfl) (by simp only [Act.put, zs1, zs2, zs3, i64_w, i32_w]; rfl) ?_
              refine pA 31 (some 36) (bm 71 4026531839) rfl rfl HT_.out (by kernel_rfl) (fun _ _ _ h => h) (by rfl) (by intro w'; go_simp; with_reducible rfl) (by simp only [Act.put, zs1, zs2, zs3, i64_w, i32_w]; rfl) ?_
              refine one_ (i := 28) (N := some 33) (bm 71 4294967295) rfl rfl (one_of HT_.out (by kernel_rfl)) (by decide) (fun K hK => ?_)
              refine goes_ Try.func82 (by kernel_rfl) rfl #[.int .i64 a1_1, .int .i64 a1_0] (by rfl) rfl rfl (by (try simp only [List.map_toArray, List.map_cons, List.map_nil]); first | done | rfl | (simp only [List.length_drop, List.length_take]; rfl)) ?_
              with_reducible refine (spec_NumFar.calls a1_1 a1_0 t129 _ A15.out).mono ?_
              rintro e w' ⟨rfl, ⟨nd, rfl⟩⟩
              refine ⟨_, rfl, ?_⟩
              refine hK.out _ _ ⟨(zr4 BK124.out 0).trans rfl, (zr4 BK124.out 1).trans rfl, (zr4 BK124.out 2).trans rfl, (zr4 BK124.out 3).trans rfl, (zr4 BK124.out 4).trans rfl, (zr4 BK125.out 0).trans rfl, (zr4 BK125.out 1).trans rfl, (zr4 BK125.out 2).trans rfl, (zr4 BK125.out 3).trans rfl, (zr4 BK125.out 4).trans rfl, (zr4 BK125.out 5).trans rfl, (zr4 BK125.out 6).trans rfl, (zr4 BK125.out 7).trans rfl, (zr4 BK125.out 8).trans rfl, (zr4 BK125.out 9).trans rfl⟩ (fun hHeld => ?_)
              clear hK K
              refine norm_ (a' := ?_) ?_ ?_
              rotate_left
              · show Act.put _ (some 33) _ = _
                simp only [Act.put, zs1, zs2, zs3, i64_w, i32_w]
                rfl
              refine pA 32 (some 37) (bm 71 8589934591) rfl rfl HT_.out (by kernel_rfl) (fun _ _ _ h => h) (by rfl) (by intro w'; go_simp; with_reducible rfl) (by simp only [Act.put, zs1, zs2, zs3, i64_w, i32_w]; rfl) ?_
              refine pA 33 (some 38) (bm 71 17179869183) rfl rfl HT_.out (by kernel_rfl) (fun _ _ _ h => h) (by rfl) (by intro w'; go_simp; with_reducible rfl) (by simp only [Act.put, zs1, zs2, zs3, i64_w, i32_w]; rfl) ?_
              refine pA 34 (some 39) (bm 71 34359738367) rfl rfl HT_.out (by kernel_rfl) (fun _ _ _ h => h) (by rfl) (by intro w'; go_simp; with_reducible rfl) (by simp only [Act.put, zs1, zs2, zs3, i64_w, i32_w]; rfl) ?_
              refine pB 35 (some 40) (bm 71 68719476735) rfl rfl HT_.out (by kernel_rfl) (fun _ _ _ h => h) (by rfl) (by simp only [Act.put, zs1, zs2, zs3, i64_w, i32_w]; rfl) ?_
              refine pB 36 (some 41) (bm 71 137438953471) rfl rfl HT_.out (by kernel_rfl) (fun _ _ _ h => h) (by rfl) (by simp only [Act.put, zs1, zs2, zs3, i64_w, i32_w]; rfl) ?_
              refine pB 37 (some 42) (bm 71 274877906943) rfl rfl HT_.out (by kernel_rfl) (fun _ _ _ h => h) (by rfl) (by simp only [Act.put, zs1, zs2, zs3, i64_w, i32_w]; rfl) ?_
              refine pB 38 (some 43) (bm 71 549755813887) rfl rfl HT_.out (by kernel_rfl) (fun _ _ _ h => h) (by rfl) (by simp only [Act.put, zs1, zs2, zs3, i64_w, i32_w]; rfl) ?_
              refine pB 39 (some 44) (bm 71 1099511627775) rfl rfl HT_.out (by kernel_rfl) (fun _ _ _ h => h) (by rfl) (by simp only [Act.put, zs1, zs2, zs3, i64_w, i32_w]; rfl) ?_
              refine pB 40 (some 45) (bm 71 2199023255551) rfl rfl HT_.out (by kernel_rfl) (fun _ _ _ h => h) (by rfl) (by simp only [Act.put, zs1, zs2, zs3, i64_w, i32_w]; rfl) ?_
              refine pB 41 (some 46) (bm 71 4398046511103) rfl rfl HT_.out (by kernel_rfl) (fun _ _ _ h => h) (by rfl) (by simp only [Act.put, zs1, zs2, zs3, i64_w, i32_w]; rfl) ?_
              refine pA 42 (some 47) (bm 71 8796093022207) rfl rfl HT_.out (by kernel_rfl) (fun _ _ _ h => h) (by rfl) (by intro w'; go_simp; with_reducible rfl) (by simp only [Act.put, zs1, zs2, zs3, i64_w, i32_w]; rfl) ?_
              refine pA 43 (some 48) (bm 71 17592186044415) rfl rfl HT_.out (by kernel_rfl) (fun _ _ _ h => h) (by rfl) (by intro w'; go_simp; with_reducible rfl) (by simp only [Act.put, zs1, zs2, zs3, i64_w, i32_w]; rfl) ?_
              refine pB 44 (some 49) (bm 71 35184372088831) rfl rfl HT_.out (by kernel_rfl) (fun _ _ _ h => h) (by rfl) (by simp only [Act.put, zs1, zs2, zs3, i64_w, i32_w]; rfl) ?_
              refine pB 45 (some 50) (bm 71 70368744177663) rfl rfl HT_.out (by kernel_rfl) (fun _ _ _ h => h) (by rfl) (by simp only [Act.put, zs1, zs2, zs3, i64_w, i32_w]; rfl) ?_
              refine pB 46 (some 51) (bm 71 140737488355327) rfl rfl HT_.out (by kernel_rfl) (fun _ _ _ h => h) (by rfl) (by simp only [Act.put, zs1, zs2, zs3, i64_w, i32_w]; rfl) ?_
              refine pB 47 (some 52) (bm 71 281474976710655) rfl rfl HT_.out (by kernel_rfl) (fun _ _ _ h => h) (by rfl) (by simp only [Act.put, zs1, zs2, zs3, i64_w, i32_w]; rfl) ?_
              refine pA 48 (some 53) (bm 71 562949953421311) rfl rfl HT_.out (by kernel_rfl) (fun _ _ _ h => h) (by rfl) (by intro w'; go_simp; with_reducible rfl) (by simp only [Act.put, zs1, zs2, zs3, i64_w, i32_w]; rfl) ?_
              refine pA 49 (some 54) (bm 71 1125899906842623) rfl rfl HT_.out (by kernel_rfl) (fun _ _ _ h => h) (by rfl) (by intro w'; go_simp; with_reducible rfl) (by simp only [Act.put, zs1, zs2, zs3, i64_w, i32_w]; rfl) ?_
              refine pB 50 (some 55) (bm 71 2251799813685247) rfl rfl HT_.out (by kernel_rfl) (fun _ _ _ h => h) (by rfl) (by simp only [Act.put, zs1, zs2, zs3, i64_w, i32_w]; rfl) ?_
              refine pB 51 (some 56) (bm 71 4503599627370495) rfl rfl HT_.out (by kernel_rfl) (fun _ _ _ h => h) (by rfl) (by simp only [Act.put, zs1, zs2, zs3, i64_w, i32_w]; rfl) ?_
              refine pB 52 (some 57) (bm 71 9007199254740991) rfl rfl HT_.out (by kernel_rfl) (fun _ _ _ h => h) (by rfl) (by simp only [Act.put, zs1, zs2, zs3, i64_w, i32_w]; rfl) ?_
              refine pB 53 (some 58) (bm 71 18014398509481983) rfl rfl HT_.out (by kernel_rfl) (fun _ _ _ h => h) (by rfl) (by simp only [Act.put, zs1, zs2, zs3, i64_w, i32_w]; rfl) ?_
              refine pB 54 (some 59) (bm 71 36028797018963967) rfl rfl HT_.out (by kernel_rfl) (fun _ _ _ h => h) (by rfl) (by simp only [Act.put, zs1, zs2, zs3, i64_w, i32_w]; rfl) ?_
              refine pB 55 (some 60) (bm 71 72057594037927935) rfl rfl HT_.out (by kernel_rfl) (fun _ _ _ h => h) (by rfl) (by simp only [Act.put, zs1, zs2, zs3, i64_w, i32_w]; rfl) ?_
              refine pA 56 (some 61) (bm 71 144115188075855871) rfl rfl HT_.out (by kernel_rfl) (fun _ _ _ h => h) (by rfl) (by intro w'; go_simp; with_reducible rfl) (by simp only [Act.put, zs1, zs2, zs3, i64_w, i32_w]; rfl) ?_
              refine pA 57 (some 62) (bm 71 288230376151711743) rfl rfl HT_.out (by kernel_rfl) (fun _ _ _ h => h) (by rfl) (by intro w'; go_simp; with_reducible rfl) (by simp only [Act.put, zs1, zs2, zs3, i64_w, i32_w]; rfl) ?_
              refine pB 58 (some 63) (bm 71 576460752303423487) rfl rfl HT_.out (by kernel_rfl) (fun _ _ _ h => h) (by rfl) (by simp only [Act.put, zs1, zs2, zs3, i64_w, i32_w]; rfl) ?_
              refine pB 59 (some 64) (bm 71 1152921504606846975) rfl rfl HT_.out (by kernel_rfl) (fun _ _ _ h => h) (by rfl) (by simp only [Act.put, zs1, zs2, zs3, i64_w, i32_w]; rfl) ?_
              refine pB 60 (some 65) (bm 71 2305843009213693951) rfl rfl HT_.out (by kernel_rfl) (fun _ _ _ h => h) (by rfl) (by simp only [Act.put, zs1, zs2, zs3, i64_w, i32_w]; rfl) ?_
              refine pB 61 (some 66) (bm 71 4611686018427387903) rfl rfl HT_.out (by kernel_rfl) (fun _ _ _ h => h) (by rfl) (by simp only [Act.put, zs1, zs2, zs3, i64_w, i32_w]; rfl) ?_
              refine pA 62 (some 67) (bm 71 9223372036854775807) rfl rfl HT_.out (by kernel_rfl) (fun _ _ _ h => h) (by rfl) (by intro w'; go_simp; with_reducible rfl) (by simp only [Act.put, zs1, zs2, zs3, i64_w, i32_w]; rfl) ?_
              refine pA 63 (some 68) (bm 71 18446744073709551615) rfl rfl HT_.out (by kernel_rfl) (fun _ _ _ h => h) (by rfl) (by intro w'; go_simp; with_reducible rfl) (by simp only [Act.put, zs1, zs2, zs3, i64_w, i32_w]; rfl) ?_
              refine pB 64 (some 69) (bm 71 36893488147419103231) rfl rfl HT_.out (by kernel_rfl) (fun _ _ _ h => h) (by rfl) (by simp only [Act.put, zs1, zs2, zs3, i64_w, i32_w]; rfl) ?_
              refine pB 65 (some 70) (bm 71 73786976294838206463) rfl rfl HT_.out (by kernel_rfl) (fun _ _ _ h => h) (by rfl) (by simp only [Act.put, zs1, zs2, zs3, i64_w, i32_w]; rfl) ?_
              refine pB 66 (some 71) (bm 71 147573952589676412927) rfl rfl HT_.out (by kernel_rfl) (fun _ _ _ h => h) (by rfl) (by simp only [Act.put, zs1, zs2, zs3, i64_w, i32_w]; rfl) ?_
              refine pB 67 (some 72) (bm 71 295147905179352825855) rfl rfl HT_.out (by kernel_rfl) (fun _ _ _ h => h) (by rfl) (by simp only [Act.put, zs1, zs2, zs3, i64_w, i32_w]; rfl) ?_
              refine pB 68 (some 73) (bm 71 590295810358705651711) rfl rfl HT_.out (by kernel_rfl) (fun _ _ _ h => h) (by rfl) (by simp only [Act.put, zs1, zs2, zs3, i64_w, i32_w]; rfl) ?_
              refine pB 69 (some 74) (bm 71 1180591620717411303423) rfl rfl HT_.out (by kernel_rfl) (fun _ _ _ h => h) (by rfl) (by simp only [Act.put, zs1, zs2, zs3, i64_w, i32_w]; rfl) ?_
              refine pA 70 (some 75) (bm 71 2361183241434822606847) rfl rfl HT_.out (by kernel_rfl) (fun _ _ _ h => h) (by rfl) (by intro w'; go_simp; with_reducible rfl) (by simp only [Act.put, zs1, zs2, zs3, i64_w, i32_w]; rfl) ?_
              refine done_ (done_of HT_.out (by kernel_rfl)) ?_
              try go_wp2
              go_meet
              case rel => exact ⟨_, (true), (by first | rfl | (simp; done) | (simp [*]; done)), H', ⟨by first | omega | exact Nat.le_refl _⟩, ⟨by (with_reducible repeat (first | refine zq1 ?_ _ | refine zq2 ?_ | refine zq3 ?_ _)); exact BK124.out⟩, ⟨by (with_reducible repeat (first | refine zq1 ?_ _ | refine zq2 ?_ | refine zq3 ?_ _)); exact BK125.out⟩, ⟨by repeat (first | (with_reducible first | exact HB.out | apply zq7 | apply zq8 | apply zq9 | refine zr1 ?_ GE124.out | refine zr1 ?_ GE125.out) | exact HB.out)⟩⟩
        · replace c11 := Bool.eq_false_iff.mpr c11
          subst c11
          have H1 : (spec_TxOk.j0 k true a0_0 a0_1 a0_2 a0_3 a0_4 a1_0 a1_1 l1_2 a1_3 l1_4 a1_5 a1_6 a1_7 a1_8 a1_9) = some r := by rw [if_neg (show ¬ (false = true) by decide)] at H; exact H
          clear H
          have H := H1
          clear H1
          have H' := mk_ H
          clear H
          try go_wp2
          replace BK124 := mk_ (zq2 BK124.out)
          replace BK125 := mk_ (zq2 BK125.out)
          replace HB := mk_ (zq9 HB.out)
          refine start_ (n := 71) (S := fun w' => w'.cell? ⟨gb124, 0, none⟩ = some (.int .i64 a0_0) ∧ w'.cell? ⟨gb124, 1, none⟩ = some (.int .i64 a0_1) ∧ w'.cell? ⟨gb124, 2, none⟩ = some (.int .i64 a0_2) ∧ w'.cell? ⟨gb124, 3, none⟩ = some (.int .i64 a0_3) ∧ w'.cell? ⟨gb124, 4, none⟩ = some (.int .i64 a0_4) ∧ w'.cell? ⟨gb125, 0, none⟩ = some (.int .i64 a1_0) ∧ w'.cell? ⟨gb125, 1, none⟩ = some (.int .i64 a1_1) ∧ w'.cell? ⟨gb125, 2, none⟩ = some (.slice A1_2 l1_2.length c1_2) ∧ w'.cell? ⟨gb125, 3, none⟩ = some (.int .i64 a1_3) ∧ w'.cell? ⟨gb125, 4, none⟩ = some (.slice A1_4 l1_4.length c1_4) ∧ w'.cell? ⟨gb125, 5, none⟩ = some (.bool a1_5) ∧ w'.cell? ⟨gb125, 6, none⟩ = some (.int .i64 a1_6) ∧ w'.cell? ⟨gb125, 7, none⟩ = some (.bool a1_7) ∧ w'.cell? ⟨gb125, 8, none⟩ = some (.int .i64 a1_8) ∧ w'.cell? ⟨gb125, 9, none⟩ = some (.bool a1_9)) (ds := []) (bm 71 0) (by kernel_rfl) rfl rfl ⟨(zr4 BK124.out 0).trans rfl, (zr4 BK124.out 1).trans rfl, (zr4 BK124.out 2).trans rfl, (zr4 BK124.out 3).trans rfl, (zr4 BK124.out 4).trans rfl, (zr4 BK125.out 0).trans rfl, (zr4 BK125.out 1).trans rfl, (zr4 BK125.out 2).trans rfl, (zr4 BK125.out 3).trans rfl, (zr4 BK125.out 4).trans rfl, (zr4 BK125.out 5).trans rfl, (zr4 BK125.out 6).trans rfl, (zr4 BK125.out 7).trans rfl, (zr4 BK125.out 8).trans rfl, (zr4 BK125.out 9).trans rfl⟩ (fun hHeld => ?_); refine with_tabW spec_TxOk.tab1 spec_TxOk.bits1 (fun HT_ HW_ => ?_)
          generalize w5.drew = w37 at BK124 BK125 HB hHeld ⊢
          refine tA 0 (some 5) (bm 71 1) rfl rfl HT_.out HW_.out (by kernel_rfl) (fun _ _ _ h => h) (by rfl) hHeld (by rintro w' ⟨s0, s1, s2, s3, s4, s5, s6, s7, s8, s9, s10, s11, s12, s13, s14⟩; go_simp; with_reducible rfl) (by simp only [Act.put, zs1, zs2, zs3, i64_w, i32_w]; rfl) ?_
          refine one_ (i := 1) (N := some 6) (bm 71 3) rfl rfl (one_of HT_.out (by kernel_rfl)) (by decide) (fun K hK => ?_)
          refine goes_ Try.func81 (by kernel_rfl) rfl #[.agg #[.int .i64 a0_0, .int .i64 a0_1, .int .i64 a0_2, .int .i64 a0_3, .int .i64 a0_4]] (by rfl) rfl rfl (by (try simp only [List.map_toArray, List.map_cons, List.map_nil]); first | done | rfl | (simp only [List.length_drop, List.length_take]; rfl)) ?_
          with_reducible refine (spec_CfgOk.calls a0_0 a0_1 a0_2 a0_3 a0_4 true _ A6.out).mono ?_
          rintro e w38 ⟨rfl, hb⟩
          refine ⟨_, rfl, ?_⟩
          replace BK124 := mk_ (zq6 (by exact BK124.out) hb)
          replace BK125 := mk_ (zq6 (by exact BK125.out) hb)
          replace HB := mk_ (zr3 (by repeat (first | (with_reducible first | exact HB.out | apply zq7 | apply zq8 | apply zq9 | refine zr1 ?_ GE124.out | refine zr1 ?_ GE125.out) | exact HB.out)) hb)
          (try clear hb)
          (try clear hb2)
          (try clear hk)
          (try clear hi)
          refine hK.out _ _ ⟨(zr4 BK124.out 0).trans rfl, (zr4 BK124.out 1).trans rfl, (zr4 BK124.out 2).trans rfl, (zr4 BK124.out 3).trans rfl, (zr4 BK124.out 4).trans rfl, (zr4 BK125.out 0).trans rfl, (zr4 BK125.out 1).trans rfl, (zr4 BK125.out 2).trans rfl, (zr4 BK125.out 3).trans rfl, (zr4 BK125.out 4).trans rfl, (zr4 BK125.out 5).trans rfl, (zr4 BK125.out 6).trans rfl, (zr4 BK125.out 7).trans rfl, (zr4 BK125.out 8).trans rfl, (zr4 BK125.out 9).trans rfl⟩ (fun hHeld => ?_)
          clear hK K
          refine norm_ (a' := ?_) ?_ ?_
          rotate_left
          · show Act.put _ (some 6) _ = _
            simp only [Act.put, zs1, zs2, zs3, i64_w, i32_w]
            rfl
          refine pA 2 (some 7) (bm 71 7) rfl rfl HT_.out (by kernel_rfl) (fun _ _ _ h => h) (by rfl) (by intro w'; go_simp; with_reducible rfl) (by simp only [Act.put, zs1, zs2, zs3, i64_w, i32_w]; rfl) ?_
          refine pA 3 (some 8) (bm 71 15) rfl rfl HT_.out (by kernel_rfl) (fun _ _ _ h => h) (by rfl) (by intro w'; go_simp; with_reducible rfl) (by simp only [Act.put, zs1, zs2, zs3, i64_w, i32_w]; rfl) ?_
          refine pA 4 (some 9) (bm 71 31) rfl rfl HT_.out (by kernel_rfl) (fun _ _ _ h => h) (by rfl) (by intro w'; go_simp; with_reducible rfl) (by simp only [Act.put, zs1, zs2, zs3, i64_w, i32_w]; rfl) ?_
          refine tA 5 (some 10) (bm 71 63) rfl rfl HT_.out HW_.out (by kernel_rfl) (fun _ _ _ h => h) (by rfl) hHeld (by rintro w' ⟨s0, s1, s2, s3, s4, s5, s6, s7, s8, s9, s10, s11, s12, s13, s14⟩; go_simp; with_reducible rfl) (by simp only [Act.put, zs1, zs2, zs3, i64_w, i32_w]; rfl) ?_
          refine one_ (i := 6) (N := some 11) (bm 71 127) rfl rfl (one_of HT_.out (by kernel_rfl)) (by decide) (fun K hK => ?_)
          refine goes_ Try.func64 (by kernel_rfl) rfl #[.int .i64 a1_0, .int .i64 0, .int .i64 7] (by rfl) rfl rfl (by (try simp only [List.map_toArray, List.map_cons, List.map_nil]); first | done | rfl | (simp only [List.length_drop, List.length_take]; rfl)) ?_
          with_reducible refine (spec_l1In.calls a1_0 0 7 true _ A8.out).mono ?_
          rintro e w' ⟨rfl, ⟨nd, rfl⟩⟩
          refine ⟨_, rfl, ?_⟩
          refine hK.out _ _ ⟨(zr4 BK124.out 0).trans rfl, (zr4 BK124.out 1).trans rfl, (zr4 BK124.out 2).trans rfl, (zr4 BK124.out 3).trans rfl, (zr4 BK124.out 4).trans rfl, (zr4 BK125.out 0).trans rfl, (zr4 BK125.out 1).trans rfl, (zr4 BK125.out 2).trans rfl, (zr4 BK125.out 3).trans rfl, (zr4 BK125.out 4).trans rfl, (zr4 BK125.out 5).trans rfl, (zr4 BK125.out 6).trans rfl, (zr4 BK125.out 7).trans rfl, (zr4 BK125.out 8).trans rfl, (zr4 BK125.out 9).trans rfl⟩ (fun hHeld => ?_)
          clear hK K
          refine norm_ (a' := ?_) ?_ ?_
          rotate_left
          · show Act.put _ (some 11) _ = _
            simp only [Act.put, zs1, zs2, zs3, i64_w, i32_w]
            rfl
          refine pA 7 (some 12) (bm 71 255) rfl rfl HT_.out (by kernel_rfl) (fun _ _ _ h => h) (by rfl) (by intro w'; go_simp; with_reducible rfl) (by simp only [Act.put, zs1, zs2, zs3, i64_w, i32_w]; rfl) ?_
          refine pA 8 (some 13) (bm 71 511) rfl rfl HT_.out (by kernel_rfl) (fun _ _ _ h => h) (by rfl) (by intro w'; go_simp; with_reducible rfl) (by simp only [Act.put, zs1, zs2, zs3, i64_w, i32_w]; rfl) ?_
          refine pA 9 (some 14) (bm 71 1023) rfl rfl HT_.out (by kernel_rfl) (fun _ _ _ h => h) (by rfl) (by intro w'; go_simp; with_reducible rfl) (by simp only [Act.put, zs1, zs2, zs3, i64_w, i32_w]; rfl) ?_
          refine pA 10 (some 15) (bm 71 2047) rfl rfl HT_.out (by kernel_rfl) (fun _ _ _ h => h) (by rfl) (by intro w'; go_simp; with_reducible rfl) (by simp only [Act.put, zs1, zs2, zs3, i64_w, i32_w]; rfl) ?_
          refine tA 11 (some 16) (bm 71 4095) rfl rfl HT_.out HW_.out (by kernel_rfl) (fun _ _ _ h => h) (by rfl) hHeld (by rintro w' ⟨s0, s1, s2, s3, s4, s5, s6, s7, s8, s9, s10, s11, s12, s13, s14⟩; go_simp; with_reducible rfl) (by simp only [Act.put, zs1, zs2, zs3, i64_w, i32_w]; rfl) ?_
          refine one_ (i := 12) (N := some 17) (bm 71 8191) rfl rfl (one_of HT_.out (by kernel_rfl)) (by decide) (fun K hK => ?_)
          refine goes_ Try.func64 (by kernel_rfl) rfl #[.int .i64 a1_1, .int .i64 0, .int .i64 7] (by rfl) rfl rfl (by (try simp only [List.map_toArray, List.map_cons, List.map_nil]); first | done | rfl | (simp only [List.length_drop, List.length_take]; rfl)) ?_
          with_reducible refine (spec_l1In.calls a1_1 0 7 false _ A10.out).mono ?_
          rintro e w' ⟨rfl, ⟨nd, rfl⟩⟩
          refine ⟨_, rfl, ?_⟩
          refine hK.out _ _ ⟨(zr4 BK124.out 0).trans rfl, (zr4 BK124.out 1).trans rfl, (zr4 BK124.out 2).trans rfl, (zr4 BK124.out 3).trans rfl, (zr4 BK124.out 4).trans rfl, (zr4 BK125.out 0).trans rfl, (zr4 BK125.out 1).trans rfl, (zr4 BK125.out 2).trans rfl, (zr4 BK125.out 3).trans rfl, (zr4 BK125.out 4).trans rfl, (zr4 BK125.out 5).trans rfl, (zr4 BK125.out 6).trans rfl, (zr4 BK125.out 7).trans rfl, (zr4 BK125.out 8).trans rfl, (zr4 BK125.out 9).trans rfl⟩ (fun hHeld => ?_)
          clear hK K
          refine norm_ (a' := ?_) ?_ ?_
          rotate_left
          · show Act.put _ (some 17) _ = _
            simp only [Act.put, zs1, zs2, zs3, i64_w, i32_w]
            rfl
          refine pA 13 (some 18) (bm 71 16383) rfl rfl HT_.out (by kernel_rfl) (fun _ _ _ h => h) (by rfl) (by intro w'; go_simp; with_reducible rfl) (by simp only [Act.put, zs1, zs2, zs3, i64_w, i32_w]; rfl) ?_
          refine pA 14 (some 19) (bm 71 32767) rfl rfl HT_.out (by kernel_rfl) (fun _ _ _ h => h) (by rfl) (by intro w'; go_simp; with_reducible rfl) (by simp only [Act.put, zs1, zs2, zs3, i64_w, i32_w]; rfl) ?_
          refine pA 15 (some 20) (bm 71 65535) rfl rfl HT_.out (by kernel_rfl) (fun _ _ _ h => h) (by rfl) (by intro w'; go_simp; with_reducible rfl) (by simp only [Act.put, zs1, zs2, zs3, i64_w, i32_w]; rfl) ?_
          refine pB 16 (some 21) (bm 71 131071) rfl rfl HT_.out (by kernel_rfl) (fun _ _ _ h => h) (by rfl) (by simp only [Act.put, zs1, zs2, zs3, i64_w, i32_w]; rfl) ?_
          refine pB 17 (some 22) (bm 71 262143) rfl rfl HT_.out (by kernel_rfl) (fun _ _ _ h => h) (by rfl) (by simp only [Act.put, zs1, zs2, zs3, i64_w, i32_w]; rfl) ?_
          refine pB 18 (some 23) (bm 71 524287) rfl rfl HT_.out (by kernel_rfl) (fun _ _ _ h => h) (by rfl) (by simp only [Act.put, zs1, zs2, zs3, i64_w, i32_w]; rfl) ?_
          refine pB 19 (some 24) (bm 71 1048575) rfl rfl HT_.out (by kernel_rfl) (fun _ _ _ h => h) (by rfl) (by simp only [Act.put, zs1, zs2, zs3, i64_w, i32_w]; rfl) ?_
          refine pB 20 (some 25) (bm 71 2097151) rfl rfl HT_.out (by kernel_rfl) (fun _ _ _ h => h) (by rfl) (by simp only [Act.put, zs1, zs2, zs3, i64_w, i32_w]; rfl) ?_
          refine pB 21 (some 26) (bm 71 4194303) rfl rfl HT_.out (by kernel_rfl) (fun _ _ _ h => h) (by rfl) (by simp only [Act.put, zs1, zs2, zs3, i64_w, i32_w]; rfl) ?_
          refine pA 22 (some 27) (bm 71 8388607) rfl rfl HT_.out (by kernel_rfl) (fun _ _ _ h => h) (by rfl) (by intro w'; go_simp; with_reducible rfl) (by simp only [Act.put, zs1, zs2, zs3, i64_w, i32_w]; rfl) ?_
          refine pA 23 (some 28) (bm 71 16777215) rfl rfl HT_.out (by kernel_rfl) (fun _ _ _ h => h) (by rfl) (by intro w'; go_simp; with_reducible rfl) (by simp only [Act.put, zs1, zs2, zs3, i64_w, i32_w]; rfl) ?_
          refine pB 24 (some 29) (bm 71 33554431) rfl rfl HT_.out (by kernel_rfl) (fun _ _ _ h => h) (by rfl) (by simp only [Act.put, zs1, zs2, zs3, i64_w, i32_w]; rfl) ?_
          refine pB 25 (some 30) (bm 71 67108863) rfl rfl HT_.out (by kernel_rfl) (fun _ _ _ h => h) (by rfl) (by simp only [Act.put, zs1, zs2, zs3, i64_w, i32_w]; rfl) ?_
          refine pB 26 (some 31) (bm 71 134217727) rfl rfl HT_.out (by kernel_rfl) (fun _ _ _ h => h) (by rfl) (by simp only [Act.put, zs1, zs2, zs3, i64_w, i32_w]; rfl) ?_
          refine pB 27 (some 32) (bm 71 268435455) rfl rfl HT_.out (by kernel_rfl) (fun _ _ _ h => h) (by rfl) (by simp only [Act.put, zs1, zs2, zs3, i64_w, i32_w]; rfl) ?_
          refine pB 28 (some 33) (bm 71 536870911) rfl rfl HT_.out (by kernel_rfl) (fun _ _ _ h => h) (by rfl) (by simp only [Act.put, zs1, zs2, zs3, i64_w, i32_w]; rfl) ?_
          refine pB 29 (some 34) (bm 71 1073741823) rfl rfl HT_.out (by kernel_rfl) (fun _ _ _ h => h) (by rfl) (by simp only [Act.put, zs1, zs2, zs3, i64_w, i32_w]; rfl) ?_
          refine pB 30 (some 35) (bm 71 2147483647) rfl rfl HT_.out (by kernel_rfl) (fun _ _ _ h => h) (by rfl) (by simp only [Act.put, zs1, zs2, zs3, i64_w, i32_w]; rfl) ?_
          refine pB 31 (some 36) (bm 71 4294967295) rfl rfl HT_.out (by kernel_rfl) (fun _ _ _ h => h) (by rfl) (by simp only [Act.put, zs1, zs2, zs3, i64_w, i32_w]; rfl) ?_
          refine pB 32 (some 37) (bm 71 8589934591) rfl rfl HT_.out (by kernel_rfl) (fun _ _ _ h => h) (by rfl) (by simp only [Act.put, zs1, zs2, zs3, i64_w, i32_w]; rfl) ?_
          refine pA 33 (some 38) (bm 71 17179869183) rfl rfl HT_.out (by kernel_rfl) (fun _ _ _ h => h) (by rfl) (by intro w'; go_simp; with_reducible rfl) (by simp only [Act.put, zs1, zs2, zs3, i64_w, i32_w]; rfl) ?_
          refine pA 34 (some 39) (bm 71 34359738367) rfl rfl HT_.out (by kernel_rfl) (fun _ _ _ h => h) (by rfl) (by intro w'; go_simp; with_reducible rfl) (by simp only [Act.put, zs1, zs2, zs3, i64_w, i32_w]; rfl) ?_
          refine pB 35 (some 40) (bm 71 68719476735) rfl rfl HT_.out (by kernel_rfl) (fun _ _ _ h => h) (by rfl) (by simp only [Act.put, zs1, zs2, zs3, i64_w, i32_w]; rfl) ?_
          refine pB 36 (some 41) (bm 71 137438953471) rfl rfl HT_.out (by kernel_rfl) (fun _ _ _ h => h) (by rfl) (by simp only [Act.put, zs1, zs2, zs3, i64_w, i32_w]; rfl) ?_
          refine pB 37 (some 42) (bm 71 274877906943) rfl rfl HT_.out (by kernel_rfl) (fun _ _ _ h => h) (by rfl) (by simp only [Act.put, zs1, zs2, zs3, i64_w, i32_w]; rfl) ?_
          refine pB 38 (some 43) (bm 71 549755813887) rfl rfl HT_.out (by kernel_rfl) (fun _ _ _ h => h) (by rfl) (by simp only [Act.put, zs1, zs2, zs3, i64_w, i32_w]; rfl) ?_
          refine pB 39 (some 44) (bm 71 1099511627775) rfl rfl HT_.out (by kernel_rfl) (fun _ _ _ h => h) (by rfl) (by simp only [Act.put, zs1, zs2, zs3, i64_w, i32_w]; rfl) ?_
          refine pB 40 (some 45) (bm 71 2199023255551) rfl rfl HT_.out (by kernel_rfl) (fun _ _ _ h => h) (by rfl) (by simp only [Act.put, zs1, zs2, zs3, i64_w, i32_w]; rfl) ?_
          refine pB 41 (some 46) (bm 71 4398046511103) rfl rfl HT_.out (by kernel_rfl) (fun _ _ _ h => h) (by rfl) (by simp only [Act.put, zs1, zs2, zs3, i64_w, i32_w]; rfl) ?_
          refine pA 42 (some 47) (bm 71 8796093022207) rfl rfl HT_.out (by kernel_rfl) (fun _ _ _ h => h) (by rfl) (by intro w'; go_simp; with_reducible rfl) (by simp only [Act.put, zs1, zs2, zs3, i64_w, i32_w]; rfl) ?_
          refine pA 43 (some 48) (bm 71 17592186044415) rfl rfl HT_.out (by kernel_rfl) (fun _ _ _ h => h) (by rfl) (by intro w'; go_simp; with_reducible rfl) (by simp only [Act.put, zs1, zs2, zs3, i64_w, i32_w]; rfl) ?_
          refine pB 44 (some 49) (bm 71 35184372088831) rfl rfl HT_.out (by kernel_rfl) (fun _ _ _ h => h) (by rfl) (by simp only [Act.put, zs1, zs2, zs3, i64_w, i32_w]; rfl) ?_
          refine pB 45 (some 50) (bm 71 70368744177663) rfl rfl HT_.out (by kernel_rfl) (fun _ _ _ h => h) (by rfl) (by simp only [Act.put, zs1, zs2, zs3, i64_w, i32_w]; rfl) ?_
          refine pB 46 (some 51) (bm 71 140737488355327) rfl rfl HT_.out (by kernel_rfl) (fun _ _ _ h => h) (by rfl) (by simp only [Act.put, zs1, zs2, zs3, i64_w, i32_w]; rfl) ?_
          refine pB 47 (some 52) (bm 71 281474976710655) rfl rfl HT_.out (by kernel_rfl) (fun _ _ _ h => h) (by rfl) (by simp only [Act.put, zs1, zs2, zs3, i64_w, i32_w]; rfl) ?_
          refine pA 48 (some 53) (bm 71 562949953421311) rfl rfl HT_.out (by kernel_rfl) (fun _ _ _ h => h) (by rfl) (by intro w'; go_simp; with_reducible rfl) (by simp only [Act.put, zs1, zs2, zs3, i64_w, i32_w]; rfl) ?_
          refine pA 49 (some 54) (bm 71 1125899906842623) rfl rfl HT_.out (by kernel_rfl) (fun _ _ _ h => h) (by rfl) (by intro w'; go_simp; with_reducible rfl) (by simp only [Act.put, zs1, zs2, zs3, i64_w, i32_w]; rfl) ?_
          refine pB 50 (some 55) (bm 71 2251799813685247) rfl rfl HT_.out (by kernel_rfl) (fun _ _ _ h => h) (by rfl) (by simp only [Act.put, zs1, zs2, zs3, i64_w, i32_w]; rfl) ?_
          refine pB 51 (some 56) (bm 71 4503599627370495) rfl rfl HT_.out (by kernel_rfl) (fun _ _ _ h => h) (by rfl) (by simp only [Act.put, zs1, zs2, zs3, i64_w, i32_w]; rfl) ?_
          refine pB 52 (some 57) (bm 71 9007199254740991) rfl rfl HT_.out (by kernel_rfl) (fun _ _ _ h => h) (by rfl) (by simp only [Act.put, zs1, zs2, zs3, i64_w, i32_w]; rfl) ?_
          refine pB 53 (some 58) (bm 71 18014398509481983) rfl rfl HT_.out (by kernel_rfl) (fun _ _ _ h => h) (by rfl) (by simp only [Act.put, zs1, zs2, zs3, i64_w, i32_w]; rfl) ?_
          refine pB 54 (some 59) (bm 71 36028797018963967) rfl rfl HT_.out (by kernel_rfl) (fun _ _ _ h => h) (by rfl) (by simp only [Act.put, zs1, zs2, zs3, i64_w, i32_w]; rfl) ?_
          refine pB 55 (some 60) (bm 71 72057594037927935) rfl rfl HT_.out (by kernel_rfl) (fun _ _ _ h => h) (by rfl) (by simp only [Act.put, zs1, zs2, zs3, i64_w, i32_w]; rfl) ?_
          refine pA 56 (some 61) (bm 71 144115188075855871) rfl rfl HT_.out (by kernel_rfl) (fun _ _ _ h => h) (by rfl) (by intro w'; go_simp; with_reducible rfl) (by simp only [Act.put, zs1, zs2, zs3, i64_w, i32_w]; rfl) ?_
          refine pA 57 (some 62) (bm 71 288230376151711743) rfl rfl HT_.out (by kernel_rfl) (fun _ _ _ h => h) (by rfl) (by intro w'; go_simp; with_reducible rfl) (by simp only [Act.put, zs1, zs2, zs3, i64_w, i32_w]; rfl) ?_
          refine pB 58 (some 63) (bm 71 576460752303423487) rfl rfl HT_.out (by kernel_rfl) (fun _ _ _ h => h) (by rfl) (by simp only [Act.put, zs1, zs2, zs3, i64_w, i32_w]; rfl) ?_
          refine pB 59 (some 64) (bm 71 1152921504606846975) rfl rfl HT_.out (by kernel_rfl) (fun _ _ _ h => h) (by rfl) (by simp only [Act.put, zs1, zs2, zs3, i64_w, i32_w]; rfl) ?_
          refine pB 60 (some 65) (bm 71 2305843009213693951) rfl rfl HT_.out (by kernel_rfl) (fun _ _ _ h => h) (by rfl) (by simp only [Act.put, zs1, zs2, zs3, i64_w, i32_w]; rfl) ?_
          refine pB 61 (some 66) (bm 71 4611686018427387903) rfl rfl HT_.out (by kernel_rfl) (fun _ _ _ h => h) (by rfl) (by simp only [Act.put, zs1, zs2, zs3, i64_w, i32_w]; rfl) ?_
          refine pA 62 (some 67) (bm 71 9223372036854775807) rfl rfl HT_.out (by kernel_rfl) (fun _ _ _ h => h) (by rfl) (by intro w'; go_simp; with_reducible rfl) (by simp only [Act.put, zs1, zs2, zs3, i64_w, i32_w]; rfl) ?_
          refine pA 63 (some 68) (bm 71 18446744073709551615) rfl rfl HT_.out (by kernel_rfl) (fun _ _ _ h => h) (by rfl) (by intro w'; go_simp; with_reducible rfl) (by simp only [Act.put, zs1, zs2, zs3, i64_w, i32_w]; rfl) ?_
          refine pB 64 (some 69) (bm 71 36893488147419103231) rfl rfl HT_.out (by kernel_rfl) (fun _ _ _ h => h) (by rfl) (by simp only [Act.put, zs1, zs2, zs3, i64_w, i32_w]; rfl) ?_
          refine pB 65 (some 70) (bm 71 73786976294838206463) rfl rfl HT_.out (by kernel_rfl) (fun _ _ _ h => h) (by rfl) (by simp only [Act.put, zs1, zs2, zs3, i64_w, i32_w]; rfl) ?_
          refine pB 66 (some 71) (bm 71 147573952589676412927) rfl rfl HT_.out (by kernel_rfl) (fun _ _ _ h => h) (by rfl) (by simp only [Act.put, zs1, zs2, zs3, i64_w, i32_w]; rfl) ?_
          refine pB 67 (some 72) (bm 71 295147905179352825855) rfl rfl HT_.out (by kernel_rfl) (fun _ _ _ h => h) (by rfl) (by simp only [Act.put, zs1, zs2, zs3, i64_w, i32_w]; rfl) ?_
          refine pB 68 (some 73) (bm 71 590295810358705651711) rfl rfl HT_.out (by kernel_rfl) (fun _ _ _ h => h) (by rfl) (by simp only [Act.put, zs1, zs2, zs3, i64_w, i32_w]; rfl) ?_
          refine pB 69 (some 74) (bm 71 1180591620717411303423) rfl rfl HT_.out (by kernel_rfl) (fun _ _ _ h => h) (by rfl) (by simp only [Act.put, zs1, zs2, zs3, i64_w, i32_w]; rfl) ?_
          refine pA 70 (some 75) (bm 71 2361183241434822606847) rfl rfl HT_.out (by kernel_rfl) (fun _ _ _ h => h) (by rfl) (by intro w'; go_simp; with_reducible rfl) (by simp only [Act.put, zs1, zs2, zs3, i64_w, i32_w]; rfl) ?_
          refine done_ (done_of HT_.out (by kernel_rfl)) ?_
          try go_wp2
          go_meet
          case rel => exact ⟨_, (true), (by first | rfl | (simp; done) | (simp [*]; done)), H', ⟨by first | omega | exact Nat.le_refl _⟩, ⟨by (with_reducible repeat (first | refine zq1 ?_ _ | refine zq2 ?_ | refine zq3 ?_ _)); exact BK124.out⟩, ⟨by (with_reducible repeat (first | refine zq1 ?_ _ | refine zq2 ?_ | refine zq3 ?_ _)); exact BK125.out⟩, ⟨by repeat (first | (with_reducible first | exact HB.out | apply zq7 | apply zq8 | apply zq9 | refine zr1 ?_ GE124.out | refine zr1 ?_ GE125.out) | exact HB.out)⟩⟩
      · replace c9 := Bool.eq_false_iff.mpr c9
        subst c9
        have H1 : (spec_TxOk.j0 k true a0_0 a0_1 a0_2 a0_3 a0_4 a1_0 a1_1 l1_2 a1_3 l1_4 a1_5 a1_6 a1_7 a1_8 a1_9) = some r := by rw [if_neg (show ¬ (false = true) by decide)] at H; exact H
        clear H
        have H := H1
        clear H1
        have H' := mk_ H
        clear H
        try go_wp2
        replace BK124 := mk_ (zq2 BK124.out)
        replace BK125 := mk_ (zq2 BK125.out)
        replace HB := mk_ (zq9 HB.out)
        refine start_ (n := 71) (S := fun w' => w'.cell? ⟨gb124, 0, none⟩ = some (.int .i64 a0_0) ∧ w'.cell? ⟨gb124, 1, none⟩ = some (.int .i64 a0_1) ∧ w'.cell? ⟨gb124, 2, none⟩ = some (.int .i64 a0_2) ∧ w'.cell? ⟨gb124, 3, none⟩ = some (.int .i64 a0_3) ∧ w'.cell? ⟨gb124, 4, none⟩ = some (.int .i64 a0_4) ∧ w'.cell? ⟨gb125, 0, none⟩ = some (.int .i64 a1_0) ∧ w'.cell? ⟨gb125, 1, none⟩ = some (.int .i64 a1_1) ∧ w'.cell? ⟨gb125, 2, none⟩ = some (.slice A1_2 l1_2.length c1_2) ∧ w'.cell? ⟨gb125, 3, none⟩ = some (.int .i64 a1_3) ∧ w'.cell? ⟨gb125, 4, none⟩ = some (.slice A1_4 l1_4.length c1_4) ∧ w'.cell? ⟨gb125, 5, none⟩ = some (.bool a1_5) ∧ w'.cell? ⟨gb125, 6, none⟩ = some (.int .i64 a1_6) ∧ w'.cell? ⟨gb125, 7, none⟩ = some (.bool a1_7) ∧ w'.cell? ⟨gb125, 8, none⟩ = some (.int .i64 a1_8) ∧ w'.cell? ⟨gb125, 9, none⟩ = some (.bool a1_9)) (ds := []) (bm 71 0) (by kernel_rfl) rfl rfl ⟨(zr4 BK124.out 0).trans rfl, (zr4 BK124.out 1).trans rfl, (zr4 BK124.out 2).trans rfl, (zr4 BK124.out 3).trans rfl, (zr4 BK124.out 4).trans rfl, (zr4 BK125.out 0).trans rfl, (zr4 BK125.out 1).trans rfl, (zr4 BK125.out 2).trans rfl, (zr4 BK125.out 3).trans rfl, (zr4 BK125.out 4).trans rfl, (zr4 BK125.out 5).trans rfl, (zr4 BK125.out 6).trans rfl, (zr4 BK125.out 7).trans rfl, (zr4 BK125.out 8).trans rfl, (zr4 BK125.out 9).trans rfl⟩ (fun hHeld => ?_); refine with_tabW spec_TxOk.tab1 spec_TxOk.bits1 (fun HT_ HW_ => ?_)
        generalize w5.drew = w39 at BK124 BK125 HB hHeld ⊢
        refine tA 0 (some 5) (bm 71 1) rfl rfl HT_.out HW_.out (by kernel_rfl) (fun _ _ _ h => h) (by rfl) hHeld (by rintro w' ⟨s0, s1, s2, s3, s4, s5, s6, s7, s8, s9, s10, s11, s12, s13, s14⟩; go_simp; with_reducible rfl) (by simp only [Act.put, zs1, zs2, zs3, i64_w, i32_w]; rfl) ?_
        refine one_ (i := 1) (N := some 6) (bm 71 3) rfl rfl (one_of HT_.out (by kernel_rfl)) (by decide) (fun K hK => ?_)
        refine goes_ Try.func81 (by kernel_rfl) rfl #[.agg #[.int .i64 a0_0, .int .i64 a0_1, .int .i64 a0_2, .int .i64 a0_3, .int .i64 a0_4]] (by rfl) rfl rfl (by (try simp only [List.map_toArray, List.map_cons, List.map_nil]); first | done | rfl | (simp only [List.length_drop, List.length_take]; rfl)) ?_
        with_reducible refine (spec_CfgOk.calls a0_0 a0_1 a0_2 a0_3 a0_4 true _ A6.out).mono ?_
        rintro e w40 ⟨rfl, hb⟩
        refine ⟨_, rfl, ?_⟩
        replace BK124 := mk_ (zq6 (by exact BK124.out) hb)
        replace BK125 := mk_ (zq6 (by exact BK125.out) hb)
        replace HB := mk_ (zr3 (by repeat (first | (with_reducible first | exact HB.out | apply zq7 | apply zq8 | apply zq9 | refine zr1 ?_ GE124.out | refine zr1 ?_ GE125.out) | exact HB.out)) hb)
        (try clear hb)
        (try clear hb2)
        (try clear hk)
        (try clear hi)
        refine hK.out _ _ ⟨(zr4 BK124.out 0).trans rfl, (zr4 BK124.out 1).trans rfl, (zr4 BK124.out 2).trans rfl, (zr4 BK124.out 3).trans rfl, (zr4 BK124.out 4).trans rfl, (zr4 BK125.out 0).trans rfl, (zr4 BK125.out 1).trans rfl, (zr4 BK125.out 2).trans rfl, (zr4 BK125.out 3).trans rfl, (zr4 BK125.out 4).trans rfl, (zr4 BK125.out 5).trans rfl, (zr4 BK125.out 6).trans rfl, (zr4 BK125.out 7).trans rfl, (zr4 BK125.out 8).trans rfl, (zr4 BK125.out 9).trans rfl⟩ (fun hHeld => ?_)
        clear hK K
        refine norm_ (a' := ?_) ?_ ?_
        rotate_left
        · show Act.put _ (some 6) _ = _
          simp only [Act.put, zs1, zs2, zs3, i64_w, i32_w]
          rfl
        refine pA 2 (some 7) (bm 71 7) rfl rfl HT_.out (by kernel_rfl) (fun _ _ _ h => h) (by rfl) (by intro w'; go_simp; with_reducible rfl) (by simp only [Act.put, zs1, zs2, zs3, i64_w, i32_w]; rfl) ?_
        refine pA 3 (some 8) (bm 71 15) rfl rfl HT_.out (by kernel_rfl) (fun _ _ _ h => h) (by rfl) (by intro w'; go_simp; with_reducible rfl) (by simp only [Act.put, zs1, zs2, zs3, i64_w, i32_w]; rfl) ?_
        refine pA 4 (some 9) (bm 71 31) rfl rfl HT_.out (by kernel_rfl) (fun _ _ _ h => h) (by rfl) (by intro w'; go_simp; with_reducible rfl) (by simp only [Act.put, zs1, zs2, zs3, i64_w, i32_w]; rfl) ?_
        refine tA 5 (some 10) (bm 71 63) rfl rfl HT_.out HW_.out (by kernel_rfl) (fun _ _ _ h => h) (by rfl) hHeld (by rintro w' ⟨s0, s1, s2, s3, s4, s5, s6, s7, s8, s9, s10, s11, s12, s13, s14⟩; go_simp; with_reducible rfl) (by simp only [Act.put, zs1, zs2, zs3, i64_w, i32_w]; rfl) ?_
        refine one_ (i := 6) (N := some 11) (bm 71 127) rfl rfl (one_of HT_.out (by kernel_rfl)) (by decide) (fun K hK => ?_)
        refine goes_ Try.func64 (by kernel_rfl) rfl #[.int .i64 a1_0, .int .i64 0, .int .i64 7] (by rfl) rfl rfl (by (try simp only [List.map_toArray, List.map_cons, List.map_nil]); first | done | rfl | (simp only [List.length_drop, List.length_take]; rfl)) ?_
        with_reducible refine (spec_l1In.calls a1_0 0 7 false _ A8.out).mono ?_
        rintro e w' ⟨rfl, ⟨nd, rfl⟩⟩
        refine ⟨_, rfl, ?_⟩
        refine hK.out _ _ ⟨(zr4 BK124.out 0).trans rfl, (zr4 BK124.out 1).trans rfl, (zr4 BK124.out 2).trans rfl, (zr4 BK124.out 3).trans rfl, (zr4 BK124.out 4).trans rfl, (zr4 BK125.out 0).trans rfl, (zr4 BK125.out 1).trans rfl, (zr4 BK125.out 2).trans rfl, (zr4 BK125.out 3).trans rfl, (zr4 BK125.out 4).trans rfl, (zr4 BK125.out 5).trans rfl, (zr4 BK125.out 6).trans rfl, (zr4 BK125.out 7).trans rfl, (zr4 BK125.out 8).trans rfl, (zr4 BK125.out 9).trans rfl⟩ (fun hHeld => ?_)
        clear hK K
        refine norm_ (a' := ?_) ?_ ?_
        rotate_left
        · show Act.put _ (some 11) _ = _
          simp only [Act.put, zs1, zs2, zs3, i64_w, i32_w]
          rfl
        refine pA 7 (some 12) (bm 71 255) rfl rfl HT_.out (by kernel_rfl) (fun _ _ _ h => h) (by rfl) (by intro w'; go_simp; with_reducible rfl) (by simp only [Act.put, zs1, zs2, zs3, i64_w, i32_w]; rfl) ?_
        refine pA 8 (some 13) (bm 71 511) rfl rfl HT_.out (by kernel_rfl) (fun _ _ _ h => h) (by rfl) (by intro w'; go_simp; with_reducible rfl) (by simp only [Act.put, zs1, zs2, zs3, i64_w, i32_w]; rfl) ?_
        refine pA 9 (some 14) (bm 71 1023) rfl rfl HT_.out (by kernel_rfl) (fun _ _ _ h => h) (by rfl) (by intro w'; go_simp; with_reducible rfl) (by simp only [Act.put, zs1, zs2, zs3, i64_w, i32_w]; rfl) ?_
        refine pB 10 (some 15) (bm 71 2047) rfl rfl HT_.out (by kernel_rfl) (fun _ _ _ h => h) (by rfl) (by simp only [Act.put, zs1, zs2, zs3, i64_w, i32_w]; rfl) ?_
        refine pB 11 (some 16) (bm 71 4095) rfl rfl HT_.out (by kernel_rfl) (fun _ _ _ h => h) (by rfl) (by simp only [Act.put, zs1, zs2, zs3, i64_w, i32_w]; rfl) ?_
        refine pB 12 (some 17) (bm 71 8191) rfl rfl HT_.out (by kernel_rfl) (fun _ _ _ h => h) (by rfl) (by simp only [Act.put, zs1, zs2, zs3, i64_w, i32_w]; rfl) ?_
        refine pB 13 (some 18) (bm 71 16383) rfl rfl HT_.out (by kernel_rfl) (fun _ _ _ h => h) (by rfl) (by simp only [Act.put, zs1, zs2, zs3, i64_w, i32_w]; rfl) ?_
        refine pA 14 (some 19) (bm 71 32767) rfl rfl HT_.out (by kernel_rfl) (fun _ _ _ h => h) (by rfl) (by intro w'; go_simp; with_reducible rfl) (by simp only [Act.put, zs1, zs2, zs3, i64_w, i32_w]; rfl) ?_
        refine pA 15 (some 20) (bm 71 65535) rfl rfl HT_.out (by kernel_rfl) (fun _ _ _ h => h) (by rfl) (by intro w'; go_simp; with_reducible rfl) (by simp only [Act.put, zs1, zs2, zs3, i64_w, i32_w]; rfl) ?_
        refine pB 16 (some 21) (bm 71 131071) rfl rfl HT_.out (by kernel_rfl) (fun _ _ _ h => h) (by rfl) (by simp only [Act.put, zs1, zs2, zs3, i64_w, i32_w]; rfl) ?_
        refine pB 17 (some 22) (bm 71 262143) rfl rfl HT_.out (by kernel_rfl) (fun _ _ _ h => h) (by rfl) (by simp only [Act.put, zs1, zs2, zs3, i64_w, i32_w]; rfl) ?_
        refine pB 18 (some 23) (bm 71 524287) rfl rfl HT_.out (by kernel_rfl) (fun _ _ _ h => h) (by rfl) (by simp only [Act.put, zs1, zs2, zs3, i64_w, i32_w]; rfl) ?_
        refine pB 19 (some 24) (bm 71 1048575) rfl rfl HT_.out (by kernel_rfl) (fun _ _ _ h => h) (by rfl) (by simp only [Act.put, zs1, zs2, zs3, i64_w, i32_w]; rfl) ?_
        refine pB 20 (some 25) (bm 71 2097151) rfl rfl HT_.out (by kernel_rfl) (fun _ _ _ h => h) (by rfl) (by simp only [Act.put, zs1, zs2, zs3, i64_w, i32_w]; rfl) ?_
        refine pB 21 (some 26) (bm 71 4194303) rfl rfl HT_.out (by kernel_rfl) (fun _ _ _ h => h) (by rfl) (by simp only [Act.put, zs1, zs2, zs3, i64_w, i32_w]; rfl) ?_
        refine pA 22 (some 27) (bm 71 8388607) rfl rfl HT_.out (by kernel_rfl) (fun _ _ _ h => h) (by rfl) (by intro w'; go_simp; with_reducible rfl) (by simp only [Act.put, zs1, zs2, zs3, i64_w, i32_w]; rfl) ?_
        refine pA 23 (some 28) (bm 71 16777215) rfl rfl HT_.out (by kernel_rfl) (fun _ _ _ h => h) (by rfl) (by intro w'; go_simp; with_reducible rfl) (by simp only [Act.put, zs1, zs2, zs3, i64_w, i32_w]; rfl) ?_
        refine pB 24 (some 29) (bm 71 33554431) rfl rfl HT_.out (by kernel_rfl) (fun _ _ _ h => h) (by rfl) (by simp only [Act.put, zs1, zs2, zs3, i64_w, i32_w]; rfl) ?_
        refine pB 25 (some 30) (bm 71 67108863) rfl rfl HT_.out (by kernel_rfl) (fun _ _ _ h => h) (by rfl) (by simp only [Act.put, zs1, zs2, zs3, i64_w, i32_w]; rfl) ?_
        refine pB 26 (some 31) (bm 71 134217727) rfl rfl HT_.out (by kernel_rfl) (fun _ _ _ h => h) (by rfl) (by simp only [Act.put, zs1, zs2, zs3, i64_w, i32_w]; rfl) ?_
        refine pB 27 (some 32) (bm 71 268435455) rfl rfl HT_.out (by kernel_rfl) (fun _ _ _ h => h) (by rfl) (by simp only [Act.put, zs1, zs2, zs3, i64_w, i32_w]; rfl) ?_
        refine pB 28 (some 33) (bm 71 536870911) rfl rfl HT_.out (by kernel_rfl) (fun _ _ _ h => h) (by rfl) (by simp only [Act.put, zs1, zs2, zs3, i64_w, i32_w]; rfl) ?_
        refine pB 29 (some 34) (bm 71 1073741823) rfl rfl HT_.out (by kernel_rfl) (fun _ _ _ h => h) (by rfl) (by simp only [Act.put, zs1, zs2, zs3, i64_w, i32_w]; rfl) ?_
        refine pB 30 (some 35) (bm 71 2147483647) rfl rfl HT_.out (by kernel_rfl) (fun _ _ _ h => h) (by rfl) (by simp only [Act.put, zs1, zs2, zs3, i64_w, i32_w]; rfl) ?_
        refine pB 31 (some 36) (bm 71 4294967295) rfl rfl HT_.out (by kernel_rfl) (fun _ _ _ h => h) (by rfl) (by simp only [Act.put, zs1, zs2, zs3, i64_w, i32_w]; rfl) ?_
        refine pB 32 (some 37) (bm 71 8589934591) rfl rfl HT_.out (by kernel_rfl) (fun _ _ _ h => h) (by rfl) (by simp only [Act.put, zs1, zs2, zs3, i64_w, i32_w]; rfl) ?_
        refine pA 33 (some 38) (bm 71 17179869183) rfl rfl HT_.out (by kernel_rfl) (fun _ _ _ h => h) (by rfl) (by intro w'; go_simp; with_reducible rfl) (by simp only [Act.put, zs1, zs2, zs3, i64_w, i32_w]; rfl) ?_
        refine pA 34 (some 39) (bm 71 34359738367) rfl rfl HT_.out (by kernel_rfl) (fun _ _ _ h => h) (by rfl) (by intro w'; go_simp; with_reducible rfl) (by simp only [Act.put, zs1, zs2, zs3, i64_w, i32_w]; rfl) ?_
        refine pB 35 (some 40) (bm 71 68719476735) rfl rfl HT_.out (by kernel_rfl) (fun _ _ _ h => h) (by rfl) (by simp only [Act.put, zs1, zs2, zs3, i64_w, i32_w]; rfl) ?_
        refine pB 36 (some 41) (bm 71 137438953471) rfl rfl HT_.out (by kernel_rfl) (fun _ _ _ h => h) (by rfl) (by simp only [Act.put, zs1, zs2, zs3, i64_w, i32_w]; rfl) ?_
        refine pB 37 (some 42) (bm 71 274877906943) rfl rfl HT_.out (by kernel_rfl) (fun _ _ _ h => h) (by rfl) (by simp only [Act.put, zs1, zs2, zs3, i64_w, i32_w]; rfl) ?_
        refine pB 38 (some 43) (bm 71 549755813887) rfl rfl HT_.out (by kernel_rfl) (fun _ _ _ h => h) (by rfl) (by simp only [Act.put, zs1, zs2, zs3, i64_w, i32_w]; rfl) ?_
        refine pB 39 (some 44) (bm 71 1099511627775) rfl rfl HT_.out (by kernel_rfl) (fun _ _ _ h => h) (by rfl) (by simp only [Act.put, zs1, zs2, zs3, i64_w, i32_w]; rfl) ?_
        refine pB 40 (some 45) (bm 71 2199023255551) rfl rfl HT_.out (by kernel_rfl) (fun _ _ _ h => h) (by rfl) (by simp only [Act.put, zs1, zs2, zs3, i64_w, i32_w]; rfl) ?_
        refine pB 41 (some 46) (bm 71 4398046511103) rfl rfl HT_.out (by kernel_rfl) (fun _ _ _ h => h) (by rfl) (by simp only [Act.put, zs1, zs2, zs3, i64_w, i32_w]; rfl) ?_
        refine pA 42 (some 47) (bm 71 8796093022207) rfl rfl HT_.out (by kernel_rfl) (fun _ _ _ h => h) (by rfl) (by intro w'; go_simp; with_reducible rfl) (by simp only [Act.put, zs1, zs2, zs3, i64_w, i32_w]; rfl) ?_
        refine pA 43 (some 48) (bm 71 17592186044415) rfl rfl HT_.out (by kernel_rfl) (fun _ _ _ h => h) (by rfl) (by intro w'; go_simp; with_reducible rfl) (by simp only [Act.put, zs1, zs2, zs3, i64_w, i32_w]; rfl) ?_
        refine pB 44 (some 49) (bm 71 35184372088831) rfl rfl HT_.out (by kernel_rfl) (fun _ _ _ h => h) (by rfl) (by simp only [Act.put, zs1, zs2, zs3, i64_w, i32_w]; rfl) ?_
        refine pB 45 (some 50) (bm 71 70368744177663) rfl rfl HT_.out (by kernel_rfl) (fun _ _ _ h => h) (by rfl) (by simp only [Act.put, zs1, zs2, zs3, i64_w, i32_w]; rfl) ?_
        refine pB 46 (some 51) (bm 71 140737488355327) rfl rfl HT_.out (by kernel_rfl) (fun _ _ _ h => h) (by rfl) (by simp only [Act.put, zs1, zs2, zs3, i64_w, i32_w]; rfl) ?_
        refine pB 47 (some 52) (bm 71 281474976710655) rfl rfl HT_.out (by kernel_rfl) (fun _ _ _ h => h) (by rfl) (by simp only [Act.put, zs1, zs2, zs3, i64_w, i32_w]; rfl) ?_
        refine pA 48 (some 53) (bm 71 562949953421311) rfl rfl HT_.out (by kernel_rfl) (fun _ _ _ h => h) (by rfl) (by intro w'; go_simp; with_reducible rfl) (by simp only [Act.put, zs1, zs2, zs3, i64_w, i32_w]; rfl) ?_
        refine pA 49 (some 54) (bm 71 1125899906842623) rfl rfl HT_.out (by kernel_rfl) (fun _ _ _ h => h) (by rfl) (by intro w'; go_simp; with_reducible rfl) (by simp only [Act.put, zs1, zs2, zs3, i64_w, i32_w]; rfl) ?_
        refine pB 50 (some 55) (bm 71 2251799813685247) rfl rfl HT_.out (by kernel_rfl) (fun _ _ _ h => h) (by rfl) (by simp only [Act.put, zs1, zs2, zs3, i64_w, i32_w]; rfl) ?_
        refine pB 51 (some 56) (bm 71 4503599627370495) rfl rfl HT_.out (by kernel_rfl) (fun _ _ _ h => h) (by rfl) (by simp only [Act.put, zs1, zs2, zs3, i64_w, i32_w]; rfl) ?_
        refine pB 52 (some 57) (bm 71 9007199254740991) rfl rfl HT_.out (by kernel_rfl) (fun _ _ _ h => h) (by rfl) (by simp only [Act.put, zs1, zs2, zs3, i64_w, i32_w]; rfl) ?_
        refine pB 53 (some 58) (bm 71 18014398509481983) rfl rfl HT_.out (by kernel_rfl) (fun _ _ _ h => h) (by rfl) (by simp only [Act.put, zs1, zs2, zs3, i64_w, i32_w]; rfl) ?_
        refine pB 54 (some 59) (bm 71 36028797018963967) rfl rfl HT_.out (by kernel_rfl) (fun _ _ _ h => h) (by rfl) (by simp only [Act.put, zs1, zs2, zs3, i64_w, i32_w]; rfl) ?_
        refine pB 55 (some 60) (bm 71 72057594037927935) rfl rfl HT_.out (by kernel_rfl) (fun _ _ _ h => h) (by rfl) (by simp only [Act.put, zs1, zs2, zs3, i64_w, i32_w]; rfl) ?_
        refine pA 56 (some 61) (bm 71 144115188075855871) rfl rfl HT_.out (by kernel_rfl) (fun _ _ _ h => h) (by rfl) (by intro w'; go_simp; with_reducible rfl) (by simp only [Act.put, zs1, zs2, zs3, i64_w, i32_w]; rfl) ?_
        refine pA 57 (some 62) (bm 71 288230376151711743) rfl rfl HT_.out (by kernel_rfl) (fun _ _ _ h => h) (by rfl) (by intro w'; go_simp; with_reducible rfl) (by simp only [Act.put, zs1, zs2, zs3, i64_w, i32_w]; rfl) ?_
        refine pB 58 (some 63) (bm 71 576460752303423487) rfl rfl HT_.out (by kernel_rfl) (fun _ _ _ h => h) (by rfl) (by simp only [Act.put, zs1, zs2, zs3, i64_w, i32_w]; rfl) ?_
        refine pB 59 (some 64) (bm 71 1152921504606846975) rfl rfl HT_.out (by kernel_rfl) (fun _ _ _ h => h) (by rfl) (by simp only [Act.put, zs1, zs2, zs3, i64_w, i32_w]; rfl) ?_
        refine pB 60 (some 65) (bm 71 2305843009213693951) rfl rfl HT_.out (by kernel_rfl) (fun _ _ _ h => h) (by rfl) (by simp only [Act.put, zs1, zs2, zs3, i64_w, i32_w]; rfl) ?_
        refine pB 61 (some 66) (bm 71 4611686018427387903) rfl rfl HT_.out (by kernel_rfl) (fun _ _ _ h => h) (by rfl) (by simp only [Act.put, zs1, zs2, zs3, i64_w, i32_w]; rfl) ?_
        refine pA 62 (some 67) (bm 71 9223372036854775807) rfl rfl HT_.out (by kernel_rfl) (fun _ _ _ h => h) (by rfl) (by intro w'; go_simp; with_reducible rfl) (by simp only [Act.put, zs1, zs2, zs3, i64_w, i32_w]; rfl) ?_
        refine pA 63 (some 68) (bm 71 18446744073709551615) rfl rfl HT_.out (by kernel_rfl) (fun _ _ _ h => h) (by rfl) (by intro w'; go_simp; with_reducible rfl) (by simp only [Act.put, zs1, zs2, zs3, i64_w, i32_w]; rfl) ?_
        refine pB 64 (some 69) (bm 71 36893488147419103231) rfl rfl HT_.out (by kernel_rfl) (fun _ _ _ h => h) (by rfl) (by simp only [Act.put, zs1, zs2, zs3, i64_w, i32_w]; rfl) ?_
        refine pB 65 (some 70) (bm 71 73786976294838206463) rfl rfl HT_.out (by kernel_rfl) (fun _ _ _ h => h) (by rfl) (by simp only [Act.put, zs1, zs2, zs3, i64_w, i32_w]; rfl) ?_
        refine pB 66 (some 71) (bm 71 147573952589676412927) rfl rfl HT_.out (by kernel_rfl) (fun _ _ _ h => h) (by rfl) (by simp only [Act.put, zs1, zs2, zs3, i64_w, i32_w]; rfl) ?_
        refine pB 67 (some 72) (bm 71 295147905179352825855) rfl rfl HT_.out (by kernel_rfl) (fun _ _ _ h => h) (by rfl) (by simp only [Act.put, zs1, zs2, zs3, i64_w, i32_w]; rfl) ?_
        refine pB 68 (some 73) (bm 71 590295810358705651711) rfl rfl HT_.out (by kernel_rfl) (fun _ _ _ h => h) (by rfl) (by simp only [Act.put, zs1, zs2, zs3, i64_w, i32_w]; rfl) ?_
        refine pB 69 (some 74) (bm 71 1180591620717411303423) rfl rfl HT_.out (by kernel_rfl) (fun _ _ _ h => h) (by rfl) (by simp only [Act.put, zs1, zs2, zs3, i64_w, i32_w]; rfl) ?_
        refine pA 70 (some 75) (bm 71 2361183241434822606847) rfl rfl HT_.out (by kernel_rfl) (fun _ _ _ h => h) (by rfl) (by intro w'; go_simp; with_reducible rfl) (by simp only [Act.put, zs1, zs2, zs3, i64_w, i32_w]; rfl) ?_
        refine done_ (done_of HT_.out (by kernel_rfl)) ?_
        try go_wp2
        go_meet
        case rel => exact ⟨_, (true), (by first | rfl | (simp; done) | (simp [*]; done)), H', ⟨by first | omega | exact Nat.le_refl _⟩, ⟨by (with_reducible repeat (first | refine zq1 ?_ _ | refine zq2 ?_ | refine zq3 ?_ _)); exact BK124.out⟩, ⟨by (with_reducible repeat (first | refine zq1 ?_ _ | refine zq2 ?_ | refine zq3 ?_ _)); exact BK125.out⟩, ⟨by repeat (first | (with_reducible first | exact HB.out | apply zq7 | apply zq8 | apply zq9 | refine zr1 ?_ GE124.out | refine zr1 ?_ GE125.out) | exact HB.out)⟩⟩
    · replace c7 := Bool.eq_false_iff.mpr c7
      subst c7
      have H1 : (spec_TxOk.j0 k true a0_0 a0_1 a0_2 a0_3 a0_4 a1_0 a1_1 l1_2 a1_3 l1_4 a1_5 a1_6 a1_7 a1_8 a1_9) = some r := by rw [if_neg (show ¬ (false = true) by decide)] at H; exact H
      clear H
      have H := H1
      clear H1
      have H' := mk_ H
      clear H
      try go_wp2
      replace BK124 := mk_ (zq2 BK124.out)
      replace BK125 := mk_ (zq2 BK125.out)
      replace HB := mk_ (zq9 HB.out)
      refine start_ (n := 71) (S := fun w' => w'.cell? ⟨gb124, 0, none⟩ = some (.int .i64 a0_0) ∧ w'.cell? ⟨gb124, 1, none⟩ = some (.int .i64 a0_1) ∧ w'.cell? ⟨gb124, 2, none⟩ = some (.int .i64 a0_2) ∧ w'.cell? ⟨gb124, 3, none⟩ = some (.int .i64 a0_3) ∧ w'.cell? ⟨gb124, 4, none⟩ = some (.int .i64 a0_4)) (ds := []) (bm 71 0) (by kernel_rfl) rfl rfl ⟨(zr4 BK124.out 0).trans rfl, (zr4 BK124.out 1).trans rfl, (zr4 BK124.out 2).trans rfl, (zr4 BK124.out 3).trans rfl, (zr4 BK124.out 4).trans rfl⟩ (fun hHeld => ?_); refine with_tabW spec_TxOk.tab1 spec_TxOk.bits1 (fun HT_ HW_ => ?_)
      generalize w5.drew = w41 at BK124 BK125 HB hHeld ⊢
      refine tA 0 (some 5) (bm 71 1) rfl rfl HT_.out HW_.out (by kernel_rfl) (fun _ _ _ h => h) (by rfl) hHeld (by rintro w' ⟨s0, s1, s2, s3, s4⟩; go_simp; with_reducible rfl) (by simp only [Act.put, zs1, zs2, zs3, i64_w, i32_w]; rfl) ?_
      refine one_ (i := 1) (N := some 6) (bm 71 3) rfl rfl (one_of HT_.out (by kernel_rfl)) (by decide) (fun K hK => ?_)
      refine goes_ Try.func81 (by kernel_rfl) rfl #[.agg #[.int .i64 a0_0, .int .i64 a0_1, .int .i64 a0_2, .int .i64 a0_3, .int .i64 a0_4]] (by rfl) rfl rfl (by (try simp only [List.map_toArray, List.map_cons, List.map_nil]); first | done | rfl | (simp only [List.length_drop, List.length_take]; rfl)) ?_
      with_reducible refine (spec_CfgOk.calls a0_0 a0_1 a0_2 a0_3 a0_4 false _ A6.out).mono ?_
      rintro e w42 ⟨rfl, hb⟩
      refine ⟨_, rfl, ?_⟩
      replace BK124 := mk_ (zq6 (by exact BK124.out) hb)
      replace BK125 := mk_ (zq6 (by exact BK125.out) hb)
      replace HB := mk_ (zr3 (by repeat (first | (with_reducible first | exact HB.out | apply zq7 | apply zq8 | apply zq9 | refine zr1 ?_ GE124.out | refine zr1 ?_ GE125.out) | exact HB.out)) hb)
      (try clear hb)
      (try clear hb2)
      (try clear hk)
      (try clear hi)
      refine hK.out _ _ ⟨(zr4 BK124.out 0).trans rfl, (zr4 BK124.out 1).trans rfl, (zr4 BK124.out 2).trans rfl, (zr4 BK124.out 3).trans rfl, (zr4 BK124.out 4).trans rfl⟩ (fun hHeld => ?_)
      clear hK K
      refine norm_ (a' := ?_) ?_ ?_
      rotate_left
      · show Act.put _ (some 6) _ = _
        simp only [Act.put, zs1, zs2, zs3, i64_w, i32_w]
        rfl
      refine pA 2 (some 7) (bm 71 7) rfl rfl HT_.out (by kernel_rfl) (fun _ _ _ h => h) (by rfl) (by intro w'; go_simp; with_reducible rfl) (by simp only [Act.put, zs1, zs2, zs3, i64_w, i32_w]; rfl) ?_
      refine pA 3 (some 8) (bm 71 15) rfl rfl HT_.out (by kernel_rfl) (fun _ _ _ h => h) (by rfl) (by intro w'; go_simp; with_reducible rfl) (by simp only [Act.put, zs1, zs2, zs3, i64_w, i32_w]; rfl) ?_
      refine pB 4 (some 9) (bm 71 31) rfl rfl HT_.out (by kernel_rfl) (fun _ _ _ h => h) (by rfl) (by simp only [Act.put, zs1, zs2, zs3, i64_w, i32_w]; rfl) ?_
      refine pB 5 (some 10) (bm 71 63) rfl rfl HT_.out (by kernel_rfl) (fun _ _ _ h => h) (by rfl) (by simp only [Act.put, zs1, zs2, zs3, i64_w, i32_w]; rfl) ?_
      refine pB 6 (some 11) (bm 71 127) rfl rfl HT_.out (by kernel_rfl) (fun _ _ _ h => h) (by rfl) (by simp only [Act.put, zs1, zs2, zs3, i64_w, i32_w]; rfl) ?_
      refine pB 7 (some 12) (bm 71 255) rfl rfl HT_.out (by kernel_rfl) (fun _ _ _ h => h) (by rfl) (by simp only [Act.put, zs1, zs2, zs3, i64_w, i32_w]; rfl) ?_
      refine pA 8 (some 13) (bm 71 511) rfl rfl HT_.out (by kernel_rfl) (fun _ _ _ h => h) (by rfl) (by intro w'; go_simp; with_reducible rfl) (by simp only [Act.put, zs1, zs2, zs3, i64_w, i32_w]; rfl) ?_
      refine pA 9 (some 14) (bm 71 1023) rfl rfl HT_.out (by kernel_rfl) (fun _ _ _ h => h) (by rfl) (by intro w'; go_simp; with_reducible rfl) (by simp only [Act.put, zs1, zs2, zs3, i64_w, i32_w]; rfl) ?_
      refine pB 10 (some 15) (bm 71 2047) rfl rfl HT_.out (by kernel_rfl) (fun _ _ _ h => h) (by rfl) (by simp only [Act.put, zs1, zs2, zs3, i64_w, i32_w]; rfl) ?_
      refine pB 11 (some 16) (bm 71 4095) rfl rfl HT_.out (by kernel_rfl) (fun _ _ _ h => h) (by rfl) (by simp only [Act.put, zs1, zs2, zs3, i64_w, i32_w]; rfl) ?_
      refine pB 12 (some 17) (bm 71 8191) rfl rfl HT_.out (by kernel_rfl) (fun _ _ _ h => h) (by rfl) (by simp only [Act.put, zs1, zs2, zs3, i64_w, i32_w]; rfl) ?_
      refine pB 13 (some 18) (bm 71 16383) rfl rfl HT_.out (by kernel_rfl) (fun _ _ _ h => h) (by rfl) (by simp only [Act.put, zs1, zs2, zs3, i64_w, i32_w]; rfl) ?_
      refine pA 14 (some 19) (bm 71 32767) rfl rfl HT_.out (by kernel_rfl) (fun _ _ _ h => h) (by rfl) (by intro w'; go_simp; with_reducible rfl) (by simp only [Act.put, zs1, zs2, zs3, i64_w, i32_w]; rfl) ?_
      refine pA 15 (some 20) (bm 71 65535) rfl rfl HT_.out (by kernel_rfl) (fun _ _ _ h => h) (by rfl) (by intro w'; go_simp; with_reducible rfl) (by simp only [Act.put, zs1, zs2, zs3, i64_w, i32_w]; rfl) ?_
      refine pB 16 (some 21) (bm 71 131071) rfl rfl HT_.out (by kernel_rfl) (fun _ _ _ h => h) (by rfl) (by simp only [Act.put, zs1, zs2, zs3, i64_w, i32_w]; rfl) ?_
      refine pB 17 (some 22) (bm 71 262143) rfl rfl HT_.out (by kernel_rfl) (fun _ _ _ h => h) (by rfl) (by simp only [Act.put, zs1, zs2, zs3, i64_w, i32_w]; rfl) ?_
      refine pB 18 (some 23) (bm 71 524287) rfl rfl HT_.out (by kernel_rfl) (fun _ _ _ h => h) (by rfl) (by simp only [Act.put, zs1, zs2, zs3, i64_w, i32_w]; rfl) ?_
      refine pB 19 (some 24) (bm 71 1048575) rfl rfl HT_.out (by kernel_rfl) (fun _ _ _ h => h) (by rfl) (by simp only [Act.put, zs1, zs2, zs3, i64_w, i32_w]; rfl) ?_
      refine pB 20 (some 25) (bm 71 2097151) rfl rfl HT_.out (by kernel_rfl) (fun _ _ _ h => h) (by rfl) (by simp only [Act.put, zs1, zs2, zs3, i64_w, i32_w]; rfl) ?_
      refine pB 21 (some 26) (bm 71 4194303) rfl rfl HT_.out (by kernel_rfl) (fun _ _ _ h => h) (by rfl) (by simp only [Act.put, zs1, zs2, zs3, i64_w, i32_w]; rfl) ?_
      refine pA 22 (some 27) (bm 71 8388607) rfl rfl HT_.out (by kernel_rfl) (fun _ _ _ h => h) (by rfl) (by intro w'; go_simp; with_reducible rfl) (by simp only [Act.put, zs1, zs2, zs3, i64_w, i32_w]; rfl) ?_
      refine pA 23 (some 28) (bm 71 16777215) rfl rfl HT_.out (by kernel_rfl) (fun _ _ _ h => h) (by rfl) (by intro w'; go_simp; with_reducible rfl) (by simp only [Act.put, zs1, zs2, zs3, i64_w, i32_w]; rfl) ?_
      refine pB 24 (some 29) (bm 71 33554431) rfl rfl HT_.out (by kernel_rfl) (fun _ _ _ h => h) (by rfl) (by simp only [Act.put, zs1, zs2, zs3, i64_w, i32_w]; rfl) ?_
      refine pB 25 (some 30) (bm 71 67108863) rfl rfl HT_.out (by kernel_rfl) (fun _ _ _ h => h) (by rfl) (by simp only [Act.put, zs1, zs2, zs3, i64_w, i32_w]; rfl) ?_
      refine pB 26 (some 31) (bm 71 134217727) rfl rfl HT_.out (by kernel_rfl) (fun _ _ _ h => h) (by rfl) (by simp only [Act.put, zs1, zs2, zs3, i64_w, i32_w]; rfl) ?_
      refine pB 27 (some 32) (bm 71 268435455) rfl rfl HT_.out (by kernel_rfl) (fun _ _ _ h => h) (by rfl) (by simp only [Act.put, zs1, zs2, zs3, i64_w, i32_w]; rfl) ?_
      refine pB 28 (some 33) (bm 71 536870911) rfl rfl HT_.out (by kernel_rfl) (fun _ _ _ h => h) (by rfl) (by simp only [Act.put, zs1, zs2, zs3, i64_w, i32_w]; rfl) ?_
      refine pB 29 (some 34) (bm 71 1073741823) rfl rfl HT_.out (by kernel_rfl) (fun _ _ _ h => h) (by rfl) (by simp only [Act.put, zs1, zs2, zs3, i64_w, i32_w]; rfl) ?_
      refine pB 30 (some 35) (bm 71 2147483647) rfl rfl HT_.out (by kernel_rfl) (fun _ _ _ h => h) (by rfl) (by simp only [Act.put, zs1, zs2, zs3, i64_w, i32_w]; rfl) ?_
      refine pB 31 (some 36) (bm 71 4294967295) rfl rfl HT_.out (by kernel_rfl) (fun _ _ _ h => h) (by rfl) (by simp only [Act.put, zs1, zs2, zs3, i64_w, i32_w]; rfl) ?_
      refine pB 32 (some 37) (bm 71 8589934591) rfl rfl HT_.out (by kernel_rfl) (fun _ _ _ h => h) (by rfl) (by simp only [Act.put, zs1, zs2, zs3, i64_w, i32_w]; rfl) ?_
      refine pA 33 (some 38) (bm 71 17179869183) rfl rfl HT_.out (by kernel_rfl) (fun _ _ _ h => h) (by rfl) (by intro w'; go_simp; with_reducible rfl) (by simp only [Act.put, zs1, zs2, zs3, i64_w, i32_w]; rfl) ?_
      refine pA 34 (some 39) (bm 71 34359738367) rfl rfl HT_.out (by kernel_rfl) (fun _ _ _ h => h) (by rfl) (by intro w'; go_simp; with_reducible rfl) (by simp only [Act.put, zs1, zs2, zs3, i64_w, i32_w]; rfl) ?_
      refine pB 35 (some 40) (bm 71 68719476735) rfl rfl HT_.out (by kernel_rfl) (fun _ _ _ h => h) (by rfl) (by simp only [Act.put, zs1, zs2, zs3, i64_w, i32_w]; rfl) ?_
      refine pB 36 (some 41) (bm 71 137438953471) rfl rfl HT_.out (by kernel_rfl) (fun _ _ _ h => h) (by rfl) (by simp only [Act.put, zs1, zs2, zs3, i64_w, i32_w]; rfl) ?_
      refine pB 37 (some 42) (bm 71 274877906943) rfl rfl HT_.out (by kernel_rfl) (fun _ _ _ h => h) (by rfl) (by simp only [Act.put, zs1, zs2, zs3, i64_w, i32_w]; rfl) ?_
      refine pB 38 (some 43) (bm 71 549755813887) rfl rfl HT_.out (by kernel_rfl) (fun _ _ _ h => h) (by rfl) (by simp only [Act.put, zs1, zs2, zs3, i64_w, i32_w]; rfl) ?_
      refine pB 39 (some 44) (bm 71 1099511627775) rfl rfl HT_.out (by kernel_rfl) (fun _ _ _ h => h) (by rfl) (by simp only [Act.put, zs1, zs2, zs3, i64_w, i32_w]; rfl) ?_
      refine pB 40 (some 45) (bm 71 2199023255551) rfl rfl HT_.out (by kernel_rfl) (fun _ _ _ h => h) (by rfl) (by simp only [Act.put, zs1, zs2, zs3, i64_w, i32_w]; rfl) ?_
      refine pB 41 (some 46) (bm 71 4398046511103) rfl rfl HT_.out (by kernel_rfl) (fun _ _ _ h => h) (by rfl) (by simp only [Act.put, zs1, zs2, zs3, i64_w, i32_w]; rfl) ?_
      refine pA 42 (some 47) (bm 71 8796093022207) rfl rfl HT_.out (by kernel_rfl) (fun _ _ _ h => h) (by rfl) (by intro w'; go_simp; with_reducible rfl) (by simp only [Act.put, zs1, zs2, zs3, i64_w, i32_w]; rfl) ?_
      refine pA 43 (some 48) (bm 71 17592186044415) rfl rfl HT_.out (by kernel_rfl) (fun _ _ _ h => h) (by rfl) (by intro w'; go_simp; with_reducible rfl) (by simp only [Act.put, zs1, zs2, zs3, i64_w, i32_w]; rfl) ?_
      refine pB 44 (some 49) (bm 71 35184372088831) rfl rfl HT_.out (by kernel_rfl) (fun _ _ _ h => h) (by rfl) (by simp only [Act.put, zs1, zs2, zs3, i64_w, i32_w]; rfl) ?_
      refine pB 45 (some 50) (bm 71 70368744177663) rfl rfl HT_.out (by kernel_rfl) (fun _ _ _ h => h) (by rfl) (by simp only [Act.put, zs1, zs2, zs3, i64_w, i32_w]; rfl) ?_
      refine pB 46 (some 51) (bm 71 140737488355327) rfl rfl HT_.out (by kernel_rfl) (fun _ _ _ h => h) (by rfl) (by simp only [Act.put, zs1, zs2, zs3, i64_w, i32_w]; rfl) ?_
      refine pB 47 (some 52) (bm 71 281474976710655) rfl rfl HT_.out (by kernel_rfl) (fun _ _ _ h => h) (by rfl) (by simp only [Act.put, zs1, zs2, zs3, i64_w, i32_w]; rfl) ?_
      refine pA 48 (some 53) (bm 71 562949953421311) rfl rfl HT_.out (by kernel_rfl) (fun _ _ _ h => h) (by rfl) (by intro w'; go_simp; with_reducible rfl) (by simp only [Act.put, zs1, zs2, zs3, i64_w, i32_w]; rfl) ?_
      refine pA 49 (some 54) (bm 71 1125899906842623) rfl rfl HT_.out (by kernel_rfl) (fun _ _ _ h => h) (by rfl) (by intro w'; go_simp; with_reducible rfl) (by simp only [Act.put, zs1, zs2, zs3, i64_w, i32_w]; rfl) ?_
      refine pB 50 (some 55) (bm 71 2251799813685247) rfl rfl HT_.out (by kernel_rfl) (fun _ _ _ h => h) (by rfl) (by simp only [Act.put, zs1, zs2, zs3, i64_w, i32_w]; rfl) ?_
      refine pB 51 (some 56) (bm 71 4503599627370495) rfl rfl HT_.out (by kernel_rfl) (fun _ _ _ h => h) (by rfl) (by simp only [Act.put, zs1, zs2, zs3, i64_w, i32_w]; rfl) ?_
      refine pB 52 (some 57) (bm 71 9007199254740991) rfl rfl HT_.out (by kernel_rfl) (fun _ _ _ h => h) (by rfl) (by simp only [Act.put, zs1, zs2, zs3, i64_w, i32_w]; rfl) ?_
      refine pB 53 (some 58) (bm 71 18014398509481983) rfl rfl HT_.out (by kernel_rfl) (fun _ _ _ h => h) (by rfl) (by simp only [Act.put, zs1, zs2, zs3, i64_w, i32_w]; rfl) ?_
      refine pB 54 (some 59) (bm 71 36028797018963967) rfl rfl HT_.out (by kernel_rfl) (fun _ _ _ h => h) (by rfl) (by simp only [Act.put, zs1, zs2, zs3, i64_w, i32_w]; rfl) ?_
      refine pB 55 (some 60) (bm 71 72057594037927935) rfl rfl HT_.out (by kernel_rfl) (fun _ _ _ h => h) (by rfl) (by simp only [Act.put, zs1, zs2, zs3, i64_w, i32_w]; rfl) ?_
      refine pA 56 (some 61) (bm 71 144115188075855871) rfl rfl HT_.out (by kernel_rfl) (fun _ _ _ h => h) (by rfl) (by intro w'; go_simp; with_reducible rfl) (by simp only [Act.put, zs1, zs2, zs3, i64_w, i32_w]; rfl) ?_
      refine pA 57 (some 62) (bm 71 288230376151711743) rfl rfl HT_.out (by kernel_rfl) (fun _ _ _ h => h) (by rfl) (by intro w'; go_simp; with_reducible rfl) (by simp only [Act.put, zs1, zs2, zs3, i64_w, i32_w]; rfl) ?_
      refine pB 58 (some 63) (bm 71 576460752303423487) rfl rfl HT_.out (by kernel_rfl) (fun _ _ _ h => h) (by rfl) (by simp only [Act.put, zs1, zs2, zs3, i64_w, i32_w]; rfl) ?_
      refine pB 59 (some 64) (bm 71 1152921504606846975) rfl rfl HT_.out (by kernel_rfl) (fun _ _ _ h => h) (by rfl) (by simp only [Act.put, zs1, zs2, zs3, i64_w, i32_w]; rfl) ?_
      refine pB 60 (some 65) (bm 71 2305843009213693951) rfl rfl HT_.out (by kernel_rfl) (fun _ _ _ h => h) (by rfl) (by simp only [Act.put, zs1, zs2, zs3, i64_w, i32_w]; rfl) ?_
      refine pB 61 (some 66) (bm 71 4611686018427387903) rfl rfl HT_.out (by kernel_rfl) (fun _ _ _ h => h) (by rfl) (by simp only [Act.put, zs1, zs2, zs3, i64_w, i32_w]; rfl) ?_
      refine pA 62 (some 67) (bm 71 9223372036854775807) rfl rfl HT_.out (by kernel_rfl) (fun _ _ _ h => h) (by rfl) (by intro w'; go_simp; with_reducible rfl) (by simp only [Act.put, zs1, zs2, zs3, i64_w, i32_w]; rfl) ?_
      refine pA 63 (some 68) (bm 71 18446744073709551615) rfl rfl HT_.out (by kernel_rfl) (fun _ _ _ h => h) (by rfl) (by intro w'; go_simp; with_reducible rfl) (by simp only [Act.put, zs1, zs2, zs3, i64_w, i32_w]; rfl) ?_
      refine pB 64 (some 69) (bm 71 36893488147419103231) rfl rfl HT_.out (by kernel_rfl) (fun _ _ _ h => h) (by rfl) (by simp only [Act.put, zs1, zs2, zs3, i64_w, i32_w]; rfl) ?_
      refine pB 65 (some 70) (bm 71 73786976294838206463) rfl rfl HT_.out (by kernel_rfl) (fun _ _ _ h => h) (by rfl) (by simp only [Act.put, zs1, zs2, zs3, i64_w, i32_w]; rfl) ?_
      refine pB 66 (some 71) (bm 71 147573952589676412927) rfl rfl HT_.out (by kernel_rfl) (fun _ _ _ h => h) (by rfl) (by simp only [Act.put, zs1, zs2, zs3, i64_w, i32_w]; rfl) ?_
      refine pB 67 (some 72) (bm 71 295147905179352825855) rfl rfl HT_.out (by kernel_rfl) (fun _ _ _ h => h) (by rfl) (by simp only [Act.put, zs1, zs2, zs3, i64_w, i32_w]; rfl) ?_
      refine pB 68 (some 73) (bm 71 590295810358705651711) rfl rfl HT_.out (by kernel_rfl) (fun _ _ _ h => h) (by rfl) (by simp only [Act.put, zs1, zs2, zs3, i64_w, i32_w]; rfl) ?_
      refine pB 69 (some 74) (bm 71 1180591620717411303423) rfl rfl HT_.out (by kernel_rfl) (fun _ _ _ h => h) (by rfl) (by simp only [Act.put, zs1, zs2, zs3, i64_w, i32_w]; rfl) ?_
      refine pA 70 (some 75) (bm 71 2361183241434822606847) rfl rfl HT_.out (by kernel_rfl) (fun _ _ _ h => h) (by rfl) (by intro w'; go_simp; with_reducible rfl) (by simp only [Act.put, zs1, zs2, zs3, i64_w, i32_w]; rfl) ?_
      refine done_ (done_of HT_.out (by kernel_rfl)) ?_
      try go_wp2
      go_meet
      case rel => exact ⟨_, (true), (by first | rfl | (simp; done) | (simp [*]; done)), H', ⟨by first | omega | exact Nat.le_refl _⟩, ⟨by (with_reducible repeat (first | refine zq1 ?_ _ | refine zq2 ?_ | refine zq3 ?_ _)); exact BK124.out⟩, ⟨by (with_reducible repeat (first | refine zq1 ?_ _ | refine zq2 ?_ | refine zq3 ?_ _)); exact BK125.out⟩, ⟨by repeat (first | (with_reducible first | exact HB.out | apply zq7 | apply zq8 | apply zq9 | refine zr1 ?_ GE124.out | refine zr1 ?_ GE125.out) | exact HB.out)⟩⟩
  case rest =>
    clear HC3
    try clear c1
    try clear p2
    try clear c7
    try clear c8
    obtain ⟨kq, x75_2, rfl, HA, HJ2, BK124, BK125, HB⟩ := hcut
    cases kq with
    | zero => exact absurd HA.out (by simp [spec_TxOk.j0])
    | succ kj2 =>
      have H := HA.out
      clear HA
      simp only [spec_TxOk.j0] at H
      by_cases c43 : x75_2 = true
      · subst c43
        have H1 : (some false) = some r := by rw [if_pos rfl] at H; exact H
        clear H
        have H := H1
        clear H1
        obtain rfl := Option.some.inj H
        go_wp2
        go_ret
        exact ⟨by first | rfl | (simp [errW_none, errW_some] <;> rfl) | (simp [*, errW_none, errW_some] <;> rfl), by repeat (first | (with_reducible first | exact HB.out | apply zq7 | apply zq8 | apply zq9 | refine zr1 ?_ GE124.out | refine zr1 ?_ GE125.out) | exact HB.out)⟩
      · replace c43 := Bool.eq_false_iff.mpr c43
        subst c43
        have H1 : ((spec_l6Parts.f kj2 l1_2 a0_2).bind fun t134 => (if t134 = true then ((spec_l6Parts.f kj2 l1_4 a0_2).bind fun t135 => (some t135)) else (some false))) = some r := by rw [if_neg (show ¬ (false = true) by decide)] at H; exact H
        clear H
        have H := H1
        clear H1
        replace H := Option.bind_eq_some_iff.mp H
        obtain ⟨t134, A440, H⟩ := H
        try dsimp only at H
        have A44 := mk_ A440
        clear A440
        by_cases c45 : t134 = true
        · subst c45
          have H1 : ((spec_l6Parts.f kj2 l1_4 a0_2).bind fun t135 => (some t135)) = some r := by rw [if_pos rfl] at H; exact H
          clear H
          have H := H1
          clear H1
          replace H := Option.bind_eq_some_iff.mp H
          obtain ⟨t135, A460, H⟩ := H
          try dsimp only at H
          have A46 := mk_ A460
          clear A460
          obtain rfl := Option.some.inj H
          have hnb47 := NB125_124.out
          have hnc47 := NB124_125.out
          obtain ⟨hcz48_0, hcz48_1, hcz48_2, hcz48_3, hcz48_4, hcz48_5, hcz48_6, hcz48_7, hcz48_8, hcz48_9⟩ := cz10 BK125.out
          obtain ⟨hfz48_0, hfz48_1, hfz48_2, hfz48_3, hfz48_4, hfz48_5, hfz48_6, hfz48_7, hfz48_8, hfz48_9⟩ := fz10 BK125.out
          obtain ⟨hcz49_0, hcz49_1, hcz49_2, hcz49_3, hcz49_4⟩ := cz5 BK124.out
          obtain ⟨hfz49_0, hfz49_1, hfz49_2, hfz49_3, hfz49_4⟩ := fz5 BK124.out
          go_wp2_with (first | ((with_reducible refine gate_callee (f := 84) rfl ?_); refine goesL_ (some 80) rfl rfl Try.func84 (by kernel_rfl) rfl #[.slice A1_2 l1_2.length c1_2, .int .i64 a0_2] rfl (by (try simp only [List.map_toArray, List.map_cons, List.map_nil]); first | done | rfl | (simp only [List.length_drop, List.length_take]; rfl)) ?_; (with_reducible refine (spec_l6Parts.calls kj2 _ _ l1_2 a0_2 true _ ?side1 ?side2 A44.out).mono ?_); (case side1 => repeat (first | exact (Kd.C_below HR1_2.out HB.out) | (with_reducible refine Kd.C_alloc ?_ _) | (with_reducible refine Kd.C_drewN ?_ _) | (with_reducible refine Kd.C_drew ?_))); (case side2 => exact HC1_2.out); rintro e w50 ⟨rfl, hb⟩; refine ⟨_, rfl, ?_⟩; replace BK124 := mk_ (zq6 (by exact BK124.out) hb); replace BK125 := mk_ (zq6 (by exact BK125.out) hb); replace HB := mk_ (zr3 (by repeat (first | (with_reducible first | exact HB.out | apply zq7 | apply zq8 | apply zq9 | refine zr1 ?_ GE124.out | refine zr1 ?_ GE125.out) | exact HB.out)) hb); (try clear hb); (try clear hb2); (try clear hk); (try clear hi); obtain ⟨hcz51_0, hcz51_1, hcz51_2, hcz51_3, hcz51_4, hcz51_5, hcz51_6, hcz51_7, hcz51_8, hcz51_9⟩ := cz10 BK125.out; obtain ⟨hfz51_0, hfz51_1, hfz51_2, hfz51_3, hfz51_4, hfz51_5, hfz51_6, hfz51_7, hfz51_8, hfz51_9⟩ := fz10 BK125.out; obtain ⟨hcz52_0, hcz52_1, hcz52_2, hcz52_3, hcz52_4⟩ := cz5 BK124.out; obtain ⟨hfz52_0, hfz52_1, hfz52_2, hfz52_3, hfz52_4⟩ := fz5 BK124.out) | (go_at_call 84; (with_reducible refine (spec_l6Parts.calls kj2 _ _ l1_4 a0_2 t135 _ ?side1 ?side2 A46.out).mono ?_); (case side1 => repeat (first | exact (Kd.C_below HR1_4.out HB.out) | (with_reducible refine Kd.C_alloc ?_ _) | (with_reducible refine Kd.C_drewN ?_ _) | (with_reducible refine Kd.C_drew ?_))); (case side2 => exact HC1_4.out); rintro e w53 ⟨rfl, hb⟩; replace BK124 := mk_ (zq6 (by exact BK124.out) hb); replace BK125 := mk_ (zq6 (by exact BK125.out) hb); replace HB := mk_ (zr3 (by repeat (first | (with_reducible first | exact HB.out | apply zq7 | apply zq8 | apply zq9 | refine zr1 ?_ GE124.out | refine zr1 ?_ GE125.out) | exact HB.out)) hb); (try clear hb); (try clear hb2); (try clear hk); (try clear hi)))
          go_ret
          exact ⟨by first | rfl | (simp [errW_none, errW_some] <;> rfl) | (simp [*, errW_none, errW_some] <;> rfl), by repeat (first | (with_reducible first | exact HB.out | apply zq7 | apply zq8 | apply zq9 | refine zr1 ?_ GE124.out | refine zr1 ?_ GE125.out) | exact HB.out)⟩
        · replace c45 := Bool.eq_false_iff.mpr c45
          subst c45
          have H1 : (some false) = some r := by rw [if_neg (show ¬ (false = true) by decide)] at H; exact H
          clear H
          have H := H1
          clear H1
          obtain rfl := Option.some.inj H
          have hnb54 := NB125_124.out
          have hnc54 := NB124_125.out
          obtain ⟨hcz55_0, hcz55_1, hcz55_2, hcz55_3, hcz55_4, hcz55_5, hcz55_6, hcz55_7, hcz55_8, hcz55_9⟩ := cz10 BK125.out
          obtain ⟨hfz55_0, hfz55_1, hfz55_2, hfz55_3, hfz55_4, hfz55_5, hfz55_6, hfz55_7, hfz55_8, hfz55_9⟩ := fz10 BK125.out
          obtain ⟨hcz56_0, hcz56_1, hcz56_2, hcz56_3, hcz56_4⟩ := cz5 BK124.out
          obtain ⟨hfz56_0, hfz56_1, hfz56_2, hfz56_3, hfz56_4⟩ := fz5 BK124.out
          go_wp2_with (first | ((with_reducible refine gate_callee (f := 84) rfl ?_); refine goesL_ (some 80) rfl rfl Try.func84 (by kernel_rfl) rfl #[.slice A1_2 l1_2.length c1_2, .int .i64 a0_2] rfl (by (try simp only [List.map_toArray, List.map_cons, List.map_nil]); first | done | rfl | (simp only [List.length_drop, List.length_take]; rfl)) ?_; (with_reducible refine (spec_l6Parts.calls kj2 _ _ l1_2 a0_2 false _ ?side1 ?side2 A44.out).mono ?_); (case side1 => repeat (first | exact (Kd.C_below HR1_2.out HB.out) | (with_reducible refine Kd.C_alloc ?_ _) | (with_reducible refine Kd.C_drewN ?_ _) | (with_reducible refine Kd.C_drew ?_))); (case side2 => exact HC1_2.out); rintro e w57 ⟨rfl, hb⟩; refine ⟨_, rfl, ?_⟩; replace BK124 := mk_ (zq6 (by exact BK124.out) hb); replace BK125 := mk_ (zq6 (by exact BK125.out) hb); replace HB := mk_ (zr3 (by repeat (first | (with_reducible first | exact HB.out | apply zq7 | apply zq8 | apply zq9 | refine zr1 ?_ GE124.out | refine zr1 ?_ GE125.out) | exact HB.out)) hb); (try clear hb); (try clear hb2); (try clear hk); (try clear hi)))
          go_ret
          exact ⟨by first | rfl | (simp [errW_none, errW_some] <;> rfl) | (simp [*, errW_none, errW_some] <;> rfl), by repeat (first | (with_reducible first | exact HB.out | apply zq7 | apply zq8 | apply zq9 | refine zr1 ?_ GE124.out | refine zr1 ?_ GE125.out) | exact HB.out)⟩

end Go.Proofs.Yteknaofnageihaa.QFnExactTxOk
