-- Written by a program of this session, a turned copy of the print (not by print.sh itself). Lean checks it.
import Derived.Test.YteknaofnageihaaQFnTxOkx0
import Derived.Test.YteknaofnageihaaTkz
import Derived.Test.YteknaofnageihaaQFnTxOkx1
import Derived.Test.YteknaofnageihaaQFnTxOkx2
import Derived.Test.YteknaofnageihaaQFnTxOkx52
import Derived.Test.YteknaofnageihaaQFnTxOkx53
import Derived.Test.YteknaofnageihaaQFnTxOkx54
import Derived.Test.YteknaofnageihaaQFnTxOkx57
namespace Go.Proofs.Yteknaofnageihaa.QFnTxOk
open Go.RowKit Go.Proofs.YteknaofnageihaaW.PrintWords Go.Proofs.YteknaofnageihaaW.PrintLast Go.Proofs.YteknaofnageihaaW.PrintMore Go.Proofs.YteknaofnageihaaLoc
attribute [local go_sem] max2_int min2_int max_two min_two max_three min_three max_four min_four   -- for this text's walks alone
set_option linter.unusedVariables false
set_option linter.unusedSimpArgs false

/-! ### impl_TxOk: function 51 -/
def impl_TxOk.f (k : Nat) (a0_0 : Int) (a0_1 : Int) (a0_2 : Int) (a0_3 : Int) (a0_4 : Int) (a1_0 : Int) (a1_1 : Int) (l1_2 : List (S39)) (a1_3 : Int) (l1_4 : List (S39)) (a1_5 : Bool) (a1_6 : Int) (a1_7 : Bool) (a1_8 : Int) (a1_9 : Bool) : Option (Bool) := (impl_CfgOk.f a0_0 a0_1 a0_2 a0_3 a0_4).bind fun t145 => (if t145 = true then ((impl_isNumber.f a1_1).bind fun t146 => (if t146 = true then ((impl_isNumber.f a1_0).bind fun t147 => (if t147 = true then ((impl_far.f a1_1 a1_0).bind fun t148 => (if t148 = (l1_2.length : Int) then (if (l1_2.length : Int) ≤ a0_1 then ((impl_in.f a1_3 0 (l1_2.length : Int)).bind fun t149 => (if t149 = true then (if (l1_4.length : Int) ≤ 24 then ((impl_in.f a1_6 0 a0_4).bind fun t150 => (if t150 = true then ((impl_in.f a1_8 0 9999).bind fun t151 => (if t151 = true then ((impl_NumOf.f a1_8).bind fun t152 => (if t152 = a1_1 then ((impl_CfgOpts_partsOk.f k a0_0 a0_1 a0_2 a0_3 a0_4 l1_2).bind fun t153 => (if t153 = true then ((impl_CfgOpts_partsOk.f k a0_0 a0_1 a0_2 a0_3 a0_4 l1_4).bind fun t154 => (some t154)) else (some false))) else (some false))) else (some false))) else (some false))) else (some false)) else (some false))) else (some false)) else (some false))) else (some false))) else (some false))) else (some false))
theorem impl_TxOk.mono : ∀ a0 a1 a2 a3 a4 a5 a6 a7 a8 a9 a10 a11 a12 a13 a14 k, LeO (impl_TxOk.f k a0 a1 a2 a3 a4 a5 a6 a7 a8 a9 a10 a11 a12 a13 a14) (impl_TxOk.f (k + 1) a0 a1 a2 a3 a4 a5 a6 a7 a8 a9 a10 a11 a12 a13 a14) := by
 intro a0 a1 a2 a3 a4 a5 a6 a7 a8 a9 a10 a11 a12 a13 a14 k
 unfold impl_TxOk.f
 repeat' first
     | (with_reducible exact impl_CfgOpts_partsOk.mono _ _ _ _ _ _ _)
     | (with_reducible exact LeO.refl _)
     | (with_reducible exact LeO.none _)
     | (with_reducible refine LeO.ite ?_ ?_)
     | (with_reducible refine LeO.bind ?_ (fun _ => ?_))
     | exact impl_CfgOpts_partsOk.mono _ _ _ _ _ _ _
     | exact LeO.none _
     | refine LeO.ite ?_ ?_
     | refine LeO.bind ?_ (fun _ => ?_)
def impl_TxOk.T2 : Bool × List (List Nat × List Nat) := (true, [([], []), ([0], [0]), ([1, 1], [1]), ([2], [2]), ([3, 2], [2, 3]), ([4, 2, 2], [2, 4]), ([2, 5], [2, 5]), ([6, 5], [6]), ([7], [7]), ([8, 7], [7, 8]), ([9, 7, 7], [7, 9]), ([7, 10], [7, 10]), ([11, 10], [11]), ([12], [12]), ([13, 12], [12, 13]), ([12], [12]), ([15, 12], [12, 15]), ([14, 16, 12, 12], [12, 14, 16]), ([12], [12]), ([17, 18, 12], [12, 17, 18]), ([12, 19], [12, 19]), ([20, 17], [20]), ([21], [21]), ([21], [21]), ([23, 21], [21, 23]), ([22, 24, 21], [21, 22, 24]), ([21, 25], [21, 25]), ([26, 21], [26]), ([27], [27]), ([28, 27], [27, 28]), ([27], [27]), ([29, 30, 27, 27], [27, 29, 30]), ([27, 31], [27, 31]), ([32, 31], [32]), ([33], [33]), ([34, 33], [33, 34]), ([35, 33], [33, 35]), ([36, 33], [33, 36]), ([33, 37], [33, 37]), ([38, 33], [38]), ([39], [39]), ([40, 39], [39, 40]), ([39], [39]), ([42, 39], [39, 42]), ([41, 43, 39, 39], [39, 41, 43]), ([39, 44], [39, 44]), ([45, 44], [45]), ([46], [46]), ([47, 46], [46, 47]), ([48, 46, 46], [46, 48]), ([46, 49], [46, 49]), ([50, 49], [50]), ([51], [51]), ([52, 51], [51, 52]), ([53, 51, 51], [51, 53]), ([51], [51]), ([55, 51], [51, 55]), ([54, 56, 51], [51, 54, 56]), ([51, 57], [51, 57]), ([58, 54], [58]), ([59], [59]), ([59], [59]), ([61, 59], [59, 61]), ([60, 62, 59, 59], [59, 60, 62]), ([59, 63], [59, 63]), ([64, 63], [64]), ([65], [65]), ([65], [65]), ([67, 65], [65, 67]), ([66, 68, 65, 65], [65, 66, 68]), ([65, 69], [65, 69]), ([70, 69, 0, 1, 2, 3, 4, 5, 6, 7, 8, 9, 10, 11, 12, 13, 14, 15, 16, 17, 18, 19, 20, 21, 22, 23, 24, 25, 26, 27, 28, 29, 30, 31, 32, 33, 34, 35, 36, 37, 38, 39, 40, 41, 42, 43, 44, 45, 46, 47, 48, 49, 50, 51, 52, 53, 54, 55, 56, 57, 58, 59, 60, 61, 62, 63, 64, 65, 66, 67, 68, 69, 70], [70])])
def impl_TxOk.B2 : List Nat := [0, 1, 3, 7, 15, 31, 63, 127, 255, 511, 1023, 2047, 4095, 8191, 16383, 8191, 40959, 131071, 8191, 524287, 1048575, 2097151, 4194303, 4194303, 12582911, 33554431, 67108863, 134217727, 268435455, 536870911, 268435455, 2147483647, 4294967295, 8589934591, 17179869183, 34359738367, 68719476735, 137438953471, 274877906943, 549755813887, 1099511627775, 2199023255551, 1099511627775, 5497558138879, 17592186044415, 35184372088831, 70368744177663, 140737488355327, 281474976710655, 562949953421311, 1125899906842623, 2251799813685247, 4503599627370495, 9007199254740991, 18014398509481983, 4503599627370495, 40532396646334463, 144115188075855871, 288230376151711743, 576460752303423487, 1152921504606846975, 1152921504606846975, 3458764513820540927, 9223372036854775807, 18446744073709551615, 36893488147419103231, 73786976294838206463, 73786976294838206463, 221360928884514619391, 590295810358705651711, 1180591620717411303423, 2361183241434822606847]
theorem impl_TxOk.tab2 : rtab .any (opsOf Try.f51 2) = impl_TxOk.T2 := by kernel_rfl
theorem impl_TxOk.bits2 : waitsOk impl_TxOk.T2.2 impl_TxOk.B2 = true := by kernel_rfl
set_option maxHeartbeats 60000000 in
set_option maxRecDepth 100000 in
theorem impl_TxOk.calls (k : Nat) (a0_0 : Int) (a0_1 : Int) (a0_2 : Int) (a0_3 : Int) (a0_4 : Int) (a1_0 : Int) (a1_1 : Int) (A1_2 : Option Addr) (c1_2 : Nat) (l1_2 : List (S39)) (a1_3 : Int) (A1_4 : Option Addr) (c1_4 : Nat) (l1_4 : List (S39)) (a1_5 : Bool) (a1_6 : Int) (a1_7 : Bool) (a1_8 : Int) (a1_9 : Bool) (r : Bool) (w : World) (hr1_2 : Kd.C k39 w A1_2 l1_2.length l1_2) (hc1_2 : l1_2.length ≤ c1_2) (hr1_4 : Kd.C k39 w A1_4 l1_4.length l1_4) (hc1_4 : l1_4.length ≤ c1_4) (h : impl_TxOk.f k a0_0 a0_1 a0_2 a0_3 a0_4 a1_0 a1_1 l1_2 a1_3 l1_4 a1_5 a1_6 a1_7 a1_8 a1_9 = some r) :
    Calls Try.prog 51 #[.agg #[.int .i64 a0_0, .int .i64 a0_1, .int .i64 a0_2, .int .i64 a0_3, .int .i64 a0_4], .agg #[.int .i64 a1_0, .int .i64 a1_1, .slice A1_2 l1_2.length c1_2, .int .i64 a1_3, .slice A1_4 l1_4.length c1_4, .bool a1_5, .int .i64 a1_6, .bool a1_7, .int .i64 a1_8, .bool a1_9]] w fun e w' => e = .returned (.bool r) ∧ Below w.heap.size w w' := by
  have HR2 := mk_ hr1_2
  have HC2 := mk_ hc1_2
  have HR4 := mk_ hr1_4
  have HC4 := mk_ hc1_4
  clear hr1_2 hc1_2 hr1_4 hc1_4
  have HL := mk_ (Lok.start w)
  unfold impl_TxOk.f at h
  have PH := mk_ h
  clear h
  go_enter Try.func51, Try.ntmps51
  go_upto_region 2 with (first | ((with_reducible refine gate_gd rfl ?_); first | ((with_reducible refine gd_on rfl ?_ ?_); rfl; dsimp only) | ((with_reducible refine gd_off rfl ?_ ?_); rfl)) | ((with_reducible refine gate_dst (N := 2) rfl ?_); refine loc_box rfl rfl (by first | (go_simp; done) | (go_simp; rfl)) HL.out ?_; intro gb2 w_ HL_; replace HL := mk_ HL_; clear HL_) | ((with_reducible refine gate_dst (N := 3) rfl ?_); refine loc_box rfl rfl (by first | (go_simp; done) | (go_simp; rfl)) HL.out ?_; intro gb3 w_ HL_; replace HL := mk_ HL_; clear HL_) | ((with_reducible refine gate_ld0 rfl ?_); refine loc_load1 rfl rfl (by kernel_rfl) rfl HL.out (by with_reducible repeat (first | exact Sel.done | apply Sel.take | apply Sel.skip | apply Get.here | apply Get.next)) ?_))
  (try simp only [Act.put, List.setIfInBounds_toArray, List.set_cons_zero, List.set_cons_succ])
  refine start_ (n := 72) (S := fun w' => Lok w w' _) (ds := []) (BM 72 0) kz rfl rfl HL.out.drew (fun hHeld => ?_)
  refine with_tabW impl_TxOk.tab2 impl_TxOk.bits2 (fun HT_ HW_ => ?_)
  have HS := mk_ hHeld
  clear hHeld HL
  revert HS
  generalize World.drew _ = w8_
  intro HS
  refine qL 0 9 1 5 HT_ HW_ HS ?_
  obtain ⟨t, ht, H⟩ := Option.bind_eq_some_iff.mp PH.out
  (try dsimp only at H)
  have PT := mk_ ht
  clear ht PH
  cases t
  · rw [if_neg Bool.false_ne_true] at H
    have PH := mk_ H
    clear H
    refine qO 1 (some 10) 3 HT_ (fun K hK => ?_)
    refine goes_ Try.func72 kz rfl #[.agg #[.int .i64 a0_0, .int .i64 a0_1, .int .i64 a0_2, .int .i64 a0_3, .int .i64 a0_4]] rz rfl rfl am ?_
    refine (impl_CfgOk.calls a0_0 a0_1 a0_2 a0_3 a0_4 false _ PT.out).mono ?_
    rintro e w9_ ⟨rfl, hb_⟩
    refine ⟨_, rfl, ?_⟩
    replace HS := mk_ (HS.out.call hb_)
    clear hb_ PT
    refine qK hK HS ?_
    clear hK K
    refine qA 2 11 7 HT_ ?_
    refine qB 3 12 15 HT_ ?_
    refine qB 4 13 31 HT_ ?_
    refine qB 5 14 63 HT_ ?_
    refine qA 6 15 127 HT_ ?_
    refine qA 7 16 255 HT_ ?_
    refine qB 8 17 511 HT_ ?_
    refine qB 9 18 1023 HT_ ?_
    refine qB 10 19 2047 HT_ ?_
    refine qA 11 20 4095 HT_ ?_
    refine qA 12 21 8191 HT_ ?_
    refine qB 13 22 16383 HT_ ?_
    refine qB 14 23 32767 HT_ ?_
    refine qB 15 24 65535 HT_ ?_
    refine qB 16 25 131071 HT_ ?_
    refine qB 17 26 262143 HT_ ?_
    refine qB 18 27 524287 HT_ ?_
    refine qB 19 28 1048575 HT_ ?_
    refine qA 20 29 2097151 HT_ ?_
    refine qA 21 30 4194303 HT_ ?_
    refine qB 22 31 8388607 HT_ ?_
    refine qB 23 32 16777215 HT_ ?_
    refine qB 24 33 33554431 HT_ ?_
    refine qB 25 34 67108863 HT_ ?_
    refine qA 26 35 134217727 HT_ ?_
    refine qA 27 36 268435455 HT_ ?_
    refine qB 28 37 536870911 HT_ ?_
    refine qB 29 38 1073741823 HT_ ?_
    refine qB 30 39 2147483647 HT_ ?_
    refine qB 31 40 4294967295 HT_ ?_
    refine qA 32 41 8589934591 HT_ ?_
    refine qA 33 42 17179869183 HT_ ?_
    refine qB 34 43 34359738367 HT_ ?_
    refine qB 35 44 68719476735 HT_ ?_
    refine qB 36 45 137438953471 HT_ ?_
    refine qB 37 46 274877906943 HT_ ?_
    refine qA 38 47 549755813887 HT_ ?_
    refine qA 39 48 1099511627775 HT_ ?_
    refine qB 40 49 2199023255551 HT_ ?_
    refine qB 41 50 4398046511103 HT_ ?_
    refine qB 42 51 8796093022207 HT_ ?_
    refine qB 43 52 17592186044415 HT_ ?_
    refine qB 44 53 35184372088831 HT_ ?_
    refine qA 45 54 70368744177663 HT_ ?_
    refine qA 46 55 140737488355327 HT_ ?_
    refine qB 47 56 281474976710655 HT_ ?_
    refine qB 48 57 562949953421311 HT_ ?_
    refine qB 49 58 1125899906842623 HT_ ?_
    refine qA 50 59 2251799813685247 HT_ ?_
    refine qA 51 60 4503599627370495 HT_ ?_
    refine qB 52 61 9007199254740991 HT_ ?_
    refine qB 53 62 18014398509481983 HT_ ?_
    refine qB 54 63 36028797018963967 HT_ ?_
    refine qB 55 64 72057594037927935 HT_ ?_
    refine qB 56 65 144115188075855871 HT_ ?_
    refine qB 57 66 288230376151711743 HT_ ?_
    refine qA 58 67 576460752303423487 HT_ ?_
    refine qA 59 68 1152921504606846975 HT_ ?_
    refine qB 60 69 2305843009213693951 HT_ ?_
    refine qB 61 70 4611686018427387903 HT_ ?_
    refine qB 62 71 9223372036854775807 HT_ ?_
    refine qB 63 72 18446744073709551615 HT_ ?_
    refine qA 64 73 36893488147419103231 HT_ ?_
    refine qA 65 74 73786976294838206463 HT_ ?_
    refine qB 66 75 147573952589676412927 HT_ ?_
    refine qB 67 76 295147905179352825855 HT_ ?_
    refine qB 68 77 590295810358705651711 HT_ ?_
    refine qB 69 78 1180591620717411303423 HT_ ?_
    refine qA 70 79 2361183241434822606847 HT_ ?_
    refine qA 71 4 4722366482869645213695 HT_ ?_
    refine qF HT_ ?_
    clear HT_ HW_
    try go_wp2
    obtain rfl := Option.some.inj PH.out
    go_ret
    exact ⟨ez, HS.out.bel⟩
  rw [if_pos rfl] at H
  have PH := mk_ H
  clear H
  refine qO 1 (some 10) 3 HT_ (fun K hK => ?_)
  refine goes_ Try.func72 kz rfl #[.agg #[.int .i64 a0_0, .int .i64 a0_1, .int .i64 a0_2, .int .i64 a0_3, .int .i64 a0_4]] rz rfl rfl am ?_
  refine (impl_CfgOk.calls a0_0 a0_1 a0_2 a0_3 a0_4 true _ PT.out).mono ?_
  rintro e w9_ ⟨rfl, hb_⟩
  refine ⟨_, rfl, ?_⟩
  replace HS := mk_ (HS.out.call hb_)
  clear hb_ PT
  refine qK hK HS ?_
  clear hK K
  refine qA 2 11 7 HT_ ?_
  refine qA 3 12 15 HT_ ?_
  refine qM 4 13 31 HT_ HW_ HS ?_
  obtain ⟨t, ht, H⟩ := Option.bind_eq_some_iff.mp PH.out
  (try dsimp only at H)
  have PT := mk_ ht
  clear ht PH
  cases t
  · rw [if_neg Bool.false_ne_true] at H
    have PH := mk_ H
    clear H
    refine qO 5 (some 14) 63 HT_ (fun K hK => ?_)
    refine goes_ Try.func86 kz rfl #[.int .i64 a1_1] rz rfl rfl am ?_
    refine (impl_isNumber.calls a1_1 false _ PT.out).mono ?_
    rintro e w9_ ⟨rfl, hb_⟩
    refine ⟨_, rfl, ?_⟩
    replace HS := mk_ (HS.out.call hb_.below)
    clear hb_ PT
    refine qK hK HS ?_
    clear hK K
    refine qA 6 15 127 HT_ ?_
    refine qA 7 16 255 HT_ ?_
    refine qB 8 17 511 HT_ ?_
    refine qB 9 18 1023 HT_ ?_
    refine qB 10 19 2047 HT_ ?_
    refine qA 11 20 4095 HT_ ?_
    refine qA 12 21 8191 HT_ ?_
    refine qB 13 22 16383 HT_ ?_
    refine qB 14 23 32767 HT_ ?_
    refine qB 15 24 65535 HT_ ?_
    refine qB 16 25 131071 HT_ ?_
    refine qB 17 26 262143 HT_ ?_
    refine qB 18 27 524287 HT_ ?_
    refine qB 19 28 1048575 HT_ ?_
    refine qA 20 29 2097151 HT_ ?_
    refine qA 21 30 4194303 HT_ ?_
    refine qB 22 31 8388607 HT_ ?_
    refine qB 23 32 16777215 HT_ ?_
    refine qB 24 33 33554431 HT_ ?_
    refine qB 25 34 67108863 HT_ ?_
    refine qA 26 35 134217727 HT_ ?_
    refine qA 27 36 268435455 HT_ ?_
    refine qB 28 37 536870911 HT_ ?_
    refine qB 29 38 1073741823 HT_ ?_
    refine qB 30 39 2147483647 HT_ ?_
    refine qB 31 40 4294967295 HT_ ?_
    refine qA 32 41 8589934591 HT_ ?_
    refine qA 33 42 17179869183 HT_ ?_
    refine qB 34 43 34359738367 HT_ ?_
    refine qB 35 44 68719476735 HT_ ?_
    refine qB 36 45 137438953471 HT_ ?_
    refine qB 37 46 274877906943 HT_ ?_
    refine qA 38 47 549755813887 HT_ ?_
    refine qA 39 48 1099511627775 HT_ ?_
    refine qB 40 49 2199023255551 HT_ ?_
    refine qB 41 50 4398046511103 HT_ ?_
    refine qB 42 51 8796093022207 HT_ ?_
    refine qB 43 52 17592186044415 HT_ ?_
    refine qB 44 53 35184372088831 HT_ ?_
    refine qA 45 54 70368744177663 HT_ ?_
    refine qA 46 55 140737488355327 HT_ ?_
    refine qB 47 56 281474976710655 HT_ ?_
    refine qB 48 57 562949953421311 HT_ ?_
    refine qB 49 58 1125899906842623 HT_ ?_
    refine qA 50 59 2251799813685247 HT_ ?_
    refine qA 51 60 4503599627370495 HT_ ?_
    refine qB 52 61 9007199254740991 HT_ ?_
    refine qB 53 62 18014398509481983 HT_ ?_
    refine qB 54 63 36028797018963967 HT_ ?_
    refine qB 55 64 72057594037927935 HT_ ?_
    refine qB 56 65 144115188075855871 HT_ ?_
    refine qB 57 66 288230376151711743 HT_ ?_
    refine qA 58 67 576460752303423487 HT_ ?_
    refine qA 59 68 1152921504606846975 HT_ ?_
    refine qB 60 69 2305843009213693951 HT_ ?_
    refine qB 61 70 4611686018427387903 HT_ ?_
    refine qB 62 71 9223372036854775807 HT_ ?_
    refine qB 63 72 18446744073709551615 HT_ ?_
    refine qA 64 73 36893488147419103231 HT_ ?_
    refine qA 65 74 73786976294838206463 HT_ ?_
    refine qB 66 75 147573952589676412927 HT_ ?_
    refine qB 67 76 295147905179352825855 HT_ ?_
    refine qB 68 77 590295810358705651711 HT_ ?_
    refine qB 69 78 1180591620717411303423 HT_ ?_
    refine qA 70 79 2361183241434822606847 HT_ ?_
    refine qA 71 4 4722366482869645213695 HT_ ?_
    refine qF HT_ ?_
    clear HT_ HW_
    try go_wp2
    obtain rfl := Option.some.inj PH.out
    go_ret
    exact ⟨ez, HS.out.bel⟩
  rw [if_pos rfl] at H
  have PH := mk_ H
  clear H
  refine qO 5 (some 14) 63 HT_ (fun K hK => ?_)
  refine goes_ Try.func86 kz rfl #[.int .i64 a1_1] rz rfl rfl am ?_
  refine (impl_isNumber.calls a1_1 true _ PT.out).mono ?_
  rintro e w9_ ⟨rfl, hb_⟩
  refine ⟨_, rfl, ?_⟩
  replace HS := mk_ (HS.out.call hb_.below)
  clear hb_ PT
  refine qK hK HS ?_
  clear hK K
  refine qA 6 15 127 HT_ ?_
  refine qA 7 16 255 HT_ ?_
  refine qA 8 17 511 HT_ ?_
  refine qM 9 18 1023 HT_ HW_ HS ?_
  obtain ⟨t, ht, H⟩ := Option.bind_eq_some_iff.mp PH.out
  (try dsimp only at H)
  have PT := mk_ ht
  clear ht PH
  cases t
  · rw [if_neg Bool.false_ne_true] at H
    have PH := mk_ H
    clear H
    refine qO 10 (some 19) 2047 HT_ (fun K hK => ?_)
    refine goes_ Try.func86 kz rfl #[.int .i64 a1_0] rz rfl rfl am ?_
    refine (impl_isNumber.calls a1_0 false _ PT.out).mono ?_
    rintro e w9_ ⟨rfl, hb_⟩
    refine ⟨_, rfl, ?_⟩
    replace HS := mk_ (HS.out.call hb_.below)
    clear hb_ PT
    refine qK hK HS ?_
    clear hK K
    refine qA 11 20 4095 HT_ ?_
    refine qA 12 21 8191 HT_ ?_
    refine qB 13 22 16383 HT_ ?_
    refine qB 14 23 32767 HT_ ?_
    refine qB 15 24 65535 HT_ ?_
    refine qB 16 25 131071 HT_ ?_
    refine qB 17 26 262143 HT_ ?_
    refine qB 18 27 524287 HT_ ?_
    refine qB 19 28 1048575 HT_ ?_
    refine qA 20 29 2097151 HT_ ?_
    refine qA 21 30 4194303 HT_ ?_
    refine qB 22 31 8388607 HT_ ?_
    refine qB 23 32 16777215 HT_ ?_
    refine qB 24 33 33554431 HT_ ?_
    refine qB 25 34 67108863 HT_ ?_
    refine qA 26 35 134217727 HT_ ?_
    refine qA 27 36 268435455 HT_ ?_
    refine qB 28 37 536870911 HT_ ?_
    refine qB 29 38 1073741823 HT_ ?_
    refine qB 30 39 2147483647 HT_ ?_
    refine qB 31 40 4294967295 HT_ ?_
    refine qA 32 41 8589934591 HT_ ?_
    refine qA 33 42 17179869183 HT_ ?_
    refine qB 34 43 34359738367 HT_ ?_
    refine qB 35 44 68719476735 HT_ ?_
    refine qB 36 45 137438953471 HT_ ?_
    refine qB 37 46 274877906943 HT_ ?_
    refine qA 38 47 549755813887 HT_ ?_
    refine qA 39 48 1099511627775 HT_ ?_
    refine qB 40 49 2199023255551 HT_ ?_
    refine qB 41 50 4398046511103 HT_ ?_
    refine qB 42 51 8796093022207 HT_ ?_
    refine qB 43 52 17592186044415 HT_ ?_
    refine qB 44 53 35184372088831 HT_ ?_
    refine qA 45 54 70368744177663 HT_ ?_
    refine qA 46 55 140737488355327 HT_ ?_
    refine qB 47 56 281474976710655 HT_ ?_
    refine qB 48 57 562949953421311 HT_ ?_
    refine qB 49 58 1125899906842623 HT_ ?_
    refine qA 50 59 2251799813685247 HT_ ?_
    refine qA 51 60 4503599627370495 HT_ ?_
    refine qB 52 61 9007199254740991 HT_ ?_
    refine qB 53 62 18014398509481983 HT_ ?_
    refine qB 54 63 36028797018963967 HT_ ?_
    refine qB 55 64 72057594037927935 HT_ ?_
    refine qB 56 65 144115188075855871 HT_ ?_
    refine qB 57 66 288230376151711743 HT_ ?_
    refine qA 58 67 576460752303423487 HT_ ?_
    refine qA 59 68 1152921504606846975 HT_ ?_
    refine qB 60 69 2305843009213693951 HT_ ?_
    refine qB 61 70 4611686018427387903 HT_ ?_
    refine qB 62 71 9223372036854775807 HT_ ?_
    refine qB 63 72 18446744073709551615 HT_ ?_
    refine qA 64 73 36893488147419103231 HT_ ?_
    refine qA 65 74 73786976294838206463 HT_ ?_
    refine qB 66 75 147573952589676412927 HT_ ?_
    refine qB 67 76 295147905179352825855 HT_ ?_
    refine qB 68 77 590295810358705651711 HT_ ?_
    refine qB 69 78 1180591620717411303423 HT_ ?_
    refine qA 70 79 2361183241434822606847 HT_ ?_
    refine qA 71 4 4722366482869645213695 HT_ ?_
    refine qF HT_ ?_
    clear HT_ HW_
    try go_wp2
    obtain rfl := Option.some.inj PH.out
    go_ret
    exact ⟨ez, HS.out.bel⟩
  rw [if_pos rfl] at H
  have PH := mk_ H
  clear H
  refine qO 10 (some 19) 2047 HT_ (fun K hK => ?_)
  refine goes_ Try.func86 kz rfl #[.int .i64 a1_0] rz rfl rfl am ?_
  refine (impl_isNumber.calls a1_0 true _ PT.out).mono ?_
  rintro e w9_ ⟨rfl, hb_⟩
  refine ⟨_, rfl, ?_⟩
  replace HS := mk_ (HS.out.call hb_.below)
  clear hb_ PT
  refine qK hK HS ?_
  clear hK K
  refine qA 11 20 4095 HT_ ?_
  refine qA 12 21 8191 HT_ ?_
  refine qA 13 22 16383 HT_ ?_
  refine qM 14 23 32767 HT_ HW_ HS ?_
  refine qA 15 24 65535 HT_ ?_
  refine qM 16 25 131071 HT_ HW_ HS ?_
  refine qA 18 27 393215 HT_ ?_
  obtain ⟨t, ht, H⟩ := Option.bind_eq_some_iff.mp PH.out
  (try dsimp only at H)
  have PT := mk_ ht
  clear ht PH
  have PH := mk_ H
  clear H
  refine qO 17 (some 26) 524287 HT_ (fun K hK => ?_)
  refine goes_ Try.func87 kz rfl #[.int .i64 a1_1, .int .i64 a1_0] rz rfl rfl am ?_
  refine (impl_far.calls a1_1 a1_0 _ _ PT.out).mono ?_
  rintro e w9_ ⟨rfl, hb_⟩
  refine ⟨_, rfl, ?_⟩
  replace HS := mk_ (HS.out.call hb_.below)
  clear hb_ PT
  refine qK hK HS ?_
  clear hK K
  by_cases c : t = (l1_2.length : Int)
  rotate_left
  · have cb1 : (t == (l1_2.length : Int)) = false := beq_eq_false_iff_ne.mpr c
    have cb2 : (t != (l1_2.length : Int)) = true := bne_iff_ne.mpr c
    have H := PH.out
    rw [if_neg c] at H
    clear PH
    have PH := mk_ H
    clear H
    clear c
    refine qA 19 28 1048575 HT_ ?_
    clear cb1 cb2
    refine qA 20 29 2097151 HT_ ?_
    refine qA 21 30 4194303 HT_ ?_
    refine qB 22 31 8388607 HT_ ?_
    refine qB 23 32 16777215 HT_ ?_
    refine qB 24 33 33554431 HT_ ?_
    refine qB 25 34 67108863 HT_ ?_
    refine qA 26 35 134217727 HT_ ?_
    refine qA 27 36 268435455 HT_ ?_
    refine qB 28 37 536870911 HT_ ?_
    refine qB 29 38 1073741823 HT_ ?_
    refine qB 30 39 2147483647 HT_ ?_
    refine qB 31 40 4294967295 HT_ ?_
    refine qA 32 41 8589934591 HT_ ?_
    refine qA 33 42 17179869183 HT_ ?_
    refine qB 34 43 34359738367 HT_ ?_
    refine qB 35 44 68719476735 HT_ ?_
    refine qB 36 45 137438953471 HT_ ?_
    refine qB 37 46 274877906943 HT_ ?_
    refine qA 38 47 549755813887 HT_ ?_
    refine qA 39 48 1099511627775 HT_ ?_
    refine qB 40 49 2199023255551 HT_ ?_
    refine qB 41 50 4398046511103 HT_ ?_
    refine qB 42 51 8796093022207 HT_ ?_
    refine qB 43 52 17592186044415 HT_ ?_
    refine qB 44 53 35184372088831 HT_ ?_
    refine qA 45 54 70368744177663 HT_ ?_
    refine qA 46 55 140737488355327 HT_ ?_
    refine qB 47 56 281474976710655 HT_ ?_
    refine qB 48 57 562949953421311 HT_ ?_
    refine qB 49 58 1125899906842623 HT_ ?_
    refine qA 50 59 2251799813685247 HT_ ?_
    refine qA 51 60 4503599627370495 HT_ ?_
    refine qB 52 61 9007199254740991 HT_ ?_
    refine qB 53 62 18014398509481983 HT_ ?_
    refine qB 54 63 36028797018963967 HT_ ?_
    refine qB 55 64 72057594037927935 HT_ ?_
    refine qB 56 65 144115188075855871 HT_ ?_
    refine qB 57 66 288230376151711743 HT_ ?_
    refine qA 58 67 576460752303423487 HT_ ?_
    refine qA 59 68 1152921504606846975 HT_ ?_
    refine qB 60 69 2305843009213693951 HT_ ?_
    refine qB 61 70 4611686018427387903 HT_ ?_
    refine qB 62 71 9223372036854775807 HT_ ?_
    refine qB 63 72 18446744073709551615 HT_ ?_
    refine qA 64 73 36893488147419103231 HT_ ?_
    refine qA 65 74 73786976294838206463 HT_ ?_
    refine qB 66 75 147573952589676412927 HT_ ?_
    refine qB 67 76 295147905179352825855 HT_ ?_
    refine qB 68 77 590295810358705651711 HT_ ?_
    refine qB 69 78 1180591620717411303423 HT_ ?_
    refine qA 70 79 2361183241434822606847 HT_ ?_
    refine qA 71 4 4722366482869645213695 HT_ ?_
    refine qF HT_ ?_
    clear HT_ HW_
    try go_wp2
    obtain rfl := Option.some.inj PH.out
    go_ret
    exact ⟨ez, HS.out.bel⟩
  have cb1 : (t == (l1_2.length : Int)) = true := beq_iff_eq.mpr c
  have cb2 : (t != (l1_2.length : Int)) = false := bne_eq_false_iff_eq.mpr c
  have H := PH.out
  rw [if_pos c] at H
  clear PH
  have PH := mk_ H
  clear H
  clear c
  refine qA 19 28 1048575 HT_ ?_
  clear cb1 cb2
  refine qA 20 29 2097151 HT_ ?_
  refine qA 21 30 4194303 HT_ ?_
  refine qA 22 31 8388607 HT_ ?_
  refine qA 23 32 16777215 HT_ ?_
  refine qM 24 33 33554431 HT_ HW_ HS ?_
  by_cases c : (l1_2.length : Int) ≤ a0_1
  rotate_left
  · have cb1 : decide ((l1_2.length : Int) ≤ a0_1) = false := decide_eq_false c
    have H := PH.out
    rw [if_neg c] at H
    clear PH
    have PH := mk_ H
    clear H
    clear c
    refine qA 25 34 67108863 HT_ ?_
    clear cb1
    refine qA 26 35 134217727 HT_ ?_
    refine qA 27 36 268435455 HT_ ?_
    refine qB 28 37 536870911 HT_ ?_
    refine qB 29 38 1073741823 HT_ ?_
    refine qB 30 39 2147483647 HT_ ?_
    refine qB 31 40 4294967295 HT_ ?_
    refine qA 32 41 8589934591 HT_ ?_
    refine qA 33 42 17179869183 HT_ ?_
    refine qB 34 43 34359738367 HT_ ?_
    refine qB 35 44 68719476735 HT_ ?_
    refine qB 36 45 137438953471 HT_ ?_
    refine qB 37 46 274877906943 HT_ ?_
    refine qA 38 47 549755813887 HT_ ?_
    refine qA 39 48 1099511627775 HT_ ?_
    refine qB 40 49 2199023255551 HT_ ?_
    refine qB 41 50 4398046511103 HT_ ?_
    refine qB 42 51 8796093022207 HT_ ?_
    refine qB 43 52 17592186044415 HT_ ?_
    refine qB 44 53 35184372088831 HT_ ?_
    refine qA 45 54 70368744177663 HT_ ?_
    refine qA 46 55 140737488355327 HT_ ?_
    refine qB 47 56 281474976710655 HT_ ?_
    refine qB 48 57 562949953421311 HT_ ?_
    refine qB 49 58 1125899906842623 HT_ ?_
    refine qA 50 59 2251799813685247 HT_ ?_
    refine qA 51 60 4503599627370495 HT_ ?_
    refine qB 52 61 9007199254740991 HT_ ?_
    refine qB 53 62 18014398509481983 HT_ ?_
    refine qB 54 63 36028797018963967 HT_ ?_
    refine qB 55 64 72057594037927935 HT_ ?_
    refine qB 56 65 144115188075855871 HT_ ?_
    refine qB 57 66 288230376151711743 HT_ ?_
    refine qA 58 67 576460752303423487 HT_ ?_
    refine qA 59 68 1152921504606846975 HT_ ?_
    refine qB 60 69 2305843009213693951 HT_ ?_
    refine qB 61 70 4611686018427387903 HT_ ?_
    refine qB 62 71 9223372036854775807 HT_ ?_
    refine qB 63 72 18446744073709551615 HT_ ?_
    refine qA 64 73 36893488147419103231 HT_ ?_
    refine qA 65 74 73786976294838206463 HT_ ?_
    refine qB 66 75 147573952589676412927 HT_ ?_
    refine qB 67 76 295147905179352825855 HT_ ?_
    refine qB 68 77 590295810358705651711 HT_ ?_
    refine qB 69 78 1180591620717411303423 HT_ ?_
    refine qA 70 79 2361183241434822606847 HT_ ?_
    refine qA 71 4 4722366482869645213695 HT_ ?_
    refine qF HT_ ?_
    clear HT_ HW_
    try go_wp2
    obtain rfl := Option.some.inj PH.out
    go_ret
    exact ⟨ez, HS.out.bel⟩
  have cb1 : decide ((l1_2.length : Int) ≤ a0_1) = true := decide_eq_true c
  have H := PH.out
  rw [if_pos c] at H
  clear PH
  have PH := mk_ H
  clear H
  clear c
  refine qA 25 34 67108863 HT_ ?_
  clear cb1
  refine qA 26 35 134217727 HT_ ?_
  refine qA 27 36 268435455 HT_ ?_
  refine qA 28 37 536870911 HT_ ?_
  refine qM 29 38 1073741823 HT_ HW_ HS ?_
  refine qA 30 39 2147483647 HT_ ?_
  obtain ⟨t, ht, H⟩ := Option.bind_eq_some_iff.mp PH.out
  (try dsimp only at H)
  have PT := mk_ ht
  clear ht PH
  cases t
  · rw [if_neg Bool.false_ne_true] at H
    have PH := mk_ H
    clear H
    refine qO 31 (some 40) 4294967295 HT_ (fun K hK => ?_)
    refine goes_ Try.func65 kz rfl #[.int .i64 a1_3, .int .i64 0, .int .i64 (l1_2.length : Int)] rz rfl rfl am ?_
    refine (impl_in.calls a1_3 0 (l1_2.length : Int) false _ PT.out).mono ?_
    rintro e w9_ ⟨rfl, hb_⟩
    refine ⟨_, rfl, ?_⟩
    replace HS := mk_ (HS.out.call hb_.below)
    clear hb_ PT
    refine qK hK HS ?_
    clear hK K
    refine qA 32 41 8589934591 HT_ ?_
    refine qA 33 42 17179869183 HT_ ?_
    refine qB 34 43 34359738367 HT_ ?_
    refine qB 35 44 68719476735 HT_ ?_
    refine qB 36 45 137438953471 HT_ ?_
    refine qB 37 46 274877906943 HT_ ?_
    refine qA 38 47 549755813887 HT_ ?_
    refine qA 39 48 1099511627775 HT_ ?_
    refine qB 40 49 2199023255551 HT_ ?_
    refine qB 41 50 4398046511103 HT_ ?_
    refine qB 42 51 8796093022207 HT_ ?_
    refine qB 43 52 17592186044415 HT_ ?_
    refine qB 44 53 35184372088831 HT_ ?_
    refine qA 45 54 70368744177663 HT_ ?_
    refine qA 46 55 140737488355327 HT_ ?_
    refine qB 47 56 281474976710655 HT_ ?_
    refine qB 48 57 562949953421311 HT_ ?_
    refine qB 49 58 1125899906842623 HT_ ?_
    refine qA 50 59 2251799813685247 HT_ ?_
    refine qA 51 60 4503599627370495 HT_ ?_
    refine qB 52 61 9007199254740991 HT_ ?_
    refine qB 53 62 18014398509481983 HT_ ?_
    refine qB 54 63 36028797018963967 HT_ ?_
    refine qB 55 64 72057594037927935 HT_ ?_
    refine qB 56 65 144115188075855871 HT_ ?_
    refine qB 57 66 288230376151711743 HT_ ?_
    refine qA 58 67 576460752303423487 HT_ ?_
    refine qA 59 68 1152921504606846975 HT_ ?_
    refine qB 60 69 2305843009213693951 HT_ ?_
    refine qB 61 70 4611686018427387903 HT_ ?_
    refine qB 62 71 9223372036854775807 HT_ ?_
    refine qB 63 72 18446744073709551615 HT_ ?_
    refine qA 64 73 36893488147419103231 HT_ ?_
    refine qA 65 74 73786976294838206463 HT_ ?_
    refine qB 66 75 147573952589676412927 HT_ ?_
    refine qB 67 76 295147905179352825855 HT_ ?_
    refine qB 68 77 590295810358705651711 HT_ ?_
    refine qB 69 78 1180591620717411303423 HT_ ?_
    refine qA 70 79 2361183241434822606847 HT_ ?_
    refine qA 71 4 4722366482869645213695 HT_ ?_
    refine qF HT_ ?_
    clear HT_ HW_
    try go_wp2
    obtain rfl := Option.some.inj PH.out
    go_ret
    exact ⟨ez, HS.out.bel⟩
  rw [if_pos rfl] at H
  have PH := mk_ H
  clear H
  refine qO 31 (some 40) 4294967295 HT_ (fun K hK => ?_)
  refine goes_ Try.func65 kz rfl #[.int .i64 a1_3, .int .i64 0, .int .i64 (l1_2.length : Int)] rz rfl rfl am ?_
  refine (impl_in.calls a1_3 0 (l1_2.length : Int) true _ PT.out).mono ?_
  rintro e w9_ ⟨rfl, hb_⟩
  refine ⟨_, rfl, ?_⟩
  replace HS := mk_ (HS.out.call hb_.below)
  clear hb_ PT
  refine qK hK HS ?_
  clear hK K
  refine qA 32 41 8589934591 HT_ ?_
  refine qA 33 42 17179869183 HT_ ?_
  refine qA 34 43 34359738367 HT_ ?_
  refine qM 35 44 68719476735 HT_ HW_ HS ?_
  refine qA 36 45 137438953471 HT_ ?_
  by_cases c : (l1_4.length : Int) ≤ 24
  rotate_left
  · have cb1 : decide ((l1_4.length : Int) ≤ 24) = false := decide_eq_false c
    have H := PH.out
    rw [if_neg c] at H
    clear PH
    have PH := mk_ H
    clear H
    clear c
    refine qA 37 46 274877906943 HT_ ?_
    clear cb1
    refine qA 38 47 549755813887 HT_ ?_
    refine qA 39 48 1099511627775 HT_ ?_
    refine qB 40 49 2199023255551 HT_ ?_
    refine qB 41 50 4398046511103 HT_ ?_
    refine qB 42 51 8796093022207 HT_ ?_
    refine qB 43 52 17592186044415 HT_ ?_
    refine qB 44 53 35184372088831 HT_ ?_
    refine qA 45 54 70368744177663 HT_ ?_
    refine qA 46 55 140737488355327 HT_ ?_
    refine qB 47 56 281474976710655 HT_ ?_
    refine qB 48 57 562949953421311 HT_ ?_
    refine qB 49 58 1125899906842623 HT_ ?_
    refine qA 50 59 2251799813685247 HT_ ?_
    refine qA 51 60 4503599627370495 HT_ ?_
    refine qB 52 61 9007199254740991 HT_ ?_
    refine qB 53 62 18014398509481983 HT_ ?_
    refine qB 54 63 36028797018963967 HT_ ?_
    refine qB 55 64 72057594037927935 HT_ ?_
    refine qB 56 65 144115188075855871 HT_ ?_
    refine qB 57 66 288230376151711743 HT_ ?_
    refine qA 58 67 576460752303423487 HT_ ?_
    refine qA 59 68 1152921504606846975 HT_ ?_
    refine qB 60 69 2305843009213693951 HT_ ?_
    refine qB 61 70 4611686018427387903 HT_ ?_
    refine qB 62 71 9223372036854775807 HT_ ?_
    refine qB 63 72 18446744073709551615 HT_ ?_
    refine qA 64 73 36893488147419103231 HT_ ?_
    refine qA 65 74 73786976294838206463 HT_ ?_
    refine qB 66 75 147573952589676412927 HT_ ?_
    refine qB 67 76 295147905179352825855 HT_ ?_
    refine qB 68 77 590295810358705651711 HT_ ?_
    refine qB 69 78 1180591620717411303423 HT_ ?_
    refine qA 70 79 2361183241434822606847 HT_ ?_
    refine qA 71 4 4722366482869645213695 HT_ ?_
    refine qF HT_ ?_
    clear HT_ HW_
    try go_wp2
    obtain rfl := Option.some.inj PH.out
    go_ret
    exact ⟨ez, HS.out.bel⟩
  have cb1 : decide ((l1_4.length : Int) ≤ 24) = true := decide_eq_true c
  have H := PH.out
  rw [if_pos c] at H
  clear PH
  have PH := mk_ H
  clear H
  clear c
  refine qA 37 46 274877906943 HT_ ?_
  clear cb1
  refine qA 38 47 549755813887 HT_ ?_
  refine qA 39 48 1099511627775 HT_ ?_
  refine qA 40 49 2199023255551 HT_ ?_
  refine qM 41 50 4398046511103 HT_ HW_ HS ?_
  refine qA 42 51 8796093022207 HT_ ?_
  refine qM 43 52 17592186044415 HT_ HW_ HS ?_
  obtain ⟨t, ht, H⟩ := Option.bind_eq_some_iff.mp PH.out
  (try dsimp only at H)
  have PT := mk_ ht
  clear ht PH
  cases t
  · rw [if_neg Bool.false_ne_true] at H
    have PH := mk_ H
    clear H
    refine qO 44 (some 53) 35184372088831 HT_ (fun K hK => ?_)
    refine goes_ Try.func65 kz rfl #[.int .i64 a1_6, .int .i64 0, .int .i64 a0_4] rz rfl rfl am ?_
    refine (impl_in.calls a1_6 0 a0_4 false _ PT.out).mono ?_
    rintro e w9_ ⟨rfl, hb_⟩
    refine ⟨_, rfl, ?_⟩
    replace HS := mk_ (HS.out.call hb_.below)
    clear hb_ PT
    refine qK hK HS ?_
    clear hK K
    refine qA 45 54 70368744177663 HT_ ?_
    refine qA 46 55 140737488355327 HT_ ?_
    refine qB 47 56 281474976710655 HT_ ?_
    refine qB 48 57 562949953421311 HT_ ?_
    refine qB 49 58 1125899906842623 HT_ ?_
    refine qA 50 59 2251799813685247 HT_ ?_
    refine qA 51 60 4503599627370495 HT_ ?_
    refine qB 52 61 9007199254740991 HT_ ?_
    refine qB 53 62 18014398509481983 HT_ ?_
    refine qB 54 63 36028797018963967 HT_ ?_
    refine qB 55 64 72057594037927935 HT_ ?_
    refine qB 56 65 144115188075855871 HT_ ?_
    refine qB 57 66 288230376151711743 HT_ ?_
    refine qA 58 67 576460752303423487 HT_ ?_
    refine qA 59 68 1152921504606846975 HT_ ?_
    refine qB 60 69 2305843009213693951 HT_ ?_
    refine qB 61 70 4611686018427387903 HT_ ?_
    refine qB 62 71 9223372036854775807 HT_ ?_
    refine qB 63 72 18446744073709551615 HT_ ?_
    refine qA 64 73 36893488147419103231 HT_ ?_
    refine qA 65 74 73786976294838206463 HT_ ?_
    refine qB 66 75 147573952589676412927 HT_ ?_
    refine qB 67 76 295147905179352825855 HT_ ?_
    refine qB 68 77 590295810358705651711 HT_ ?_
    refine qB 69 78 1180591620717411303423 HT_ ?_
    refine qA 70 79 2361183241434822606847 HT_ ?_
    refine qA 71 4 4722366482869645213695 HT_ ?_
    refine qF HT_ ?_
    clear HT_ HW_
    try go_wp2
    obtain rfl := Option.some.inj PH.out
    go_ret
    exact ⟨ez, HS.out.bel⟩
  rw [if_pos rfl] at H
  have PH := mk_ H
  clear H
  refine qO 44 (some 53) 35184372088831 HT_ (fun K hK => ?_)
  refine goes_ Try.func65 kz rfl #[.int .i64 a1_6, .int .i64 0, .int .i64 a0_4] rz rfl rfl am ?_
  refine (impl_in.calls a1_6 0 a0_4 true _ PT.out).mono ?_
  rintro e w9_ ⟨rfl, hb_⟩
  refine ⟨_, rfl, ?_⟩
  replace HS := mk_ (HS.out.call hb_.below)
  clear hb_ PT
  refine qK hK HS ?_
  clear hK K
  refine qA 45 54 70368744177663 HT_ ?_
  refine qA 46 55 140737488355327 HT_ ?_
  refine qA 47 56 281474976710655 HT_ ?_
  refine qM 48 57 562949953421311 HT_ HW_ HS ?_
  obtain ⟨t, ht, H⟩ := Option.bind_eq_some_iff.mp PH.out
  (try dsimp only at H)
  have PT := mk_ ht
  clear ht PH
  cases t
  · rw [if_neg Bool.false_ne_true] at H
    have PH := mk_ H
    clear H
    refine qO 49 (some 58) 1125899906842623 HT_ (fun K hK => ?_)
    refine goes_ Try.func65 kz rfl #[.int .i64 a1_8, .int .i64 0, .int .i64 9999] rz rfl rfl am ?_
    refine (impl_in.calls a1_8 0 9999 false _ PT.out).mono ?_
    rintro e w9_ ⟨rfl, hb_⟩
    refine ⟨_, rfl, ?_⟩
    replace HS := mk_ (HS.out.call hb_.below)
    clear hb_ PT
    refine qK hK HS ?_
    clear hK K
    refine qA 50 59 2251799813685247 HT_ ?_
    refine qA 51 60 4503599627370495 HT_ ?_
    refine qB 52 61 9007199254740991 HT_ ?_
    refine qB 53 62 18014398509481983 HT_ ?_
    refine qB 54 63 36028797018963967 HT_ ?_
    refine qB 55 64 72057594037927935 HT_ ?_
    refine qB 56 65 144115188075855871 HT_ ?_
    refine qB 57 66 288230376151711743 HT_ ?_
    refine qA 58 67 576460752303423487 HT_ ?_
    refine qA 59 68 1152921504606846975 HT_ ?_
    refine qB 60 69 2305843009213693951 HT_ ?_
    refine qB 61 70 4611686018427387903 HT_ ?_
    refine qB 62 71 9223372036854775807 HT_ ?_
    refine qB 63 72 18446744073709551615 HT_ ?_
    refine qA 64 73 36893488147419103231 HT_ ?_
    refine qA 65 74 73786976294838206463 HT_ ?_
    refine qB 66 75 147573952589676412927 HT_ ?_
    refine qB 67 76 295147905179352825855 HT_ ?_
    refine qB 68 77 590295810358705651711 HT_ ?_
    refine qB 69 78 1180591620717411303423 HT_ ?_
    refine qA 70 79 2361183241434822606847 HT_ ?_
    refine qA 71 4 4722366482869645213695 HT_ ?_
    refine qF HT_ ?_
    clear HT_ HW_
    try go_wp2
    obtain rfl := Option.some.inj PH.out
    go_ret
    exact ⟨ez, HS.out.bel⟩
  rw [if_pos rfl] at H
  have PH := mk_ H
  clear H
  refine qO 49 (some 58) 1125899906842623 HT_ (fun K hK => ?_)
  refine goes_ Try.func65 kz rfl #[.int .i64 a1_8, .int .i64 0, .int .i64 9999] rz rfl rfl am ?_
  refine (impl_in.calls a1_8 0 9999 true _ PT.out).mono ?_
  rintro e w9_ ⟨rfl, hb_⟩
  refine ⟨_, rfl, ?_⟩
  replace HS := mk_ (HS.out.call hb_.below)
  clear hb_ PT
  refine qK hK HS ?_
  clear hK K
  refine qA 50 59 2251799813685247 HT_ ?_
  refine qA 51 60 4503599627370495 HT_ ?_
  refine qA 52 61 9007199254740991 HT_ ?_
  refine qM 53 62 18014398509481983 HT_ HW_ HS ?_
  refine qA 55 64 54043195528445951 HT_ ?_
  refine qM 56 65 126100789566373887 HT_ HW_ HS ?_
  obtain ⟨t, ht, H⟩ := Option.bind_eq_some_iff.mp PH.out
  (try dsimp only at H)
  have PT := mk_ ht
  clear ht PH
  have PH := mk_ H
  clear H
  refine qO 54 (some 63) 144115188075855871 HT_ (fun K hK => ?_)
  refine goes_ Try.func88 kz rfl #[.int .i64 a1_8] rz rfl rfl am ?_
  refine (impl_NumOf.calls a1_8 _ _ PT.out).mono ?_
  rintro e w9_ ⟨rfl, hb_⟩
  refine ⟨_, rfl, ?_⟩
  replace HS := mk_ (HS.out.call hb_.below)
  clear hb_ PT
  refine qK hK HS ?_
  clear hK K
  by_cases c : t = a1_1
  rotate_left
  · have cb1 : (t == a1_1) = false := beq_eq_false_iff_ne.mpr c
    have cb2 : (t != a1_1) = true := bne_iff_ne.mpr c
    have H := PH.out
    rw [if_neg c] at H
    clear PH
    have PH := mk_ H
    clear H
    clear c
    refine qA 57 66 288230376151711743 HT_ ?_
    clear cb1 cb2
    refine qA 58 67 576460752303423487 HT_ ?_
    refine qA 59 68 1152921504606846975 HT_ ?_
    refine qB 60 69 2305843009213693951 HT_ ?_
    refine qB 61 70 4611686018427387903 HT_ ?_
    refine qB 62 71 9223372036854775807 HT_ ?_
    refine qB 63 72 18446744073709551615 HT_ ?_
    refine qA 64 73 36893488147419103231 HT_ ?_
    refine qA 65 74 73786976294838206463 HT_ ?_
    refine qB 66 75 147573952589676412927 HT_ ?_
    refine qB 67 76 295147905179352825855 HT_ ?_
    refine qB 68 77 590295810358705651711 HT_ ?_
    refine qB 69 78 1180591620717411303423 HT_ ?_
    refine qA 70 79 2361183241434822606847 HT_ ?_
    refine qA 71 4 4722366482869645213695 HT_ ?_
    refine qF HT_ ?_
    clear HT_ HW_
    try go_wp2
    obtain rfl := Option.some.inj PH.out
    go_ret
    exact ⟨ez, HS.out.bel⟩
  have cb1 : (t == a1_1) = true := beq_iff_eq.mpr c
  have cb2 : (t != a1_1) = false := bne_eq_false_iff_eq.mpr c
  have H := PH.out
  rw [if_pos c] at H
  clear PH
  have PH := mk_ H
  clear H
  clear c
  refine qA 57 66 288230376151711743 HT_ ?_
  clear cb1 cb2
  refine qA 58 67 576460752303423487 HT_ ?_
  refine qA 59 68 1152921504606846975 HT_ ?_
  refine qL 60 69 2305843009213693951 5 HT_ HW_ HS ?_
  refine qA 61 70 4611686018427387903 HT_ ?_
  refine qM 62 71 9223372036854775807 HT_ HW_ HS ?_
  obtain ⟨t, ht, H⟩ := Option.bind_eq_some_iff.mp PH.out
  (try dsimp only at H)
  have PT := mk_ ht
  clear ht PH
  cases t
  · rw [if_neg Bool.false_ne_true] at H
    have PH := mk_ H
    clear H
    refine qO 63 (some 72) 18446744073709551615 HT_ (fun K hK => ?_)
    refine goes_ Try.func89 kz rfl #[.agg #[.int .i64 a0_0, .int .i64 a0_1, .int .i64 a0_2, .int .i64 a0_3, .int .i64 a0_4], .slice A1_2 l1_2.length c1_2] rz rfl rfl am ?_
    refine (impl_CfgOpts_partsOk.calls k a0_0 a0_1 a0_2 a0_3 a0_4 A1_2 c1_2 l1_2 false _ (Kd.C_below HR2.out HS.out.bel) HC2.out PT.out).mono ?_
    rintro e w9_ ⟨rfl, hb_⟩
    refine ⟨_, rfl, ?_⟩
    replace HS := mk_ (HS.out.call hb_)
    clear hb_ PT
    refine qK hK HS ?_
    clear hK K
    refine qA 64 73 36893488147419103231 HT_ ?_
    refine qA 65 74 73786976294838206463 HT_ ?_
    refine qB 66 75 147573952589676412927 HT_ ?_
    refine qB 67 76 295147905179352825855 HT_ ?_
    refine qB 68 77 590295810358705651711 HT_ ?_
    refine qB 69 78 1180591620717411303423 HT_ ?_
    refine qA 70 79 2361183241434822606847 HT_ ?_
    refine qA 71 4 4722366482869645213695 HT_ ?_
    refine qF HT_ ?_
    clear HT_ HW_
    try go_wp2
    obtain rfl := Option.some.inj PH.out
    go_ret
    exact ⟨ez, HS.out.bel⟩
  rw [if_pos rfl] at H
  have PH := mk_ H
  clear H
  refine qO 63 (some 72) 18446744073709551615 HT_ (fun K hK => ?_)
  refine goes_ Try.func89 kz rfl #[.agg #[.int .i64 a0_0, .int .i64 a0_1, .int .i64 a0_2, .int .i64 a0_3, .int .i64 a0_4], .slice A1_2 l1_2.length c1_2] rz rfl rfl am ?_
  refine (impl_CfgOpts_partsOk.calls k a0_0 a0_1 a0_2 a0_3 a0_4 A1_2 c1_2 l1_2 true _ (Kd.C_below HR2.out HS.out.bel) HC2.out PT.out).mono ?_
  rintro e w9_ ⟨rfl, hb_⟩
  refine ⟨_, rfl, ?_⟩
  replace HS := mk_ (HS.out.call hb_)
  clear hb_ PT
  refine qK hK HS ?_
  clear hK K
  refine qA 64 73 36893488147419103231 HT_ ?_
  refine qA 65 74 73786976294838206463 HT_ ?_
  refine qL 66 75 147573952589676412927 5 HT_ HW_ HS ?_
  refine qA 67 76 295147905179352825855 HT_ ?_
  refine qM 68 77 590295810358705651711 HT_ HW_ HS ?_
  obtain ⟨t, ht, H⟩ := Option.bind_eq_some_iff.mp PH.out
  (try dsimp only at H)
  have PT := mk_ ht
  clear ht PH
  cases t
  · obtain rfl := Option.some.inj H
    clear H
    refine qO 69 (some 78) 1180591620717411303423 HT_ (fun K hK => ?_)
    refine goes_ Try.func89 kz rfl #[.agg #[.int .i64 a0_0, .int .i64 a0_1, .int .i64 a0_2, .int .i64 a0_3, .int .i64 a0_4], .slice A1_4 l1_4.length c1_4] rz rfl rfl am ?_
    refine (impl_CfgOpts_partsOk.calls k a0_0 a0_1 a0_2 a0_3 a0_4 A1_4 c1_4 l1_4 false _ (Kd.C_below HR4.out HS.out.bel) HC4.out PT.out).mono ?_
    rintro e w9_ ⟨rfl, hb_⟩
    refine ⟨_, rfl, ?_⟩
    replace HS := mk_ (HS.out.call hb_)
    clear hb_ PT
    refine qK hK HS ?_
    clear hK K
    refine qA 70 79 2361183241434822606847 HT_ ?_
    refine qA 71 4 4722366482869645213695 HT_ ?_
    refine qF HT_ ?_
    clear HT_ HW_
    try go_wp2
    first | done | (obtain rfl := Option.some.inj PH.out) | skip
    go_ret
    exact ⟨ez, HS.out.bel⟩
  obtain rfl := Option.some.inj H
  clear H
  refine qO 69 (some 78) 1180591620717411303423 HT_ (fun K hK => ?_)
  refine goes_ Try.func89 kz rfl #[.agg #[.int .i64 a0_0, .int .i64 a0_1, .int .i64 a0_2, .int .i64 a0_3, .int .i64 a0_4], .slice A1_4 l1_4.length c1_4] rz rfl rfl am ?_
  refine (impl_CfgOpts_partsOk.calls k a0_0 a0_1 a0_2 a0_3 a0_4 A1_4 c1_4 l1_4 true _ (Kd.C_below HR4.out HS.out.bel) HC4.out PT.out).mono ?_
  rintro e w9_ ⟨rfl, hb_⟩
  refine ⟨_, rfl, ?_⟩
  replace HS := mk_ (HS.out.call hb_)
  clear hb_ PT
  refine qK hK HS ?_
  clear hK K
  refine qA 70 79 2361183241434822606847 HT_ ?_
  refine qA 71 4 4722366482869645213695 HT_ ?_
  refine qF HT_ ?_
  clear HT_ HW_
  try go_wp2
  go_ret
  exact ⟨ez, HS.out.bel⟩

end Go.Proofs.Yteknaofnageihaa.QFnTxOk

