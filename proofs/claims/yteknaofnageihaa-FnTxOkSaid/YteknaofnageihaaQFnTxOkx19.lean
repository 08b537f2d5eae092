-- Written by a program of this session, a turned copy of the print (not by print.sh itself). Lean checks it.
import Derived.Test.YteknaofnageihaaQFnTxOkx0
import Derived.Test.YteknaofnageihaaTkz
import Derived.Test.YteknaofnageihaaQFnTxOkx11
import Derived.Test.YteknaofnageihaaQFnTxOkx13
import Derived.Test.YteknaofnageihaaQFnTxOkx14
import Derived.Test.YteknaofnageihaaQFnTxOkx15
import Derived.Test.YteknaofnageihaaQFnTxOkx18
namespace Go.Proofs.Yteknaofnageihaa.QFnTxOk
open Go.RowKit Go.Proofs.YteknaofnageihaaW.PrintWords Go.Proofs.YteknaofnageihaaW.PrintLast Go.Proofs.YteknaofnageihaaW.PrintMore Go.Proofs.YteknaofnageihaaLoc
attribute [local go_sem] max2_int min2_int max_two min_two max_three min_three max_four min_four   -- for this text's walks alone
set_option linter.unusedVariables false
set_option linter.unusedSimpArgs false

/-! ### spec_TxOk: function 48 -/
def spec_TxOk.j0:Nat→Bool→Int→Int→Int→Int→Int→Int→Int→List (S39)→Int→List (S39)→Bool→Int→Bool→Int→Bool→Option (Bool)
 | 0,_,_,_,_,_,_,_,_,_,_,_,_,_,_,_,_=>none
 | k+1,x75,x293000,x293001,x293002,x293003,x293004,x294000,x294001,x294002,x294003,x294004,x294005,x294006,x294007,x294008,x294009=>if x75=true then (some false) else ((spec_l6Parts.f k x294002 x293002).bind fun t302=>(if t302=true then ((spec_l6Parts.f k x294004 x293002).bind fun t303=>(some t303)) else (some false)))
def spec_TxOk.f (k:Nat) (a0_0:Int) (a0_1:Int) (a0_2:Int) (a0_3:Int) (a0_4:Int) (a1_0:Int) (a1_1:Int) (l1_2:List (S39)) (a1_3:Int) (l1_4:List (S39)) (a1_5:Bool) (a1_6:Int) (a1_7:Bool) (a1_8:Int) (a1_9:Bool):Option (Bool):=(spec_CfgOk.f a0_0 a0_1 a0_2 a0_3 a0_4).bind fun t294=>(if t294=true then ((spec_l1In.f a1_0 0 7).bind fun t295=>(if t295=true then ((spec_l1In.f a1_1 0 7).bind fun t296=>(if t296=true then (if (l1_2.length:Int) > a0_1 then (spec_TxOk.j0 k true a0_0 a0_1 a0_2 a0_3 a0_4 a1_0 a1_1 l1_2 a1_3 l1_4 a1_5 a1_6 a1_7 a1_8 a1_9) else ((spec_NumFar.f a1_1 a1_0).bind fun t297=>(if t297=(l1_2.length:Int) then ((spec_l1In.f a1_3 0 (l1_2.length:Int)).bind fun t298=>(if t298=true then (if (l1_4.length:Int) > 24 then (spec_TxOk.j0 k true a0_0 a0_1 a0_2 a0_3 a0_4 a1_0 a1_1 l1_2 a1_3 l1_4 a1_5 a1_6 a1_7 a1_8 a1_9) else ((spec_l1In.f a1_6 0 a0_4).bind fun t299=>(if t299=true then ((spec_l1In.f a1_8 0 9999).bind fun t300=>(if t300=true then ((spec_NumOf.f a1_8).bind fun t301=>(spec_TxOk.j0 k (t301 != a1_1) a0_0 a0_1 a0_2 a0_3 a0_4 a1_0 a1_1 l1_2 a1_3 l1_4 a1_5 a1_6 a1_7 a1_8 a1_9)) else (spec_TxOk.j0 k true a0_0 a0_1 a0_2 a0_3 a0_4 a1_0 a1_1 l1_2 a1_3 l1_4 a1_5 a1_6 a1_7 a1_8 a1_9))) else (spec_TxOk.j0 k true a0_0 a0_1 a0_2 a0_3 a0_4 a1_0 a1_1 l1_2 a1_3 l1_4 a1_5 a1_6 a1_7 a1_8 a1_9)))) else (spec_TxOk.j0 k true a0_0 a0_1 a0_2 a0_3 a0_4 a1_0 a1_1 l1_2 a1_3 l1_4 a1_5 a1_6 a1_7 a1_8 a1_9))) else (spec_TxOk.j0 k true a0_0 a0_1 a0_2 a0_3 a0_4 a1_0 a1_1 l1_2 a1_3 l1_4 a1_5 a1_6 a1_7 a1_8 a1_9)))) else (spec_TxOk.j0 k true a0_0 a0_1 a0_2 a0_3 a0_4 a1_0 a1_1 l1_2 a1_3 l1_4 a1_5 a1_6 a1_7 a1_8 a1_9))) else (spec_TxOk.j0 k true a0_0 a0_1 a0_2 a0_3 a0_4 a1_0 a1_1 l1_2 a1_3 l1_4 a1_5 a1_6 a1_7 a1_8 a1_9))) else (spec_TxOk.j0 k true a0_0 a0_1 a0_2 a0_3 a0_4 a1_0 a1_1 l1_2 a1_3 l1_4 a1_5 a1_6 a1_7 a1_8 a1_9))
theorem spec_TxOk.mono_l:∀ k,(∀ y0 y1 y2 y3 y4 y5 y6 y7 y8 y9 y10 y11 y12 y13 y14 y15,LeO (spec_TxOk.j0 k y0 y1 y2 y3 y4 y5 y6 y7 y8 y9 y10 y11 y12 y13 y14 y15) (spec_TxOk.j0 (k+1) y0 y1 y2 y3 y4 y5 y6 y7 y8 y9 y10 y11 y12 y13 y14 y15))
 | 0=>fun _ _ _ _ _ _ _ _ _ _ _ _ _ _ _ _ r h=>by simp [spec_TxOk.j0] at h
 | k+1=>by
  have ih0:=spec_TxOk.mono_l k
  ·intro y0 y1 y2 y3 y4 y5 y6 y7 y8 y9 y10 y11 y12 y13 y14 y15
   unfold spec_TxOk.j0
   repeat' first
   | (with_reducible exact ih0 _ _ _ _ _ _ _ _ _ _ _ _ _ _ _ _)
   | (with_reducible exact spec_l6Parts.mono _ _ _)
   | (with_reducible exact LeO.refl _)
   | (with_reducible exact LeO.none _)
   | (with_reducible refine LeO.ite ?_ ?_)
   | (with_reducible refine LeO.bind ?_ (fun _=>?_))
   | exact ih0 _ _ _ _ _ _ _ _ _ _ _ _ _ _ _ _
   | exact spec_l6Parts.mono _ _ _
   | exact LeO.none _
   | refine LeO.ite ?_ ?_
   | refine LeO.bind ?_ (fun _=>?_)
theorem spec_TxOk.mono:∀ a0 a1 a2 a3 a4 a5 a6 a7 a8 a9 a10 a11 a12 a13 a14 k,LeO (spec_TxOk.f k a0 a1 a2 a3 a4 a5 a6 a7 a8 a9 a10 a11 a12 a13 a14) (spec_TxOk.f (k+1) a0 a1 a2 a3 a4 a5 a6 a7 a8 a9 a10 a11 a12 a13 a14):=by
 intro a0 a1 a2 a3 a4 a5 a6 a7 a8 a9 a10 a11 a12 a13 a14 k
 have ih0:=spec_TxOk.mono_l k
 unfold spec_TxOk.f
 repeat' first
   | (with_reducible exact ih0 _ _ _ _ _ _ _ _ _ _ _ _ _ _ _ _)
   | (with_reducible exact spec_l6Parts.mono _ _ _)
   | (with_reducible exact LeO.refl _)
   | (with_reducible exact LeO.none _)
   | (with_reducible refine LeO.ite ?_ ?_)
   | (with_reducible refine LeO.bind ?_ (fun _=>?_))
   | exact ih0 _ _ _ _ _ _ _ _ _ _ _ _ _ _ _ _
   | exact spec_l6Parts.mono _ _ _
   | exact LeO.none _
   | refine LeO.ite ?_ ?_
   | refine LeO.bind ?_ (fun _=>?_)
def spec_TxOk.T1:Bool × List (List Nat × List Nat):=(true,[([],[]),([0],[0]),([1],[1]),([2,1],[2]),([3],[3]),([4,3],[3,4]),([5,3,3],[3,5]),([6,3],[3,6]),([3,7],[3,7]),([8,6],[8]),([9],[9]),([10,9],[9,10]),([11,9,9],[9,11]),([12,9],[9,12]),([9,13],[9,13]),([14,12],[14]),([15],[15]),([16,15],[15,16]),([17,15],[15,17]),([15],[15]),([19,15],[15,19]),([18,20,15],[15,18,20]),([15,21],[15,21]),([22,15],[22]),([23],[23]),([24,23],[23,24]),([23],[23]),([26,23],[23,26]),([25,27,23,23],[23,25,27]),([23],[23]),([29,23],[23,29]),([30,23],[23,30]),([28,31,23],[23,28,31]),([23,32],[23,32]),([33,28],[33]),([34],[34]),([35,34],[34,35]),([34],[34]),([37,34],[34,37]),([38,34],[34,38]),([36,39,34,34],[34,36,39]),([40,34],[34,40]),([34,41],[34,41]),([42,40],[42]),([43],[43]),([44,43],[43,44]),([45,43],[43,45]),([46,43],[43,46]),([43,47],[43,47]),([48,43],[48]),([49],[49]),([50,49],[49,50]),([49],[49]),([52,49],[49,52]),([51,53,49,49],[49,51,53]),([54,49],[49,54]),([49,55],[49,55]),([56,54],[56]),([57],[57]),([58,57],[57,58]),([59,57,57],[57,59]),([60,57],[57,60]),([57,61],[57,61]),([62,60],[62]),([63],[63]),([64,63],[63,64]),([65,63,63],[63,65]),([63],[63]),([67,63],[63,67]),([66,68,63],[63,66,68]),([63,69],[63,69])])
def spec_TxOk.B1:List Nat:=[0,1,3,7,15,31,63,127,255,511,1023,2047,4095,8191,16383,32767,65535,131071,262143,65535,589823,2097151,4194303,8388607,16777215,33554431,16777215,83886079,268435455,16777215,553648127,1627389951,4294967295,8589934591,17179869183,34359738367,68719476735,34359738367,171798691839,446676598783,1099511627775,2199023255551,4398046511103,8796093022207,17592186044415,35184372088831,70368744177663,140737488355327,281474976710655,562949953421311,1125899906842623,2251799813685247,1125899906842623,5629499534213119,18014398509481983,36028797018963967,72057594037927935,144115188075855871,288230376151711743,576460752303423487,1152921504606846975,2305843009213693951,4611686018427387903,9223372036854775807,18446744073709551615,36893488147419103231,73786976294838206463,18446744073709551615,166020696663385964543,590295810358705651711,1180591620717411303423]
theorem spec_TxOk.tab1:rtab .any (opsOf Try.f48 1)=spec_TxOk.T1:=by kernel_rfl
theorem spec_TxOk.bits1:waitsOk spec_TxOk.T1.2 spec_TxOk.B1=true:=by kernel_rfl
set_option maxHeartbeats 60000000 in
set_option maxRecDepth 100000 in
theorem spec_TxOk.calls (k:Nat) (a0_0:Int) (a0_1:Int) (a0_2:Int) (a0_3:Int) (a0_4:Int) (a1_0:Int) (a1_1:Int) (A1_2:Option Addr) (c1_2:Nat) (l1_2:List (S39)) (a1_3:Int) (A1_4:Option Addr) (c1_4:Nat) (l1_4:List (S39)) (a1_5:Bool) (a1_6:Int) (a1_7:Bool) (a1_8:Int) (a1_9:Bool) (r:Bool) (w:World) (hr1_2:Kd.C k39 w A1_2 l1_2.length l1_2) (hc1_2:l1_2.length≤c1_2) (hr1_4:Kd.C k39 w A1_4 l1_4.length l1_4) (hc1_4:l1_4.length≤c1_4) (h:spec_TxOk.f k a0_0 a0_1 a0_2 a0_3 a0_4 a1_0 a1_1 l1_2 a1_3 l1_4 a1_5 a1_6 a1_7 a1_8 a1_9=some r) :
  Calls Try.prog 48 #[.agg #[.int .i64 a0_0,.int .i64 a0_1,.int .i64 a0_2,.int .i64 a0_3,.int .i64 a0_4],.agg #[.int .i64 a1_0,.int .i64 a1_1,.slice A1_2 l1_2.length c1_2,.int .i64 a1_3,.slice A1_4 l1_4.length c1_4,.bool a1_5,.int .i64 a1_6,.bool a1_7,.int .i64 a1_8,.bool a1_9]] w fun e w'=>e=.returned (.bool r)∧Below w.heap.size w w':=by
 have HR2:=mk_ hr1_2
 have HC2:=mk_ hc1_2
 have HR4:=mk_ hr1_4
 have HC4:=mk_ hc1_4
 clear hr1_2 hc1_2 hr1_4 hc1_4
 have HL:=mk_ (Lok.start w)
 unfold spec_TxOk.f at h
 have PH:=mk_ h
 clear h
 go_enter Try.func48,Try.ntmps48
 go_upto_region 1 with (first|((with_reducible refine gate_dst (N:=2) rfl ?_);refine loc_box rfl rfl gz HL.out ?_;intro gb2 w_ HL_;replace HL:=mk_ HL_;clear HL_)|((with_reducible refine gate_dst (N:=3) rfl ?_);refine loc_box rfl rfl gz HL.out ?_;intro gb3 w_ HL_;replace HL:=mk_ HL_;clear HL_))
 (try simp only [Act.put,List.setIfInBounds_toArray,List.set_cons_zero,List.set_cons_succ])
 go_cut [75] (fun v75 wc=>∃ (Af:Bool),v75=.bool Af∧Aside0 (spec_TxOk.j0 k Af a0_0 a0_1 a0_2 a0_3 a0_4 a1_0 a1_1 l1_2 a1_3 l1_4 a1_5 a1_6 a1_7 a1_8 a1_9=some r)∧Aside0 (Lok w wc [(gb3,[.int .i64 a1_0,.int .i64 a1_1,.slice A1_2 l1_2.length c1_2,.int .i64 a1_3,.slice A1_4 l1_4.length c1_4,.bool a1_5,.int .i64 a1_6,.bool a1_7,.int .i64 a1_8,.bool a1_9],69),(gb2,[.int .i64 a0_0,.int .i64 a0_1,.int .i64 a0_2,.int .i64 a0_3,.int .i64 a0_4],66)]))
 case first =>
  refine start_ (n:=71) (S:=fun w'=>Lok w w' _) (ds:=[]) (BM 71 0) kz rfl rfl HL.out.drew (fun hHeld=>?_)
  refine with_tabW spec_TxOk.tab1 spec_TxOk.bits1 (fun HT_ HW_=>?_)
  have HS:=mk_ hHeld
  clear hHeld HL
  revert HS
  generalize World.drew _=w8_
  intro HS
  refine qL 0 5 1 5 HT_ HW_ HS ?_
  obtain ⟨t,ht,H⟩:=Option.bind_eq_some_iff.mp PH.out
  (try dsimp only at H)
  have PT:=mk_ ht
  clear ht PH
  cases t
  ·rw [if_neg Bool.false_ne_true] at H
   have PH:=mk_ H
   clear H
   refine qO 1 (some 6) 3 HT_ (fun K hK=>?_)
   refine goes_ Try.func81 kz rfl #[.agg #[.int .i64 a0_0,.int .i64 a0_1,.int .i64 a0_2,.int .i64 a0_3,.int .i64 a0_4]] rz rfl rfl am ?_
   refine (spec_CfgOk.calls a0_0 a0_1 a0_2 a0_3 a0_4 false _ PT.out).mono ?_
   rintro e w9_ ⟨rfl,hb_⟩
   refine ⟨_,rfl,?_⟩
   replace HS:=mk_ (HS.out.call hb_)
   clear hb_ PT
   refine qK hK HS ?_
   clear hK K
   refine qA 2 7 7 HT_ ?_
   refine qA 3 8 15 HT_ ?_
   refine qB 4 9 31 HT_ ?_
   refine qB 5 10 63 HT_ ?_
   refine qB 6 11 127 HT_ ?_
   refine qB 7 12 255 HT_ ?_
   refine qA 8 13 511 HT_ ?_
   refine qA 9 14 1023 HT_ ?_
   refine qB 10 15 2047 HT_ ?_
   refine qB 11 16 4095 HT_ ?_
   refine qB 12 17 8191 HT_ ?_
   refine qB 13 18 16383 HT_ ?_
   refine qA 14 19 32767 HT_ ?_
   refine qA 15 20 65535 HT_ ?_
   refine qB 16 21 131071 HT_ ?_
   refine qB 17 22 262143 HT_ ?_
   refine qB 18 23 524287 HT_ ?_
   refine qB 19 24 1048575 HT_ ?_
   refine qB 20 25 2097151 HT_ ?_
   refine qB 21 26 4194303 HT_ ?_
   refine qA 22 27 8388607 HT_ ?_
   refine qA 23 28 16777215 HT_ ?_
   refine qB 24 29 33554431 HT_ ?_
   refine qB 25 30 67108863 HT_ ?_
   refine qB 26 31 134217727 HT_ ?_
   refine qB 27 32 268435455 HT_ ?_
   refine qB 28 33 536870911 HT_ ?_
   refine qB 29 34 1073741823 HT_ ?_
   refine qB 30 35 2147483647 HT_ ?_
   refine qB 31 36 4294967295 HT_ ?_
   refine qB 32 37 8589934591 HT_ ?_
   refine qA 33 38 17179869183 HT_ ?_
   refine qA 34 39 34359738367 HT_ ?_
   refine qB 35 40 68719476735 HT_ ?_
   refine qB 36 41 137438953471 HT_ ?_
   refine qB 37 42 274877906943 HT_ ?_
   refine qB 38 43 549755813887 HT_ ?_
   refine qB 39 44 1099511627775 HT_ ?_
   refine qB 40 45 2199023255551 HT_ ?_
   refine qB 41 46 4398046511103 HT_ ?_
   refine qA 42 47 8796093022207 HT_ ?_
   refine qA 43 48 17592186044415 HT_ ?_
   refine qB 44 49 35184372088831 HT_ ?_
   refine qB 45 50 70368744177663 HT_ ?_
   refine qB 46 51 140737488355327 HT_ ?_
   refine qB 47 52 281474976710655 HT_ ?_
   refine qA 48 53 562949953421311 HT_ ?_
   refine qA 49 54 1125899906842623 HT_ ?_
   refine qB 50 55 2251799813685247 HT_ ?_
   refine qB 51 56 4503599627370495 HT_ ?_
   refine qB 52 57 9007199254740991 HT_ ?_
   refine qB 53 58 18014398509481983 HT_ ?_
   refine qB 54 59 36028797018963967 HT_ ?_
   refine qB 55 60 72057594037927935 HT_ ?_
   refine qA 56 61 144115188075855871 HT_ ?_
   refine qA 57 62 288230376151711743 HT_ ?_
   refine qB 58 63 576460752303423487 HT_ ?_
   refine qB 59 64 1152921504606846975 HT_ ?_
   refine qB 60 65 2305843009213693951 HT_ ?_
   refine qB 61 66 4611686018427387903 HT_ ?_
   refine qA 62 67 9223372036854775807 HT_ ?_
   refine qA 63 68 18446744073709551615 HT_ ?_
   refine qB 64 69 36893488147419103231 HT_ ?_
   refine qB 65 70 73786976294838206463 HT_ ?_
   refine qB 66 71 147573952589676412927 HT_ ?_
   refine qB 67 72 295147905179352825855 HT_ ?_
   refine qB 68 73 590295810358705651711 HT_ ?_
   refine qB 69 74 1180591620717411303423 HT_ ?_
   refine qA 70 75 2361183241434822606847 HT_ ?_
   refine qF HT_ ?_
   clear HT_ HW_
   try go_wp2
   go_meet
   case rel=>exact ⟨true,rfl,PH,HS⟩
  rw [if_pos rfl] at H
  have PH:=mk_ H
  clear H
  refine qO 1 (some 6) 3 HT_ (fun K hK=>?_)
  refine goes_ Try.func81 kz rfl #[.agg #[.int .i64 a0_0,.int .i64 a0_1,.int .i64 a0_2,.int .i64 a0_3,.int .i64 a0_4]] rz rfl rfl am ?_
  refine (spec_CfgOk.calls a0_0 a0_1 a0_2 a0_3 a0_4 true _ PT.out).mono ?_
  rintro e w9_ ⟨rfl,hb_⟩
  refine ⟨_,rfl,?_⟩
  replace HS:=mk_ (HS.out.call hb_)
  clear hb_ PT
  refine qK hK HS ?_
  clear hK K
  refine qA 2 7 7 HT_ ?_
  refine qA 3 8 15 HT_ ?_
  refine qA 4 9 31 HT_ ?_
  refine qM 5 10 63 HT_ HW_ HS ?_
  obtain ⟨t,ht,H⟩:=Option.bind_eq_some_iff.mp PH.out
  (try dsimp only at H)
  have PT:=mk_ ht
  clear ht PH
  cases t
  ·rw [if_neg Bool.false_ne_true] at H
   have PH:=mk_ H
   clear H
   refine qO 6 (some 11) 127 HT_ (fun K hK=>?_)
   refine goes_ Try.func64 kz rfl #[.int .i64 a1_0,.int .i64 0,.int .i64 7] rz rfl rfl am ?_
   refine (spec_l1In.calls a1_0 0 7 false _ PT.out).mono ?_
   rintro e w9_ ⟨rfl,hb_⟩
   refine ⟨_,rfl,?_⟩
   replace HS:=mk_ (HS.out.call hb_.below)
   clear hb_ PT
   refine qK hK HS ?_
   clear hK K
   refine qA 7 12 255 HT_ ?_
   refine qA 8 13 511 HT_ ?_
   refine qA 9 14 1023 HT_ ?_
   refine qB 10 15 2047 HT_ ?_
   refine qB 11 16 4095 HT_ ?_
   refine qB 12 17 8191 HT_ ?_
   refine qB 13 18 16383 HT_ ?_
   refine qA 14 19 32767 HT_ ?_
   refine qA 15 20 65535 HT_ ?_
   refine qB 16 21 131071 HT_ ?_
   refine qB 17 22 262143 HT_ ?_
   refine qB 18 23 524287 HT_ ?_
   refine qB 19 24 1048575 HT_ ?_
   refine qB 20 25 2097151 HT_ ?_
   refine qB 21 26 4194303 HT_ ?_
   refine qA 22 27 8388607 HT_ ?_
   refine qA 23 28 16777215 HT_ ?_
   refine qB 24 29 33554431 HT_ ?_
   refine qB 25 30 67108863 HT_ ?_
   refine qB 26 31 134217727 HT_ ?_
   refine qB 27 32 268435455 HT_ ?_
   refine qB 28 33 536870911 HT_ ?_
   refine qB 29 34 1073741823 HT_ ?_
   refine qB 30 35 2147483647 HT_ ?_
   refine qB 31 36 4294967295 HT_ ?_
   refine qB 32 37 8589934591 HT_ ?_
   refine qA 33 38 17179869183 HT_ ?_
   refine qA 34 39 34359738367 HT_ ?_
   refine qB 35 40 68719476735 HT_ ?_
   refine qB 36 41 137438953471 HT_ ?_
   refine qB 37 42 274877906943 HT_ ?_
   refine qB 38 43 549755813887 HT_ ?_
   refine qB 39 44 1099511627775 HT_ ?_
   refine qB 40 45 2199023255551 HT_ ?_
   refine qB 41 46 4398046511103 HT_ ?_
   refine qA 42 47 8796093022207 HT_ ?_
   refine qA 43 48 17592186044415 HT_ ?_
   refine qB 44 49 35184372088831 HT_ ?_
   refine qB 45 50 70368744177663 HT_ ?_
   refine qB 46 51 140737488355327 HT_ ?_
   refine qB 47 52 281474976710655 HT_ ?_
   refine qA 48 53 562949953421311 HT_ ?_
   refine qA 49 54 1125899906842623 HT_ ?_
   refine qB 50 55 2251799813685247 HT_ ?_
   refine qB 51 56 4503599627370495 HT_ ?_
   refine qB 52 57 9007199254740991 HT_ ?_
   refine qB 53 58 18014398509481983 HT_ ?_
   refine qB 54 59 36028797018963967 HT_ ?_
   refine qB 55 60 72057594037927935 HT_ ?_
   refine qA 56 61 144115188075855871 HT_ ?_
   refine qA 57 62 288230376151711743 HT_ ?_
   refine qB 58 63 576460752303423487 HT_ ?_
   refine qB 59 64 1152921504606846975 HT_ ?_
   refine qB 60 65 2305843009213693951 HT_ ?_
   refine qB 61 66 4611686018427387903 HT_ ?_
   refine qA 62 67 9223372036854775807 HT_ ?_
   refine qA 63 68 18446744073709551615 HT_ ?_
   refine qB 64 69 36893488147419103231 HT_ ?_
   refine qB 65 70 73786976294838206463 HT_ ?_
   refine qB 66 71 147573952589676412927 HT_ ?_
   refine qB 67 72 295147905179352825855 HT_ ?_
   refine qB 68 73 590295810358705651711 HT_ ?_
   refine qB 69 74 1180591620717411303423 HT_ ?_
   refine qA 70 75 2361183241434822606847 HT_ ?_
   refine qF HT_ ?_
   clear HT_ HW_
   try go_wp2
   go_meet
   case rel=>exact ⟨true,rfl,PH,HS⟩
  rw [if_pos rfl] at H
  have PH:=mk_ H
  clear H
  refine qO 6 (some 11) 127 HT_ (fun K hK=>?_)
  refine goes_ Try.func64 kz rfl #[.int .i64 a1_0,.int .i64 0,.int .i64 7] rz rfl rfl am ?_
  refine (spec_l1In.calls a1_0 0 7 true _ PT.out).mono ?_
  rintro e w9_ ⟨rfl,hb_⟩
  refine ⟨_,rfl,?_⟩
  replace HS:=mk_ (HS.out.call hb_.below)
  clear hb_ PT
  refine qK hK HS ?_
  clear hK K
  refine qA 7 12 255 HT_ ?_
  refine qA 8 13 511 HT_ ?_
  refine qA 9 14 1023 HT_ ?_
  refine qA 10 15 2047 HT_ ?_
  refine qM 11 16 4095 HT_ HW_ HS ?_
  obtain ⟨t,ht,H⟩:=Option.bind_eq_some_iff.mp PH.out
  (try dsimp only at H)
  have PT:=mk_ ht
  clear ht PH
  cases t
  ·rw [if_neg Bool.false_ne_true] at H
   have PH:=mk_ H
   clear H
   refine qO 12 (some 17) 8191 HT_ (fun K hK=>?_)
   refine goes_ Try.func64 kz rfl #[.int .i64 a1_1,.int .i64 0,.int .i64 7] rz rfl rfl am ?_
   refine (spec_l1In.calls a1_1 0 7 false _ PT.out).mono ?_
   rintro e w9_ ⟨rfl,hb_⟩
   refine ⟨_,rfl,?_⟩
   replace HS:=mk_ (HS.out.call hb_.below)
   clear hb_ PT
   refine qK hK HS ?_
   clear hK K
   refine qA 13 18 16383 HT_ ?_
   refine qA 14 19 32767 HT_ ?_
   refine qA 15 20 65535 HT_ ?_
   refine qB 16 21 131071 HT_ ?_
   refine qB 17 22 262143 HT_ ?_
   refine qB 18 23 524287 HT_ ?_
   refine qB 19 24 1048575 HT_ ?_
   refine qB 20 25 2097151 HT_ ?_
   refine qB 21 26 4194303 HT_ ?_
   refine qA 22 27 8388607 HT_ ?_
   refine qA 23 28 16777215 HT_ ?_
   refine qB 24 29 33554431 HT_ ?_
   refine qB 25 30 67108863 HT_ ?_
   refine qB 26 31 134217727 HT_ ?_
   refine qB 27 32 268435455 HT_ ?_
   refine qB 28 33 536870911 HT_ ?_
   refine qB 29 34 1073741823 HT_ ?_
   refine qB 30 35 2147483647 HT_ ?_
   refine qB 31 36 4294967295 HT_ ?_
   refine qB 32 37 8589934591 HT_ ?_
   refine qA 33 38 17179869183 HT_ ?_
   refine qA 34 39 34359738367 HT_ ?_
   refine qB 35 40 68719476735 HT_ ?_
   refine qB 36 41 137438953471 HT_ ?_
   refine qB 37 42 274877906943 HT_ ?_
   refine qB 38 43 549755813887 HT_ ?_
   refine qB 39 44 1099511627775 HT_ ?_
   refine qB 40 45 2199023255551 HT_ ?_
   refine qB 41 46 4398046511103 HT_ ?_
   refine qA 42 47 8796093022207 HT_ ?_
   refine qA 43 48 17592186044415 HT_ ?_
   refine qB 44 49 35184372088831 HT_ ?_
   refine qB 45 50 70368744177663 HT_ ?_
   refine qB 46 51 140737488355327 HT_ ?_
   refine qB 47 52 281474976710655 HT_ ?_
   refine qA 48 53 562949953421311 HT_ ?_
   refine qA 49 54 1125899906842623 HT_ ?_
   refine qB 50 55 2251799813685247 HT_ ?_
   refine qB 51 56 4503599627370495 HT_ ?_
   refine qB 52 57 9007199254740991 HT_ ?_
   refine qB 53 58 18014398509481983 HT_ ?_
   refine qB 54 59 36028797018963967 HT_ ?_
   refine qB 55 60 72057594037927935 HT_ ?_
   refine qA 56 61 144115188075855871 HT_ ?_
   refine qA 57 62 288230376151711743 HT_ ?_
   refine qB 58 63 576460752303423487 HT_ ?_
   refine qB 59 64 1152921504606846975 HT_ ?_
   refine qB 60 65 2305843009213693951 HT_ ?_
   refine qB 61 66 4611686018427387903 HT_ ?_
   refine qA 62 67 9223372036854775807 HT_ ?_
   refine qA 63 68 18446744073709551615 HT_ ?_
   refine qB 64 69 36893488147419103231 HT_ ?_
   refine qB 65 70 73786976294838206463 HT_ ?_
   refine qB 66 71 147573952589676412927 HT_ ?_
   refine qB 67 72 295147905179352825855 HT_ ?_
   refine qB 68 73 590295810358705651711 HT_ ?_
   refine qB 69 74 1180591620717411303423 HT_ ?_
   refine qA 70 75 2361183241434822606847 HT_ ?_
   refine qF HT_ ?_
   clear HT_ HW_
   try go_wp2
   go_meet
   case rel=>exact ⟨true,rfl,PH,HS⟩
  rw [if_pos rfl] at H
  have PH:=mk_ H
  clear H
  refine qO 12 (some 17) 8191 HT_ (fun K hK=>?_)
  refine goes_ Try.func64 kz rfl #[.int .i64 a1_1,.int .i64 0,.int .i64 7] rz rfl rfl am ?_
  refine (spec_l1In.calls a1_1 0 7 true _ PT.out).mono ?_
  rintro e w9_ ⟨rfl,hb_⟩
  refine ⟨_,rfl,?_⟩
  replace HS:=mk_ (HS.out.call hb_.below)
  clear hb_ PT
  refine qK hK HS ?_
  clear hK K
  refine qA 13 18 16383 HT_ ?_
  refine qA 14 19 32767 HT_ ?_
  refine qA 15 20 65535 HT_ ?_
  refine qA 16 21 131071 HT_ ?_
  refine qM 17 22 262143 HT_ HW_ HS ?_
  refine qA 18 23 524287 HT_ ?_
  refine qA 19 24 1048575 HT_ ?_
  refine qM 20 25 2097151 HT_ HW_ HS ?_
  by_cases c:(l1_2.length:Int) > a0_1
  ·have cb1:decide (a0_1<(l1_2.length:Int))=true:=decide_eq_true c
   have H:=PH.out
   rw [if_pos c] at H
   clear PH
   have PH:=mk_ H
   clear H
   clear c
   refine qA 21 26 4194303 HT_ ?_
   clear cb1
   refine qA 22 27 8388607 HT_ ?_
   refine qA 23 28 16777215 HT_ ?_
   refine qB 24 29 33554431 HT_ ?_
   refine qB 25 30 67108863 HT_ ?_
   refine qB 26 31 134217727 HT_ ?_
   refine qB 27 32 268435455 HT_ ?_
   refine qB 28 33 536870911 HT_ ?_
   refine qB 29 34 1073741823 HT_ ?_
   refine qB 30 35 2147483647 HT_ ?_
   refine qB 31 36 4294967295 HT_ ?_
   refine qB 32 37 8589934591 HT_ ?_
   refine qA 33 38 17179869183 HT_ ?_
   refine qA 34 39 34359738367 HT_ ?_
   refine qB 35 40 68719476735 HT_ ?_
   refine qB 36 41 137438953471 HT_ ?_
   refine qB 37 42 274877906943 HT_ ?_
   refine qB 38 43 549755813887 HT_ ?_
   refine qB 39 44 1099511627775 HT_ ?_
   refine qB 40 45 2199023255551 HT_ ?_
   refine qB 41 46 4398046511103 HT_ ?_
   refine qA 42 47 8796093022207 HT_ ?_
   refine qA 43 48 17592186044415 HT_ ?_
   refine qB 44 49 35184372088831 HT_ ?_
   refine qB 45 50 70368744177663 HT_ ?_
   refine qB 46 51 140737488355327 HT_ ?_
   refine qB 47 52 281474976710655 HT_ ?_
   refine qA 48 53 562949953421311 HT_ ?_
   refine qA 49 54 1125899906842623 HT_ ?_
   refine qB 50 55 2251799813685247 HT_ ?_
   refine qB 51 56 4503599627370495 HT_ ?_
   refine qB 52 57 9007199254740991 HT_ ?_
   refine qB 53 58 18014398509481983 HT_ ?_
   refine qB 54 59 36028797018963967 HT_ ?_
   refine qB 55 60 72057594037927935 HT_ ?_
   refine qA 56 61 144115188075855871 HT_ ?_
   refine qA 57 62 288230376151711743 HT_ ?_
   refine qB 58 63 576460752303423487 HT_ ?_
   refine qB 59 64 1152921504606846975 HT_ ?_
   refine qB 60 65 2305843009213693951 HT_ ?_
   refine qB 61 66 4611686018427387903 HT_ ?_
   refine qA 62 67 9223372036854775807 HT_ ?_
   refine qA 63 68 18446744073709551615 HT_ ?_
   refine qB 64 69 36893488147419103231 HT_ ?_
   refine qB 65 70 73786976294838206463 HT_ ?_
   refine qB 66 71 147573952589676412927 HT_ ?_
   refine qB 67 72 295147905179352825855 HT_ ?_
   refine qB 68 73 590295810358705651711 HT_ ?_
   refine qB 69 74 1180591620717411303423 HT_ ?_
   refine qA 70 75 2361183241434822606847 HT_ ?_
   refine qF HT_ ?_
   clear HT_ HW_
   try go_wp2
   go_meet
   case rel=>exact ⟨true,rfl,PH,HS⟩
  have cb1:decide (a0_1<(l1_2.length:Int))=false:=decide_eq_false c
  have H:=PH.out
  rw [if_neg c] at H
  clear PH
  have PH:=mk_ H
  clear H
  clear c
  refine qA 21 26 4194303 HT_ ?_
  clear cb1
  refine qA 22 27 8388607 HT_ ?_
  refine qA 23 28 16777215 HT_ ?_
  refine qA 24 29 33554431 HT_ ?_
  refine qM 25 30 67108863 HT_ HW_ HS ?_
  refine qA 26 31 134217727 HT_ ?_
  refine qM 27 32 268435455 HT_ HW_ HS ?_
  refine qA 29 34 805306367 HT_ ?_
  refine qM 30 35 1879048191 HT_ HW_ HS ?_
  refine qA 31 36 4026531839 HT_ ?_
  obtain ⟨t,ht,H⟩:=Option.bind_eq_some_iff.mp PH.out
  (try dsimp only at H)
  have PT:=mk_ ht
  clear ht PH
  have PH:=mk_ H
  clear H
  refine qO 28 (some 33) 4294967295 HT_ (fun K hK=>?_)
  refine goes_ Try.func82 kz rfl #[.int .i64 a1_1,.int .i64 a1_0] rz rfl rfl am ?_
  refine (spec_NumFar.calls a1_1 a1_0 _ _ PT.out).mono ?_
  rintro e w9_ ⟨rfl,hb_⟩
  refine ⟨_,rfl,?_⟩
  replace HS:=mk_ (HS.out.call hb_.below)
  clear hb_ PT
  refine qK hK HS ?_
  clear hK K
  by_cases c:t=(l1_2.length:Int)
  rotate_left
  ·have cb1:(t == (l1_2.length:Int))=false:=beq_eq_false_iff_ne.mpr c
   have cb2:(t != (l1_2.length:Int))=true:=bne_iff_ne.mpr c
   have H:=PH.out
   rw [if_neg c] at H
   clear PH
   have PH:=mk_ H
   clear H
   clear c
   refine qA 32 37 8589934591 HT_ ?_
   clear cb1 cb2
   refine qA 33 38 17179869183 HT_ ?_
   refine qA 34 39 34359738367 HT_ ?_
   refine qB 35 40 68719476735 HT_ ?_
   refine qB 36 41 137438953471 HT_ ?_
   refine qB 37 42 274877906943 HT_ ?_
   refine qB 38 43 549755813887 HT_ ?_
   refine qB 39 44 1099511627775 HT_ ?_
   refine qB 40 45 2199023255551 HT_ ?_
   refine qB 41 46 4398046511103 HT_ ?_
   refine qA 42 47 8796093022207 HT_ ?_
   refine qA 43 48 17592186044415 HT_ ?_
   refine qB 44 49 35184372088831 HT_ ?_
   refine qB 45 50 70368744177663 HT_ ?_
   refine qB 46 51 140737488355327 HT_ ?_
   refine qB 47 52 281474976710655 HT_ ?_
   refine qA 48 53 562949953421311 HT_ ?_
   refine qA 49 54 1125899906842623 HT_ ?_
   refine qB 50 55 2251799813685247 HT_ ?_
   refine qB 51 56 4503599627370495 HT_ ?_
   refine qB 52 57 9007199254740991 HT_ ?_
   refine qB 53 58 18014398509481983 HT_ ?_
   refine qB 54 59 36028797018963967 HT_ ?_
   refine qB 55 60 72057594037927935 HT_ ?_
   refine qA 56 61 144115188075855871 HT_ ?_
   refine qA 57 62 288230376151711743 HT_ ?_
   refine qB 58 63 576460752303423487 HT_ ?_
   refine qB 59 64 1152921504606846975 HT_ ?_
   refine qB 60 65 2305843009213693951 HT_ ?_
   refine qB 61 66 4611686018427387903 HT_ ?_
   refine qA 62 67 9223372036854775807 HT_ ?_
   refine qA 63 68 18446744073709551615 HT_ ?_
   refine qB 64 69 36893488147419103231 HT_ ?_
   refine qB 65 70 73786976294838206463 HT_ ?_
   refine qB 66 71 147573952589676412927 HT_ ?_
   refine qB 67 72 295147905179352825855 HT_ ?_
   refine qB 68 73 590295810358705651711 HT_ ?_
   refine qB 69 74 1180591620717411303423 HT_ ?_
   refine qA 70 75 2361183241434822606847 HT_ ?_
   refine qF HT_ ?_
   clear HT_ HW_
   try go_wp2
   go_meet
   case rel=>exact ⟨true,rfl,PH,HS⟩
  have cb1:(t == (l1_2.length:Int))=true:=beq_iff_eq.mpr c
  have cb2:(t != (l1_2.length:Int))=false:=bne_eq_false_iff_eq.mpr c
  have H:=PH.out
  rw [if_pos c] at H
  clear PH
  have PH:=mk_ H
  clear H
  clear c
  refine qA 32 37 8589934591 HT_ ?_
  clear cb1 cb2
  refine qA 33 38 17179869183 HT_ ?_
  refine qA 34 39 34359738367 HT_ ?_
  refine qA 35 40 68719476735 HT_ ?_
  refine qM 36 41 137438953471 HT_ HW_ HS ?_
  refine qA 37 42 274877906943 HT_ ?_
  refine qM 38 43 549755813887 HT_ HW_ HS ?_
  refine qA 39 44 1099511627775 HT_ ?_
  obtain ⟨t,ht,H⟩:=Option.bind_eq_some_iff.mp PH.out
  (try dsimp only at H)
  have PT:=mk_ ht
  clear ht PH
  cases t
  ·rw [if_neg Bool.false_ne_true] at H
   have PH:=mk_ H
   clear H
   refine qO 40 (some 45) 2199023255551 HT_ (fun K hK=>?_)
   refine goes_ Try.func64 kz rfl #[.int .i64 a1_3,.int .i64 0,.int .i64 (l1_2.length:Int)] rz rfl rfl am ?_
   refine (spec_l1In.calls a1_3 0 (l1_2.length:Int) false _ PT.out).mono ?_
   rintro e w9_ ⟨rfl,hb_⟩
   refine ⟨_,rfl,?_⟩
   replace HS:=mk_ (HS.out.call hb_.below)
   clear hb_ PT
   refine qK hK HS ?_
   clear hK K
   refine qA 41 46 4398046511103 HT_ ?_
   refine qA 42 47 8796093022207 HT_ ?_
   refine qA 43 48 17592186044415 HT_ ?_
   refine qB 44 49 35184372088831 HT_ ?_
   refine qB 45 50 70368744177663 HT_ ?_
   refine qB 46 51 140737488355327 HT_ ?_
   refine qB 47 52 281474976710655 HT_ ?_
   refine qA 48 53 562949953421311 HT_ ?_
   refine qA 49 54 1125899906842623 HT_ ?_
   refine qB 50 55 2251799813685247 HT_ ?_
   refine qB 51 56 4503599627370495 HT_ ?_
   refine qB 52 57 9007199254740991 HT_ ?_
   refine qB 53 58 18014398509481983 HT_ ?_
   refine qB 54 59 36028797018963967 HT_ ?_
   refine qB 55 60 72057594037927935 HT_ ?_
   refine qA 56 61 144115188075855871 HT_ ?_
   refine qA 57 62 288230376151711743 HT_ ?_
   refine qB 58 63 576460752303423487 HT_ ?_
   refine qB 59 64 1152921504606846975 HT_ ?_
   refine qB 60 65 2305843009213693951 HT_ ?_
   refine qB 61 66 4611686018427387903 HT_ ?_
   refine qA 62 67 9223372036854775807 HT_ ?_
   refine qA 63 68 18446744073709551615 HT_ ?_
   refine qB 64 69 36893488147419103231 HT_ ?_
   refine qB 65 70 73786976294838206463 HT_ ?_
   refine qB 66 71 147573952589676412927 HT_ ?_
   refine qB 67 72 295147905179352825855 HT_ ?_
   refine qB 68 73 590295810358705651711 HT_ ?_
   refine qB 69 74 1180591620717411303423 HT_ ?_
   refine qA 70 75 2361183241434822606847 HT_ ?_
   refine qF HT_ ?_
   clear HT_ HW_
   try go_wp2
   go_meet
   case rel=>exact ⟨true,rfl,PH,HS⟩
  rw [if_pos rfl] at H
  have PH:=mk_ H
  clear H
  refine qO 40 (some 45) 2199023255551 HT_ (fun K hK=>?_)
  refine goes_ Try.func64 kz rfl #[.int .i64 a1_3,.int .i64 0,.int .i64 (l1_2.length:Int)] rz rfl rfl am ?_
  refine (spec_l1In.calls a1_3 0 (l1_2.length:Int) true _ PT.out).mono ?_
  rintro e w9_ ⟨rfl,hb_⟩
  refine ⟨_,rfl,?_⟩
  replace HS:=mk_ (HS.out.call hb_.below)
  clear hb_ PT
  refine qK hK HS ?_
  clear hK K
  refine qA 41 46 4398046511103 HT_ ?_
  refine qA 42 47 8796093022207 HT_ ?_
  refine qA 43 48 17592186044415 HT_ ?_
  refine qA 44 49 35184372088831 HT_ ?_
  refine qM 45 50 70368744177663 HT_ HW_ HS ?_
  refine qA 46 51 140737488355327 HT_ ?_
  by_cases c:(l1_4.length:Int) > 24
  ·have cb1:decide (24<(l1_4.length:Int))=true:=decide_eq_true c
   have H:=PH.out
   rw [if_pos c] at H
   clear PH
   have PH:=mk_ H
   clear H
   clear c
   refine qA 47 52 281474976710655 HT_ ?_
   clear cb1
   refine qA 48 53 562949953421311 HT_ ?_
   refine qA 49 54 1125899906842623 HT_ ?_
   refine qB 50 55 2251799813685247 HT_ ?_
   refine qB 51 56 4503599627370495 HT_ ?_
   refine qB 52 57 9007199254740991 HT_ ?_
   refine qB 53 58 18014398509481983 HT_ ?_
   refine qB 54 59 36028797018963967 HT_ ?_
   refine qB 55 60 72057594037927935 HT_ ?_
   refine qA 56 61 144115188075855871 HT_ ?_
   refine qA 57 62 288230376151711743 HT_ ?_
   refine qB 58 63 576460752303423487 HT_ ?_
   refine qB 59 64 1152921504606846975 HT_ ?_
   refine qB 60 65 2305843009213693951 HT_ ?_
   refine qB 61 66 4611686018427387903 HT_ ?_
   refine qA 62 67 9223372036854775807 HT_ ?_
   refine qA 63 68 18446744073709551615 HT_ ?_
   refine qB 64 69 36893488147419103231 HT_ ?_
   refine qB 65 70 73786976294838206463 HT_ ?_
   refine qB 66 71 147573952589676412927 HT_ ?_
   refine qB 67 72 295147905179352825855 HT_ ?_
   refine qB 68 73 590295810358705651711 HT_ ?_
   refine qB 69 74 1180591620717411303423 HT_ ?_
   refine qA 70 75 2361183241434822606847 HT_ ?_
   refine qF HT_ ?_
   clear HT_ HW_
   try go_wp2
   go_meet
   case rel=>exact ⟨true,rfl,PH,HS⟩
  have cb1:decide (24<(l1_4.length:Int))=false:=decide_eq_false c
  have H:=PH.out
  rw [if_neg c] at H
  clear PH
  have PH:=mk_ H
  clear H
  clear c
  refine qA 47 52 281474976710655 HT_ ?_
  clear cb1
  refine qA 48 53 562949953421311 HT_ ?_
  refine qA 49 54 1125899906842623 HT_ ?_
  refine qA 50 55 2251799813685247 HT_ ?_
  refine qM 51 56 4503599627370495 HT_ HW_ HS ?_
  refine qA 52 57 9007199254740991 HT_ ?_
  refine qM 53 58 18014398509481983 HT_ HW_ HS ?_
  obtain ⟨t,ht,H⟩:=Option.bind_eq_some_iff.mp PH.out
  (try dsimp only at H)
  have PT:=mk_ ht
  clear ht PH
  cases t
  ·rw [if_neg Bool.false_ne_true] at H
   have PH:=mk_ H
   clear H
   refine qO 54 (some 59) 36028797018963967 HT_ (fun K hK=>?_)
   refine goes_ Try.func64 kz rfl #[.int .i64 a1_6,.int .i64 0,.int .i64 a0_4] rz rfl rfl am ?_
   refine (spec_l1In.calls a1_6 0 a0_4 false _ PT.out).mono ?_
   rintro e w9_ ⟨rfl,hb_⟩
   refine ⟨_,rfl,?_⟩
   replace HS:=mk_ (HS.out.call hb_.below)
   clear hb_ PT
   refine qK hK HS ?_
   clear hK K
   refine qA 55 60 72057594037927935 HT_ ?_
   refine qA 56 61 144115188075855871 HT_ ?_
   refine qA 57 62 288230376151711743 HT_ ?_
   refine qB 58 63 576460752303423487 HT_ ?_
   refine qB 59 64 1152921504606846975 HT_ ?_
   refine qB 60 65 2305843009213693951 HT_ ?_
   refine qB 61 66 4611686018427387903 HT_ ?_
   refine qA 62 67 9223372036854775807 HT_ ?_
   refine qA 63 68 18446744073709551615 HT_ ?_
   refine qB 64 69 36893488147419103231 HT_ ?_
   refine qB 65 70 73786976294838206463 HT_ ?_
   refine qB 66 71 147573952589676412927 HT_ ?_
   refine qB 67 72 295147905179352825855 HT_ ?_
   refine qB 68 73 590295810358705651711 HT_ ?_
   refine qB 69 74 1180591620717411303423 HT_ ?_
   refine qA 70 75 2361183241434822606847 HT_ ?_
   refine qF HT_ ?_
   clear HT_ HW_
   try go_wp2
   go_meet
   case rel=>exact ⟨true,rfl,PH,HS⟩
  rw [if_pos rfl] at H
  have PH:=mk_ H
  clear H
  refine qO 54 (some 59) 36028797018963967 HT_ (fun K hK=>?_)
  refine goes_ Try.func64 kz rfl #[.int .i64 a1_6,.int .i64 0,.int .i64 a0_4] rz rfl rfl am ?_
  refine (spec_l1In.calls a1_6 0 a0_4 true _ PT.out).mono ?_
  rintro e w9_ ⟨rfl,hb_⟩
  refine ⟨_,rfl,?_⟩
  replace HS:=mk_ (HS.out.call hb_.below)
  clear hb_ PT
  refine qK hK HS ?_
  clear hK K
  refine qA 55 60 72057594037927935 HT_ ?_
  refine qA 56 61 144115188075855871 HT_ ?_
  refine qA 57 62 288230376151711743 HT_ ?_
  refine qA 58 63 576460752303423487 HT_ ?_
  refine qM 59 64 1152921504606846975 HT_ HW_ HS ?_
  obtain ⟨t,ht,H⟩:=Option.bind_eq_some_iff.mp PH.out
  (try dsimp only at H)
  have PT:=mk_ ht
  clear ht PH
  cases t
  ·rw [if_neg Bool.false_ne_true] at H
   have PH:=mk_ H
   clear H
   refine qO 60 (some 65) 2305843009213693951 HT_ (fun K hK=>?_)
   refine goes_ Try.func64 kz rfl #[.int .i64 a1_8,.int .i64 0,.int .i64 9999] rz rfl rfl am ?_
   refine (spec_l1In.calls a1_8 0 9999 false _ PT.out).mono ?_
   rintro e w9_ ⟨rfl,hb_⟩
   refine ⟨_,rfl,?_⟩
   replace HS:=mk_ (HS.out.call hb_.below)
   clear hb_ PT
   refine qK hK HS ?_
   clear hK K
   refine qA 61 66 4611686018427387903 HT_ ?_
   refine qA 62 67 9223372036854775807 HT_ ?_
   refine qA 63 68 18446744073709551615 HT_ ?_
   refine qB 64 69 36893488147419103231 HT_ ?_
   refine qB 65 70 73786976294838206463 HT_ ?_
   refine qB 66 71 147573952589676412927 HT_ ?_
   refine qB 67 72 295147905179352825855 HT_ ?_
   refine qB 68 73 590295810358705651711 HT_ ?_
   refine qB 69 74 1180591620717411303423 HT_ ?_
   refine qA 70 75 2361183241434822606847 HT_ ?_
   refine qF HT_ ?_
   clear HT_ HW_
   try go_wp2
   go_meet
   case rel=>exact ⟨true,rfl,PH,HS⟩
  rw [if_pos rfl] at H
  have PH:=mk_ H
  clear H
  refine qO 60 (some 65) 2305843009213693951 HT_ (fun K hK=>?_)
  refine goes_ Try.func64 kz rfl #[.int .i64 a1_8,.int .i64 0,.int .i64 9999] rz rfl rfl am ?_
  refine (spec_l1In.calls a1_8 0 9999 true _ PT.out).mono ?_
  rintro e w9_ ⟨rfl,hb_⟩
  refine ⟨_,rfl,?_⟩
  replace HS:=mk_ (HS.out.call hb_.below)
  clear hb_ PT
  refine qK hK HS ?_
  clear hK K
  refine qA 61 66 4611686018427387903 HT_ ?_
  refine qA 62 67 9223372036854775807 HT_ ?_
  refine qA 63 68 18446744073709551615 HT_ ?_
  refine qA 64 69 36893488147419103231 HT_ ?_
  refine qM 65 70 73786976294838206463 HT_ HW_ HS ?_
  refine qA 67 72 221360928884514619391 HT_ ?_
  refine qM 68 73 516508834063867445247 HT_ HW_ HS ?_
  obtain ⟨t,ht,H⟩:=Option.bind_eq_some_iff.mp PH.out
  (try dsimp only at H)
  have PT:=mk_ ht
  clear ht PH
  have PH:=mk_ H
  clear H
  refine qO 66 (some 71) 590295810358705651711 HT_ (fun K hK=>?_)
  refine goes_ Try.func83 kz rfl #[.int .i64 a1_8] rz rfl rfl am ?_
  refine (spec_NumOf.calls a1_8 _ _ PT.out).mono ?_
  rintro e w9_ ⟨rfl,hb_⟩
  refine ⟨_,rfl,?_⟩
  replace HS:=mk_ (HS.out.call hb_.below)
  clear hb_ PT
  refine qK hK HS ?_
  clear hK K
  by_cases c:t=a1_1
  rotate_left
  ·have cb1:(t == a1_1)=false:=beq_eq_false_iff_ne.mpr c
   have cb2:(t != a1_1)=true:=bne_iff_ne.mpr c
   have H:=PH.out
   rw [cb2] at H
   clear PH
   have PH:=mk_ H
   clear H
   clear c
   refine qA 69 74 1180591620717411303423 HT_ ?_
   clear cb1 cb2
   refine qA 70 75 2361183241434822606847 HT_ ?_
   refine qF HT_ ?_
   clear HT_ HW_
   try go_wp2
   go_meet
   case rel=>exact ⟨true,rfl,PH,HS⟩
  have cb1:(t == a1_1)=true:=beq_iff_eq.mpr c
  have cb2:(t != a1_1)=false:=bne_eq_false_iff_eq.mpr c
  have H:=PH.out
  rw [cb2] at H
  clear PH
  have PH:=mk_ H
  clear H
  clear c
  refine qA 69 74 1180591620717411303423 HT_ ?_
  clear cb1 cb2
  refine qA 70 75 2361183241434822606847 HT_ ?_
  refine qF HT_ ?_
  clear HT_ HW_
  try go_wp2
  go_meet
  case rel=>exact ⟨false,rfl,PH,HS⟩
 case rest =>
  obtain ⟨Af,rfl,hj_,hl_⟩:=hcut
  have PH:=hj_
  have HL:=hl_
  clear hj_ hl_
  cases k with
  | zero=>exact absurd PH.out (by simp [spec_TxOk.j0])
  | succ k =>
   have H:=PH.out
   clear PH
   rw [spec_TxOk.j0] at H
   cases Af
   rotate_left
   ·rw [if_pos rfl] at H
    obtain rfl:=Option.some.inj H
    clear H
    go_wp2
    go_ret
    exact ⟨ez,HL.out.bel⟩
   rw [if_neg Bool.false_ne_true] at H
   obtain ⟨t,ht,H⟩:=Option.bind_eq_some_iff.mp H
   (try dsimp only at H)
   have P2:=mk_ ht
   clear ht
   cases t
   ·rw [if_neg Bool.false_ne_true] at H
    obtain rfl:=Option.some.inj H
    clear H
    go_wp2_with (first|((with_reducible refine gate_gd rfl ?_);first|((with_reducible refine gd_on rfl ?_ ?_);rfl;dsimp only)|((with_reducible refine gd_off rfl ?_ ?_);rfl))|((with_reducible refine gate_dst (N:=80) rfl ?_);(with_reducible refine gate_callee (f:=84) rfl ?_);refine goesL_ (some 80) rfl rfl Try.func84 kz rfl #[.slice A1_2 l1_2.length c1_2,.int .i64 a0_2] rfl am ?_;(with_reducible refine (spec_l6Parts.calls _ A1_2 c1_2 l1_2 a0_2 false _ (Kd.C_below HR2.out HL.out.bel) HC2.out P2.out).mono ?_);rintro e w_ ⟨rfl,hb_⟩;refine ⟨_,rfl,?_⟩;replace HL:=mk_ (HL.out.call hb_);clear hb_)|((with_reducible refine gate_ld0 rfl ?_);refine loc_load1 rfl rfl kz rfl HL.out sz ?_))
    go_ret
    exact ⟨ez,HL.out.bel⟩
   rw [if_pos rfl] at H
   obtain ⟨t,ht,H⟩:=Option.bind_eq_some_iff.mp H
   obtain rfl:=Option.some.inj H
   have P4:=mk_ ht
   clear ht H
   go_wp2_with (first|((with_reducible refine gate_gd rfl ?_);first|((with_reducible refine gd_on rfl ?_ ?_);rfl;dsimp only)|((with_reducible refine gd_off rfl ?_ ?_);rfl))|((with_reducible refine gate_dst (N:=80) rfl ?_);(with_reducible refine gate_callee (f:=84) rfl ?_);refine goesL_ (some 80) rfl rfl Try.func84 kz rfl #[.slice A1_2 l1_2.length c1_2,.int .i64 a0_2] rfl am ?_;(with_reducible refine (spec_l6Parts.calls _ A1_2 c1_2 l1_2 a0_2 true _ (Kd.C_below HR2.out HL.out.bel) HC2.out P2.out).mono ?_);rintro e w_ ⟨rfl,hb_⟩;refine ⟨_,rfl,?_⟩;replace HL:=mk_ (HL.out.call hb_);clear hb_)|((with_reducible refine gate_dst (N:=86) rfl ?_);(with_reducible refine gate_callee (f:=84) rfl ?_);refine goesL_ (some 86) rfl rfl Try.func84 kz rfl #[.slice A1_4 l1_4.length c1_4,.int .i64 a0_2] rfl am ?_;(with_reducible refine (spec_l6Parts.calls _ A1_4 c1_4 l1_4 a0_2 _ _ (Kd.C_below HR4.out HL.out.bel) HC4.out P4.out).mono ?_);rintro e w_ ⟨rfl,hb_⟩;refine ⟨_,rfl,?_⟩;replace HL:=mk_ (HL.out.call hb_);clear hb_)|((with_reducible refine gate_ld0 rfl ?_);refine loc_load1 rfl rfl kz rfl HL.out sz ?_))
   go_ret
   exact ⟨ez,HL.out.bel⟩

end Go.Proofs.Yteknaofnageihaa.QFnTxOk

