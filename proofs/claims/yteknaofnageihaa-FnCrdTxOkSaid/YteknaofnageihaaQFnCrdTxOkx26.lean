-- Written by a program of this session, a turned copy of the print (not by print.sh itself). Lean checks it.
import Derived.Test.YteknaofnageihaaQFnCrdTxOkx0
import Derived.Test.YteknaofnageihaaQFnCrdTxOkx9
import Derived.Test.YteknaofnageihaaQFnCrdTxOkx22
import Derived.Test.YteknaofnageihaaQFnCrdTxOkx23
namespace Go.Proofs.Yteknaofnageihaa.QFnCrdTxOk
open Go.RowKit Go.Proofs.YteknaofnageihaaW.PrintWords Go.Proofs.YteknaofnageihaaW.PrintLast Go.Proofs.YteknaofnageihaaW.PrintMore Go.Proofs.YteknaofnageihaaLoc
attribute [local go_sem] max2_int min2_int max_two min_two max_three min_three max_four min_four   -- for this text's walks alone
set_option linter.unusedVariables false
set_option linter.unusedSimpArgs false

/-! ### spec_CrdSend: function 109 -/
def spec_CrdSend.f (k : Nat) (a0_0 : Int) (a0_1 : Int) (a0_2 : Int) (a0_3 : Int) (a0_4 : Int) (a1_0 : Int) (l1_1 : List (S39)) (a1_2 : Int) (a1_3 : Int) (a1_4 : Bool) : Option (Int × (List (S39)) × Int × Int × Bool × Int × Int × Int × Bool × Bool × Int × Int × Int × List Int × Bool) := (spec_CrdTxOk.f k a0_0 a0_1 a0_2 a0_3 a0_4 a1_0 l1_1 a1_2 a1_3 a1_4).bind fun t373 => (if t373 = true then ((spec_l8Tx.f k a1_0 l1_1 a1_2 a1_3 a1_4).bind fun bt374 => (if a1_4 = true then (some (bt374.1, bt374.2.1, bt374.2.2.1, bt374.2.2.2.1, bt374.2.2.2.2, 0, 0, 0, false, false, 0, 0, 0, ([] : List Int), false)) else (if a1_0 = 0 then (some (bt374.1, bt374.2.1, bt374.2.2.1, bt374.2.2.2.1, bt374.2.2.2.2, 0, 0, 0, false, false, 0, 0, 0, ([] : List Int), false)) else (if (l1_1.length : Int) = 0 then (some (bt374.1, bt374.2.1, bt374.2.2.1, bt374.2.2.2.1, bt374.2.2.2.2, 0, 0, 0, false, false, 0, 0, 0, ([] : List Int), false)) else (if a1_3 = 9999 then (some (bt374.1, bt374.2.1, bt374.2.2.1, bt374.2.2.2.1, bt374.2.2.2.2, 0, 0, 0, false, false, 0, 0, 0, ([] : List Int), false)) else (if 0 < (bt374.2.1.length : Int) then (if 1 ≤ (bt374.2.1.length : Int) then ((spec_l6List.f k (bt374.2.1.drop 1)).bind fun t388 => ((some (([] : List Int) : List Int)).bind fun y391 => (if y391.length + ((rd_T39 bt374.2.1 0).f2).length < 140737488355328 then (some (wrap64 (a1_0 - 1), t388, bt374.2.2.1, wrap64 (a1_3 + 1), bt374.2.2.2.2, 3, 0, 0, false, false, 0, (rd_T39 bt374.2.1 0).f0, (rd_T39 bt374.2.1 0).f1, (y391 ++ ((rd_T39 bt374.2.1 0).f2)), true)) else (none)))) else (none)) else (none))))))) else (some (0, ([] : List (S39)), 0, 0, false, 0, 0, 0, false, false, 0, 0, 0, ([] : List Int), false)))
theorem spec_CrdSend.mono : ∀ a0 a1 a2 a3 a4 a5 a6 a7 a8 a9 k, LeO (spec_CrdSend.f k a0 a1 a2 a3 a4 a5 a6 a7 a8 a9) (spec_CrdSend.f (k + 1) a0 a1 a2 a3 a4 a5 a6 a7 a8 a9) := by
 intro a0 a1 a2 a3 a4 a5 a6 a7 a8 a9 k
 unfold spec_CrdSend.f
 repeat' first
     | (with_reducible exact spec_CrdTxOk.mono _ _ _ _ _ _ _ _ _ _ _)
     | (with_reducible exact spec_l6List.mono _ _)
     | (with_reducible exact spec_l8Tx.mono _ _ _ _ _ _)
     | (with_reducible exact LeO.refl _)
     | (with_reducible exact LeO.none _)
     | (with_reducible refine LeO.ite ?_ ?_)
     | (with_reducible refine LeO.bind ?_ (fun _ => ?_))
     | exact spec_CrdTxOk.mono _ _ _ _ _ _ _ _ _ _ _
     | exact spec_l6List.mono _ _
     | exact spec_l8Tx.mono _ _ _ _ _ _
     | exact LeO.none _
     | refine LeO.ite ?_ ?_
     | refine LeO.bind ?_ (fun _ => ?_)
def spec_CrdSend.T10 : Bool × List (List Nat × List Nat) := (true, [([], []), ([], []), ([1], [1]), ([], []), ([3], [3]), ([], []), ([], []), ([6], [6]), ([5, 7], [5, 7]), ([2, 4, 8], [2, 4, 8]), ([0, 8, 0], [0]), ([9, 10, 0, 1, 2, 3, 4, 5, 6, 7, 8, 9, 10], [9]), ([11, 0, 1, 2, 3, 4, 5, 6, 7, 8, 9, 10, 11], [])])
def spec_CrdSend.B10 : List Nat := [0, 0, 2, 0, 8, 0, 0, 64, 224, 510, 481, 2047, 4095]
theorem spec_CrdSend.tab10 : rtab .any (opsOf Try.f109 10) = spec_CrdSend.T10 := by kernel_rfl
theorem spec_CrdSend.bits10 : waitsOk spec_CrdSend.T10.2 spec_CrdSend.B10 = true := by kernel_rfl
set_option maxHeartbeats 60000000 in
set_option maxRecDepth 100000 in
theorem spec_CrdSend.calls (k : Nat) (a0_0 : Int) (a0_1 : Int) (a0_2 : Int) (a0_3 : Int) (a0_4 : Int) (a1_0 : Int) (A1_1 : Option Addr) (c1_1 : Nat) (l1_1 : List (S39)) (a1_2 : Int) (a1_3 : Int) (a1_4 : Bool) (r1 : Int) (r2 : List (S39)) (r3 : Int) (r4 : Int) (r5 : Bool) (r6 : Int) (r7 : Int) (r8 : Int) (r9 : Bool) (r10 : Bool) (r11 : Int) (r12 : Int) (r13 : Int) (r14 : List Int) (r15 : Bool) (w : World) (hr1_1 : Kd.C k39 w A1_1 l1_1.length l1_1) (hc1_1 : l1_1.length ≤ c1_1) (h : spec_CrdSend.f k a0_0 a0_1 a0_2 a0_3 a0_4 a1_0 l1_1 a1_2 a1_3 a1_4 = some (r1, r2, r3, r4, r5, r6, r7, r8, r9, r10, r11, r12, r13, r14, r15)) :
  Calls Try.prog 109 #[.agg #[.int .i64 a0_0,.int .i64 a0_1,.int .i64 a0_2,.int .i64 a0_3,.int .i64 a0_4],.agg #[.int .i64 a1_0,.slice A1_1 l1_1.length c1_1,.int .i64 a1_2,.int .i64 a1_3,.bool a1_4]] w fun e w'=>∃ v1_ v13_:Value,e=.returned (.tuple #[.agg #[.int .i64 r1,v1_,.int .i64 r3,.int .i64 r4,.bool r5],.agg #[.int .i64 r6,.int .i64 r7,.int .i64 r8,.bool r9,.bool r10,.int .i64 r11,.int .i64 r12,.int .i64 r13,v13_],.bool r15])∧Kd.S k39 39 w' w.heap.size (fun k_=>some k_≠(v13_:Value).ownBlock) v1_ r2∧Kd.R ku 5 w' w.heap.size (fun _=>True) v13_ r14∧Below w.heap.size w w':=by
 have hu66:=Try.underlying66
 have hu78:=Try.underlying78
 have hu102:=Try.underlying102
 have hu39:=Try.underlying39
 have A9:=mk_ hr1_1
 have Ba:=mk_ hc1_1
 clear hr1_1 hc1_1
 have HB:=mk_ (Below.refl w.heap.size w)
 have H:((spec_CrdTxOk.f k a0_0 a0_1 a0_2 a0_3 a0_4 a1_0 l1_1 a1_2 a1_3 a1_4).bind fun t373=>(if t373=true then ((spec_l8Tx.f k a1_0 l1_1 a1_2 a1_3 a1_4).bind fun bt374=>(if a1_4=true then (some (bt374.1,bt374.2.1,bt374.2.2.1,bt374.2.2.2.1,bt374.2.2.2.2,0,0,0,false,false,0,0,0,([]:List Int),false)) else (if a1_0=0 then (some (bt374.1,bt374.2.1,bt374.2.2.1,bt374.2.2.2.1,bt374.2.2.2.2,0,0,0,false,false,0,0,0,([]:List Int),false)) else (if (l1_1.length:Int)=0 then (some (bt374.1,bt374.2.1,bt374.2.2.1,bt374.2.2.2.1,bt374.2.2.2.2,0,0,0,false,false,0,0,0,([]:List Int),false)) else (if a1_3=9999 then (some (bt374.1,bt374.2.1,bt374.2.2.1,bt374.2.2.2.1,bt374.2.2.2.2,0,0,0,false,false,0,0,0,([]:List Int),false)) else (if 0<(bt374.2.1.length:Int) then (if 1≤(bt374.2.1.length:Int) then ((spec_l6List.f k (bt374.2.1.drop 1)).bind fun t388=>((some (([]:List Int):List Int)).bind fun y391=>(if y391.length+((rd_T39 bt374.2.1 0).f2).length<140737488355328 then (some (wrap64 (a1_0 - 1),t388,bt374.2.2.1,wrap64 (a1_3+1),bt374.2.2.2.2,3,0,0,false,false,0,(rd_T39 bt374.2.1 0).f0,(rd_T39 bt374.2.1 0).f1,(y391++((rd_T39 bt374.2.1 0).f2)),true)) else (none)))) else (none)) else (none))))))) else (some (0,([]:List (S39)),0,0,false,0,0,0,false,false,0,0,0,([]:List Int),false))))=some (r1,r2,r3,r4,r5,r6,r7,r8,r9,r10,r11,r12,r13,r14,r15):=h
 clear h
 replace H:=Option.bind_eq_some_iff.mp H
 obtain ⟨t373,B3,H⟩:=H
 try dsimp only at H
 have A3:=mk_ B3
 clear B3
 by_cases c4:t373=true
 rotate_left
 ·replace c4:=Bool.eq_false_iff.mpr c4
  subst c4
  have H1:(some (0,([]:List (S39)),0,0,false,0,0,0,false,false,0,0,0,([]:List Int),false))=some (r1,r2,r3,r4,r5,r6,r7,r8,r9,r10,r11,r12,r13,r14,r15):=by rw [if_neg (show ¬ (false=true) by decide)] at H;exact H
  clear H
  have H:=H1
  clear H1
  simp only [Option.some.injEq,Prod.mk.injEq] at H
  obtain ⟨rfl,rfl,rfl,rfl,rfl,rfl,rfl,rfl,rfl,rfl,rfl,rfl,rfl,rfl,rfl⟩:=H
  go_enter Try.func109,Try.ntmps109
  go_wp2_with (first|((with_reducible refine gate_dst (N:=2) rfl ?_);(try (refine gate_guard (by rfl) ?_;dsimp only));refine box_event ?hg (N:=2) ?hd (cs:=#[.int .i64 a0_0,.int .i64 a0_1,.int .i64 a0_2,.int .i64 a0_3,.int .i64 a0_4]) (t:=66) ?hr ?_;(case hd=>rfl);(case hg=>rfl);(case hr=>first|(go_simp;done)|(go_simp;rfl));intro gb369 hg Sf hbox hb;have Ab:=mk_ (hbox);have Bb:=mk_ ((by rw [hg];exact (zr2 (yu0 HB.out)):w.heap.size≤gb369));have Bo:=Bb;replace HB:=mk_ (zr3 (yu0 HB.out) hb);clear hb hbox hg)|((with_reducible refine gate_dst (N:=3) rfl ?_);(try (refine gate_guard (by rfl) ?_;dsimp only));refine box_event ?hg (N:=3) ?hd (cs:=#[.int .i64 a1_0,.slice A1_1 l1_1.length c1_1,.int .i64 a1_2,.int .i64 a1_3,.bool a1_4]) (t:=78) ?hr ?_;(case hd=>rfl);(case hg=>rfl);(case hr=>first|(go_simp;done)|(go_simp;rfl));intro gb370 hg Sg hbox hb;have Aa:=mk_ (hbox);have Bc:=mk_ ((by rw [hg];exact (zr2 (yu1 HB.out)):w.heap.size≤gb370));have Bp:=Bc;replace HB:=mk_ (zr3 (yu1 HB.out) hb);have As:=mk_ ((by rw [hg];exact zm2 (zr6 (by exact Ab.out)):gb369≠gb370));replace Ab:=mk_ (zq6 (by exact Ab.out) hb);have A0:=mk_ As.out.symm;clear hb hbox hg)|((with_reducible refine gate_dst (N:=4) rfl ?_);(try (refine gate_guard (by rfl) ?_;dsimp only));refine box_event ?hg (N:=4) ?hd (cs:=#[.int .i64 0,.slice none 0 0,.int .i64 0,.int .i64 0,.bool false]) (t:=78) ?hr ?_;(case hd=>rfl);(case hg=>rfl);(case hr=>first|(go_simp;done)|(go_simp;rfl));intro gb371 hg Sh hbox hb;have Ac:=mk_ (hbox);have Bd:=mk_ ((by rw [hg];exact (zr2 (yu1 HB.out)):w.heap.size≤gb371));have Bq:=Bd;replace HB:=mk_ (zr3 (yu1 HB.out) hb);have An:=mk_ ((by rw [hg];exact zm2 (zr6 (by exact Ab.out)):gb369≠gb371));replace Ab:=mk_ (zq6 (by exact Ab.out) hb);have Au:=mk_ An.out.symm;have Ao:=mk_ ((by rw [hg];exact zm2 (zr6 (by exact Aa.out)):gb370≠gb371));replace Aa:=mk_ (zq6 (by exact Aa.out) hb);have Av:=mk_ Ao.out.symm;clear hb hbox hg)|((with_reducible refine gate_dst (N:=5) rfl ?_);(try (refine gate_guard (by rfl) ?_;dsimp only));refine box_event ?hg (N:=5) ?hd (cs:=#[.int .i64 0,.int .i64 0,.int .i64 0,.bool false,.bool false,.int .i64 0,.int .i64 0,.int .i64 0,.slice none 0 0]) (t:=102) ?hr ?_;(case hd=>rfl);(case hg=>rfl);(case hr=>first|(go_simp;done)|(go_simp;rfl));intro gb372 hg Si hbox hb;have Ad:=mk_ (hbox);have Be:=mk_ ((by rw [hg];exact (zr2 (yu1 HB.out)):w.heap.size≤gb372));have Br:=Be;replace HB:=mk_ (zr3 (yu1 HB.out) hb);have Aj:=mk_ ((by rw [hg];exact zm2 (zr6 (by exact Ab.out)):gb369≠gb372));replace Ab:=mk_ (zq6 (by exact Ab.out) hb);have Ap:=mk_ Aj.out.symm;have Ak:=mk_ ((by rw [hg];exact zm2 (zr6 (by exact Aa.out)):gb370≠gb372));replace Aa:=mk_ (zq6 (by exact Aa.out) hb);have Aq:=mk_ Ak.out.symm;have Af:=mk_ ((by rw [hg];exact zm2 (zr6 (by exact Ac.out)):gb371≠gb372));replace Ac:=mk_ (zq6 (by exact Ac.out) hb);have Ag:=mk_ Af.out.symm;clear hb hbox hg;have O2:=As.out;have O3:=A0.out;have O4:=An.out;have O5:=Au.out;have O6:=Aj.out;have O7:=Ap.out;obtain ⟨B5,B6,B7,B8,B9⟩:=cz5 Ab.out;obtain ⟨Ca,Cb,Cc,Cd,Ce⟩:=fz5 Ab.out;have O8:=Ao.out;have O9:=Av.out;have Pa:=Ak.out;have Pb:=Aq.out;obtain ⟨Cf,Cg,Ch,Ci,Cj⟩:=cz5 Aa.out;obtain ⟨Ck,Cl,Cm,Cn,Co⟩:=fz5 Aa.out)|((with_reducible refine gate_callee (f:=54) rfl ?_);refine goesL_ (some 11) rfl rfl Try.func54 (by kernel_rfl) rfl #[.agg #[.int .i64 a0_0,.int .i64 a0_1,.int .i64 a0_2,.int .i64 a0_3,.int .i64 a0_4],.agg #[.int .i64 a1_0,.slice A1_1 l1_1.length c1_1,.int .i64 a1_2,.int .i64 a1_3,.bool a1_4]] rfl am ?_;(with_reducible refine (spec_CrdTxOk.calls k a0_0 a0_1 a0_2 a0_3 a0_4 a1_0 _ _ l1_1 a1_2 a1_3 a1_4 false _ ?side1 ?side2 A3.out).mono ?_);(case side1=>repeat (first|exact (Kd.C_below A9.out HB.out)|(with_reducible refine Kd.C_alloc ?_ _)|(with_reducible refine Kd.C_drewN ?_ _)|(with_reducible refine Kd.C_drew ?_)));(case side2=>exact Ba.out);rintro e Sj ⟨rfl,hb⟩;refine ⟨_,rfl,?_⟩;replace Ab:=mk_ (zq6 (by exact Ab.out) hb);replace Aa:=mk_ (zq6 (by exact Aa.out) hb);replace Ac:=mk_ (zq6 (by exact Ac.out) hb);replace Ad:=mk_ (zq6 (by exact Ad.out) hb);replace HB:=mk_ (zr3 (yu1 HB.out) hb);(try clear hb);(try clear hb2);(try clear hk);(try clear hi);have Pc:=Af.out;have Pd:=Ag.out;obtain ⟨Cp,Cq,Cr,Cs,Ct⟩:=cz5 Ac.out;obtain ⟨Cu,Cv,Cw,Cx,Cy⟩:=fz5 Ac.out;obtain ⟨Cz,C0,C1,C2,C3,C4,C5,C6,C7⟩:=cz9 Ad.out;obtain ⟨C8,C9,Da,Db,Dc,Dd,De,Df,Dg⟩:=fz9 Ad.out))
  refine bodyPost_ret (results_list (rs:=[.cell 4 78,.cell 5 102,.tmp 6]) rfl (by simp) (.cell gb371 78 #[.int .i64 0,.slice none 0 0,.int .i64 0,.int .i64 0,.bool false] (0,0) _ rfl (yv12 Af.out Ac.out) Try.underlying78 rfl (by kernel_rfl) (.cell gb372 102 #[.int .i64 0,.int .i64 0,.int .i64 0,.bool false,.bool false,.int .i64 0,.int .i64 0,.int .i64 0,.slice none 0 0] (0,0) _ rfl (yv13 Ag.out Ad.out) Try.underlying102 rfl (by kernel_rfl) (.tmp .nil)))) rfl ?_
  exact ⟨_,_,by first|rfl|(simp [errW_none,errW_some] <;> rfl)|(simp [*,errW_none,errW_some] <;> rfl),by first|exact Kd.S_nil _ _ _ _ _|exact Kd.N_nil _ _ _ _ _|exact Kd.V_nil _ _ _ _ _|exact Kd.Q_nil _ _ _ _ _|exact Kd.R_nil _ _ _ _ _,by first|exact Kd.R_nil _ _ _ _ _|exact Kd.N_nil _ _ _ _ _|exact Kd.V_nil _ _ _ _ _|exact Kd.Q_nil _ _ _ _ _|exact Kd.S_nil _ _ _ _ _,by exact yu1 HB.out⟩
 subst c4
 have H1:((spec_l8Tx.f k a1_0 l1_1 a1_2 a1_3 a1_4).bind fun bt374=>(if a1_4=true then (some (bt374.1,bt374.2.1,bt374.2.2.1,bt374.2.2.2.1,bt374.2.2.2.2,0,0,0,false,false,0,0,0,([]:List Int),false)) else (if a1_0=0 then (some (bt374.1,bt374.2.1,bt374.2.2.1,bt374.2.2.2.1,bt374.2.2.2.2,0,0,0,false,false,0,0,0,([]:List Int),false)) else (if (l1_1.length:Int)=0 then (some (bt374.1,bt374.2.1,bt374.2.2.1,bt374.2.2.2.1,bt374.2.2.2.2,0,0,0,false,false,0,0,0,([]:List Int),false)) else (if a1_3=9999 then (some (bt374.1,bt374.2.1,bt374.2.2.1,bt374.2.2.2.1,bt374.2.2.2.2,0,0,0,false,false,0,0,0,([]:List Int),false)) else (if 0<(bt374.2.1.length:Int) then (if 1≤(bt374.2.1.length:Int) then ((spec_l6List.f k (bt374.2.1.drop 1)).bind fun t388=>((some (([]:List Int):List Int)).bind fun y391=>(if y391.length+((rd_T39 bt374.2.1 0).f2).length<140737488355328 then (some (wrap64 (a1_0 - 1),t388,bt374.2.2.1,wrap64 (a1_3+1),bt374.2.2.2.2,3,0,0,false,false,0,(rd_T39 bt374.2.1 0).f0,(rd_T39 bt374.2.1 0).f1,(y391++((rd_T39 bt374.2.1 0).f2)),true)) else (none)))) else (none)) else (none)))))))=some (r1,r2,r3,r4,r5,r6,r7,r8,r9,r10,r11,r12,r13,r14,r15):=by rw [if_pos rfl] at H;exact H
 clear H
 have H:=H1
 clear H1
 replace H:=Option.bind_eq_some_iff.mp H
 obtain ⟨⟨t374,t375,t378,t379,t380⟩,B4,H⟩:=H
 try dsimp only at H
 have A5:=mk_ B4
 clear B4
 by_cases c6:a1_4=true
 ·subst c6
  have H1:(some (t374,t375,t378,t379,t380,0,0,0,false,false,0,0,0,([]:List Int),false))=some (r1,r2,r3,r4,r5,r6,r7,r8,r9,r10,r11,r12,r13,r14,r15):=by rw [if_pos rfl] at H;exact H
  clear H
  have H:=H1
  clear H1
  simp only [Option.some.injEq,Prod.mk.injEq] at H
  obtain ⟨rfl,rfl,rfl,rfl,rfl,rfl,rfl,rfl,rfl,rfl,rfl,rfl,rfl,rfl,rfl⟩:=H
  go_enter Try.func109,Try.ntmps109
  go_wp2_with (first|((with_reducible refine gate_dst (N:=2) rfl ?_);(try (refine gate_guard (by rfl) ?_;dsimp only));refine box_event ?hg (N:=2) ?hd (cs:=#[.int .i64 a0_0,.int .i64 a0_1,.int .i64 a0_2,.int .i64 a0_3,.int .i64 a0_4]) (t:=66) ?hr ?_;(case hd=>rfl);(case hg=>rfl);(case hr=>first|(go_simp;done)|(go_simp;rfl));intro gb369 hg w7 hbox hb;have Ab:=mk_ (hbox);have Bb:=mk_ ((by rw [hg];exact (zr2 (yu0 HB.out)):w.heap.size≤gb369));have Bo:=Bb;replace HB:=mk_ (zr3 (yu0 HB.out) hb);clear hb hbox hg)|((with_reducible refine gate_dst (N:=3) rfl ?_);(try (refine gate_guard (by rfl) ?_;dsimp only));refine box_event ?hg (N:=3) ?hd (cs:=#[.int .i64 a1_0,.slice A1_1 l1_1.length c1_1,.int .i64 a1_2,.int .i64 a1_3,.bool true]) (t:=78) ?hr ?_;(case hd=>rfl);(case hg=>rfl);(case hr=>first|(go_simp;done)|(go_simp;rfl));intro gb370 hg w8 hbox hb;have Aa:=mk_ (hbox);have Bc:=mk_ ((by rw [hg];exact (zr2 (yu1 HB.out)):w.heap.size≤gb370));have Bp:=Bc;replace HB:=mk_ (zr3 (yu1 HB.out) hb);have As:=mk_ ((by rw [hg];exact zm2 (zr6 (by exact Ab.out)):gb369≠gb370));replace Ab:=mk_ (zq6 (by exact Ab.out) hb);have A0:=mk_ As.out.symm;clear hb hbox hg)|((with_reducible refine gate_dst (N:=4) rfl ?_);(try (refine gate_guard (by rfl) ?_;dsimp only));refine box_event ?hg (N:=4) ?hd (cs:=#[.int .i64 0,.slice none 0 0,.int .i64 0,.int .i64 0,.bool false]) (t:=78) ?hr ?_;(case hd=>rfl);(case hg=>rfl);(case hr=>first|(go_simp;done)|(go_simp;rfl));intro gb371 hg w9 hbox hb;have Ac:=mk_ (hbox);have Bd:=mk_ ((by rw [hg];exact (zr2 (yu1 HB.out)):w.heap.size≤gb371));have Bq:=Bd;replace HB:=mk_ (zr3 (yu1 HB.out) hb);have An:=mk_ ((by rw [hg];exact zm2 (zr6 (by exact Ab.out)):gb369≠gb371));replace Ab:=mk_ (zq6 (by exact Ab.out) hb);have Au:=mk_ An.out.symm;have Ao:=mk_ ((by rw [hg];exact zm2 (zr6 (by exact Aa.out)):gb370≠gb371));replace Aa:=mk_ (zq6 (by exact Aa.out) hb);have Av:=mk_ Ao.out.symm;clear hb hbox hg)|((with_reducible refine gate_dst (N:=5) rfl ?_);(try (refine gate_guard (by rfl) ?_;dsimp only));refine box_event ?hg (N:=5) ?hd (cs:=#[.int .i64 0,.int .i64 0,.int .i64 0,.bool false,.bool false,.int .i64 0,.int .i64 0,.int .i64 0,.slice none 0 0]) (t:=102) ?hr ?_;(case hd=>rfl);(case hg=>rfl);(case hr=>first|(go_simp;done)|(go_simp;rfl));intro gb372 hg Ss hbox hb;have Ad:=mk_ (hbox);have Be:=mk_ ((by rw [hg];exact (zr2 (yu1 HB.out)):w.heap.size≤gb372));have Br:=Be;replace HB:=mk_ (zr3 (yu1 HB.out) hb);have Aj:=mk_ ((by rw [hg];exact zm2 (zr6 (by exact Ab.out)):gb369≠gb372));replace Ab:=mk_ (zq6 (by exact Ab.out) hb);have Ap:=mk_ Aj.out.symm;have Ak:=mk_ ((by rw [hg];exact zm2 (zr6 (by exact Aa.out)):gb370≠gb372));replace Aa:=mk_ (zq6 (by exact Aa.out) hb);have Aq:=mk_ Ak.out.symm;have Af:=mk_ ((by rw [hg];exact zm2 (zr6 (by exact Ac.out)):gb371≠gb372));replace Ac:=mk_ (zq6 (by exact Ac.out) hb);have Ag:=mk_ Af.out.symm;clear hb hbox hg;have Qg:=As.out;have Qh:=A0.out;have Qi:=An.out;have Qj:=Au.out;have Qk:=Aj.out;have Ql:=Ap.out;obtain ⟨Hm,Hn,Ho,Hp,Hq⟩:=cz5 Ab.out;obtain ⟨Hr,Hs,Ht,Hu,Hv⟩:=fz5 Ab.out;have Qm:=Ao.out;have Qn:=Av.out;have Qo:=Ak.out;have Qp:=Aq.out;obtain ⟨Hw,Hx,Hy,Hz,H0⟩:=cz5 Aa.out;obtain ⟨H2,H3,H4,H5,H6⟩:=fz5 Aa.out)|((with_reducible refine gate_callee (f:=54) rfl ?_);refine goesL_ (some 11) rfl rfl Try.func54 (by kernel_rfl) rfl #[.agg #[.int .i64 a0_0,.int .i64 a0_1,.int .i64 a0_2,.int .i64 a0_3,.int .i64 a0_4],.agg #[.int .i64 a1_0,.slice A1_1 l1_1.length c1_1,.int .i64 a1_2,.int .i64 a1_3,.bool true]] rfl am ?_;(with_reducible refine (spec_CrdTxOk.calls k a0_0 a0_1 a0_2 a0_3 a0_4 a1_0 _ _ l1_1 a1_2 a1_3 true true _ ?side1 ?side2 A3.out).mono ?_);(case side1=>repeat (first|exact (Kd.C_below A9.out HB.out)|(with_reducible refine Kd.C_alloc ?_ _)|(with_reducible refine Kd.C_drewN ?_ _)|(with_reducible refine Kd.C_drew ?_)));(case side2=>exact Ba.out);rintro e St ⟨rfl,hb⟩;refine ⟨_,rfl,?_⟩;replace Ab:=mk_ (zq6 (by exact Ab.out) hb);replace Aa:=mk_ (zq6 (by exact Aa.out) hb);replace Ac:=mk_ (zq6 (by exact Ac.out) hb);replace Ad:=mk_ (zq6 (by exact Ad.out) hb);replace HB:=mk_ (zr3 (yu1 HB.out) hb);(try clear hb);(try clear hb2);(try clear hk);(try clear hi);obtain ⟨H7,H8,H9,Ia,Ib⟩:=cz5 Aa.out;obtain ⟨Ic,Id,Ie,If,Ig⟩:=fz5 Aa.out)|((with_reducible refine gate_callee (f:=117) rfl ?_);refine goesL_ (some 16) rfl rfl Try.func117 (by kernel_rfl) rfl #[.agg #[.int .i64 a1_0,.slice A1_1 l1_1.length c1_1,.int .i64 a1_2,.int .i64 a1_3,.bool true]] rfl am ?_;(with_reducible refine (spec_l8Tx.calls k a1_0 _ _ l1_1 a1_2 a1_3 true t374 t375 t378 t379 t380 _ ?side1 ?side2 A5.out).mono ?_);(case side1=>repeat (first|exact (Kd.C_below A9.out HB.out)|(with_reducible refine Kd.C_alloc ?_ _)|(with_reducible refine Kd.C_drewN ?_ _)|(with_reducible refine Kd.C_drew ?_)));(case side2=>exact Ba.out);rintro e Su ⟨v376,rfl,ho0,hb⟩;refine ⟨_,rfl,?_⟩;have Ai:=mk_ (Kd.S_lower ho0 (zr2 (yu1 HB.out)));replace Ab:=mk_ (zq6 (by exact Ab.out) hb);replace Aa:=mk_ (zq6 (by exact Aa.out) hb);replace Ac:=mk_ (zq6 (by exact Ac.out) hb);replace Ad:=mk_ (zq6 (by exact Ad.out) hb);replace HB:=mk_ (zr3 (yu1 HB.out) hb);(try clear hb);(try clear hb2);(try clear hk);(try clear hi);(try clear ho0))|((with_reducible refine gate_dst (N:=7) rfl ?_);(try (refine gate_guard (by rfl) ?_;dsimp only));refine box_event ?hg (N:=7) ?hd (cs:=#[.int .i64 0,.slice none 0 0,.int .i64 0,.int .i64 0,.bool false]) (t:=78) ?hr ?_;(case hd=>rfl);(case hg=>rfl);(case hr=>first|(go_simp;done)|(go_simp;rfl));intro gb381 hg Sv hbox hb;replace Ai:=mk_ (Kd.S_below (mS Ai.out) hb);have Ae:=mk_ (hbox);have Bg:=mk_ ((by rw [hg];exact (zr2 (yu1 HB.out)):w.heap.size≤gb381));have Bu:=Bg;replace HB:=mk_ (zr3 (yu1 HB.out) hb);have Aw:=mk_ ((by rw [hg];exact zm2 (zr6 (by exact Ab.out)):gb369≠gb381));replace Ab:=mk_ (zq6 (by exact Ab.out) hb);have A2:=mk_ Aw.out.symm;have Ax:=mk_ ((by rw [hg];exact zm2 (zr6 (by exact Aa.out)):gb370≠gb381));replace Aa:=mk_ (zq6 (by exact Aa.out) hb);have A4:=mk_ Ax.out.symm;have Al:=mk_ ((by rw [hg];exact zm2 (zr6 (by exact Ac.out)):gb371≠gb381));replace Ac:=mk_ (zq6 (by exact Ac.out) hb);have Ar:=mk_ Al.out.symm;have Ah:=mk_ ((by rw [hg];exact zm2 (zr6 (by exact Ad.out)):gb372≠gb381));replace Ad:=mk_ (zq6 (by exact Ad.out) hb);have Am:=mk_ Ah.out.symm;clear hb hbox hg;have Qq:=A2.out;have Qr:=Aw.out;have Qs:=A4.out;have Qt:=Ax.out;have Qu:=Ar.out;have Qv:=Al.out;have Qw:=Am.out;have Qx:=Ah.out;obtain ⟨Ih,Ii,Ij,Ik,Il⟩:=cz5 Ae.out;obtain ⟨Im,In,Io,Ip,Iq⟩:=fz5 Ae.out;obtain ⟨Ao27,co27,eo27⟩:=Kd.S_slice Ai.out;subst eo27;obtain ⟨Ir,Is,It,Iu,Iv⟩:=cz5 Aa.out;obtain ⟨Iw,Ix,Iy,Iz,I0⟩:=fz5 Aa.out;have Qy:=Af.out;have Qz:=Ag.out;obtain ⟨I1,I2,I3,I4,I5⟩:=cz5 Ac.out;obtain ⟨I6,I7,I8,I9,Ja⟩:=fz5 Ac.out;obtain ⟨Jb,Jc,Jd,Je,Jf,Jg,Jh,Ji,Jj⟩:=cz9 Ad.out;obtain ⟨Jk,Jl,Jm,Jn,Jo,Jp,Jq,Jr,Js⟩:=fz9 Ad.out))
  refine bodyPost_ret (results_list (rs:=[.cell 4 78,.cell 5 102,.tmp 6]) rfl (by simp) (.cell gb371 78 #[.int .i64 t374,.slice Ao27 t375.length co27,.int .i64 t378,.int .i64 t379,.bool t380] (0,0) _ rfl (yv14 Af.out Al.out Ac.out) Try.underlying78 rfl (by kernel_rfl) (.cell gb372 102 #[.int .i64 0,.int .i64 0,.int .i64 0,.bool false,.bool false,.int .i64 0,.int .i64 0,.int .i64 0,.slice none 0 0] (0,0) _ rfl (yv15 Ag.out Ah.out Ad.out) Try.underlying102 rfl (by kernel_rfl) (.tmp .nil)))) rfl ?_
  exact ⟨_,_,by first|rfl|(simp [errW_none,errW_some] <;> rfl)|(simp [*,errW_none,errW_some] <;> rfl),by (with_reducible repeat (first|apply Kd.S_alloc|apply Kd.S_drewN|apply Kd.S_drew));exact Kd.S_mono (Kd.S_far (p:=⟨gb372,8,none⟩) (Kd.S_far (p:=⟨gb372,7,none⟩) (Kd.S_far (p:=⟨gb372,6,none⟩) (Kd.S_far (p:=⟨gb372,5,none⟩) (Kd.S_far (p:=⟨gb372,4,none⟩) (Kd.S_far (p:=⟨gb372,3,none⟩) (Kd.S_far (p:=⟨gb372,2,none⟩) (Kd.S_far (p:=⟨gb372,1,none⟩) (Kd.S_far (p:=⟨gb372,0,none⟩) (Kd.S_far (p:=⟨gb371,4,none⟩) (Kd.S_far (p:=⟨gb371,3,none⟩) (Kd.S_far (p:=⟨gb371,2,none⟩) (Kd.S_far (p:=⟨gb371,1,none⟩) (Kd.S_far (p:=⟨gb371,0,none⟩) (Kd.S_far (p:=⟨gb381,4,none⟩) (Kd.S_far (p:=⟨gb381,3,none⟩) (Kd.S_far (p:=⟨gb381,2,none⟩) (Kd.S_far (p:=⟨gb381,1,none⟩) (Kd.S_far (p:=⟨gb381,0,none⟩) (Kd.S_types (Kd.S_types (Kd.S_types Ai.out Ae.out (by decide)) Ac.out (by decide)) Ad.out (by decide)) (fun _ hk=>hk.1.1.2) (.int .i64 t374)) (fun _ hk=>hk.1.1.2) (.slice Ao27 t375.length co27)) (fun _ hk=>hk.1.1.2) (.int .i64 t378)) (fun _ hk=>hk.1.1.2) (.int .i64 t379)) (fun _ hk=>hk.1.1.2) (.bool t380)) (fun _ hk=>hk.1.2) (.int .i64 t374)) (fun _ hk=>hk.1.2) (.slice Ao27 t375.length co27)) (fun _ hk=>hk.1.2) (.int .i64 t378)) (fun _ hk=>hk.1.2) (.int .i64 t379)) (fun _ hk=>hk.1.2) (.bool t380)) (fun _ hk=>hk.2) (.int .i64 0)) (fun _ hk=>hk.2) (.int .i64 0)) (fun _ hk=>hk.2) (.int .i64 0)) (fun _ hk=>hk.2) (.bool false)) (fun _ hk=>hk.2) (.bool false)) (fun _ hk=>hk.2) (.int .i64 0)) (fun _ hk=>hk.2) (.int .i64 0)) (fun _ hk=>hk.2) (.int .i64 0)) (fun _ hk=>hk.2) (.slice none 0 0)) (fun _ hk=>(by simp [Value.ownBlock])),by first|exact Kd.R_nil _ _ _ _ _|exact Kd.N_nil _ _ _ _ _|exact Kd.V_nil _ _ _ _ _|exact Kd.Q_nil _ _ _ _ _|exact Kd.S_nil _ _ _ _ _,by exact yu1 HB.out⟩
 replace c6:=Bool.eq_false_iff.mpr c6
 subst c6
 have H1:(if a1_0=0 then (some (t374,t375,t378,t379,t380,0,0,0,false,false,0,0,0,([]:List Int),false)) else (if (l1_1.length:Int)=0 then (some (t374,t375,t378,t379,t380,0,0,0,false,false,0,0,0,([]:List Int),false)) else (if a1_3=9999 then (some (t374,t375,t378,t379,t380,0,0,0,false,false,0,0,0,([]:List Int),false)) else (if 0<(t375.length:Int) then (if 1≤(t375.length:Int) then ((spec_l6List.f k (t375.drop 1)).bind fun t388=>((some (([]:List Int):List Int)).bind fun y391=>(if y391.length+((rd_T39 t375 0).f2).length<140737488355328 then (some (wrap64 (a1_0 - 1),t388,t378,wrap64 (a1_3+1),t380,3,0,0,false,false,0,(rd_T39 t375 0).f0,(rd_T39 t375 0).f1,(y391++((rd_T39 t375 0).f2)),true)) else (none)))) else (none)) else (none)))))=some (r1,r2,r3,r4,r5,r6,r7,r8,r9,r10,r11,r12,r13,r14,r15):=by rw [if_neg (show ¬ (false=true) by decide)] at H;exact H
 clear H
 have H:=H1
 clear H1
 by_cases c32:a1_0=0
 ·rw [if_pos c32] at H
  have c32b0:(a1_0 == 0)=true:=beq_iff_eq.mpr c32
  have c32b1:(a1_0 != 0)=false:=bne_eq_false_iff_eq.mpr c32
  clear c32
  simp only [Option.some.injEq,Prod.mk.injEq] at H
  obtain ⟨rfl,rfl,rfl,rfl,rfl,rfl,rfl,rfl,rfl,rfl,rfl,rfl,rfl,rfl,rfl⟩:=H
  go_enter Try.func109,Try.ntmps109
  go_wp2_with (first|((with_reducible refine gate_dst (N:=2) rfl ?_);(try (refine gate_guard (by rfl) ?_;dsimp only));refine box_event ?hg (N:=2) ?hd (cs:=#[.int .i64 a0_0,.int .i64 a0_1,.int .i64 a0_2,.int .i64 a0_3,.int .i64 a0_4]) (t:=66) ?hr ?_;(case hd=>rfl);(case hg=>rfl);(case hr=>first|(go_simp;done)|(go_simp;rfl));intro gb369 hg Sw hbox hb;have Ab:=mk_ (hbox);have Bb:=mk_ ((by rw [hg];exact (zr2 (yu0 HB.out)):w.heap.size≤gb369));have Bo:=Bb;replace HB:=mk_ (zr3 (yu0 HB.out) hb);clear hb hbox hg)|((with_reducible refine gate_dst (N:=3) rfl ?_);(try (refine gate_guard (by rfl) ?_;dsimp only));refine box_event ?hg (N:=3) ?hd (cs:=#[.int .i64 a1_0,.slice A1_1 l1_1.length c1_1,.int .i64 a1_2,.int .i64 a1_3,.bool false]) (t:=78) ?hr ?_;(case hd=>rfl);(case hg=>rfl);(case hr=>first|(go_simp;done)|(go_simp;rfl));intro gb370 hg Sx hbox hb;have Aa:=mk_ (hbox);have Bc:=mk_ ((by rw [hg];exact (zr2 (yu1 HB.out)):w.heap.size≤gb370));have Bp:=Bc;replace HB:=mk_ (zr3 (yu1 HB.out) hb);have As:=mk_ ((by rw [hg];exact zm2 (zr6 (by exact Ab.out)):gb369≠gb370));replace Ab:=mk_ (zq6 (by exact Ab.out) hb);have A0:=mk_ As.out.symm;clear hb hbox hg)|((with_reducible refine gate_dst (N:=4) rfl ?_);(try (refine gate_guard (by rfl) ?_;dsimp only));refine box_event ?hg (N:=4) ?hd (cs:=#[.int .i64 0,.slice none 0 0,.int .i64 0,.int .i64 0,.bool false]) (t:=78) ?hr ?_;(case hd=>rfl);(case hg=>rfl);(case hr=>first|(go_simp;done)|(go_simp;rfl));intro gb371 hg Sy hbox hb;have Ac:=mk_ (hbox);have Bd:=mk_ ((by rw [hg];exact (zr2 (yu1 HB.out)):w.heap.size≤gb371));have Bq:=Bd;replace HB:=mk_ (zr3 (yu1 HB.out) hb);have An:=mk_ ((by rw [hg];exact zm2 (zr6 (by exact Ab.out)):gb369≠gb371));replace Ab:=mk_ (zq6 (by exact Ab.out) hb);have Au:=mk_ An.out.symm;have Ao:=mk_ ((by rw [hg];exact zm2 (zr6 (by exact Aa.out)):gb370≠gb371));replace Aa:=mk_ (zq6 (by exact Aa.out) hb);have Av:=mk_ Ao.out.symm;clear hb hbox hg)|((with_reducible refine gate_dst (N:=5) rfl ?_);(try (refine gate_guard (by rfl) ?_;dsimp only));refine box_event ?hg (N:=5) ?hd (cs:=#[.int .i64 0,.int .i64 0,.int .i64 0,.bool false,.bool false,.int .i64 0,.int .i64 0,.int .i64 0,.slice none 0 0]) (t:=102) ?hr ?_;(case hd=>rfl);(case hg=>rfl);(case hr=>first|(go_simp;done)|(go_simp;rfl));intro gb372 hg Sz hbox hb;have Ad:=mk_ (hbox);have Be:=mk_ ((by rw [hg];exact (zr2 (yu1 HB.out)):w.heap.size≤gb372));have Br:=Be;replace HB:=mk_ (zr3 (yu1 HB.out) hb);have Aj:=mk_ ((by rw [hg];exact zm2 (zr6 (by exact Ab.out)):gb369≠gb372));replace Ab:=mk_ (zq6 (by exact Ab.out) hb);have Ap:=mk_ Aj.out.symm;have Ak:=mk_ ((by rw [hg];exact zm2 (zr6 (by exact Aa.out)):gb370≠gb372));replace Aa:=mk_ (zq6 (by exact Aa.out) hb);have Aq:=mk_ Ak.out.symm;have Af:=mk_ ((by rw [hg];exact zm2 (zr6 (by exact Ac.out)):gb371≠gb372));replace Ac:=mk_ (zq6 (by exact Ac.out) hb);have Ag:=mk_ Af.out.symm;clear hb hbox hg;have Q0:=As.out;have Q1:=A0.out;have Q2:=An.out;have Q3:=Au.out;have Q4:=Aj.out;have Q5:=Ap.out;obtain ⟨Jt,Ju,Jv,Jw,Jx⟩:=cz5 Ab.out;obtain ⟨Jy,Jz,J0,J1,J2⟩:=fz5 Ab.out;have Q6:=Ao.out;have Q7:=Av.out;have Q8:=Ak.out;have Q9:=Aq.out;obtain ⟨J3,J4,J5,J6,J7⟩:=cz5 Aa.out;obtain ⟨J8,J9,Ka,Kb,Kc⟩:=fz5 Aa.out)|((with_reducible refine gate_callee (f:=54) rfl ?_);refine goesL_ (some 11) rfl rfl Try.func54 (by kernel_rfl) rfl #[.agg #[.int .i64 a0_0,.int .i64 a0_1,.int .i64 a0_2,.int .i64 a0_3,.int .i64 a0_4],.agg #[.int .i64 a1_0,.slice A1_1 l1_1.length c1_1,.int .i64 a1_2,.int .i64 a1_3,.bool false]] rfl am ?_;(with_reducible refine (spec_CrdTxOk.calls k a0_0 a0_1 a0_2 a0_3 a0_4 a1_0 _ _ l1_1 a1_2 a1_3 false true _ ?side1 ?side2 A3.out).mono ?_);(case side1=>repeat (first|exact (Kd.C_below A9.out HB.out)|(with_reducible refine Kd.C_alloc ?_ _)|(with_reducible refine Kd.C_drewN ?_ _)|(with_reducible refine Kd.C_drew ?_)));(case side2=>exact Ba.out);rintro e S0 ⟨rfl,hb⟩;refine ⟨_,rfl,?_⟩;replace Ab:=mk_ (zq6 (by exact Ab.out) hb);replace Aa:=mk_ (zq6 (by exact Aa.out) hb);replace Ac:=mk_ (zq6 (by exact Ac.out) hb);replace Ad:=mk_ (zq6 (by exact Ad.out) hb);replace HB:=mk_ (zr3 (yu1 HB.out) hb);(try clear hb);(try clear hb2);(try clear hk);(try clear hi);obtain ⟨Ke,Kf,Kg,Kh,Ki⟩:=cz5 Aa.out;obtain ⟨Kj,Kk,Kl,Km,Kn⟩:=fz5 Aa.out)|((with_reducible refine gate_callee (f:=117) rfl ?_);refine goesL_ (some 16) rfl rfl Try.func117 (by kernel_rfl) rfl #[.agg #[.int .i64 a1_0,.slice A1_1 l1_1.length c1_1,.int .i64 a1_2,.int .i64 a1_3,.bool false]] rfl am ?_;(with_reducible refine (spec_l8Tx.calls k a1_0 _ _ l1_1 a1_2 a1_3 false t374 t375 t378 t379 t380 _ ?side1 ?side2 A5.out).mono ?_);(case side1=>repeat (first|exact (Kd.C_below A9.out HB.out)|(with_reducible refine Kd.C_alloc ?_ _)|(with_reducible refine Kd.C_drewN ?_ _)|(with_reducible refine Kd.C_drew ?_)));(case side2=>exact Ba.out);rintro e S1 ⟨v376,rfl,ho0,hb⟩;refine ⟨_,rfl,?_⟩;have Ai:=mk_ (Kd.S_lower ho0 (zr2 (yu1 HB.out)));replace Ab:=mk_ (zq6 (by exact Ab.out) hb);replace Aa:=mk_ (zq6 (by exact Aa.out) hb);replace Ac:=mk_ (zq6 (by exact Ac.out) hb);replace Ad:=mk_ (zq6 (by exact Ad.out) hb);replace HB:=mk_ (zr3 (yu1 HB.out) hb);(try clear hb);(try clear hb2);(try clear hk);(try clear hi);(try clear ho0))|((with_reducible refine gate_dst (N:=7) rfl ?_);(try (refine gate_guard (by rfl) ?_;dsimp only));refine box_event ?hg (N:=7) ?hd (cs:=#[.int .i64 0,.slice none 0 0,.int .i64 0,.int .i64 0,.bool false]) (t:=78) ?hr ?_;(case hd=>rfl);(case hg=>rfl);(case hr=>first|(go_simp;done)|(go_simp;rfl));intro gb381 hg S2 hbox hb;replace Ai:=mk_ (Kd.S_below (mS Ai.out) hb);have Ae:=mk_ (hbox);have Bg:=mk_ ((by rw [hg];exact (zr2 (yu1 HB.out)):w.heap.size≤gb381));have Bu:=Bg;replace HB:=mk_ (zr3 (yu1 HB.out) hb);have Aw:=mk_ ((by rw [hg];exact zm2 (zr6 (by exact Ab.out)):gb369≠gb381));replace Ab:=mk_ (zq6 (by exact Ab.out) hb);have A2:=mk_ Aw.out.symm;have Ax:=mk_ ((by rw [hg];exact zm2 (zr6 (by exact Aa.out)):gb370≠gb381));replace Aa:=mk_ (zq6 (by exact Aa.out) hb);have A4:=mk_ Ax.out.symm;have Al:=mk_ ((by rw [hg];exact zm2 (zr6 (by exact Ac.out)):gb371≠gb381));replace Ac:=mk_ (zq6 (by exact Ac.out) hb);have Ar:=mk_ Al.out.symm;have Ah:=mk_ ((by rw [hg];exact zm2 (zr6 (by exact Ad.out)):gb372≠gb381));replace Ad:=mk_ (zq6 (by exact Ad.out) hb);have Am:=mk_ Ah.out.symm;clear hb hbox hg;have Ra:=A2.out;have Rb:=Aw.out;have Rc:=A4.out;have Rd:=Ax.out;have Re:=Ar.out;have Rf:=Al.out;have Rg:=Am.out;have Rh:=Ah.out;obtain ⟨Ko,Kp,Kq,Kr,Ks⟩:=cz5 Ae.out;obtain ⟨Kt,Ku,Kv,Kw,Kx⟩:=fz5 Ae.out;obtain ⟨Ao53,co53,eo53⟩:=Kd.S_slice Ai.out;subst eo53;obtain ⟨Ky,Kz,K0,K1,K2⟩:=cz5 Aa.out;obtain ⟨K3,K4,K5,K6,K7⟩:=fz5 Aa.out;have Ri:=Af.out;have Rj:=Ag.out;obtain ⟨K8,K9,La,Lb,Lc⟩:=cz5 Ac.out;obtain ⟨Ld,Le,Lf,Lg,Lh⟩:=fz5 Ac.out;obtain ⟨Li,Lj,Lk,Ll,Lm,Ln,Lo,Lp,Lq⟩:=cz9 Ad.out;obtain ⟨Lr,Ls,Lt,Lu,Lv,Lw,Lx,Ly,Lz⟩:=fz9 Ad.out))
  refine bodyPost_ret (results_list (rs:=[.cell 4 78,.cell 5 102,.tmp 6]) rfl (by simp) (.cell gb371 78 #[.int .i64 t374,.slice Ao53 t375.length co53,.int .i64 t378,.int .i64 t379,.bool t380] (0,0) _ rfl (yv14 Af.out Al.out Ac.out) Try.underlying78 rfl (by kernel_rfl) (.cell gb372 102 #[.int .i64 0,.int .i64 0,.int .i64 0,.bool false,.bool false,.int .i64 0,.int .i64 0,.int .i64 0,.slice none 0 0] (0,0) _ rfl (yv15 Ag.out Ah.out Ad.out) Try.underlying102 rfl (by kernel_rfl) (.tmp .nil)))) rfl ?_
  exact ⟨_,_,by first|rfl|(simp [errW_none,errW_some] <;> rfl)|(simp [*,errW_none,errW_some] <;> rfl),by (with_reducible repeat (first|apply Kd.S_alloc|apply Kd.S_drewN|apply Kd.S_drew));exact Kd.S_mono (Kd.S_far (p:=⟨gb372,8,none⟩) (Kd.S_far (p:=⟨gb372,7,none⟩) (Kd.S_far (p:=⟨gb372,6,none⟩) (Kd.S_far (p:=⟨gb372,5,none⟩) (Kd.S_far (p:=⟨gb372,4,none⟩) (Kd.S_far (p:=⟨gb372,3,none⟩) (Kd.S_far (p:=⟨gb372,2,none⟩) (Kd.S_far (p:=⟨gb372,1,none⟩) (Kd.S_far (p:=⟨gb372,0,none⟩) (Kd.S_far (p:=⟨gb371,4,none⟩) (Kd.S_far (p:=⟨gb371,3,none⟩) (Kd.S_far (p:=⟨gb371,2,none⟩) (Kd.S_far (p:=⟨gb371,1,none⟩) (Kd.S_far (p:=⟨gb371,0,none⟩) (Kd.S_far (p:=⟨gb381,4,none⟩) (Kd.S_far (p:=⟨gb381,3,none⟩) (Kd.S_far (p:=⟨gb381,2,none⟩) (Kd.S_far (p:=⟨gb381,1,none⟩) (Kd.S_far (p:=⟨gb381,0,none⟩) (Kd.S_types (Kd.S_types (Kd.S_types Ai.out Ae.out (by decide)) Ac.out (by decide)) Ad.out (by decide)) (fun _ hk=>hk.1.1.2) (.int .i64 t374)) (fun _ hk=>hk.1.1.2) (.slice Ao53 t375.length co53)) (fun _ hk=>hk.1.1.2) (.int .i64 t378)) (fun _ hk=>hk.1.1.2) (.int .i64 t379)) (fun _ hk=>hk.1.1.2) (.bool t380)) (fun _ hk=>hk.1.2) (.int .i64 t374)) (fun _ hk=>hk.1.2) (.slice Ao53 t375.length co53)) (fun _ hk=>hk.1.2) (.int .i64 t378)) (fun _ hk=>hk.1.2) (.int .i64 t379)) (fun _ hk=>hk.1.2) (.bool t380)) (fun _ hk=>hk.2) (.int .i64 0)) (fun _ hk=>hk.2) (.int .i64 0)) (fun _ hk=>hk.2) (.int .i64 0)) (fun _ hk=>hk.2) (.bool false)) (fun _ hk=>hk.2) (.bool false)) (fun _ hk=>hk.2) (.int .i64 0)) (fun _ hk=>hk.2) (.int .i64 0)) (fun _ hk=>hk.2) (.int .i64 0)) (fun _ hk=>hk.2) (.slice none 0 0)) (fun _ hk=>(by simp [Value.ownBlock])),by first|exact Kd.R_nil _ _ _ _ _|exact Kd.N_nil _ _ _ _ _|exact Kd.V_nil _ _ _ _ _|exact Kd.Q_nil _ _ _ _ _|exact Kd.S_nil _ _ _ _ _,by exact yu1 HB.out⟩
 rw [if_neg c32] at H
 have c32b0:(a1_0 == 0)=false:=beq_eq_false_iff_ne.mpr c32
 have c32b1:(a1_0 != 0)=true:=bne_iff_ne.mpr c32
 by_cases c58:(l1_1.length:Int)=0
 ·rw [if_pos c58] at H
  have c58b0:((l1_1.length:Int) == 0)=true:=beq_iff_eq.mpr c58
  have c58b1:((l1_1.length:Int) != 0)=false:=bne_eq_false_iff_eq.mpr c58
  clear c58
  simp only [Option.some.injEq,Prod.mk.injEq] at H
  obtain ⟨rfl,rfl,rfl,rfl,rfl,rfl,rfl,rfl,rfl,rfl,rfl,rfl,rfl,rfl,rfl⟩:=H
  go_enter Try.func109,Try.ntmps109
  go_wp2_with (first|((with_reducible refine gate_dst (N:=2) rfl ?_);(try (refine gate_guard (by rfl) ?_;dsimp only));refine box_event ?hg (N:=2) ?hd (cs:=#[.int .i64 a0_0,.int .i64 a0_1,.int .i64 a0_2,.int .i64 a0_3,.int .i64 a0_4]) (t:=66) ?hr ?_;(case hd=>rfl);(case hg=>rfl);(case hr=>first|(go_simp;done)|(go_simp;rfl));intro gb369 hg S3 hbox hb;have Ab:=mk_ (hbox);have Bb:=mk_ ((by rw [hg];exact (zr2 (yu0 HB.out)):w.heap.size≤gb369));have Bo:=Bb;replace HB:=mk_ (zr3 (yu0 HB.out) hb);clear hb hbox hg)|((with_reducible refine gate_dst (N:=3) rfl ?_);(try (refine gate_guard (by rfl) ?_;dsimp only));refine box_event ?hg (N:=3) ?hd (cs:=#[.int .i64 a1_0,.slice A1_1 l1_1.length c1_1,.int .i64 a1_2,.int .i64 a1_3,.bool false]) (t:=78) ?hr ?_;(case hd=>rfl);(case hg=>rfl);(case hr=>first|(go_simp;done)|(go_simp;rfl));intro gb370 hg S4 hbox hb;have Aa:=mk_ (hbox);have Bc:=mk_ ((by rw [hg];exact (zr2 (yu1 HB.out)):w.heap.size≤gb370));have Bp:=Bc;replace HB:=mk_ (zr3 (yu1 HB.out) hb);have As:=mk_ ((by rw [hg];exact zm2 (zr6 (by exact Ab.out)):gb369≠gb370));replace Ab:=mk_ (zq6 (by exact Ab.out) hb);have A0:=mk_ As.out.symm;clear hb hbox hg)|((with_reducible refine gate_dst (N:=4) rfl ?_);(try (refine gate_guard (by rfl) ?_;dsimp only));refine box_event ?hg (N:=4) ?hd (cs:=#[.int .i64 0,.slice none 0 0,.int .i64 0,.int .i64 0,.bool false]) (t:=78) ?hr ?_;(case hd=>rfl);(case hg=>rfl);(case hr=>first|(go_simp;done)|(go_simp;rfl));intro gb371 hg S5 hbox hb;have Ac:=mk_ (hbox);have Bd:=mk_ ((by rw [hg];exact (zr2 (yu1 HB.out)):w.heap.size≤gb371));have Bq:=Bd;replace HB:=mk_ (zr3 (yu1 HB.out) hb);have An:=mk_ ((by rw [hg];exact zm2 (zr6 (by exact Ab.out)):gb369≠gb371));replace Ab:=mk_ (zq6 (by exact Ab.out) hb);have Au:=mk_ An.out.symm;have Ao:=mk_ ((by rw [hg];exact zm2 (zr6 (by exact Aa.out)):gb370≠gb371));replace Aa:=mk_ (zq6 (by exact Aa.out) hb);have Av:=mk_ Ao.out.symm;clear hb hbox hg)|((with_reducible refine gate_dst (N:=5) rfl ?_);(try (refine gate_guard (by rfl) ?_;dsimp only));refine box_event ?hg (N:=5) ?hd (cs:=#[.int .i64 0,.int .i64 0,.int .i64 0,.bool false,.bool false,.int .i64 0,.int .i64 0,.int .i64 0,.slice none 0 0]) (t:=102) ?hr ?_;(case hd=>rfl);(case hg=>rfl);(case hr=>first|(go_simp;done)|(go_simp;rfl));intro gb372 hg S6 hbox hb;have Ad:=mk_ (hbox);have Be:=mk_ ((by rw [hg];exact (zr2 (yu1 HB.out)):w.heap.size≤gb372));have Br:=Be;replace HB:=mk_ (zr3 (yu1 HB.out) hb);have Aj:=mk_ ((by rw [hg];exact zm2 (zr6 (by exact Ab.out)):gb369≠gb372));replace Ab:=mk_ (zq6 (by exact Ab.out) hb);have Ap:=mk_ Aj.out.symm;have Ak:=mk_ ((by rw [hg];exact zm2 (zr6 (by exact Aa.out)):gb370≠gb372));replace Aa:=mk_ (zq6 (by exact Aa.out) hb);have Aq:=mk_ Ak.out.symm;have Af:=mk_ ((by rw [hg];exact zm2 (zr6 (by exact Ac.out)):gb371≠gb372));replace Ac:=mk_ (zq6 (by exact Ac.out) hb);have Ag:=mk_ Af.out.symm;clear hb hbox hg;have Rk:=As.out;have Rl:=A0.out;have Rm:=An.out;have Rn:=Au.out;have Ro:=Aj.out;have Rp:=Ap.out;obtain ⟨L0,L1,L2,L3,L4⟩:=cz5 Ab.out;obtain ⟨L5,L6,L7,L8,L9⟩:=fz5 Ab.out;have Rq:=Ao.out;have Rr:=Av.out;have Rs:=Ak.out;have Rt:=Aq.out;obtain ⟨Ma,Mb,Mc,Md,Me⟩:=cz5 Aa.out;obtain ⟨Mf,Mg,Mh,Mi,Mj⟩:=fz5 Aa.out)|((with_reducible refine gate_callee (f:=54) rfl ?_);refine goesL_ (some 11) rfl rfl Try.func54 (by kernel_rfl) rfl #[.agg #[.int .i64 a0_0,.int .i64 a0_1,.int .i64 a0_2,.int .i64 a0_3,.int .i64 a0_4],.agg #[.int .i64 a1_0,.slice A1_1 l1_1.length c1_1,.int .i64 a1_2,.int .i64 a1_3,.bool false]] rfl am ?_;(with_reducible refine (spec_CrdTxOk.calls k a0_0 a0_1 a0_2 a0_3 a0_4 a1_0 _ _ l1_1 a1_2 a1_3 false true _ ?side1 ?side2 A3.out).mono ?_);(case side1=>repeat (first|exact (Kd.C_below A9.out HB.out)|(with_reducible refine Kd.C_alloc ?_ _)|(with_reducible refine Kd.C_drewN ?_ _)|(with_reducible refine Kd.C_drew ?_)));(case side2=>exact Ba.out);rintro e S7 ⟨rfl,hb⟩;refine ⟨_,rfl,?_⟩;replace Ab:=mk_ (zq6 (by exact Ab.out) hb);replace Aa:=mk_ (zq6 (by exact Aa.out) hb);replace Ac:=mk_ (zq6 (by exact Ac.out) hb);replace Ad:=mk_ (zq6 (by exact Ad.out) hb);replace HB:=mk_ (zr3 (yu1 HB.out) hb);(try clear hb);(try clear hb2);(try clear hk);(try clear hi);obtain ⟨Mk,Ml,Mm,Mn,Mo⟩:=cz5 Aa.out;obtain ⟨Mp,Mq,Mr,Ms,Mt⟩:=fz5 Aa.out)|((with_reducible refine gate_callee (f:=117) rfl ?_);refine goesL_ (some 16) rfl rfl Try.func117 (by kernel_rfl) rfl #[.agg #[.int .i64 a1_0,.slice A1_1 l1_1.length c1_1,.int .i64 a1_2,.int .i64 a1_3,.bool false]] rfl am ?_;(with_reducible refine (spec_l8Tx.calls k a1_0 _ _ l1_1 a1_2 a1_3 false t374 t375 t378 t379 t380 _ ?side1 ?side2 A5.out).mono ?_);(case side1=>repeat (first|exact (Kd.C_below A9.out HB.out)|(with_reducible refine Kd.C_alloc ?_ _)|(with_reducible refine Kd.C_drewN ?_ _)|(with_reducible refine Kd.C_drew ?_)));(case side2=>exact Ba.out);rintro e S8 ⟨v376,rfl,ho0,hb⟩;refine ⟨_,rfl,?_⟩;have Ai:=mk_ (Kd.S_lower ho0 (zr2 (yu1 HB.out)));replace Ab:=mk_ (zq6 (by exact Ab.out) hb);replace Aa:=mk_ (zq6 (by exact Aa.out) hb);replace Ac:=mk_ (zq6 (by exact Ac.out) hb);replace Ad:=mk_ (zq6 (by exact Ad.out) hb);replace HB:=mk_ (zr3 (yu1 HB.out) hb);(try clear hb);(try clear hb2);(try clear hk);(try clear hi);(try clear ho0))|((with_reducible refine gate_dst (N:=7) rfl ?_);(try (refine gate_guard (by rfl) ?_;dsimp only));refine box_event ?hg (N:=7) ?hd (cs:=#[.int .i64 0,.slice none 0 0,.int .i64 0,.int .i64 0,.bool false]) (t:=78) ?hr ?_;(case hd=>rfl);(case hg=>rfl);(case hr=>first|(go_simp;done)|(go_simp;rfl));intro gb381 hg S9 hbox hb;replace Ai:=mk_ (Kd.S_below (mS Ai.out) hb);have Ae:=mk_ (hbox);have Bg:=mk_ ((by rw [hg];exact (zr2 (yu1 HB.out)):w.heap.size≤gb381));have Bu:=Bg;replace HB:=mk_ (zr3 (yu1 HB.out) hb);have Aw:=mk_ ((by rw [hg];exact zm2 (zr6 (by exact Ab.out)):gb369≠gb381));replace Ab:=mk_ (zq6 (by exact Ab.out) hb);have A2:=mk_ Aw.out.symm;have Ax:=mk_ ((by rw [hg];exact zm2 (zr6 (by exact Aa.out)):gb370≠gb381));replace Aa:=mk_ (zq6 (by exact Aa.out) hb);have A4:=mk_ Ax.out.symm;have Al:=mk_ ((by rw [hg];exact zm2 (zr6 (by exact Ac.out)):gb371≠gb381));replace Ac:=mk_ (zq6 (by exact Ac.out) hb);have Ar:=mk_ Al.out.symm;have Ah:=mk_ ((by rw [hg];exact zm2 (zr6 (by exact Ad.out)):gb372≠gb381));replace Ad:=mk_ (zq6 (by exact Ad.out) hb);have Am:=mk_ Ah.out.symm;clear hb hbox hg;have Ru:=A2.out;have Rv:=Aw.out;have Rw:=A4.out;have Rx:=Ax.out;have Ry:=Ar.out;have Rz:=Al.out;have R0:=Am.out;have R1:=Ah.out;obtain ⟨Mu,Mv,Mw,Mx,My⟩:=cz5 Ae.out;obtain ⟨Mz,M0,M1,M2,M3⟩:=fz5 Ae.out;obtain ⟨Ao79,co79,eo79⟩:=Kd.S_slice Ai.out;subst eo79;obtain ⟨M4,M5,M6,M7,M8⟩:=cz5 Aa.out;obtain ⟨M9,Na,Nb,Nc,Nd⟩:=fz5 Aa.out;have R2:=Af.out;have R3:=Ag.out;obtain ⟨Ne,Nf,Ng,Nh,Ni⟩:=cz5 Ac.out;obtain ⟨Nj,Nk,Nl,Nm,Nn⟩:=fz5 Ac.out;obtain ⟨Np,Nq,Nr,Ns,Nt,Nu,Nv,Nw,Nx⟩:=cz9 Ad.out;obtain ⟨Ny,Nz,N0,N1,N2,N3,N4,N5,N6⟩:=fz9 Ad.out))
  refine bodyPost_ret (results_list (rs:=[.cell 4 78,.cell 5 102,.tmp 6]) rfl (by simp) (.cell gb371 78 #[.int .i64 t374,.slice Ao79 t375.length co79,.int .i64 t378,.int .i64 t379,.bool t380] (0,0) _ rfl (yv14 Af.out Al.out Ac.out) Try.underlying78 rfl (by kernel_rfl) (.cell gb372 102 #[.int .i64 0,.int .i64 0,.int .i64 0,.bool false,.bool false,.int .i64 0,.int .i64 0,.int .i64 0,.slice none 0 0] (0,0) _ rfl (yv15 Ag.out Ah.out Ad.out) Try.underlying102 rfl (by kernel_rfl) (.tmp .nil)))) rfl ?_
  exact ⟨_,_,by first|rfl|(simp [errW_none,errW_some] <;> rfl)|(simp [*,errW_none,errW_some] <;> rfl),by (with_reducible repeat (first|apply Kd.S_alloc|apply Kd.S_drewN|apply Kd.S_drew));exact Kd.S_mono (Kd.S_far (p:=⟨gb372,8,none⟩) (Kd.S_far (p:=⟨gb372,7,none⟩) (Kd.S_far (p:=⟨gb372,6,none⟩) (Kd.S_far (p:=⟨gb372,5,none⟩) (Kd.S_far (p:=⟨gb372,4,none⟩) (Kd.S_far (p:=⟨gb372,3,none⟩) (Kd.S_far (p:=⟨gb372,2,none⟩) (Kd.S_far (p:=⟨gb372,1,none⟩) (Kd.S_far (p:=⟨gb372,0,none⟩) (Kd.S_far (p:=⟨gb371,4,none⟩) (Kd.S_far (p:=⟨gb371,3,none⟩) (Kd.S_far (p:=⟨gb371,2,none⟩) (Kd.S_far (p:=⟨gb371,1,none⟩) (Kd.S_far (p:=⟨gb371,0,none⟩) (Kd.S_far (p:=⟨gb381,4,none⟩) (Kd.S_far (p:=⟨gb381,3,none⟩) (Kd.S_far (p:=⟨gb381,2,none⟩) (Kd.S_far (p:=⟨gb381,1,none⟩) (Kd.S_far (p:=⟨gb381,0,none⟩) (Kd.S_types (Kd.S_types (Kd.S_types Ai.out Ae.out (by decide)) Ac.out (by decide)) Ad.out (by decide)) (fun _ hk=>hk.1.1.2) (.int .i64 t374)) (fun _ hk=>hk.1.1.2) (.slice Ao79 t375.length co79)) (fun _ hk=>hk.1.1.2) (.int .i64 t378)) (fun _ hk=>hk.1.1.2) (.int .i64 t379)) (fun _ hk=>hk.1.1.2) (.bool t380)) (fun _ hk=>hk.1.2) (.int .i64 t374)) (fun _ hk=>hk.1.2) (.slice Ao79 t375.length co79)) (fun _ hk=>hk.1.2) (.int .i64 t378)) (fun _ hk=>hk.1.2) (.int .i64 t379)) (fun _ hk=>hk.1.2) (.bool t380)) (fun _ hk=>hk.2) (.int .i64 0)) (fun _ hk=>hk.2) (.int .i64 0)) (fun _ hk=>hk.2) (.int .i64 0)) (fun _ hk=>hk.2) (.bool false)) (fun _ hk=>hk.2) (.bool false)) (fun _ hk=>hk.2) (.int .i64 0)) (fun _ hk=>hk.2) (.int .i64 0)) (fun _ hk=>hk.2) (.int .i64 0)) (fun _ hk=>hk.2) (.slice none 0 0)) (fun _ hk=>(by simp [Value.ownBlock])),by first|exact Kd.R_nil _ _ _ _ _|exact Kd.N_nil _ _ _ _ _|exact Kd.V_nil _ _ _ _ _|exact Kd.Q_nil _ _ _ _ _|exact Kd.S_nil _ _ _ _ _,by exact yu1 HB.out⟩
 rw [if_neg c58] at H
 have c58b0:((l1_1.length:Int) == 0)=false:=beq_eq_false_iff_ne.mpr c58
 have c58b1:((l1_1.length:Int) != 0)=true:=bne_iff_ne.mpr c58
 have c58b2:¬ (l1_1=[]):=fun h_=>c58 (by rw [h_];rfl)
 by_cases c84:a1_3=9999
 ·rw [if_pos c84] at H
  have c84b0:(a1_3 == 9999)=true:=beq_iff_eq.mpr c84
  have c84b1:(a1_3 != 9999)=false:=bne_eq_false_iff_eq.mpr c84
  clear c84
  simp only [Option.some.injEq,Prod.mk.injEq] at H
  obtain ⟨rfl,rfl,rfl,rfl,rfl,rfl,rfl,rfl,rfl,rfl,rfl,rfl,rfl,rfl,rfl⟩:=H
  go_enter Try.func109,Try.ntmps109
  go_wp2_with (first|((with_reducible refine gate_dst (N:=2) rfl ?_);(try (refine gate_guard (by rfl) ?_;dsimp only));refine box_event ?hg (N:=2) ?hd (cs:=#[.int .i64 a0_0,.int .i64 a0_1,.int .i64 a0_2,.int .i64 a0_3,.int .i64 a0_4]) (t:=66) ?hr ?_;(case hd=>rfl);(case hg=>rfl);(case hr=>first|(go_simp;done)|(go_simp;rfl));intro gb369 hg Ta hbox hb;have Ab:=mk_ (hbox);have Bb:=mk_ ((by rw [hg];exact (zr2 (yu0 HB.out)):w.heap.size≤gb369));have Bo:=Bb;replace HB:=mk_ (zr3 (yu0 HB.out) hb);clear hb hbox hg)|((with_reducible refine gate_dst (N:=3) rfl ?_);(try (refine gate_guard (by rfl) ?_;dsimp only));refine box_event ?hg (N:=3) ?hd (cs:=#[.int .i64 a1_0,.slice A1_1 l1_1.length c1_1,.int .i64 a1_2,.int .i64 a1_3,.bool false]) (t:=78) ?hr ?_;(case hd=>rfl);(case hg=>rfl);(case hr=>first|(go_simp;done)|(go_simp;rfl));intro gb370 hg Tb hbox hb;have Aa:=mk_ (hbox);have Bc:=mk_ ((by rw [hg];exact (zr2 (yu1 HB.out)):w.heap.size≤gb370));have Bp:=Bc;replace HB:=mk_ (zr3 (yu1 HB.out) hb);have As:=mk_ ((by rw [hg];exact zm2 (zr6 (by exact Ab.out)):gb369≠gb370));replace Ab:=mk_ (zq6 (by exact Ab.out) hb);have A0:=mk_ As.out.symm;clear hb hbox hg)|((with_reducible refine gate_dst (N:=4) rfl ?_);(try (refine gate_guard (by rfl) ?_;dsimp only));refine box_event ?hg (N:=4) ?hd (cs:=#[.int .i64 0,.slice none 0 0,.int .i64 0,.int .i64 0,.bool false]) (t:=78) ?hr ?_;(case hd=>rfl);(case hg=>rfl);(case hr=>first|(go_simp;done)|(go_simp;rfl));intro gb371 hg Tc hbox hb;have Ac:=mk_ (hbox);have Bd:=mk_ ((by rw [hg];exact (zr2 (yu1 HB.out)):w.heap.size≤gb371));have Bq:=Bd;replace HB:=mk_ (zr3 (yu1 HB.out) hb);have An:=mk_ ((by rw [hg];exact zm2 (zr6 (by exact Ab.out)):gb369≠gb371));replace Ab:=mk_ (zq6 (by exact Ab.out) hb);have Au:=mk_ An.out.symm;have Ao:=mk_ ((by rw [hg];exact zm2 (zr6 (by exact Aa.out)):gb370≠gb371));replace Aa:=mk_ (zq6 (by exact Aa.out) hb);have Av:=mk_ Ao.out.symm;clear hb hbox hg)|((with_reducible refine gate_dst (N:=5) rfl ?_);(try (refine gate_guard (by rfl) ?_;dsimp only));refine box_event ?hg (N:=5) ?hd (cs:=#[.int .i64 0,.int .i64 0,.int .i64 0,.bool false,.bool false,.int .i64 0,.int .i64 0,.int .i64 0,.slice none 0 0]) (t:=102) ?hr ?_;(case hd=>rfl);(case hg=>rfl);(case hr=>first|(go_simp;done)|(go_simp;rfl));intro gb372 hg Td hbox hb;have Ad:=mk_ (hbox);have Be:=mk_ ((by rw [hg];exact (zr2 (yu1 HB.out)):w.heap.size≤gb372));have Br:=Be;replace HB:=mk_ (zr3 (yu1 HB.out) hb);have Aj:=mk_ ((by rw [hg];exact zm2 (zr6 (by exact Ab.out)):gb369≠gb372));replace Ab:=mk_ (zq6 (by exact Ab.out) hb);have Ap:=mk_ Aj.out.symm;have Ak:=mk_ ((by rw [hg];exact zm2 (zr6 (by exact Aa.out)):gb370≠gb372));replace Aa:=mk_ (zq6 (by exact Aa.out) hb);have Aq:=mk_ Ak.out.symm;have Af:=mk_ ((by rw [hg];exact zm2 (zr6 (by exact Ac.out)):gb371≠gb372));replace Ac:=mk_ (zq6 (by exact Ac.out) hb);have Ag:=mk_ Af.out.symm;clear hb hbox hg;have R4:=As.out;have R5:=A0.out;have R6:=An.out;have R7:=Au.out;have R8:=Aj.out;have R9:=Ap.out;obtain ⟨N7,N8,N9,Oa,Ob⟩:=cz5 Ab.out;obtain ⟨Oc,Od,Oe,Of,Og⟩:=fz5 Ab.out;have Sa:=Ao.out;have Sb:=Av.out;have Sc:=Ak.out;have Sd:=Aq.out;obtain ⟨Oh,Oi,Oj,Ok,Ol⟩:=cz5 Aa.out;obtain ⟨Om,On,Oo,Op,Oq⟩:=fz5 Aa.out)|((with_reducible refine gate_callee (f:=54) rfl ?_);refine goesL_ (some 11) rfl rfl Try.func54 (by kernel_rfl) rfl #[.agg #[.int .i64 a0_0,.int .i64 a0_1,.int .i64 a0_2,.int .i64 a0_3,.int .i64 a0_4],.agg #[.int .i64 a1_0,.slice A1_1 l1_1.length c1_1,.int .i64 a1_2,.int .i64 a1_3,.bool false]] rfl am ?_;(with_reducible refine (spec_CrdTxOk.calls k a0_0 a0_1 a0_2 a0_3 a0_4 a1_0 _ _ l1_1 a1_2 a1_3 false true _ ?side1 ?side2 A3.out).mono ?_);(case side1=>repeat (first|exact (Kd.C_below A9.out HB.out)|(with_reducible refine Kd.C_alloc ?_ _)|(with_reducible refine Kd.C_drewN ?_ _)|(with_reducible refine Kd.C_drew ?_)));(case side2=>exact Ba.out);rintro e Te ⟨rfl,hb⟩;refine ⟨_,rfl,?_⟩;replace Ab:=mk_ (zq6 (by exact Ab.out) hb);replace Aa:=mk_ (zq6 (by exact Aa.out) hb);replace Ac:=mk_ (zq6 (by exact Ac.out) hb);replace Ad:=mk_ (zq6 (by exact Ad.out) hb);replace HB:=mk_ (zr3 (yu1 HB.out) hb);(try clear hb);(try clear hb2);(try clear hk);(try clear hi);obtain ⟨Or,Os,Ot,Ou,Ov⟩:=cz5 Aa.out;obtain ⟨Ow,Ox,Oy,Oz,O0⟩:=fz5 Aa.out)|((with_reducible refine gate_callee (f:=117) rfl ?_);refine goesL_ (some 16) rfl rfl Try.func117 (by kernel_rfl) rfl #[.agg #[.int .i64 a1_0,.slice A1_1 l1_1.length c1_1,.int .i64 a1_2,.int .i64 a1_3,.bool false]] rfl am ?_;(with_reducible refine (spec_l8Tx.calls k a1_0 _ _ l1_1 a1_2 a1_3 false t374 t375 t378 t379 t380 _ ?side1 ?side2 A5.out).mono ?_);(case side1=>repeat (first|exact (Kd.C_below A9.out HB.out)|(with_reducible refine Kd.C_alloc ?_ _)|(with_reducible refine Kd.C_drewN ?_ _)|(with_reducible refine Kd.C_drew ?_)));(case side2=>exact Ba.out);rintro e Tf ⟨v376,rfl,ho0,hb⟩;refine ⟨_,rfl,?_⟩;have Ai:=mk_ (Kd.S_lower ho0 (zr2 (yu1 HB.out)));replace Ab:=mk_ (zq6 (by exact Ab.out) hb);replace Aa:=mk_ (zq6 (by exact Aa.out) hb);replace Ac:=mk_ (zq6 (by exact Ac.out) hb);replace Ad:=mk_ (zq6 (by exact Ad.out) hb);replace HB:=mk_ (zr3 (yu1 HB.out) hb);(try clear hb);(try clear hb2);(try clear hk);(try clear hi);(try clear ho0))|((with_reducible refine gate_dst (N:=7) rfl ?_);(try (refine gate_guard (by rfl) ?_;dsimp only));refine box_event ?hg (N:=7) ?hd (cs:=#[.int .i64 0,.slice none 0 0,.int .i64 0,.int .i64 0,.bool false]) (t:=78) ?hr ?_;(case hd=>rfl);(case hg=>rfl);(case hr=>first|(go_simp;done)|(go_simp;rfl));intro gb381 hg Tg hbox hb;replace Ai:=mk_ (Kd.S_below (mS Ai.out) hb);have Ae:=mk_ (hbox);have Bg:=mk_ ((by rw [hg];exact (zr2 (yu1 HB.out)):w.heap.size≤gb381));have Bu:=Bg;replace HB:=mk_ (zr3 (yu1 HB.out) hb);have Aw:=mk_ ((by rw [hg];exact zm2 (zr6 (by exact Ab.out)):gb369≠gb381));replace Ab:=mk_ (zq6 (by exact Ab.out) hb);have A2:=mk_ Aw.out.symm;have Ax:=mk_ ((by rw [hg];exact zm2 (zr6 (by exact Aa.out)):gb370≠gb381));replace Aa:=mk_ (zq6 (by exact Aa.out) hb);have A4:=mk_ Ax.out.symm;have Al:=mk_ ((by rw [hg];exact zm2 (zr6 (by exact Ac.out)):gb371≠gb381));replace Ac:=mk_ (zq6 (by exact Ac.out) hb);have Ar:=mk_ Al.out.symm;have Ah:=mk_ ((by rw [hg];exact zm2 (zr6 (by exact Ad.out)):gb372≠gb381));replace Ad:=mk_ (zq6 (by exact Ad.out) hb);have Am:=mk_ Ah.out.symm;clear hb hbox hg;have Pe:=A2.out;have Pf:=Aw.out;have Pg:=A4.out;have Ph:=Ax.out;have Pi:=Ar.out;have Pj:=Al.out;have Pk:=Am.out;have Pl:=Ah.out;obtain ⟨Dh,Di,Dj,Dk,Dl⟩:=cz5 Ae.out;obtain ⟨Dm,Dn,Do,Dp,Dq⟩:=fz5 Ae.out;obtain ⟨Ao105,co105,eo105⟩:=Kd.S_slice Ai.out;subst eo105;obtain ⟨Dr,Ds,Dt,Du,Dv⟩:=cz5 Aa.out;obtain ⟨Dw,Dx,Dy,Dz,D0⟩:=fz5 Aa.out;have Pm:=Af.out;have Pn:=Ag.out;obtain ⟨D1,D2,D3,D4,D5⟩:=cz5 Ac.out;obtain ⟨D6,D7,D8,D9,Ea⟩:=fz5 Ac.out;obtain ⟨Eb,Ec,Ed,Ee,Ef,Eg,Eh,Ei,Ej⟩:=cz9 Ad.out;obtain ⟨Ek,El,Em,En,Eo,Ep,Eq,Er,Es⟩:=fz9 Ad.out))
  refine bodyPost_ret (results_list (rs:=[.cell 4 78,.cell 5 102,.tmp 6]) rfl (by simp) (.cell gb371 78 #[.int .i64 t374,.slice Ao105 t375.length co105,.int .i64 t378,.int .i64 t379,.bool t380] (0,0) _ rfl (yv14 Af.out Al.out Ac.out) Try.underlying78 rfl (by kernel_rfl) (.cell gb372 102 #[.int .i64 0,.int .i64 0,.int .i64 0,.bool false,.bool false,.int .i64 0,.int .i64 0,.int .i64 0,.slice none 0 0] (0,0) _ rfl (yv15 Ag.out Ah.out Ad.out) Try.underlying102 rfl (by kernel_rfl) (.tmp .nil)))) rfl ?_
  exact ⟨_,_,by first|rfl|(simp [errW_none,errW_some] <;> rfl)|(simp [*,errW_none,errW_some] <;> rfl),by (with_reducible repeat (first|apply Kd.S_alloc|apply Kd.S_drewN|apply Kd.S_drew));exact Kd.S_mono (Kd.S_far (p:=⟨gb372,8,none⟩) (Kd.S_far (p:=⟨gb372,7,none⟩) (Kd.S_far (p:=⟨gb372,6,none⟩) (Kd.S_far (p:=⟨gb372,5,none⟩) (Kd.S_far (p:=⟨gb372,4,none⟩) (Kd.S_far (p:=⟨gb372,3,none⟩) (Kd.S_far (p:=⟨gb372,2,none⟩) (Kd.S_far (p:=⟨gb372,1,none⟩) (Kd.S_far (p:=⟨gb372,0,none⟩) (Kd.S_far (p:=⟨gb371,4,none⟩) (Kd.S_far (p:=⟨gb371,3,none⟩) (Kd.S_far (p:=⟨gb371,2,none⟩) (Kd.S_far (p:=⟨gb371,1,none⟩) (Kd.S_far (p:=⟨gb371,0,none⟩) (Kd.S_far (p:=⟨gb381,4,none⟩) (Kd.S_far (p:=⟨gb381,3,none⟩) (Kd.S_far (p:=⟨gb381,2,none⟩) (Kd.S_far (p:=⟨gb381,1,none⟩) (Kd.S_far (p:=⟨gb381,0,none⟩) (Kd.S_types (Kd.S_types (Kd.S_types Ai.out Ae.out (by decide)) Ac.out (by decide)) Ad.out (by decide)) (fun _ hk=>hk.1.1.2) (.int .i64 t374)) (fun _ hk=>hk.1.1.2) (.slice Ao105 t375.length co105)) (fun _ hk=>hk.1.1.2) (.int .i64 t378)) (fun _ hk=>hk.1.1.2) (.int .i64 t379)) (fun _ hk=>hk.1.1.2) (.bool t380)) (fun _ hk=>hk.1.2) (.int .i64 t374)) (fun _ hk=>hk.1.2) (.slice Ao105 t375.length co105)) (fun _ hk=>hk.1.2) (.int .i64 t378)) (fun _ hk=>hk.1.2) (.int .i64 t379)) (fun _ hk=>hk.1.2) (.bool t380)) (fun _ hk=>hk.2) (.int .i64 0)) (fun _ hk=>hk.2) (.int .i64 0)) (fun _ hk=>hk.2) (.int .i64 0)) (fun _ hk=>hk.2) (.bool false)) (fun _ hk=>hk.2) (.bool false)) (fun _ hk=>hk.2) (.int .i64 0)) (fun _ hk=>hk.2) (.int .i64 0)) (fun _ hk=>hk.2) (.int .i64 0)) (fun _ hk=>hk.2) (.slice none 0 0)) (fun _ hk=>(by simp [Value.ownBlock])),by first|exact Kd.R_nil _ _ _ _ _|exact Kd.N_nil _ _ _ _ _|exact Kd.V_nil _ _ _ _ _|exact Kd.Q_nil _ _ _ _ _|exact Kd.S_nil _ _ _ _ _,by exact yu1 HB.out⟩
 rw [if_neg c84] at H
 have c84b0:(a1_3 == 9999)=false:=beq_eq_false_iff_ne.mpr c84
 have c84b1:(a1_3 != 9999)=true:=bne_iff_ne.mpr c84
 by_cases c110:0<(t375.length:Int)
 rotate_left
 ·rw [if_neg c110] at H
  exact absurd H (by simp)
 rw [if_pos c110] at H
 have c110b0:decide (0<(t375.length:Int))=true:=decide_eq_true c110
 have c110b1:decide (0<t375.length)=true:=decide_eq_true (by omega)
 clear c110
 by_cases c111:1≤(t375.length:Int)
 rotate_left
 ·rw [if_neg c111] at H
  exact absurd H (by simp)
 rw [if_pos c111] at H
 have c111b0:=eq_true c111
 have c111b1:decide (1≤(t375.length:Int))=true:=decide_eq_true c111
 clear c111
 obtain ⟨y384,hy384⟩:∃ y_:List (S39),y_=(t375.drop 1):=⟨_,rfl⟩
 replace H:((spec_l6List.f k y384).bind fun t388=>((some (([]:List Int):List Int)).bind fun y391=>(if y391.length+((rd_T39 t375 0).f2).length<140737488355328 then (some (wrap64 (a1_0 - 1),t388,t378,wrap64 (a1_3+1),t380,3,0,0,false,false,0,(rd_T39 t375 0).f0,(rd_T39 t375 0).f1,(y391++((rd_T39 t375 0).f2)),true)) else (none))))=some (r1,r2,r3,r4,r5,r6,r7,r8,r9,r10,r11,r12,r13,r14,r15):=by first|(rw [hy384];with_reducible exact H)|(have H2_:=(Option.bind_some _ _).symm.trans H;rw [hy384];with_reducible exact H2_)|(have H2_:=(Option.bind_some _ _).symm.trans H;with_reducible exact H2_)|with_reducible exact H|(rw [hy384];exact H)|exact H
 have Ny384:=mk_ hy384
 clear hy384
 replace H:=Option.bind_eq_some_iff.mp H
 obtain ⟨t388,By,H⟩:=H
 try dsimp only at H
 have Et:=mk_ By
 clear By
 obtain ⟨y391,hy391⟩:∃ y_:List Int,y_=(([]:List Int)):=⟨_,rfl⟩
 replace H:(if y391.length+((rd_T39 t375 0).f2).length<140737488355328 then (some (wrap64 (a1_0 - 1),t388,t378,wrap64 (a1_3+1),t380,3,0,0,false,false,0,(rd_T39 t375 0).f0,(rd_T39 t375 0).f1,(y391++((rd_T39 t375 0).f2)),true)) else (none))=some (r1,r2,r3,r4,r5,r6,r7,r8,r9,r10,r11,r12,r13,r14,r15):=by first|(rw [hy391];with_reducible exact H)|(have H2_:=(Option.bind_some _ _).symm.trans H;rw [hy391];with_reducible exact H2_)|(have H2_:=(Option.bind_some _ _).symm.trans H;with_reducible exact H2_)|with_reducible exact H|(rw [hy391];exact H)|exact H
 have Ny391:=mk_ hy391
 clear hy391
 by_cases c113:y391.length+((rd_T39 t375 0).f2).length<140737488355328
 rotate_left
 ·rw [if_neg c113] at H
  exact absurd H (by simp)
 rw [if_pos c113] at H
 have LMc113:=mk_ c113
 clear c113
 obtain ⟨y394,hy394⟩:∃ y_:List Int,y_=(y391++((rd_T39 t375 0).f2)):=⟨_,rfl⟩
 replace H:(some (wrap64 (a1_0 - 1),t388,t378,wrap64 (a1_3+1),t380,3,0,0,false,false,0,(rd_T39 t375 0).f0,(rd_T39 t375 0).f1,y394,true))=some (r1,r2,r3,r4,r5,r6,r7,r8,r9,r10,r11,r12,r13,r14,r15):=by first|(rw [hy394];with_reducible exact H)|(have H2_:=(Option.bind_some _ _).symm.trans H;rw [hy394];with_reducible exact H2_)|(have H2_:=(Option.bind_some _ _).symm.trans H;with_reducible exact H2_)|with_reducible exact H|(rw [hy394];exact H)|exact H
 have Ny394:=mk_ hy394
 clear hy394
 simp only [Option.some.injEq,Prod.mk.injEq] at H
 obtain ⟨rfl,rfl,rfl,rfl,rfl,rfl,rfl,rfl,rfl,rfl,rfl,rfl,rfl,rfl,rfl⟩:=H
 go_enter Try.func109,Try.ntmps109
 try go_wp2_with (first|((with_reducible refine gate_dst (N:=2) rfl ?_);(try (refine gate_guard (by rfl) ?_;dsimp only));refine box_event ?hg (N:=2) ?hd (cs:=#[.int .i64 a0_0,.int .i64 a0_1,.int .i64 a0_2,.int .i64 a0_3,.int .i64 a0_4]) (t:=66) ?hr ?_;(case hd=>rfl);(case hg=>rfl);(case hr=>first|(go_simp;done)|(go_simp;rfl));intro gb369 hg Sk hbox hb;have Ab:=mk_ (hbox);have Bb:=mk_ ((by rw [hg];exact (zr2 (yu0 HB.out)):w.heap.size≤gb369));have Bo:=Bb;replace HB:=mk_ (zr3 (yu0 HB.out) hb);clear hb hbox hg)|((with_reducible refine gate_dst (N:=3) rfl ?_);(try (refine gate_guard (by rfl) ?_;dsimp only));refine box_event ?hg (N:=3) ?hd (cs:=#[.int .i64 a1_0,.slice A1_1 l1_1.length c1_1,.int .i64 a1_2,.int .i64 a1_3,.bool false]) (t:=78) ?hr ?_;(case hd=>rfl);(case hg=>rfl);(case hr=>first|(go_simp;done)|(go_simp;rfl));intro gb370 hg Sl hbox hb;have Aa:=mk_ (hbox);have Bc:=mk_ ((by rw [hg];exact (zr2 (yu1 HB.out)):w.heap.size≤gb370));have Bp:=Bc;replace HB:=mk_ (zr3 (yu1 HB.out) hb);have As:=mk_ ((by rw [hg];exact zm2 (zr6 (by exact Ab.out)):gb369≠gb370));replace Ab:=mk_ (zq6 (by exact Ab.out) hb);have A0:=mk_ As.out.symm;clear hb hbox hg)|((with_reducible refine gate_dst (N:=4) rfl ?_);(try (refine gate_guard (by rfl) ?_;dsimp only));refine box_event ?hg (N:=4) ?hd (cs:=#[.int .i64 0,.slice none 0 0,.int .i64 0,.int .i64 0,.bool false]) (t:=78) ?hr ?_;(case hd=>rfl);(case hg=>rfl);(case hr=>first|(go_simp;done)|(go_simp;rfl));intro gb371 hg Sm hbox hb;have Ac:=mk_ (hbox);have Bd:=mk_ ((by rw [hg];exact (zr2 (yu1 HB.out)):w.heap.size≤gb371));have Bq:=Bd;replace HB:=mk_ (zr3 (yu1 HB.out) hb);have An:=mk_ ((by rw [hg];exact zm2 (zr6 (by exact Ab.out)):gb369≠gb371));replace Ab:=mk_ (zq6 (by exact Ab.out) hb);have Au:=mk_ An.out.symm;have Ao:=mk_ ((by rw [hg];exact zm2 (zr6 (by exact Aa.out)):gb370≠gb371));replace Aa:=mk_ (zq6 (by exact Aa.out) hb);have Av:=mk_ Ao.out.symm;clear hb hbox hg)|((with_reducible refine gate_dst (N:=5) rfl ?_);(try (refine gate_guard (by rfl) ?_;dsimp only));refine box_event ?hg (N:=5) ?hd (cs:=#[.int .i64 0,.int .i64 0,.int .i64 0,.bool false,.bool false,.int .i64 0,.int .i64 0,.int .i64 0,.slice none 0 0]) (t:=102) ?hr ?_;(case hd=>rfl);(case hg=>rfl);(case hr=>first|(go_simp;done)|(go_simp;rfl));intro gb372 hg Sn hbox hb;have Ad:=mk_ (hbox);have Be:=mk_ ((by rw [hg];exact (zr2 (yu1 HB.out)):w.heap.size≤gb372));have Br:=Be;replace HB:=mk_ (zr3 (yu1 HB.out) hb);have Aj:=mk_ ((by rw [hg];exact zm2 (zr6 (by exact Ab.out)):gb369≠gb372));replace Ab:=mk_ (zq6 (by exact Ab.out) hb);have Ap:=mk_ Aj.out.symm;have Ak:=mk_ ((by rw [hg];exact zm2 (zr6 (by exact Aa.out)):gb370≠gb372));replace Aa:=mk_ (zq6 (by exact Aa.out) hb);have Aq:=mk_ Ak.out.symm;have Af:=mk_ ((by rw [hg];exact zm2 (zr6 (by exact Ac.out)):gb371≠gb372));replace Ac:=mk_ (zq6 (by exact Ac.out) hb);have Ag:=mk_ Af.out.symm;clear hb hbox hg;have Po:=As.out;have Pp:=A0.out;have Pq:=An.out;have Pr:=Au.out;have Ps:=Aj.out;have Pt:=Ap.out;obtain ⟨Eu,Ev,Ew,Ex,Ey⟩:=cz5 Ab.out;obtain ⟨Ez,E0,E1,E2,E3⟩:=fz5 Ab.out;have Pu:=Ao.out;have Pv:=Av.out;have Pw:=Ak.out;have Px:=Aq.out;obtain ⟨E4,E5,E6,E7,E8⟩:=cz5 Aa.out;obtain ⟨E9,Fa,Fb,Fc,Fd⟩:=fz5 Aa.out)|((with_reducible refine gate_callee (f:=54) rfl ?_);refine goesL_ (some 11) rfl rfl Try.func54 (by kernel_rfl) rfl #[.agg #[.int .i64 a0_0,.int .i64 a0_1,.int .i64 a0_2,.int .i64 a0_3,.int .i64 a0_4],.agg #[.int .i64 a1_0,.slice A1_1 l1_1.length c1_1,.int .i64 a1_2,.int .i64 a1_3,.bool false]] rfl am ?_;(with_reducible refine (spec_CrdTxOk.calls k a0_0 a0_1 a0_2 a0_3 a0_4 a1_0 _ _ l1_1 a1_2 a1_3 false true _ ?side1 ?side2 A3.out).mono ?_);(case side1=>repeat (first|exact (Kd.C_below A9.out HB.out)|(with_reducible refine Kd.C_alloc ?_ _)|(with_reducible refine Kd.C_drewN ?_ _)|(with_reducible refine Kd.C_drew ?_)));(case side2=>exact Ba.out);rintro e So ⟨rfl,hb⟩;refine ⟨_,rfl,?_⟩;replace Ab:=mk_ (zq6 (by exact Ab.out) hb);replace Aa:=mk_ (zq6 (by exact Aa.out) hb);replace Ac:=mk_ (zq6 (by exact Ac.out) hb);replace Ad:=mk_ (zq6 (by exact Ad.out) hb);replace HB:=mk_ (zr3 (yu1 HB.out) hb);(try clear hb);(try clear hb2);(try clear hk);(try clear hi);obtain ⟨Fe,Ff,Fg,Fh,Fi⟩:=cz5 Aa.out;obtain ⟨Fj,Fk,Fl,Fm,Fn⟩:=fz5 Aa.out)|((with_reducible refine gate_callee (f:=117) rfl ?_);refine goesL_ (some 16) rfl rfl Try.func117 (by kernel_rfl) rfl #[.agg #[.int .i64 a1_0,.slice A1_1 l1_1.length c1_1,.int .i64 a1_2,.int .i64 a1_3,.bool false]] rfl am ?_;(with_reducible refine (spec_l8Tx.calls k a1_0 _ _ l1_1 a1_2 a1_3 false t374 t375 t378 t379 t380 _ ?side1 ?side2 A5.out).mono ?_);(case side1=>repeat (first|exact (Kd.C_below A9.out HB.out)|(with_reducible refine Kd.C_alloc ?_ _)|(with_reducible refine Kd.C_drewN ?_ _)|(with_reducible refine Kd.C_drew ?_)));(case side2=>exact Ba.out);rintro e Sp ⟨v376,rfl,ho0,hb⟩;refine ⟨_,rfl,?_⟩;have Ai:=mk_ (Kd.S_lower ho0 (zr2 (yu1 HB.out)));replace Ab:=mk_ (zq6 (by exact Ab.out) hb);replace Aa:=mk_ (zq6 (by exact Aa.out) hb);replace Ac:=mk_ (zq6 (by exact Ac.out) hb);replace Ad:=mk_ (zq6 (by exact Ad.out) hb);replace HB:=mk_ (zr3 (yu1 HB.out) hb);(try clear hb);(try clear hb2);(try clear hk);(try clear hi);(try clear ho0))|((with_reducible refine gate_dst (N:=7) rfl ?_);(try (refine gate_guard (by rfl) ?_;dsimp only));refine box_event ?hg (N:=7) ?hd (cs:=#[.int .i64 0,.slice none 0 0,.int .i64 0,.int .i64 0,.bool false]) (t:=78) ?hr ?_;(case hd=>rfl);(case hg=>rfl);(case hr=>first|(go_simp;done)|(go_simp;rfl));intro gb381 hg Fo hbox hb;replace Ai:=mk_ (Kd.S_below (mS Ai.out) hb);have Ae:=mk_ (hbox);have Bg:=mk_ ((by rw [hg];exact (zr2 (yu1 HB.out)):w.heap.size≤gb381));have Bu:=Bg;replace HB:=mk_ (zr3 (yu1 HB.out) hb);have Aw:=mk_ ((by rw [hg];exact zm2 (zr6 (by exact Ab.out)):gb369≠gb381));replace Ab:=mk_ (zq6 (by exact Ab.out) hb);have A2:=mk_ Aw.out.symm;have Ax:=mk_ ((by rw [hg];exact zm2 (zr6 (by exact Aa.out)):gb370≠gb381));replace Aa:=mk_ (zq6 (by exact Aa.out) hb);have A4:=mk_ Ax.out.symm;have Al:=mk_ ((by rw [hg];exact zm2 (zr6 (by exact Ac.out)):gb371≠gb381));replace Ac:=mk_ (zq6 (by exact Ac.out) hb);have Ar:=mk_ Al.out.symm;have Ah:=mk_ ((by rw [hg];exact zm2 (zr6 (by exact Ad.out)):gb372≠gb381));replace Ad:=mk_ (zq6 (by exact Ad.out) hb);have Am:=mk_ Ah.out.symm;clear hb hbox hg;have Py:=A2.out;have Pz:=Aw.out;have P0:=A4.out;have P1:=Ax.out;have P2:=Ar.out;have P3:=Al.out;have P4:=Am.out;have P5:=Ah.out;obtain ⟨Fp,Fq,Fr,Fs,Ft⟩:=cz5 Ae.out;obtain ⟨Fu,Fv,Fw,Fx,Fy⟩:=fz5 Ae.out;obtain ⟨Ao134,co134,eo134⟩:=Kd.S_slice Ai.out;subst eo134)|((with_reducible refine gate_store (t:=78) (p:=7) rfl ?_);refine store_event (t:=78) (p:=7) (v:=?vo_w135) (w1:=(((((Fo.setCell ⟨gb381,0,none⟩ (.int .i64 t374)).setCell ⟨gb381,1,none⟩ (.slice Ao134 t375.length co134)).setCell ⟨gb381,2,none⟩ (.int .i64 t378)).setCell ⟨gb381,3,none⟩ (.int .i64 t379)).setCell ⟨gb381,4,none⟩ (.bool t380))) ?hg ?ho ?hn ?hr ?_;(case ho=>rfl);(case hg=>rfl);(case hn=>rfl);(case hr=>first|(go_simp;done)|(go_simp;rfl));intro Bn hw;have n0_:Aside0 (Kd.S k39 39 Bn w.heap.size (fun _=>True) (.slice Ao134 t375.length co134) t375):=⟨(by rw [hw];exact (by (with_reducible repeat (first|apply Kd.S_alloc|apply Kd.S_drewN|apply Kd.S_drew));exact Kd.S_mono (Kd.S_far (p:=⟨gb381,4,none⟩) (Kd.S_far (p:=⟨gb381,3,none⟩) (Kd.S_far (p:=⟨gb381,2,none⟩) (Kd.S_far (p:=⟨gb381,1,none⟩) (Kd.S_far (p:=⟨gb381,0,none⟩) (Kd.S_types Ai.out Ae.out (by decide)) (fun _ hk=>hk.2) (.int .i64 t374)) (fun _ hk=>hk.2) (.slice Ao134 t375.length co134)) (fun _ hk=>hk.2) (.int .i64 t378)) (fun _ hk=>hk.2) (.int .i64 t379)) (fun _ hk=>hk.2) (.bool t380)) (fun _ hk=>trivial)))⟩;have n1_:Aside0 (Bn.heap[gb369]? =some (.cells #[.int .i64 a0_0,.int .i64 a0_1,.int .i64 a0_2,.int .i64 a0_3,.int .i64 a0_4] 66 (0,0))):=⟨(by rw [hw];exact (yv5 Aw.out Ab.out))⟩;have n2_:Aside0 (Bn.heap[gb370]? =some (.cells #[.int .i64 a1_0,.slice A1_1 l1_1.length c1_1,.int .i64 a1_2,.int .i64 a1_3,.bool false] 78 (0,0))):=⟨(by rw [hw];exact (yv5 Ax.out Aa.out))⟩;have n3_:Aside0 (Bn.heap[gb371]? =some (.cells #[.int .i64 0,.slice none 0 0,.int .i64 0,.int .i64 0,.bool false] 78 (0,0))):=⟨(by rw [hw];exact (yv5 Al.out Ac.out))⟩;have n4_:Aside0 (Bn.heap[gb372]? =some (.cells #[.int .i64 0,.int .i64 0,.int .i64 0,.bool false,.bool false,.int .i64 0,.int .i64 0,.int .i64 0,.slice none 0 0] 102 (0,0))):=⟨(by rw [hw];exact (yv5 Ah.out Ad.out))⟩;have n5_:Aside0 (Bn.heap[gb381]? =some (.cells #[.int .i64 t374,.slice Ao134 t375.length co134,.int .i64 t378,.int .i64 t379,.bool t380] 78 (0,0))):=⟨(by rw [hw];exact (yv6 Ae.out))⟩;have n6_:Aside0 (Below w.heap.size w Bn):=⟨(by rw [hw];exact (yu1 HB.out))⟩;clear hw;clear Ai;clear Ab;clear Aa;clear Ac;clear Ad;clear Ae;clear HB;have Ai:=n0_;have Ab:=n1_;have Aa:=n2_;have Ac:=n3_;have Ad:=n4_;have Ae:=n5_;have HB:=n6_;clear n0_ n1_ n2_ n3_ n4_ n5_ n6_;obtain ⟨Fz,F0,F1,F2,F3⟩:=cz5 Aa.out;obtain ⟨F4,F5,F6,F7,F8⟩:=fz5 Aa.out;obtain ⟨F9,Ga,Gb,Gc,Gd⟩:=cz5 Ae.out;obtain ⟨Ge,Gf,Gg,Gh,Gi⟩:=fz5 Ae.out;have p382:0≤(0:Int):=(by omega);have q382:0<(t375.length:Int):=of_decide_eq_true (by first|(with_reducible assumption)|assumption);obtain ⟨ad382,A382_2,c382_2,e382,hx382_0,hx382_1,hx382_2,hl382_2,hi382_2⟩:=at_T39 (Kd.S_reads' Ai.out).2.2 0 p382 q382;cases e382;obtain ⟨ce382,hce382,hMe382,hcc382⟩:=Kd.S_get Ai.out z39 0 p382 (by first|exact q382|exact of_decide_eq_true (by first|(with_reducible assumption)|assumption)|(have e_:=(Kd.S_reads' Ai.out).1;omega));obtain ⟨ve382_2,rfl,ge382_2⟩:=k39_openM hMe382;have hv382_2:=hcc382 2 _ rfl;rw [add_field _ _ 2 (by omega)] at hv382_2;replace hv382_2:=Option.some.inj (hv382_2.symm.trans hx382_2);rw [hv382_2] at ge382_2;have HL382_2:=mk_ (show Kd.R ku 5 _ _ _ _ ((rd_T39 t375 0).f2) from ge382_2);clear hv382_2 ge382_2;clear hcc382 hce382;have qi382:(0<t375.length)=True:=eq_true (by omega);(try rw [show ((0:Int)).toNat=0 from rfl] at hx382_0);(try rw [show 0 * 3=0 from rfl] at hx382_0);(try rw [Addr.add_zero'] at hx382_0);(try rw [show ((0:Int)).toNat=0 from rfl] at hx382_1);(try rw [show 0 * 3=0 from rfl] at hx382_1);(try rw [Addr.add_zero'] at hx382_1);(try rw [show ((0:Int)).toNat=0 from rfl] at hx382_2);(try rw [show 0 * 3=0 from rfl] at hx382_2);(try rw [Addr.add_zero'] at hx382_2);have Bv:=mk_ hi382_2;have O1:=mk_ hl382_2;clear hi382_2 hl382_2;replace p382:=eq_true p382;replace q382:=eq_true q382)|((with_reducible refine gate_dst (N:=8) rfl ?_);(try (refine gate_guard (by rfl) ?_;dsimp only));refine box_event ?hg (N:=8) ?hd (cs:=#[.int .i64 0,.int .i64 0,.slice none 0 0]) (t:=39) ?hr ?_;(case hd=>rfl);(case hg=>rfl);(case hr=>first|(go_simp;done)|(go_simp;rfl));intro gb383 hg Gj hbox hb;replace Ai:=mk_ (Kd.S_below (Kd.S_elderB (mS Ai.out) gb383 (Nat.le_of_eq hg.symm)) hb);replace HL382_2:=mk_ (Kd.R_below (mR HL382_2.out) hb);replace Bv:=mk_ (Kd.R_reads' HL382_2.out).2.2;have At:=mk_ (hbox);have B1:=mk_ ((by rw [hg];exact (zr2 (yu1 HB.out)):w.heap.size≤gb383));have Se:=B1;replace HB:=mk_ (zr3 (yu1 HB.out) hb);have Bk:=mk_ ((by rw [hg];exact zm2 (zr6 (by exact Ab.out)):gb369≠gb383));replace Ab:=mk_ (zq6 (by exact Ab.out) hb);have Bw:=mk_ Bk.out.symm;have Bl:=mk_ ((by rw [hg];exact zm2 (zr6 (by exact Aa.out)):gb370≠gb383));replace Aa:=mk_ (zq6 (by exact Aa.out) hb);have Bx:=mk_ Bl.out.symm;have A7:=mk_ ((by rw [hg];exact zm2 (zr6 (by exact Ac.out)):gb371≠gb383));replace Ac:=mk_ (zq6 (by exact Ac.out) hb);have A6:=mk_ A7.out.symm;have Az:=mk_ ((by rw [hg];exact zm2 (zr6 (by exact Ad.out)):gb372≠gb383));replace Ad:=mk_ (zq6 (by exact Ad.out) hb);have Ay:=mk_ Az.out.symm;have Bm:=mk_ ((by rw [hg];exact zm2 (zr6 (by exact Ae.out)):gb381≠gb383));replace Ae:=mk_ (zq6 (by exact Ae.out) hb);have Bt:=mk_ Bm.out.symm;clear hb hbox hg;have P6:=Bw.out;have P7:=Bk.out;have P8:=Bx.out;have P9:=Bl.out;have Qa:=A6.out;have Qb:=A7.out;have Qc:=Ay.out;have Qd:=Az.out;have Qe:=Bt.out;have Qf:=Bm.out;obtain ⟨Gk,Gl,Gm⟩:=cz3 At.out;obtain ⟨Gn,Gp,Gq⟩:=fz3 At.out)|((with_reducible refine gate_store (t:=39) (p:=8) rfl ?_);refine store_event (t:=39) (p:=8) (v:=?vo_w145) (w1:=(((Gj.setCell ⟨gb383,0,none⟩ (.int .i64 ((rd_T39 t375 0).f0))).setCell ⟨gb383,1,none⟩ (.int .i64 ((rd_T39 t375 0).f1))).setCell ⟨gb383,2,none⟩ (.slice A382_2 ((rd_T39 t375 0).f2).length c382_2))) ?hg ?ho ?hn ?hr ?_;(case ho=>rfl);(case hg=>rfl);(case hn=>rfl);(case hr=>first|(go_simp;done)|(go_simp;rfl));intro Bj hw;have n0_:Aside0 (Kd.S k39 39 Bj w.heap.size (fun k_=>k_≠gb383) (.slice (some ad382) t375.length co134) t375):=⟨(by rw [hw];exact (by (with_reducible repeat (first|apply Kd.S_alloc|apply Kd.S_drewN|apply Kd.S_drew));exact Kd.S_mono (Kd.S_far (p:=⟨gb383,2,none⟩) (Kd.S_far (p:=⟨gb383,1,none⟩) (Kd.S_far (p:=⟨gb383,0,none⟩) (Kd.S_mono Ai.out (fun k_ hk=>(⟨hk,hk.2⟩:_∧k_≠gb383))) (fun _ hk=>hk.2) (.int .i64 ((rd_T39 t375 0).f0))) (fun _ hk=>hk.2) (.int .i64 ((rd_T39 t375 0).f1))) (fun _ hk=>hk.2) (.slice A382_2 ((rd_T39 t375 0).f2).length c382_2)) (fun _ hk=>hk.1.2)))⟩;have n1_:Aside0 (Kd.R ku 5 Bj w.heap.size (fun k_=>some k_≠(.slice (some ad382) t375.length co134:Value).ownBlock) (.slice A382_2 ((rd_T39 t375 0).f2).length c382_2) ((rd_T39 t375 0).f2)):=⟨(by rw [hw];exact (by (with_reducible repeat (first|apply Kd.R_alloc|apply Kd.R_drewN|apply Kd.R_drew));exact Kd.R_mono (Kd.R_far (p:=⟨gb383,2,none⟩) (Kd.R_far (p:=⟨gb383,1,none⟩) (Kd.R_far (p:=⟨gb383,0,none⟩) (Kd.R_types HL382_2.out At.out (by decide)) (fun _ hk=>hk.2) (.int .i64 ((rd_T39 t375 0).f0))) (fun _ hk=>hk.2) (.int .i64 ((rd_T39 t375 0).f1))) (fun _ hk=>hk.2) (.slice A382_2 ((rd_T39 t375 0).f2).length c382_2)) (fun _ hk=>hk.1.2)))⟩;have n2_:Aside0 (Bj.heap[gb369]? =some (.cells #[.int .i64 a0_0,.int .i64 a0_1,.int .i64 a0_2,.int .i64 a0_3,.int .i64 a0_4] 66 (0,0))):=⟨(by rw [hw];exact (yv4 Bk.out Ab.out))⟩;have n3_:Aside0 (Bj.heap[gb370]? =some (.cells #[.int .i64 a1_0,.slice A1_1 l1_1.length c1_1,.int .i64 a1_2,.int .i64 a1_3,.bool false] 78 (0,0))):=⟨(by rw [hw];exact (yv4 Bl.out Aa.out))⟩;have n4_:Aside0 (Bj.heap[gb371]? =some (.cells #[.int .i64 0,.slice none 0 0,.int .i64 0,.int .i64 0,.bool false] 78 (0,0))):=⟨(by rw [hw];exact (yv4 A7.out Ac.out))⟩;have n5_:Aside0 (Bj.heap[gb372]? =some (.cells #[.int .i64 0,.int .i64 0,.int .i64 0,.bool false,.bool false,.int .i64 0,.int .i64 0,.int .i64 0,.slice none 0 0] 102 (0,0))):=⟨(by rw [hw];exact (yv4 Az.out Ad.out))⟩;have n6_:Aside0 (Bj.heap[gb381]? =some (.cells #[.int .i64 t374,.slice (some ad382) t375.length co134,.int .i64 t378,.int .i64 t379,.bool t380] 78 (0,0))):=⟨(by rw [hw];exact (yv4 Bm.out Ae.out))⟩;have n7_:Aside0 (Bj.heap[gb383]? =some (.cells #[.int .i64 ((rd_T39 t375 0).f0),.int .i64 ((rd_T39 t375 0).f1),.slice A382_2 ((rd_T39 t375 0).f2).length c382_2] 39 (0,0))):=⟨(by rw [hw];exact (yv3 At.out))⟩;have n8_:Aside0 (Below w.heap.size w Bj):=⟨(by rw [hw];exact (yu1 HB.out))⟩;clear hw;clear Ai;clear HL382_2;clear Ab;clear Aa;clear Ac;clear Ad;clear Ae;clear At;clear HB;have Ai:=n0_;have HL382_2:=n1_;have Ab:=n2_;have Aa:=n3_;have Ac:=n4_;have Ad:=n5_;have Ae:=n6_;have At:=n7_;have HB:=n8_;clear n0_ n1_ n2_ n3_ n4_ n5_ n6_ n7_ n8_;obtain ⟨Gr,Gs,Gt,Gu,Gv⟩:=cz5 Ae.out;obtain ⟨Gw,Gx,Gy,Gz,G0⟩:=fz5 Ae.out;have q147:(1:Int)≤((t375.length:Int):Int):=of_decide_eq_true (by first|(with_reducible assumption)|assumption);obtain ⟨i0147,hi0147,_,hsz147,_⟩:=info_parts info39;have hroom147:t375.length≤co134:=(Kd.S_reads' Ai.out).2.1;have hC147:Kd.C k39 _ (some ad382) t375.length t375:=(Kd.S_reads' Ai.out).2.2;have hcut147:=cut_from (P:=Try.prog) 23 39 .i64 Try.underlying23 hi0147 3 hsz147 (some ad382) t375.length co134 1 (by omega) q147;have hr147:=Kd.C_drop (m:=(1:Int).toNat) (c:=co134) hC147 (by omega) hroom147;obtain ⟨B0,hA147⟩:∃ A1,A1=(if co134=(1:Int).toNat then (some ad382) else ((some ad382):Option Addr).map (·.add ((1:Int).toNat * 3))):=⟨_,rfl⟩;obtain ⟨c147,hc147⟩:∃ c1,c1=co134 - (1:Int).toNat:=⟨_,rfl⟩;have hy147:y384.length=t375.length - (1:Int).toNat:=(by rw [Ny384.out,List.length_drop] <;> omega);rw [show (t375).drop (1:Int).toNat=y384 from Ny384.out.symm] at hr147;replace hr147:Kd.C k39 _ B0 y384.length y384:=(by rw [hA147];exact hr147);rw [← hy147,← hA147,← hc147] at hcut147;have Bs:=mk_ hr147;have B2:=mk_ (show y384.length≤c147 from by rw [hy147,hc147];exact Nat.sub_le_sub_right hroom147 _);clear hr147 hC147 hroom147 hi0147 hsz147 hc147;have KY147:=mk_ hy147;have KA147:=mk_ hA147;clear hy147 hA147;have KL147:=mk_ (show 1≤t375.length from by omega);replace q147:=eq_true q147)|((with_reducible refine gate_callee (f:=118) rfl ?_);refine goesL_ (some 44) rfl rfl Try.func118 (by kernel_rfl) rfl #[.slice B0 y384.length c147] rfl am ?_;(with_reducible refine (spec_l6List.calls k _ _ y384 t388 _ ?side1 ?side2 Et.out).mono ?_);(case side1=>repeat (first|exact (by repeat (first|(with_reducible exact Bs.out)|(with_reducible refine Kd.C_alloc ?_ _)|(with_reducible refine Kd.C_drewN ?_ _)|(with_reducible refine Kd.C_drew ?_)|exact Bs.out))|(with_reducible refine Kd.C_alloc ?_ _)|(with_reducible refine Kd.C_drewN ?_ _)|(with_reducible refine Kd.C_drew ?_)));(case side2=>exact B2.out);rintro e Bh ⟨v389,rfl,ho0,hb⟩;refine ⟨_,rfl,?_⟩;have A8:=mk_ (Kd.S_lower (Kd.S_newB (Kd.S_new' (Kd.S_new' ho0 (Kd.S_lt (mS Ai.out))) (Kd.R_lt (mR HL382_2.out))) (g:=gb383) (o:=.cells #[.int .i64 ((rd_T39 t375 0).f0),.int .i64 ((rd_T39 t375 0).f1),.slice A382_2 ((rd_T39 t375 0).f2).length c382_2] 39 (0,0)) (by exact At.out)) (zr2 (yu1 HB.out)));replace Ai:=mk_ (Kd.S_elder' (mS Ai.out) (Kd.S_base ho0) hb);replace HL382_2:=mk_ (Kd.R_below (mR HL382_2.out) hb);replace Ab:=mk_ (zq6 (by exact Ab.out) hb);replace Aa:=mk_ (zq6 (by exact Aa.out) hb);replace Ac:=mk_ (zq6 (by exact Ac.out) hb);replace Ad:=mk_ (zq6 (by exact Ad.out) hb);replace Ae:=mk_ (zq6 (by exact Ae.out) hb);replace Bv:=mk_ (Kd.R_reads' HL382_2.out).2.2;replace At:=mk_ (zq6 (by exact At.out) hb);replace Bs:=mk_ (Kd.C_below (by repeat (first|(with_reducible exact Bs.out)|(with_reducible refine Kd.C_alloc ?_ _)|(with_reducible refine Kd.C_drewN ?_ _)|(with_reducible refine Kd.C_drew ?_)|exact Bs.out)) hb);replace HB:=mk_ (zr3 (yu1 HB.out) hb);(try clear hb);(try clear hb2);(try clear hk);(try clear hi);(try clear ho0);obtain ⟨Ao149,co149,eo149⟩:=Kd.S_slice A8.out;subst eo149;obtain ⟨G1,G2,G3,G4,G5⟩:=cz5 Ae.out;obtain ⟨G6,G7,G8,G9,Ha⟩:=fz5 Ae.out;obtain ⟨Hb,Hc,Hd,He,Hf⟩:=cz5 Aa.out;obtain ⟨Hg,Hh,Hi,Hj,Hk⟩:=fz5 Aa.out))
 have n0_:Aside0 (Kd.S k39 39 (((Bh.setCell ⟨gb381,1,none⟩ (.slice Ao149 t388.length co149)).setCell ⟨gb381,0,none⟩ (.int .i64 (wrap64 (a1_0 - 1)))).setCell ⟨gb381,3,none⟩ (.int .i64 (wrap64 (a1_3+1)))) w.heap.size (fun k_=>some k_≠(.slice Ao149 t388.length co149:Value).ownBlock∧k_≠gb383) (.slice (some ad382) t375.length co134) t375):=⟨by (with_reducible repeat (first|apply Kd.S_alloc|apply Kd.S_drewN|apply Kd.S_drew));exact Kd.S_mono (Kd.S_far (p:=⟨gb381,3,none⟩) (Kd.S_far (p:=⟨gb381,0,none⟩) (Kd.S_far (p:=⟨gb381,1,none⟩) (Kd.S_types Ai.out Ae.out (by decide)) (fun _ hk=>hk.2) (.slice Ao149 t388.length co149)) (fun _ hk=>hk.2) (.int .i64 (wrap64 (a1_0 - 1)))) (fun _ hk=>hk.2) (.int .i64 (wrap64 (a1_3+1)))) (fun _ hk=>⟨hk.1.2,hk.1.1⟩)⟩
 have n1_:Aside0 (Kd.R ku 5 (((Bh.setCell ⟨gb381,1,none⟩ (.slice Ao149 t388.length co149)).setCell ⟨gb381,0,none⟩ (.int .i64 (wrap64 (a1_0 - 1)))).setCell ⟨gb381,3,none⟩ (.int .i64 (wrap64 (a1_3+1)))) w.heap.size (fun k_=>some k_≠(.slice (some ad382) t375.length co134:Value).ownBlock) (.slice A382_2 ((rd_T39 t375 0).f2).length c382_2) ((rd_T39 t375 0).f2)):=⟨by (with_reducible repeat (first|apply Kd.R_alloc|apply Kd.R_drewN|apply Kd.R_drew));exact Kd.R_mono (Kd.R_far (p:=⟨gb381,3,none⟩) (Kd.R_far (p:=⟨gb381,0,none⟩) (Kd.R_far (p:=⟨gb381,1,none⟩) (Kd.R_types HL382_2.out Ae.out (by decide)) (fun _ hk=>hk.2) (.slice Ao149 t388.length co149)) (fun _ hk=>hk.2) (.int .i64 (wrap64 (a1_0 - 1)))) (fun _ hk=>hk.2) (.int .i64 (wrap64 (a1_3+1)))) (fun _ hk=>hk.1)⟩
 have n2_:Aside0 (Kd.S k39 39 (((Bh.setCell ⟨gb381,1,none⟩ (.slice Ao149 t388.length co149)).setCell ⟨gb381,0,none⟩ (.int .i64 (wrap64 (a1_0 - 1)))).setCell ⟨gb381,3,none⟩ (.int .i64 (wrap64 (a1_3+1)))) w.heap.size (fun k_=>some k_≠(.slice (some ad382) t375.length co134:Value).ownBlock∧some k_≠(.slice A382_2 ((rd_T39 t375 0).f2).length c382_2:Value).ownBlock∧k_≠gb383) (.slice Ao149 t388.length co149) t388):=⟨by (with_reducible repeat (first|apply Kd.S_alloc|apply Kd.S_drewN|apply Kd.S_drew));exact Kd.S_mono (Kd.S_far (p:=⟨gb381,3,none⟩) (Kd.S_far (p:=⟨gb381,0,none⟩) (Kd.S_far (p:=⟨gb381,1,none⟩) (Kd.S_types A8.out Ae.out (by decide)) (fun _ hk=>hk.2) (.slice Ao149 t388.length co149)) (fun _ hk=>hk.2) (.int .i64 (wrap64 (a1_0 - 1)))) (fun _ hk=>hk.2) (.int .i64 (wrap64 (a1_3+1)))) (fun _ hk=>⟨hk.1.1.1.2,⟨hk.1.1.2,hk.1.2⟩⟩)⟩
 have n3_:Aside0 ((((Bh.setCell ⟨gb381,1,none⟩ (.slice Ao149 t388.length co149)).setCell ⟨gb381,0,none⟩ (.int .i64 (wrap64 (a1_0 - 1)))).setCell ⟨gb381,3,none⟩ (.int .i64 (wrap64 (a1_3+1)))).heap[gb369]? =some (.cells #[.int .i64 a0_0,.int .i64 a0_1,.int .i64 a0_2,.int .i64 a0_3,.int .i64 a0_4] 66 (0,0))):=⟨by (with_reducible repeat (first|refine zq1 ?_ _|refine zq2 ?_|refine zq3 ?_ _));refine fa3 ?_ Aw.out;(with_reducible repeat (first|refine zq1 ?_ _|refine zq2 ?_|refine zq3 ?_ _));exact Ab.out⟩
 have n4_:Aside0 ((((Bh.setCell ⟨gb381,1,none⟩ (.slice Ao149 t388.length co149)).setCell ⟨gb381,0,none⟩ (.int .i64 (wrap64 (a1_0 - 1)))).setCell ⟨gb381,3,none⟩ (.int .i64 (wrap64 (a1_3+1)))).heap[gb370]? =some (.cells #[.int .i64 a1_0,.slice A1_1 l1_1.length c1_1,.int .i64 a1_2,.int .i64 a1_3,.bool false] 78 (0,0))):=⟨by (with_reducible repeat (first|refine zq1 ?_ _|refine zq2 ?_|refine zq3 ?_ _));refine fa3 ?_ Ax.out;(with_reducible repeat (first|refine zq1 ?_ _|refine zq2 ?_|refine zq3 ?_ _));exact Aa.out⟩
 have n5_:Aside0 ((((Bh.setCell ⟨gb381,1,none⟩ (.slice Ao149 t388.length co149)).setCell ⟨gb381,0,none⟩ (.int .i64 (wrap64 (a1_0 - 1)))).setCell ⟨gb381,3,none⟩ (.int .i64 (wrap64 (a1_3+1)))).heap[gb371]? =some (.cells #[.int .i64 0,.slice none 0 0,.int .i64 0,.int .i64 0,.bool false] 78 (0,0))):=⟨by (with_reducible repeat (first|refine zq1 ?_ _|refine zq2 ?_|refine zq3 ?_ _));refine fa3 ?_ Al.out;(with_reducible repeat (first|refine zq1 ?_ _|refine zq2 ?_|refine zq3 ?_ _));exact Ac.out⟩
 have n6_:Aside0 ((((Bh.setCell ⟨gb381,1,none⟩ (.slice Ao149 t388.length co149)).setCell ⟨gb381,0,none⟩ (.int .i64 (wrap64 (a1_0 - 1)))).setCell ⟨gb381,3,none⟩ (.int .i64 (wrap64 (a1_3+1)))).heap[gb372]? =some (.cells #[.int .i64 0,.int .i64 0,.int .i64 0,.bool false,.bool false,.int .i64 0,.int .i64 0,.int .i64 0,.slice none 0 0] 102 (0,0))):=⟨by (with_reducible repeat (first|refine zq1 ?_ _|refine zq2 ?_|refine zq3 ?_ _));refine fa3 ?_ Ah.out;(with_reducible repeat (first|refine zq1 ?_ _|refine zq2 ?_|refine zq3 ?_ _));exact Ad.out⟩
 have n7_:Aside0 ((((Bh.setCell ⟨gb381,1,none⟩ (.slice Ao149 t388.length co149)).setCell ⟨gb381,0,none⟩ (.int .i64 (wrap64 (a1_0 - 1)))).setCell ⟨gb381,3,none⟩ (.int .i64 (wrap64 (a1_3+1)))).heap[gb381]? =some (.cells #[.int .i64 (wrap64 (a1_0 - 1)),.slice Ao149 t388.length co149,.int .i64 t378,.int .i64 (wrap64 (a1_3+1)),.bool t380] 78 (0,0))):=⟨by (with_reducible repeat (first|refine zq1 ?_ _|refine zq2 ?_|refine zq3 ?_ _));refine zq4 (cs:=#[.int .i64 (wrap64 (a1_0 - 1)),.slice Ao149 t388.length co149,.int .i64 t378,.int .i64 t379,.bool t380]) ?_ 3 _ rfl;(with_reducible repeat (first|refine zq1 ?_ _|refine zq2 ?_|refine zq3 ?_ _));refine zq4 (cs:=#[.int .i64 t374,.slice Ao149 t388.length co149,.int .i64 t378,.int .i64 t379,.bool t380]) ?_ 0 _ rfl;(with_reducible repeat (first|refine zq1 ?_ _|refine zq2 ?_|refine zq3 ?_ _));refine zq4 (cs:=#[.int .i64 t374,.slice (some ad382) t375.length co134,.int .i64 t378,.int .i64 t379,.bool t380]) ?_ 1 _ rfl;(with_reducible repeat (first|refine zq1 ?_ _|refine zq2 ?_|refine zq3 ?_ _));exact Ae.out⟩
 have n8_:Aside0 ((((Bh.setCell ⟨gb381,1,none⟩ (.slice Ao149 t388.length co149)).setCell ⟨gb381,0,none⟩ (.int .i64 (wrap64 (a1_0 - 1)))).setCell ⟨gb381,3,none⟩ (.int .i64 (wrap64 (a1_3+1)))).heap[gb383]? =some (.cells #[.int .i64 ((rd_T39 t375 0).f0),.int .i64 ((rd_T39 t375 0).f1),.slice A382_2 ((rd_T39 t375 0).f2).length c382_2] 39 (0,0))):=⟨by (with_reducible repeat (first|refine zq1 ?_ _|refine zq2 ?_|refine zq3 ?_ _));refine fa3 ?_ Bt.out;(with_reducible repeat (first|refine zq1 ?_ _|refine zq2 ?_|refine zq3 ?_ _));exact At.out⟩
 have n9_:Aside0 (Below w.heap.size w (((Bh.setCell ⟨gb381,1,none⟩ (.slice Ao149 t388.length co149)).setCell ⟨gb381,0,none⟩ (.int .i64 (wrap64 (a1_0 - 1)))).setCell ⟨gb381,3,none⟩ (.int .i64 (wrap64 (a1_3+1))))):=⟨by exact yu1 HB.out⟩
 (try clear Ai)
 (try clear HL382_2)
 (try clear A8)
 (try clear Ab)
 (try clear Aa)
 (try clear Ac)
 (try clear Ad)
 (try clear Ae)
 (try clear At)
 (try clear HB)
 generalize (((Bh.setCell ⟨gb381,1,none⟩ (.slice Ao149 t388.length co149)).setCell ⟨gb381,0,none⟩ (.int .i64 (wrap64 (a1_0 - 1)))).setCell ⟨gb381,3,none⟩ (.int .i64 (wrap64 (a1_3+1))))=Hl at n0_ n1_ n2_ n3_ n4_ n5_ n6_ n7_ n8_ n9_ ⊢
 have Ai:=n0_
 have HL382_2:=n1_
 have A8:=n2_
 have Ab:=n3_
 have Aa:=n4_
 have Ac:=n5_
 have Ad:=n6_
 have Ae:=n7_
 have At:=n8_
 have HB:=n9_
 clear n0_ n1_ n2_ n3_ n4_ n5_ n6_ n7_ n8_ n9_
 replace Ai:=mk_ (Kd.S_drew Ai.out)
 replace HL382_2:=mk_ (Kd.R_drew HL382_2.out)
 replace A8:=mk_ (Kd.S_drew A8.out)
 replace Ab:=mk_ (zq2 Ab.out)
 replace Aa:=mk_ (zq2 Aa.out)
 replace Ac:=mk_ (zq2 Ac.out)
 replace Ad:=mk_ (zq2 Ad.out)
 replace Ae:=mk_ (zq2 Ae.out)
 replace At:=mk_ (zq2 At.out)
 replace HB:=mk_ (zq9 HB.out)
 refine start_ (n:=13) (S:=fun w'=>w'.cell? ⟨gb381,0,none⟩=some (.int .i64 (wrap64 (a1_0 - 1)))∧w'.cell? ⟨gb381,1,none⟩=some (.slice Ao149 t388.length co149)∧w'.cell? ⟨gb381,2,none⟩=some (.int .i64 t378)∧w'.cell? ⟨gb381,3,none⟩=some (.int .i64 (wrap64 (a1_3+1)))∧w'.cell? ⟨gb381,4,none⟩=some (.bool t380)∧w'.cell? ⟨gb383,0,none⟩=some (.int .i64 ((rd_T39 t375 0).f0))∧w'.cell? ⟨gb383,1,none⟩=some (.int .i64 ((rd_T39 t375 0).f1))∧w'.cell? ⟨gb383,2,none⟩=some (.slice A382_2 ((rd_T39 t375 0).f2).length c382_2)) (ds:=[]) (bm 13 0) (by kernel_rfl) rfl rfl ⟨(zr4 Ae.out 0).trans rfl,(zr4 Ae.out 1).trans rfl,(zr4 Ae.out 2).trans rfl,(zr4 Ae.out 3).trans rfl,(zr4 Ae.out 4).trans rfl,(zr4 At.out 0).trans rfl,(zr4 At.out 1).trans rfl,(zr4 At.out 2).trans rfl⟩ (fun hHeld=>?_);refine with_tabW spec_CrdSend.tab10 spec_CrdSend.bits10 (fun HT_ HW_=>?_)
 generalize Hl.drew=Sq at Ai HL382_2 A8 Ab Aa Ac Ad Ae At HB hHeld ⊢
 refine pA 1 (some 55) (bm 13 2) rfl rfl HT_.out (by kernel_rfl) (fun _ _ _ h=>h) (by rfl) (by intro w';go_simp;with_reducible rfl) (by simp only [Act.put,zs1,zs2,zs3,i64_w,i32_w];rfl) ?_
 refine pA 3 (some 57) (bm 13 10) rfl rfl HT_.out (by kernel_rfl) (fun _ _ _ h=>h) (by rfl) (by intro w';go_simp;with_reducible rfl) (by simp only [Act.put,zs1,zs2,zs3,i64_w,i32_w];rfl) ?_
 refine pA 6 (some 60) (bm 13 74) rfl rfl HT_.out (by kernel_rfl) (fun _ _ _ h=>h) (by rfl) (by intro w';go_simp;with_reducible rfl) (by simp only [Act.put,zs1,zs2,zs3,i64_w,i32_w];rfl) ?_
 refine tA 0 (some 54) (bm 13 75) rfl rfl HT_.out HW_.out (by kernel_rfl) (fun _ _ _ h=>h) (by rfl) hHeld (by rintro w' ⟨s0,s1,s2,s3,s4,s5,s6,s7⟩;go_simp;with_reducible rfl) (by simp only [Act.put,zs1,zs2,zs3,i64_w,i32_w];rfl) ?_
 refine tA 2 (some 56) (bm 13 79) rfl rfl HT_.out HW_.out (by kernel_rfl) (fun _ _ _ h=>h) (by rfl) hHeld (by rintro w' ⟨s0,s1,s2,s3,s4,s5,s6,s7⟩;go_simp;with_reducible rfl) (by simp only [Act.put,zs1,zs2,zs3,i64_w,i32_w];rfl) ?_
 refine tA 4 (some 58) (bm 13 95) rfl rfl HT_.out HW_.out (by kernel_rfl) (fun _ _ _ h=>h) (by rfl) hHeld (by rintro w' ⟨s0,s1,s2,s3,s4,s5,s6,s7⟩;go_simp;with_reducible rfl) (by simp only [Act.put,zs1,zs2,zs3,i64_w,i32_w];rfl) ?_
 refine tA 7 (some 61) (bm 13 223) rfl rfl HT_.out HW_.out (by kernel_rfl) (fun _ _ _ h=>h) (by rfl) hHeld (by rintro w' ⟨s0,s1,s2,s3,s4,s5,s6,s7⟩;go_simp;with_reducible rfl) (by simp only [Act.put,zs1,zs2,zs3,i64_w,i32_w];rfl) ?_
 refine one_ (i:=5) (N:=some 59) (bm 13 255) rfl rfl (one_of HT_.out (by kernel_rfl)) (by decide) (fun K hK=>?_)
 refine Kd.R_lit_step ku _ 5 ?hg (N:=59) ?hd (xs:=([]:List Int)) (inner:=[]) (ok:=fun _=>True) (okp:=fun _=>True) ?hr ?hp (fun _ hk=>hk) trivial (Below.refl _ _) (Nat.le_refl _) (by simp) ?_;(case hd=>rfl);(case hg=>rfl);(case hr=>first|(go_simp;done)|(go_simp;rfl));(case hp=>exact (Reps.none _ _))
 intro v392 Sr ho155 hb hg_ hnew_
 clear hg_ hnew_
 (first|rw [← Ny391.out] at ho155|(simp only [Int.reduceToNat] at ho155;rw [← Ny391.out] at ho155))
 replace Ai:=mk_ (Kd.S_elder' (mS Ai.out) (Kd.R_base ho155) hb)
 replace A8:=mk_ (Kd.S_elder' (mS A8.out) (Kd.R_base ho155) hb)
 have Bi:=mk_ (Kd.R_lower (Kd.R_new' ho155 (Kd.R_lt (mR HL382_2.out))) (zr2 (yu1 HB.out)))
 replace HL382_2:=mk_ (Kd.R_elder' (mR HL382_2.out) (Kd.R_base ho155) hb)
 replace Ab:=mk_ (zq6 (by exact Ab.out) hb)
 replace Aa:=mk_ (zq6 (by exact Aa.out) hb)
 replace Ac:=mk_ (zq6 (by exact Ac.out) hb)
 replace Ad:=mk_ (zq6 (by exact Ad.out) hb)
 replace Ae:=mk_ (zq6 (by exact Ae.out) hb)
 replace At:=mk_ (zq6 (by exact At.out) hb)
 replace HB:=mk_ (zr3 (yu1 HB.out) hb)
 clear hb ho155
 refine hK.out _ _ ⟨(zr4 Ae.out 0).trans rfl,(zr4 Ae.out 1).trans rfl,(zr4 Ae.out 2).trans rfl,(zr4 Ae.out 3).trans rfl,(zr4 Ae.out 4).trans rfl,(zr4 At.out 0).trans rfl,(zr4 At.out 1).trans rfl,(zr4 At.out 2).trans rfl⟩ (fun hHeld=>?_)
 clear hK K
 refine norm_ (a':=?_) ?_ ?_
 rotate_left
 ·show Act.put _ (some 59) _=_
  simp only [Act.put,zs1,zs2,zs3,i64_w,i32_w]
  rfl
 refine one_ (i:=8) (N:=some 62) (bm 13 511) rfl rfl (one_of HT_.out (by kernel_rfl)) (by decide) (fun K hK=>?_)
 refine Kd.R_append_rows_step ku (w0:=w) w.heap.size (by rfl) (.tmp 59) (.tmp 61) 22 5 (.int .u8 0) 1 rfl Try.underlying22 info5 rfl (by decide) (by omega) v392 y391 ((rd_T39 t375 0).f2) _ _ _ (fun k_=>some k_≠(.slice A382_2 ((rd_T39 t375 0).f2).length c382_2:Value).ownBlock) (fun _=>False) rfl rfl ?aO ?aR (fun _ _ h=>h) (fun _ h=>h.elim) ?aF ?aB ?aS ?aL ?_
 (case aR=>repeat (first|exact ((Kd.R_reads' (mR HL382_2.out)).2.2)|(with_reducible refine Kd.C_alloc ?_ _)|(with_reducible refine Kd.C_drewN ?_ _)|(with_reducible refine Kd.C_drew ?_)))
 (case aB=>exact (yu1 HB.out))
 (case aF=>exact (fun k_ hk=>Kd.fresh' (Kd.R_lt (mR HL382_2.out)) k_ hk))
 (case aO=>exact (by (with_reducible repeat (first|apply Kd.R_alloc|apply Kd.R_drewN|apply Kd.R_drew));exact Kd.R_mono Bi.out (fun _ hk=>hk.2)))
 (case aS=>exact (zr2 (yu1 HB.out)))
 (case aL=>have:=LMc113.out;omega)
 intro v395 Bf ho hb hg hat
 rw [← Ny394.out] at ho
 have n0_:=mk_ (blk_grown (g:=gb369) (o:=.cells #[.int .i64 a0_0,.int .i64 a0_1,.int .i64 a0_2,.int .i64 a0_3,.int .i64 a0_4] 66 (0,0)) (by exact Ab.out) hg (Kd.R_ne Bi.out Ab.out (by decide)))
 have n1_:=mk_ (blk_grown (g:=gb370) (o:=.cells #[.int .i64 a1_0,.slice A1_1 l1_1.length c1_1,.int .i64 a1_2,.int .i64 a1_3,.bool false] 78 (0,0)) (by exact Aa.out) hg (Kd.R_ne Bi.out Aa.out (by decide)))
 have n2_:=mk_ (blk_grown (g:=gb371) (o:=.cells #[.int .i64 0,.slice none 0 0,.int .i64 0,.int .i64 0,.bool false] 78 (0,0)) (by exact Ac.out) hg (Kd.R_ne Bi.out Ac.out (by decide)))
 have n3_:=mk_ (blk_grown (g:=gb372) (o:=.cells #[.int .i64 0,.int .i64 0,.int .i64 0,.bool false,.bool false,.int .i64 0,.int .i64 0,.int .i64 0,.slice none 0 0] 102 (0,0)) (by exact Ad.out) hg (Kd.R_ne Bi.out Ad.out (by decide)))
 have n4_:=mk_ (Kd.S_after (ok:=(fun k_=>some k_≠(.slice Ao149 t388.length co149:Value).ownBlock∧k_≠gb383)) (mS Ai.out) hg hat)
 have n5_:=mk_ (blk_grown (g:=gb381) (o:=.cells #[.int .i64 (wrap64 (a1_0 - 1)),.slice Ao149 t388.length co149,.int .i64 t378,.int .i64 (wrap64 (a1_3+1)),.bool t380] 78 (0,0)) (by exact Ae.out) hg (Kd.R_ne Bi.out Ae.out (by decide)))
 have n6_:=mk_ (Kd.R_after (ok:=(fun k_=>some k_≠(.slice (some ad382) t375.length co134:Value).ownBlock)) (mR HL382_2.out) hg hat)
 have n7_:=mk_ (blk_grown (g:=gb383) (o:=.cells #[.int .i64 ((rd_T39 t375 0).f0),.int .i64 ((rd_T39 t375 0).f1),.slice A382_2 ((rd_T39 t375 0).f2).length c382_2] 39 (0,0)) (by exact At.out) hg (Kd.R_ne Bi.out At.out (by decide)))
 have n8_:=mk_ (Kd.S_after (ok:=(fun k_=>some k_≠(.slice (some ad382) t375.length co134:Value).ownBlock∧some k_≠(.slice A382_2 ((rd_T39 t375 0).f2).length c382_2:Value).ownBlock∧k_≠gb383)) (mS A8.out) hg hat)
 have n9_:=mk_ (hb)
 have n10_:=mk_ (ho)
 clear Ab
 clear Aa
 clear Ac
 clear Ad
 clear Ai
 clear Ae
 clear HL382_2
 clear At
 clear A8
 clear HB
 clear Bi
 have Ab:=n0_
 have Aa:=n1_
 have Ac:=n2_
 have Ad:=n3_
 have Ai:=n4_
 have Ae:=n5_
 have HL382_2:=n6_
 have At:=n7_
 have A8:=n8_
 have HB:=n9_
 have Bz:=n10_
 clear n0_ n1_ n2_ n3_ n4_ n5_ n6_ n7_ n8_ n9_ n10_
 clear ho hb hg hat
 obtain ⟨Ao157,co157,eo157⟩:=Kd.R_slice Bz.out
 (first|subst eo157|(injection eo157 with f1_ f2_ f3_;have f4_:=f1_.symm;have f5_:=f3_.symm;clear f1_ f2_ f3_;subst f4_;subst f5_))
 refine hK.out _ _ ⟨(zr4 Ae.out 0).trans rfl,(zr4 Ae.out 1).trans rfl,(zr4 Ae.out 2).trans rfl,(zr4 Ae.out 3).trans rfl,(zr4 Ae.out 4).trans rfl,(zr4 At.out 0).trans rfl,(zr4 At.out 1).trans rfl,(zr4 At.out 2).trans rfl⟩ (fun hHeld=>?_)
 clear hK K
 refine norm_ (a':=?_) ?_ ?_
 rotate_left
 ·show Act.put _ (some 62) _=_
  simp only [Act.put,zs1,zs2,zs3,i64_w,i32_w]
  rfl
 refine pA 9 (some 63) (bm 13 1023) rfl rfl HT_.out (by kernel_rfl) (fun _ _ _ h=>h) (by rfl) (by intro w';go_simp;with_reducible rfl) (by simp only [Act.put,zs1,zs2,zs3,i64_w,i32_w];rfl) ?_
 refine one_ (i:=10) (N:=none) (bm 13 2047) rfl rfl (one_of HT_.out (by kernel_rfl)) (by decide) (fun K hK=>?_)
 have hs158:Bf.cell? ⟨gb371,0,none⟩=some (.int .i64 0):=(zr4 Ac.out 0).trans rfl
 have hfs158:=zr5 Ac.out 0
 have hns158_0:=An.out
 have hns158_1:=Ao.out
 have hns158_3:=Ag.out
 have hns158_4:=Ar.out
 have hns158_5:=A6.out
 have hms158_0:=Au.out
 have hms158_1:=Av.out
 have hms158_3:=Af.out
 have hms158_4:=Al.out
 have hms158_5:=A7.out
 have hs159:Bf.cell? ⟨gb371,1,none⟩=some (.slice none 0 0):=(zr4 Ac.out 1).trans rfl
 have hfs159:=zr5 Ac.out 1
 have hns159_0:=An.out
 have hns159_1:=Ao.out
 have hns159_3:=Ag.out
 have hns159_4:=Ar.out
 have hns159_5:=A6.out
 have hms159_0:=Au.out
 have hms159_1:=Av.out
 have hms159_3:=Af.out
 have hms159_4:=Al.out
 have hms159_5:=A7.out
 have hs160:Bf.cell? ⟨gb371,2,none⟩=some (.int .i64 0):=(zr4 Ac.out 2).trans rfl
 have hfs160:=zr5 Ac.out 2
 have hns160_0:=An.out
 have hns160_1:=Ao.out
 have hns160_3:=Ag.out
 have hns160_4:=Ar.out
 have hns160_5:=A6.out
 have hms160_0:=Au.out
 have hms160_1:=Av.out
 have hms160_3:=Af.out
 have hms160_4:=Al.out
 have hms160_5:=A7.out
 have hs161:Bf.cell? ⟨gb371,3,none⟩=some (.int .i64 0):=(zr4 Ac.out 3).trans rfl
 have hfs161:=zr5 Ac.out 3
 have hns161_0:=An.out
 have hns161_1:=Ao.out
 have hns161_3:=Ag.out
 have hns161_4:=Ar.out
 have hns161_5:=A6.out
 have hms161_0:=Au.out
 have hms161_1:=Av.out
 have hms161_3:=Af.out
 have hms161_4:=Al.out
 have hms161_5:=A7.out
 have hs162:Bf.cell? ⟨gb371,4,none⟩=some (.bool false):=(zr4 Ac.out 4).trans rfl
 have hfs162:=zr5 Ac.out 4
 have hns162_0:=An.out
 have hns162_1:=Ao.out
 have hns162_3:=Ag.out
 have hns162_4:=Ar.out
 have hns162_5:=A6.out
 have hms162_0:=Au.out
 have hms162_1:=Av.out
 have hms162_3:=Af.out
 have hms162_4:=Al.out
 have hms162_5:=A7.out
 refine skip_ (w1:=?_) (by rfl) rfl ?_ ?_
 rotate_left
 ·go_simp
  rfl
 refine hK.out _ _ ⟨(fr5 Ar.out hHeld.1),(fr5 Ar.out hHeld.2.1),(fr5 Ar.out hHeld.2.2.1),(fr5 Ar.out hHeld.2.2.2.1),(fr5 Ar.out hHeld.2.2.2.2.1),(fr5 A6.out hHeld.2.2.2.2.2.1),(fr5 A6.out hHeld.2.2.2.2.2.2.1),(fr5 A6.out hHeld.2.2.2.2.2.2.2)⟩ (fun hHeld=>?_)
 clear hK K
 refine one_ (i:=11) (N:=none) (bm 13 4095) rfl rfl (one_of HT_.out (by kernel_rfl)) (by decide) (fun K hK=>?_)
 have hs163:Bf.cell? ⟨gb372,0,none⟩=some (.int .i64 0):=(zr4 Ad.out 0).trans rfl
 have hfs163:=zr5 Ad.out 0
 have hns163_0:=Aj.out
 have hns163_1:=Ak.out
 have hns163_2:=Af.out
 have hns163_4:=Am.out
 have hns163_5:=Ay.out
 have hms163_0:=Ap.out
 have hms163_1:=Aq.out
 have hms163_2:=Ag.out
 have hms163_4:=Ah.out
 have hms163_5:=Az.out
 have hs164:Bf.cell? ⟨gb372,1,none⟩=some (.int .i64 0):=(zr4 Ad.out 1).trans rfl
 have hfs164:=zr5 Ad.out 1
 have hns164_0:=Aj.out
 have hns164_1:=Ak.out
 have hns164_2:=Af.out
 have hns164_4:=Am.out
 have hns164_5:=Ay.out
 have hms164_0:=Ap.out
 have hms164_1:=Aq.out
 have hms164_2:=Ag.out
 have hms164_4:=Ah.out
 have hms164_5:=Az.out
 have hs165:Bf.cell? ⟨gb372,2,none⟩=some (.int .i64 0):=(zr4 Ad.out 2).trans rfl
 have hfs165:=zr5 Ad.out 2
 have hns165_0:=Aj.out
 have hns165_1:=Ak.out
 have hns165_2:=Af.out
 have hns165_4:=Am.out
 have hns165_5:=Ay.out
 have hms165_0:=Ap.out
 have hms165_1:=Aq.out
 have hms165_2:=Ag.out
 have hms165_4:=Ah.out
 have hms165_5:=Az.out
 have hs166:Bf.cell? ⟨gb372,3,none⟩=some (.bool false):=(zr4 Ad.out 3).trans rfl
 have hfs166:=zr5 Ad.out 3
 have hns166_0:=Aj.out
 have hns166_1:=Ak.out
 have hns166_2:=Af.out
 have hns166_4:=Am.out
 have hns166_5:=Ay.out
 have hms166_0:=Ap.out
 have hms166_1:=Aq.out
 have hms166_2:=Ag.out
 have hms166_4:=Ah.out
 have hms166_5:=Az.out
 have hs167:Bf.cell? ⟨gb372,4,none⟩=some (.bool false):=(zr4 Ad.out 4).trans rfl
 have hfs167:=zr5 Ad.out 4
 have hns167_0:=Aj.out
 have hns167_1:=Ak.out
 have hns167_2:=Af.out
 have hns167_4:=Am.out
 have hns167_5:=Ay.out
 have hms167_0:=Ap.out
 have hms167_1:=Aq.out
 have hms167_2:=Ag.out
 have hms167_4:=Ah.out
 have hms167_5:=Az.out
 have hs168:Bf.cell? ⟨gb372,5,none⟩=some (.int .i64 0):=(zr4 Ad.out 5).trans rfl
 have hfs168:=zr5 Ad.out 5
 have hns168_0:=Aj.out
 have hns168_1:=Ak.out
 have hns168_2:=Af.out
 have hns168_4:=Am.out
 have hns168_5:=Ay.out
 have hms168_0:=Ap.out
 have hms168_1:=Aq.out
 have hms168_2:=Ag.out
 have hms168_4:=Ah.out
 have hms168_5:=Az.out
 have hs169:Bf.cell? ⟨gb372,6,none⟩=some (.int .i64 0):=(zr4 Ad.out 6).trans rfl
 have hfs169:=zr5 Ad.out 6
 have hns169_0:=Aj.out
 have hns169_1:=Ak.out
 have hns169_2:=Af.out
 have hns169_4:=Am.out
 have hns169_5:=Ay.out
 have hms169_0:=Ap.out
 have hms169_1:=Aq.out
 have hms169_2:=Ag.out
 have hms169_4:=Ah.out
 have hms169_5:=Az.out
 have hs170:Bf.cell? ⟨gb372,7,none⟩=some (.int .i64 0):=(zr4 Ad.out 7).trans rfl
 have hfs170:=zr5 Ad.out 7
 have hns170_0:=Aj.out
 have hns170_1:=Ak.out
 have hns170_2:=Af.out
 have hns170_4:=Am.out
 have hns170_5:=Ay.out
 have hms170_0:=Ap.out
 have hms170_1:=Aq.out
 have hms170_2:=Ag.out
 have hms170_4:=Ah.out
 have hms170_5:=Az.out
 have hs171:Bf.cell? ⟨gb372,8,none⟩=some (.slice none 0 0):=(zr4 Ad.out 8).trans rfl
 have hfs171:=zr5 Ad.out 8
 have hns171_0:=Aj.out
 have hns171_1:=Ak.out
 have hns171_2:=Af.out
 have hns171_4:=Am.out
 have hns171_5:=Ay.out
 have hms171_0:=Ap.out
 have hms171_1:=Aq.out
 have hms171_2:=Ag.out
 have hms171_4:=Ah.out
 have hms171_5:=Az.out
 refine skip_ (w1:=?_) (by rfl) rfl ?_ ?_
 rotate_left
 ·go_simp
  rfl
 refine hK.out _ _ ⟨(fr9 Am.out hHeld.1),(fr9 Am.out hHeld.2.1),(fr9 Am.out hHeld.2.2.1),(fr9 Am.out hHeld.2.2.2.1),(fr9 Am.out hHeld.2.2.2.2.1),(fr9 Ay.out hHeld.2.2.2.2.2.1),(fr9 Ay.out hHeld.2.2.2.2.2.2.1),(fr9 Ay.out hHeld.2.2.2.2.2.2.2)⟩ (fun hHeld=>?_)
 clear hK K
 refine pA 12 (some 6) (bm 13 8191) rfl rfl HT_.out (by kernel_rfl) (fun _ _ _ h=>h) (by rfl) (by intro w';go_simp;with_reducible rfl) (by simp only [Act.put,zs1,zs2,zs3,i64_w,i32_w];rfl) ?_
 refine done_ (done_of HT_.out (by kernel_rfl)) ?_
 try go_wp2
 refine bodyPost_ret (results_list (rs:=[.cell 4 78,.cell 5 102,.tmp 6]) rfl (by simp) (.cell gb371 78 #[.int .i64 (wrap64 (a1_0 - 1)),.slice Ao149 t388.length co149,.int .i64 t378,.int .i64 (wrap64 (a1_3+1)),.bool t380] (0,0) _ rfl (yv12 Af.out Ac.out) Try.underlying78 rfl (by kernel_rfl) (.cell gb372 102 #[.int .i64 3,.int .i64 0,.int .i64 0,.bool false,.bool false,.int .i64 0,.int .i64 ((rd_T39 t375 0).f0),.int .i64 ((rd_T39 t375 0).f1),.slice Ao157 y394.length co157] (0,0) _ rfl (yv13 Ag.out Ad.out) Try.underlying102 rfl (by kernel_rfl) (.tmp .nil)))) rfl ?_
 exact ⟨_,_,by first|rfl|(simp [errW_none,errW_some] <;> rfl)|(simp [*,errW_none,errW_some] <;> rfl),by (with_reducible repeat (first|apply Kd.S_alloc|apply Kd.S_drewN|apply Kd.S_drew));exact Kd.S_mono (Kd.S_far (p:=⟨gb372,8,none⟩) (Kd.S_far (p:=⟨gb372,7,none⟩) (Kd.S_far (p:=⟨gb372,6,none⟩) (Kd.S_far (p:=⟨gb372,5,none⟩) (Kd.S_far (p:=⟨gb372,4,none⟩) (Kd.S_far (p:=⟨gb372,3,none⟩) (Kd.S_far (p:=⟨gb372,2,none⟩) (Kd.S_far (p:=⟨gb372,1,none⟩) (Kd.S_far (p:=⟨gb372,0,none⟩) (Kd.S_far (p:=⟨gb371,4,none⟩) (Kd.S_far (p:=⟨gb371,3,none⟩) (Kd.S_far (p:=⟨gb371,2,none⟩) (Kd.S_far (p:=⟨gb371,1,none⟩) (Kd.S_far (p:=⟨gb371,0,none⟩) (Kd.S_types (Kd.S_types A8.out Ac.out (by decide)) Ad.out (by decide)) (fun _ hk=>hk.1.2) (.int .i64 (wrap64 (a1_0 - 1)))) (fun _ hk=>hk.1.2) (.slice Ao149 t388.length co149)) (fun _ hk=>hk.1.2) (.int .i64 t378)) (fun _ hk=>hk.1.2) (.int .i64 (wrap64 (a1_3+1)))) (fun _ hk=>hk.1.2) (.bool t380)) (fun _ hk=>hk.2) (.int .i64 3)) (fun _ hk=>hk.2) (.int .i64 0)) (fun _ hk=>hk.2) (.int .i64 0)) (fun _ hk=>hk.2) (.bool false)) (fun _ hk=>hk.2) (.bool false)) (fun _ hk=>hk.2) (.int .i64 0)) (fun _ hk=>hk.2) (.int .i64 ((rd_T39 t375 0).f0))) (fun _ hk=>hk.2) (.int .i64 ((rd_T39 t375 0).f1))) (fun _ hk=>hk.2) (.slice Ao157 y394.length co157)) (fun _ hk=>hk.1.1.2),by (with_reducible repeat (first|apply Kd.R_alloc|apply Kd.R_drewN|apply Kd.R_drew));exact Kd.R_mono (Kd.R_far (p:=⟨gb372,8,none⟩) (Kd.R_far (p:=⟨gb372,7,none⟩) (Kd.R_far (p:=⟨gb372,6,none⟩) (Kd.R_far (p:=⟨gb372,5,none⟩) (Kd.R_far (p:=⟨gb372,4,none⟩) (Kd.R_far (p:=⟨gb372,3,none⟩) (Kd.R_far (p:=⟨gb372,2,none⟩) (Kd.R_far (p:=⟨gb372,1,none⟩) (Kd.R_far (p:=⟨gb372,0,none⟩) (Kd.R_far (p:=⟨gb371,4,none⟩) (Kd.R_far (p:=⟨gb371,3,none⟩) (Kd.R_far (p:=⟨gb371,2,none⟩) (Kd.R_far (p:=⟨gb371,1,none⟩) (Kd.R_far (p:=⟨gb371,0,none⟩) (Kd.R_types (Kd.R_types Bz.out Ac.out (by decide)) Ad.out (by decide)) (fun _ hk=>hk.1.2) (.int .i64 (wrap64 (a1_0 - 1)))) (fun _ hk=>hk.1.2) (.slice Ao149 t388.length co149)) (fun _ hk=>hk.1.2) (.int .i64 t378)) (fun _ hk=>hk.1.2) (.int .i64 (wrap64 (a1_3+1)))) (fun _ hk=>hk.1.2) (.bool t380)) (fun _ hk=>hk.2) (.int .i64 3)) (fun _ hk=>hk.2) (.int .i64 0)) (fun _ hk=>hk.2) (.int .i64 0)) (fun _ hk=>hk.2) (.bool false)) (fun _ hk=>hk.2) (.bool false)) (fun _ hk=>hk.2) (.int .i64 0)) (fun _ hk=>hk.2) (.int .i64 ((rd_T39 t375 0).f0))) (fun _ hk=>hk.2) (.int .i64 ((rd_T39 t375 0).f1))) (fun _ hk=>hk.2) (.slice Ao157 y394.length co157)) (fun _ hk=>trivial),by exact yu1 HB.out⟩

end Go.Proofs.Yteknaofnageihaa.QFnCrdTxOk
