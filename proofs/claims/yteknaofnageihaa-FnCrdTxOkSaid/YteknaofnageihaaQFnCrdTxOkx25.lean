-- Written by a program of this session, a turned copy of the print (not by print.sh itself). Lean checks it.
import Derived.Test.YteknaofnageihaaQFnCrdTxOkx0
import Derived.Test.YteknaofnageihaaQFnCrdTxOkx4
import Derived.Test.YteknaofnageihaaQFnCrdTxOkx9
import Derived.Test.YteknaofnageihaaQFnCrdTxOkx23
namespace Go.Proofs.Yteknaofnageihaa.QFnCrdTxOk
open Go.RowKit Go.Proofs.YteknaofnageihaaW.PrintWords Go.Proofs.YteknaofnageihaaW.PrintLast Go.Proofs.YteknaofnageihaaW.PrintMore Go.Proofs.YteknaofnageihaaLoc
attribute [local go_sem] max2_int min2_int max_two min_two max_three min_three max_four min_four   -- for this text's walks alone
set_option linter.unusedVariables false
set_option linter.unusedSimpArgs false

/-! ### spec_CrdTake: function 108 -/
def spec_CrdTake.j0 : Nat → Int → Bool → Int → List (S39) → Int → Int → Bool → Option (Int × (List (S39)) × Int × Int × Bool)
  | 0, _, _, _, _, _, _, _ => none
  | k + 1, x2, x16, x358000, x358001, x358002, x358003, x358004 => if x16 = true then (some (0, ([] : List (S39)), 0, 0, false)) else ((spec_l8Tx.f k x358000 x358001 x358002 x358003 x358004).bind fun bt361 => (if x358004 = true then (some (bt361.1, bt361.2.1, bt361.2.2.1, bt361.2.2.2.1, bt361.2.2.2.2)) else (if (wrap64 (x358000 + x2)) > 255 then (some (bt361.1, bt361.2.1, bt361.2.2.1, bt361.2.2.2.1, true)) else (if (wrap64 (x358002 + x2)) > 9999 then (some (bt361.1, bt361.2.1, bt361.2.2.1, bt361.2.2.2.1, true)) else (some (wrap64 (x358000 + x2), bt361.2.1, wrap64 (x358002 + x2), bt361.2.2.2.1, bt361.2.2.2.2))))))
def spec_CrdTake.f (k : Nat) (a0_0 : Int) (a0_1 : Int) (a0_2 : Int) (a0_3 : Int) (a0_4 : Int) (a1_0 : Int) (l1_1 : List (S39)) (a1_2 : Int) (a1_3 : Int) (a1_4 : Bool) (a2 : Int) : Option (Int × (List (S39)) × Int × Int × Bool) := (spec_CrdTxOk.f k a0_0 a0_1 a0_2 a0_3 a0_4 a1_0 l1_1 a1_2 a1_3 a1_4).bind fun t359 => (if t359 = true then ((spec_l1In.f a2 1 255).bind fun t360 => (spec_CrdTake.j0 k a2 (!t360) a1_0 l1_1 a1_2 a1_3 a1_4)) else (spec_CrdTake.j0 k a2 true a1_0 l1_1 a1_2 a1_3 a1_4))
theorem spec_CrdTake.mono_l : ∀ k, (∀ y0 y1 y2 y3 y4 y5 y6, LeO (spec_CrdTake.j0 k y0 y1 y2 y3 y4 y5 y6) (spec_CrdTake.j0 (k + 1) y0 y1 y2 y3 y4 y5 y6))
  | 0 => fun _ _ _ _ _ _ _ r h => by simp [spec_CrdTake.j0] at h
  | k + 1 => by
    have ih0 := spec_CrdTake.mono_l k
    · intro y0 y1 y2 y3 y4 y5 y6
      unfold spec_CrdTake.j0
      repeat' first
      | (with_reducible exact ih0 _ _ _ _ _ _ _)
      | (with_reducible exact spec_CrdTxOk.mono _ _ _ _ _ _ _ _ _ _ _)
      | (with_reducible exact spec_l8Tx.mono _ _ _ _ _ _)
      | (with_reducible exact LeO.refl _)
      | (with_reducible exact LeO.none _)
      | (with_reducible refine LeO.ite ?_ ?_)
      | (with_reducible refine LeO.bind ?_ (fun _ => ?_))
      | exact ih0 _ _ _ _ _ _ _
      | exact spec_CrdTxOk.mono _ _ _ _ _ _ _ _ _ _ _
      | exact spec_l8Tx.mono _ _ _ _ _ _
      | exact LeO.none _
      | refine LeO.ite ?_ ?_
      | refine LeO.bind ?_ (fun _ => ?_)
theorem spec_CrdTake.mono : ∀ a0 a1 a2 a3 a4 a5 a6 a7 a8 a9 a10 k, LeO (spec_CrdTake.f k a0 a1 a2 a3 a4 a5 a6 a7 a8 a9 a10) (spec_CrdTake.f (k + 1) a0 a1 a2 a3 a4 a5 a6 a7 a8 a9 a10) := by
 intro a0 a1 a2 a3 a4 a5 a6 a7 a8 a9 a10 k
 have ih0 := spec_CrdTake.mono_l k
 unfold spec_CrdTake.f
 repeat' first
     | (with_reducible exact ih0 _ _ _ _ _ _ _)
     | (with_reducible exact spec_CrdTxOk.mono _ _ _ _ _ _ _ _ _ _ _)
     | (with_reducible exact spec_l8Tx.mono _ _ _ _ _ _)
     | (with_reducible exact LeO.refl _)
     | (with_reducible exact LeO.none _)
     | (with_reducible refine LeO.ite ?_ ?_)
     | (with_reducible refine LeO.bind ?_ (fun _ => ?_))
     | exact ih0 _ _ _ _ _ _ _
     | exact spec_CrdTxOk.mono _ _ _ _ _ _ _ _ _ _ _
     | exact spec_l8Tx.mono _ _ _ _ _ _
     | exact LeO.none _
     | refine LeO.ite ?_ ?_
     | refine LeO.bind ?_ (fun _ => ?_)
set_option maxHeartbeats 60000000 in
set_option maxRecDepth 100000 in
theorem spec_CrdTake.calls (k : Nat) (a0_0 : Int) (a0_1 : Int) (a0_2 : Int) (a0_3 : Int) (a0_4 : Int) (a1_0 : Int) (A1_1 : Option Addr) (c1_1 : Nat) (l1_1 : List (S39)) (a1_2 : Int) (a1_3 : Int) (a1_4 : Bool) (a2 : Int) (r1 : Int) (r2 : List (S39)) (r3 : Int) (r4 : Int) (r5 : Bool) (w : World) (hr1_1 : Kd.C k39 w A1_1 l1_1.length l1_1) (hc1_1 : l1_1.length ≤ c1_1) (h : spec_CrdTake.f k a0_0 a0_1 a0_2 a0_3 a0_4 a1_0 l1_1 a1_2 a1_3 a1_4 a2 = some (r1, r2, r3, r4, r5)) :
  Calls Try.prog 108 #[.agg #[.int .i64 a0_0,.int .i64 a0_1,.int .i64 a0_2,.int .i64 a0_3,.int .i64 a0_4],.agg #[.int .i64 a1_0,.slice A1_1 l1_1.length c1_1,.int .i64 a1_2,.int .i64 a1_3,.bool a1_4],.int .i64 a2] w fun e w'=>∃ v1_:Value,e=.returned (.agg #[.int .i64 r1,v1_,.int .i64 r3,.int .i64 r4,.bool r5])∧Kd.S k39 39 w' w.heap.size (fun _=>True) v1_ r2∧Below w.heap.size w w':=by
 have hu66:=Try.underlying66
 have hu78:=Try.underlying78
 have As:=mk_ hr1_1
 have At:=mk_ hc1_1
 clear hr1_1 hc1_1
 have HB:=mk_ (Below.refl w.heap.size w)
 have H:((spec_CrdTxOk.f k a0_0 a0_1 a0_2 a0_3 a0_4 a1_0 l1_1 a1_2 a1_3 a1_4).bind fun t359=>(if t359=true then ((spec_l1In.f a2 1 255).bind fun t360=>(spec_CrdTake.j0 k a2 (!t360) a1_0 l1_1 a1_2 a1_3 a1_4)) else (spec_CrdTake.j0 k a2 true a1_0 l1_1 a1_2 a1_3 a1_4)))=some (r1,r2,r3,r4,r5):=h
 clear h
 have B3:=mk_ H
 clear H
 go_enter Try.func108,Try.ntmps108
 go_upto_region 1 with (first|((with_reducible refine gate_dst (N:=3) rfl ?_);refine box_event ?hg (N:=3) ?hd (cs:=#[.int .i64 a0_0,.int .i64 a0_1,.int .i64 a0_2,.int .i64 a0_3,.int .i64 a0_4]) (t:=66) ?hr ?_;(case hd=>rfl);(case hg=>rfl);(case hr=>first|(go_simp;done)|(go_simp;rfl));intro gb356 hg w5 hbox hb;have Ac:=mk_ (hbox);have B6:=mk_ ((by rw [hg];exact (zr2 (yu0 HB.out)):w.heap.size≤gb356));have G2:=B6;replace HB:=mk_ (zr3 (yu0 HB.out) hb);clear hb hbox hg)|((with_reducible refine gate_dst (N:=4) rfl ?_);refine box_event ?hg (N:=4) ?hd (cs:=#[.int .i64 a1_0,.slice A1_1 l1_1.length c1_1,.int .i64 a1_2,.int .i64 a1_3,.bool a1_4]) (t:=78) ?hr ?_;(case hd=>rfl);(case hg=>rfl);(case hr=>first|(go_simp;done)|(go_simp;rfl));intro gb357 hg w6 hbox hb;have Aa:=mk_ (hbox);have B7:=mk_ ((by rw [hg];exact (zr2 (yu1 HB.out)):w.heap.size≤gb357));have G3:=B7;replace HB:=mk_ (zr3 (yu1 HB.out) hb);have Ak:=mk_ ((by rw [hg];exact zm2 (zr6 (by exact Ac.out)):gb356≠gb357));replace Ac:=mk_ (zq6 (by exact Ac.out) hb);have Aq:=mk_ Ak.out.symm;clear hb hbox hg)|((with_reducible refine gate_dst (N:=6) rfl ?_);refine box_event ?hg (N:=6) ?hd (cs:=#[.int .i64 0,.slice none 0 0,.int .i64 0,.int .i64 0,.bool false]) (t:=78) ?hr ?_;(case hd=>rfl);(case hg=>rfl);(case hr=>first|(go_simp;done)|(go_simp;rfl));intro gb358 hg w7 hbox hb;have Ab:=mk_ (hbox);have B8:=mk_ ((by rw [hg];exact (zr2 (yu1 HB.out)):w.heap.size≤gb358));have G4:=B8;replace HB:=mk_ (zr3 (yu1 HB.out) hb);have Ai:=mk_ ((by rw [hg];exact zm2 (zr6 (by exact Ac.out)):gb356≠gb358));replace Ac:=mk_ (zq6 (by exact Ac.out) hb);have Al:=mk_ Ai.out.symm;have Aj:=mk_ ((by rw [hg];exact zm2 (zr6 (by exact Aa.out)):gb357≠gb358));replace Aa:=mk_ (zq6 (by exact Aa.out) hb);have Am:=mk_ Aj.out.symm;clear hb hbox hg))
 (try simp only [Act.put,List.setIfInBounds_toArray,List.set_cons_zero,List.set_cons_succ])
 go_cut [16] (fun v16 wc=>∃ (kq:Nat) (Au:Bool),v16=.bool Au∧Aside0 (spec_CrdTake.j0 kq a2 Au a1_0 l1_1 a1_2 a1_3 a1_4=some (r1,r2,r3,r4,r5))∧Aside0 (kq≤k)∧Aside0 (wc.heap[gb356]? =some (.cells #[.int .i64 a0_0,.int .i64 a0_1,.int .i64 a0_2,.int .i64 a0_3,.int .i64 a0_4] 66 (0,0)))∧Aside0 (wc.heap[gb357]? =some (.cells #[.int .i64 a1_0,(.slice A1_1 l1_1.length c1_1),.int .i64 a1_2,.int .i64 a1_3,.bool a1_4] 78 (0,0)))∧Aside0 (wc.heap[gb358]? =some (.cells #[.int .i64 0,(.slice none 0 0),.int .i64 0,.int .i64 0,.bool false] 78 (0,0)))∧Aside0 (Below w.heap.size w wc))
 case first =>
  have H:=B3.out
  clear B3
  replace H:=Option.bind_eq_some_iff.mp H
  obtain ⟨t359,B9,H⟩:=H
  try dsimp only at H
  have A8:=mk_ B9
  clear B9
  by_cases c9:t359=true
  ·subst c9
   have H1:((spec_l1In.f a2 1 255).bind fun t360=>(spec_CrdTake.j0 k a2 (!t360) a1_0 l1_1 a1_2 a1_3 a1_4))=some (r1,r2,r3,r4,r5):=by rw [if_pos rfl] at H;exact H
   clear H
   have H:=H1
   clear H1
   replace H:=Option.bind_eq_some_iff.mp H
   obtain ⟨t360,B4,H⟩:=H
   try dsimp only at H
   have G1:=mk_ B4
   clear B4
   have H':=mk_ H
   clear H
   have G5:=Ak.out
   have G6:=Aq.out
   have G7:=Ai.out
   have G8:=Al.out
   obtain ⟨Ay,Az,A0,A1,A2⟩:=cz5 Ac.out
   obtain ⟨A3,A4,A5,A6,A7⟩:=fz5 Ac.out
   have G9:=Aj.out
   have Ha:=Am.out
   obtain ⟨A9,Ba,Bb,Bc,Bd⟩:=cz5 Aa.out
   obtain ⟨Be,Bf,Bg,Bh,Bi⟩:=fz5 Aa.out
   go_wp2_with (first|((with_reducible refine gate_callee (f:=54) rfl ?_);refine goesL_ (some 10) rfl rfl Try.func54 (by kernel_rfl) rfl #[.agg #[.int .i64 a0_0,.int .i64 a0_1,.int .i64 a0_2,.int .i64 a0_3,.int .i64 a0_4],.agg #[.int .i64 a1_0,.slice A1_1 l1_1.length c1_1,.int .i64 a1_2,.int .i64 a1_3,.bool a1_4]] rfl am ?_;(with_reducible refine (spec_CrdTxOk.calls k a0_0 a0_1 a0_2 a0_3 a0_4 a1_0 _ _ l1_1 a1_2 a1_3 a1_4 true _ ?side1 ?side2 A8.out).mono ?_);(case side1=>repeat (first|exact (Kd.C_below As.out HB.out)|(with_reducible refine Kd.C_alloc ?_ _)|(with_reducible refine Kd.C_drewN ?_ _)|(with_reducible refine Kd.C_drew ?_)));(case side2=>exact At.out);rintro e Iy ⟨rfl,hb⟩;refine ⟨_,rfl,?_⟩;replace Ac:=mk_ (zq6 (by exact Ac.out) hb);replace Aa:=mk_ (zq6 (by exact Aa.out) hb);replace Ab:=mk_ (zq6 (by exact Ab.out) hb);replace HB:=mk_ (zr3 (yu1 HB.out) hb);(try clear hb);(try clear hb2);(try clear hk);(try clear hi))|(go_at_call 64;(with_reducible refine (spec_l1In.calls a2 1 255 t360 _ G1.out).mono ?_);rintro e w' ⟨rfl,⟨nd,rfl⟩⟩))
   go_meet
   case rel=>exact ⟨_,(!t360),(by first|rfl|(simp;done)|(simp [*];done)),H',⟨by first|omega|exact Nat.le_refl _⟩,⟨by (with_reducible repeat (first|refine zq1 ?_ _|refine zq2 ?_|refine zq3 ?_ _));exact Ac.out⟩,⟨by (with_reducible repeat (first|refine zq1 ?_ _|refine zq2 ?_|refine zq3 ?_ _));exact Aa.out⟩,⟨by (with_reducible repeat (first|refine zq1 ?_ _|refine zq2 ?_|refine zq3 ?_ _));exact Ab.out⟩,⟨by exact yu1 HB.out⟩⟩
  ·replace c9:=Bool.eq_false_iff.mpr c9
   subst c9
   have H1:(spec_CrdTake.j0 k a2 true a1_0 l1_1 a1_2 a1_3 a1_4)=some (r1,r2,r3,r4,r5):=by rw [if_neg (show ¬ (false=true) by decide)] at H;exact H
   clear H
   have H:=H1
   clear H1
   have H':=mk_ H
   clear H
   have Hb:=Ak.out
   have Hc:=Aq.out
   have Hd:=Ai.out
   have He:=Al.out
   obtain ⟨Bj,Bk,Bl,Bm,Bn⟩:=cz5 Ac.out
   obtain ⟨Bo,Bp,Bq,Br,Bs⟩:=fz5 Ac.out
   have Hf:=Aj.out
   have Hg:=Am.out
   obtain ⟨Bt,Bu,Bv,Bw,Bx⟩:=cz5 Aa.out
   obtain ⟨By,Bz,B0,B1,B2⟩:=fz5 Aa.out
   go_wp2_with (first|((with_reducible refine gate_callee (f:=54) rfl ?_);refine goesL_ (some 10) rfl rfl Try.func54 (by kernel_rfl) rfl #[.agg #[.int .i64 a0_0,.int .i64 a0_1,.int .i64 a0_2,.int .i64 a0_3,.int .i64 a0_4],.agg #[.int .i64 a1_0,.slice A1_1 l1_1.length c1_1,.int .i64 a1_2,.int .i64 a1_3,.bool a1_4]] rfl am ?_;(with_reducible refine (spec_CrdTxOk.calls k a0_0 a0_1 a0_2 a0_3 a0_4 a1_0 _ _ l1_1 a1_2 a1_3 a1_4 false _ ?side1 ?side2 A8.out).mono ?_);(case side1=>repeat (first|exact (Kd.C_below As.out HB.out)|(with_reducible refine Kd.C_alloc ?_ _)|(with_reducible refine Kd.C_drewN ?_ _)|(with_reducible refine Kd.C_drew ?_)));(case side2=>exact At.out);rintro e Iz ⟨rfl,hb⟩;refine ⟨_,rfl,?_⟩;replace Ac:=mk_ (zq6 (by exact Ac.out) hb);replace Aa:=mk_ (zq6 (by exact Aa.out) hb);replace Ab:=mk_ (zq6 (by exact Ab.out) hb);replace HB:=mk_ (zr3 (yu1 HB.out) hb);(try clear hb);(try clear hb2);(try clear hk);(try clear hi)))
   go_meet
   case rel=>exact ⟨_,(true),(by first|rfl|(simp;done)|(simp [*];done)),H',⟨by first|omega|exact Nat.le_refl _⟩,⟨by (with_reducible repeat (first|refine zq1 ?_ _|refine zq2 ?_|refine zq3 ?_ _));exact Ac.out⟩,⟨by (with_reducible repeat (first|refine zq1 ?_ _|refine zq2 ?_|refine zq3 ?_ _));exact Aa.out⟩,⟨by (with_reducible repeat (first|refine zq1 ?_ _|refine zq2 ?_|refine zq3 ?_ _));exact Ab.out⟩,⟨by exact yu1 HB.out⟩⟩
 case rest =>
  clear B3
  try clear c1
  try clear c2
  try clear p2
  try clear c5
  try clear c9
  try clear c10
  try clear c11
  try clear c12
  try clear c14
  try clear c17
  try clear c18
  try clear c20
  try clear Ay Az A0 A1 A2
  try clear A9 Ba Bb Bc Bd
  try clear Bj Bk Bl Bm Bn
  try clear Bt Bu Bv Bw Bx
  try clear A3 A4 A5 A6 A7
  try clear Be Bf Bg Bh Bi
  try clear Bo Bp Bq Br Bs
  try clear By Bz B0 B1 B2
  obtain ⟨kq,Au,rfl,HA,HJ3,Ac,Aa,Ab,HB⟩:=hcut
  cases kq with
  |zero=>exact absurd HA.out (by simp [spec_CrdTake.j0])
  |succ Aw =>
   have H:=HA.out
   clear HA
   simp only [spec_CrdTake.j0] at H
   by_cases c23:Au=true
   ·subst c23
    have H1:(some (0,([]:List (S39)),0,0,false))=some (r1,r2,r3,r4,r5):=by rw [if_pos rfl] at H;exact H
    clear H
    have H:=H1
    clear H1
    simp only [Option.some.injEq,Prod.mk.injEq] at H
    obtain ⟨rfl,rfl,rfl,rfl,rfl⟩:=H
    have Hh:=Al.out
    have Hi:=Ai.out
    have Hj:=Am.out
    have Hk:=Aj.out
    obtain ⟨Ca,Cb,Cc,Cd,Ce⟩:=cz5 Ab.out
    obtain ⟨Cf,Cg,Ch,Ci,Cj⟩:=fz5 Ab.out
    go_wp2
    refine bodyPost_ret (results_cell_row rfl _ _ gb358 78 #[.int .i64 0,.slice none 0 0,.int .i64 0,.int .i64 0,.bool false] (0,0) _ rfl (yv6 Ab.out) Try.underlying78 rfl (by kernel_rfl)) rfl ?_
    exact ⟨_,by first|rfl|(simp [errW_none,errW_some] <;> rfl)|(simp [*,errW_none,errW_some] <;> rfl),by first|exact Kd.S_nil _ _ _ _ _|exact Kd.N_nil _ _ _ _ _|exact Kd.V_nil _ _ _ _ _|exact Kd.Q_nil _ _ _ _ _|exact Kd.R_nil _ _ _ _ _,by exact yu1 HB.out⟩
   ·replace c23:=Bool.eq_false_iff.mpr c23
    subst c23
    have H1:((spec_l8Tx.f Aw a1_0 l1_1 a1_2 a1_3 a1_4).bind fun bt361=>(if a1_4=true then (some (bt361.1,bt361.2.1,bt361.2.2.1,bt361.2.2.2.1,bt361.2.2.2.2)) else (if (wrap64 (a1_0+a2)) > 255 then (some (bt361.1,bt361.2.1,bt361.2.2.1,bt361.2.2.2.1,true)) else (if (wrap64 (a1_2+a2)) > 9999 then (some (bt361.1,bt361.2.1,bt361.2.2.1,bt361.2.2.2.1,true)) else (some (wrap64 (a1_0+a2),bt361.2.1,wrap64 (a1_2+a2),bt361.2.2.2.1,bt361.2.2.2.2))))))=some (r1,r2,r3,r4,r5):=by rw [if_neg (show ¬ (false=true) by decide)] at H;exact H
    clear H
    have H:=H1
    clear H1
    replace H:=Option.bind_eq_some_iff.mp H
    obtain ⟨⟨t361,t362,t365,t366,t367⟩,B5,H⟩:=H
    try dsimp only at H
    have Ax:=mk_ B5
    clear B5
    by_cases c28:a1_4=true
    ·subst c28
     have H1:(some (t361,t362,t365,t366,t367))=some (r1,r2,r3,r4,r5):=by rw [if_pos rfl] at H;exact H
     clear H
     have H:=H1
     clear H1
     simp only [Option.some.injEq,Prod.mk.injEq] at H
     obtain ⟨rfl,rfl,rfl,rfl,rfl⟩:=H
     have Hl:=Aq.out
     have Hm:=Ak.out
     have Hn:=Aj.out
     have Ho:=Am.out
     obtain ⟨Ck,Cl,Cm,Cn,Co⟩:=cz5 Aa.out
     obtain ⟨Cp,Cq,Cr,Cs,Ct⟩:=fz5 Aa.out
     go_wp2_with (first|((with_reducible refine gate_callee (f:=117) rfl ?_);refine goesL_ (some 19) rfl rfl Try.func117 (by kernel_rfl) rfl #[.agg #[.int .i64 a1_0,.slice A1_1 l1_1.length c1_1,.int .i64 a1_2,.int .i64 a1_3,.bool true]] rfl am ?_;(with_reducible refine (spec_l8Tx.calls Aw a1_0 _ _ l1_1 a1_2 a1_3 true t361 t362 t365 t366 t367 _ ?side1 ?side2 Ax.out).mono ?_);(case side1=>repeat (first|exact (Kd.C_below As.out HB.out)|(with_reducible refine Kd.C_alloc ?_ _)|(with_reducible refine Kd.C_drewN ?_ _)|(with_reducible refine Kd.C_drew ?_)));(case side2=>exact At.out);rintro e I0 ⟨v363,rfl,ho0,hb⟩;refine ⟨_,rfl,?_⟩;have Ag:=mk_ (Kd.S_lower ho0 (zr2 (yu1 HB.out)));replace Ac:=mk_ (zq6 (by exact Ac.out) hb);replace Aa:=mk_ (zq6 (by exact Aa.out) hb);replace Ab:=mk_ (zq6 (by exact Ab.out) hb);replace HB:=mk_ (zr3 (yu1 HB.out) hb);(try clear hb);(try clear hb2);(try clear hk);(try clear hi);(try clear ho0))|((with_reducible refine gate_dst (N:=7) rfl ?_);refine box_event ?hg (N:=7) ?hd (cs:=#[.int .i64 0,.slice none 0 0,.int .i64 0,.int .i64 0,.bool false]) (t:=78) ?hr ?_;(case hd=>rfl);(case hg=>rfl);(case hr=>first|(go_simp;done)|(go_simp;rfl));intro gb368 hg I1 hbox hb;replace Ag:=mk_ (Kd.S_below (mS Ag.out) hb);have Ah:=mk_ (hbox);have Ar:=mk_ ((by rw [hg];exact (zr2 (yu1 HB.out)):w.heap.size≤gb368));have Av:=Ar;replace HB:=mk_ (zr3 (yu1 HB.out) hb);have Ae:=mk_ ((by rw [hg];exact zm2 (zr6 (by exact Ac.out)):gb356≠gb368));replace Ac:=mk_ (zq6 (by exact Ac.out) hb);have An:=mk_ Ae.out.symm;have Af:=mk_ ((by rw [hg];exact zm2 (zr6 (by exact Aa.out)):gb357≠gb368));replace Aa:=mk_ (zq6 (by exact Aa.out) hb);have Ao:=mk_ Af.out.symm;have Ad:=mk_ ((by rw [hg];exact zm2 (zr6 (by exact Ab.out)):gb358≠gb368));replace Ab:=mk_ (zq6 (by exact Ab.out) hb);have Ap:=mk_ Ad.out.symm;clear hb hbox hg;have Hp:=An.out;have Hq:=Ae.out;have Hr:=Ao.out;have Hs:=Af.out;have Ht:=Ap.out;have Hu:=Ad.out;obtain ⟨Cu,Cv,Cw,Cx,Cy⟩:=cz5 Ah.out;obtain ⟨Cz,C0,C1,C2,C3⟩:=fz5 Ah.out;obtain ⟨Ao38,co38,eo38⟩:=Kd.S_slice Ag.out;subst eo38;obtain ⟨C4,C5,C6,C7,C8⟩:=cz5 Aa.out;obtain ⟨C9,Da,Db,Dc,Dd⟩:=fz5 Aa.out;have Hv:=Al.out;have Hw:=Ai.out;obtain ⟨De,Df,Dg,Dh,Di⟩:=cz5 Ab.out;obtain ⟨Dj,Dk,Dl,Dm,Dn⟩:=fz5 Ab.out))
     refine bodyPost_ret (results_cell_row rfl _ _ gb358 78 #[.int .i64 t361,.slice Ao38 t362.length co38,.int .i64 t365,.int .i64 t366,.bool t367] (0,0) _ rfl (yv9 Ad.out Ab.out) Try.underlying78 rfl (by kernel_rfl)) rfl ?_
     exact ⟨_,by first|rfl|(simp [errW_none,errW_some] <;> rfl)|(simp [*,errW_none,errW_some] <;> rfl),by (with_reducible repeat (first|apply Kd.S_alloc|apply Kd.S_drewN|apply Kd.S_drew));exact Kd.S_mono (Kd.S_far (p:=⟨gb358,4,none⟩) (Kd.S_far (p:=⟨gb358,3,none⟩) (Kd.S_far (p:=⟨gb358,2,none⟩) (Kd.S_far (p:=⟨gb358,1,none⟩) (Kd.S_far (p:=⟨gb358,0,none⟩) (Kd.S_far (p:=⟨gb368,4,none⟩) (Kd.S_far (p:=⟨gb368,3,none⟩) (Kd.S_far (p:=⟨gb368,2,none⟩) (Kd.S_far (p:=⟨gb368,1,none⟩) (Kd.S_far (p:=⟨gb368,0,none⟩) (Kd.S_types (Kd.S_types Ag.out Ah.out (by decide)) Ab.out (by decide)) (fun _ hk=>hk.1.2) (.int .i64 t361)) (fun _ hk=>hk.1.2) (.slice Ao38 t362.length co38)) (fun _ hk=>hk.1.2) (.int .i64 t365)) (fun _ hk=>hk.1.2) (.int .i64 t366)) (fun _ hk=>hk.1.2) (.bool t367)) (fun _ hk=>hk.2) (.int .i64 t361)) (fun _ hk=>hk.2) (.slice Ao38 t362.length co38)) (fun _ hk=>hk.2) (.int .i64 t365)) (fun _ hk=>hk.2) (.int .i64 t366)) (fun _ hk=>hk.2) (.bool t367)) (fun _ hk=>trivial),by exact yu1 HB.out⟩
    ·replace c28:=Bool.eq_false_iff.mpr c28
     subst c28
     have H1:(if (wrap64 (a1_0+a2)) > 255 then (some (t361,t362,t365,t366,true)) else (if (wrap64 (a1_2+a2)) > 9999 then (some (t361,t362,t365,t366,true)) else (some (wrap64 (a1_0+a2),t362,wrap64 (a1_2+a2),t366,t367))))=some (r1,r2,r3,r4,r5):=by rw [if_neg (show ¬ (false=true) by decide)] at H;exact H
     clear H
     have H:=H1
     clear H1
     by_cases c42:(wrap64 (a1_0+a2)) > 255
     ·rw [if_pos c42] at H
      have c42b0:decide (255<(wrap64 (a1_0+a2)))=true:=decide_eq_true c42
      clear c42
      simp only [Option.some.injEq,Prod.mk.injEq] at H
      obtain ⟨rfl,rfl,rfl,rfl,rfl⟩:=H
      have Hx:=Aq.out
      have Hy:=Ak.out
      have Hz:=Aj.out
      have H0:=Am.out
      obtain ⟨Do,Dp,Dq,Dr,Ds⟩:=cz5 Aa.out
      obtain ⟨Dt,Du,Dv,Dw,Dx⟩:=fz5 Aa.out
      go_wp2_with (first|((with_reducible refine gate_ld (t:=78) (x:=.tmp 7) rfl ?_);refine wpList_load_row rfl 78 _ rfl _ rfl _ _ _ _ (show _=some (Obj.cells #[.int .i64 t361,.slice Ao52 t362.length co52,.int .i64 t365,.int .i64 t366,.bool true] 78 (0,0)) from by (with_reducible repeat (first|refine zq1 ?_ _|refine zq2 ?_|refine zq3 ?_ _));refine zq4 (cs:=#[.int .i64 t361,.slice Ao52 t362.length co52,.int .i64 t365,.int .i64 t366,.bool t367]) ?_ 4 _ rfl;(with_reducible repeat (first|refine zq1 ?_ _|refine zq2 ?_|refine zq3 ?_ _));apply pu5;(with_reducible repeat (first|refine zq1 ?_ _|refine zq2 ?_|refine zq3 ?_ _));exact Ah.out) Try.underlying78 rfl (by kernel_rfl) ?_)|((with_reducible refine gate_callee (f:=117) rfl ?_);refine goesL_ (some 19) rfl rfl Try.func117 (by kernel_rfl) rfl #[.agg #[.int .i64 a1_0,.slice A1_1 l1_1.length c1_1,.int .i64 a1_2,.int .i64 a1_3,.bool false]] rfl am ?_;(with_reducible refine (spec_l8Tx.calls Aw a1_0 _ _ l1_1 a1_2 a1_3 false t361 t362 t365 t366 t367 _ ?side1 ?side2 Ax.out).mono ?_);(case side1=>repeat (first|exact (Kd.C_below As.out HB.out)|(with_reducible refine Kd.C_alloc ?_ _)|(with_reducible refine Kd.C_drewN ?_ _)|(with_reducible refine Kd.C_drew ?_)));(case side2=>exact At.out);rintro e I2 ⟨v363,rfl,ho0,hb⟩;refine ⟨_,rfl,?_⟩;have Ag:=mk_ (Kd.S_lower ho0 (zr2 (yu1 HB.out)));replace Ac:=mk_ (zq6 (by exact Ac.out) hb);replace Aa:=mk_ (zq6 (by exact Aa.out) hb);replace Ab:=mk_ (zq6 (by exact Ab.out) hb);replace HB:=mk_ (zr3 (yu1 HB.out) hb);(try clear hb);(try clear hb2);(try clear hk);(try clear hi);(try clear ho0))|((with_reducible refine gate_dst (N:=7) rfl ?_);refine box_event ?hg (N:=7) ?hd (cs:=#[.int .i64 0,.slice none 0 0,.int .i64 0,.int .i64 0,.bool false]) (t:=78) ?hr ?_;(case hd=>rfl);(case hg=>rfl);(case hr=>first|(go_simp;done)|(go_simp;rfl));intro gb368 hg I3 hbox hb;replace Ag:=mk_ (Kd.S_below (mS Ag.out) hb);have Ah:=mk_ (hbox);have Ar:=mk_ ((by rw [hg];exact (zr2 (yu1 HB.out)):w.heap.size≤gb368));have Av:=Ar;replace HB:=mk_ (zr3 (yu1 HB.out) hb);have Ae:=mk_ ((by rw [hg];exact zm2 (zr6 (by exact Ac.out)):gb356≠gb368));replace Ac:=mk_ (zq6 (by exact Ac.out) hb);have An:=mk_ Ae.out.symm;have Af:=mk_ ((by rw [hg];exact zm2 (zr6 (by exact Aa.out)):gb357≠gb368));replace Aa:=mk_ (zq6 (by exact Aa.out) hb);have Ao:=mk_ Af.out.symm;have Ad:=mk_ ((by rw [hg];exact zm2 (zr6 (by exact Ab.out)):gb358≠gb368));replace Ab:=mk_ (zq6 (by exact Ab.out) hb);have Ap:=mk_ Ad.out.symm;clear hb hbox hg;have H2:=An.out;have H3:=Ae.out;have H4:=Ao.out;have H5:=Af.out;have H6:=Ap.out;have H7:=Ad.out;obtain ⟨Dy,Dz,D0,D1,D2⟩:=cz5 Ah.out;obtain ⟨D3,D4,D5,D6,D7⟩:=fz5 Ah.out;obtain ⟨Ao52,co52,eo52⟩:=Kd.S_slice Ag.out;subst eo52;obtain ⟨D8,D9,Ea,Eb,Ec⟩:=cz5 Aa.out;obtain ⟨Ed,Ee,Ef,Eg,Eh⟩:=fz5 Aa.out;have H8:=Al.out;have H9:=Ai.out;obtain ⟨Ei,Ej,Ek,El,Em⟩:=cz5 Ab.out;obtain ⟨En,Eo,Ep,Eq,Er⟩:=fz5 Ab.out))
      refine bodyPost_ret (results_cell_row rfl _ _ gb358 78 #[.int .i64 t361,.slice Ao52 t362.length co52,.int .i64 t365,.int .i64 t366,.bool true] (0,0) _ rfl (yv10 Ad.out Ab.out) Try.underlying78 rfl (by kernel_rfl)) rfl ?_
      exact ⟨_,by first|rfl|(simp [errW_none,errW_some] <;> rfl)|(simp [*,errW_none,errW_some] <;> rfl),by (with_reducible repeat (first|apply Kd.S_alloc|apply Kd.S_drewN|apply Kd.S_drew));exact Kd.S_mono (Kd.S_far (p:=⟨gb358,4,none⟩) (Kd.S_far (p:=⟨gb358,3,none⟩) (Kd.S_far (p:=⟨gb358,2,none⟩) (Kd.S_far (p:=⟨gb358,1,none⟩) (Kd.S_far (p:=⟨gb358,0,none⟩) (Kd.S_far (p:=⟨gb368,4,none⟩) (Kd.S_far (p:=⟨gb368,4,none⟩) (Kd.S_far (p:=⟨gb368,3,none⟩) (Kd.S_far (p:=⟨gb368,2,none⟩) (Kd.S_far (p:=⟨gb368,1,none⟩) (Kd.S_far (p:=⟨gb368,0,none⟩) (Kd.S_types (Kd.S_types Ag.out Ah.out (by decide)) Ab.out (by decide)) (fun _ hk=>hk.1.2) (.int .i64 t361)) (fun _ hk=>hk.1.2) (.slice Ao52 t362.length co52)) (fun _ hk=>hk.1.2) (.int .i64 t365)) (fun _ hk=>hk.1.2) (.int .i64 t366)) (fun _ hk=>hk.1.2) (.bool t367)) (fun _ hk=>hk.1.2) (.bool true)) (fun _ hk=>hk.2) (.int .i64 t361)) (fun _ hk=>hk.2) (.slice Ao52 t362.length co52)) (fun _ hk=>hk.2) (.int .i64 t365)) (fun _ hk=>hk.2) (.int .i64 t366)) (fun _ hk=>hk.2) (.bool true)) (fun _ hk=>trivial),by exact yu1 HB.out⟩
     ·rw [if_neg c42] at H
      have c42b0:decide (255<(wrap64 (a1_0+a2)))=false:=decide_eq_false c42
      clear c42
      by_cases c56:(wrap64 (a1_2+a2)) > 9999
      ·rw [if_pos c56] at H
       have c56b0:decide (9999<(wrap64 (a1_2+a2)))=true:=decide_eq_true c56
       clear c56
       simp only [Option.some.injEq,Prod.mk.injEq] at H
       obtain ⟨rfl,rfl,rfl,rfl,rfl⟩:=H
       have Ia:=Aq.out
       have Ib:=Ak.out
       have Ic:=Aj.out
       have Id:=Am.out
       obtain ⟨Es,Et,Eu,Ev,Ew⟩:=cz5 Aa.out
       obtain ⟨Ex,Ey,Ez,E0,E1⟩:=fz5 Aa.out
       go_wp2_with (first|((with_reducible refine gate_ld (t:=78) (x:=.tmp 7) rfl ?_);refine wpList_load_row rfl 78 _ rfl _ rfl _ _ _ _ (show _=some (Obj.cells #[.int .i64 t361,.slice Ao66 t362.length co66,.int .i64 t365,.int .i64 t366,.bool true] 78 (0,0)) from by (with_reducible repeat (first|refine zq1 ?_ _|refine zq2 ?_|refine zq3 ?_ _));refine zq4 (cs:=#[.int .i64 t361,.slice Ao66 t362.length co66,.int .i64 t365,.int .i64 t366,.bool t367]) ?_ 4 _ rfl;(with_reducible repeat (first|refine zq1 ?_ _|refine zq2 ?_|refine zq3 ?_ _));apply pu5;(with_reducible repeat (first|refine zq1 ?_ _|refine zq2 ?_|refine zq3 ?_ _));exact Ah.out) Try.underlying78 rfl (by kernel_rfl) ?_)|((with_reducible refine gate_callee (f:=117) rfl ?_);refine goesL_ (some 19) rfl rfl Try.func117 (by kernel_rfl) rfl #[.agg #[.int .i64 a1_0,.slice A1_1 l1_1.length c1_1,.int .i64 a1_2,.int .i64 a1_3,.bool false]] rfl am ?_;(with_reducible refine (spec_l8Tx.calls Aw a1_0 _ _ l1_1 a1_2 a1_3 false t361 t362 t365 t366 t367 _ ?side1 ?side2 Ax.out).mono ?_);(case side1=>repeat (first|exact (Kd.C_below As.out HB.out)|(with_reducible refine Kd.C_alloc ?_ _)|(with_reducible refine Kd.C_drewN ?_ _)|(with_reducible refine Kd.C_drew ?_)));(case side2=>exact At.out);rintro e I4 ⟨v363,rfl,ho0,hb⟩;refine ⟨_,rfl,?_⟩;have Ag:=mk_ (Kd.S_lower ho0 (zr2 (yu1 HB.out)));replace Ac:=mk_ (zq6 (by exact Ac.out) hb);replace Aa:=mk_ (zq6 (by exact Aa.out) hb);replace Ab:=mk_ (zq6 (by exact Ab.out) hb);replace HB:=mk_ (zr3 (yu1 HB.out) hb);(try clear hb);(try clear hb2);(try clear hk);(try clear hi);(try clear ho0))|((with_reducible refine gate_dst (N:=7) rfl ?_);refine box_event ?hg (N:=7) ?hd (cs:=#[.int .i64 0,.slice none 0 0,.int .i64 0,.int .i64 0,.bool false]) (t:=78) ?hr ?_;(case hd=>rfl);(case hg=>rfl);(case hr=>first|(go_simp;done)|(go_simp;rfl));intro gb368 hg I5 hbox hb;replace Ag:=mk_ (Kd.S_below (mS Ag.out) hb);have Ah:=mk_ (hbox);have Ar:=mk_ ((by rw [hg];exact (zr2 (yu1 HB.out)):w.heap.size≤gb368));have Av:=Ar;replace HB:=mk_ (zr3 (yu1 HB.out) hb);have Ae:=mk_ ((by rw [hg];exact zm2 (zr6 (by exact Ac.out)):gb356≠gb368));replace Ac:=mk_ (zq6 (by exact Ac.out) hb);have An:=mk_ Ae.out.symm;have Af:=mk_ ((by rw [hg];exact zm2 (zr6 (by exact Aa.out)):gb357≠gb368));replace Aa:=mk_ (zq6 (by exact Aa.out) hb);have Ao:=mk_ Af.out.symm;have Ad:=mk_ ((by rw [hg];exact zm2 (zr6 (by exact Ab.out)):gb358≠gb368));replace Ab:=mk_ (zq6 (by exact Ab.out) hb);have Ap:=mk_ Ad.out.symm;clear hb hbox hg;have Ie:=An.out;have If:=Ae.out;have Ig:=Ao.out;have Ih:=Af.out;have Ii:=Ap.out;have Ij:=Ad.out;obtain ⟨E2,E3,E4,E5,E6⟩:=cz5 Ah.out;obtain ⟨E7,E8,E9,Fa,Fb⟩:=fz5 Ah.out;obtain ⟨Ao66,co66,eo66⟩:=Kd.S_slice Ag.out;subst eo66;obtain ⟨Fc,Fd,Fe,Ff,Fg⟩:=cz5 Aa.out;obtain ⟨Fh,Fi,Fj,Fk,Fl⟩:=fz5 Aa.out;have Ik:=Al.out;have Il:=Ai.out;obtain ⟨Fm,Fn,Fo,Fp,Fq⟩:=cz5 Ab.out;obtain ⟨Fr,Fs,Ft,Fu,Fv⟩:=fz5 Ab.out))
       refine bodyPost_ret (results_cell_row rfl _ _ gb358 78 #[.int .i64 t361,.slice Ao66 t362.length co66,.int .i64 t365,.int .i64 t366,.bool true] (0,0) _ rfl (yv10 Ad.out Ab.out) Try.underlying78 rfl (by kernel_rfl)) rfl ?_
       exact ⟨_,by first|rfl|(simp [errW_none,errW_some] <;> rfl)|(simp [*,errW_none,errW_some] <;> rfl),by (with_reducible repeat (first|apply Kd.S_alloc|apply Kd.S_drewN|apply Kd.S_drew));exact Kd.S_mono (Kd.S_far (p:=⟨gb358,4,none⟩) (Kd.S_far (p:=⟨gb358,3,none⟩) (Kd.S_far (p:=⟨gb358,2,none⟩) (Kd.S_far (p:=⟨gb358,1,none⟩) (Kd.S_far (p:=⟨gb358,0,none⟩) (Kd.S_far (p:=⟨gb368,4,none⟩) (Kd.S_far (p:=⟨gb368,4,none⟩) (Kd.S_far (p:=⟨gb368,3,none⟩) (Kd.S_far (p:=⟨gb368,2,none⟩) (Kd.S_far (p:=⟨gb368,1,none⟩) (Kd.S_far (p:=⟨gb368,0,none⟩) (Kd.S_types (Kd.S_types Ag.out Ah.out (by decide)) Ab.out (by decide)) (fun _ hk=>hk.1.2) (.int .i64 t361)) (fun _ hk=>hk.1.2) (.slice Ao66 t362.length co66)) (fun _ hk=>hk.1.2) (.int .i64 t365)) (fun _ hk=>hk.1.2) (.int .i64 t366)) (fun _ hk=>hk.1.2) (.bool t367)) (fun _ hk=>hk.1.2) (.bool true)) (fun _ hk=>hk.2) (.int .i64 t361)) (fun _ hk=>hk.2) (.slice Ao66 t362.length co66)) (fun _ hk=>hk.2) (.int .i64 t365)) (fun _ hk=>hk.2) (.int .i64 t366)) (fun _ hk=>hk.2) (.bool true)) (fun _ hk=>trivial),by exact yu1 HB.out⟩
      ·rw [if_neg c56] at H
       have c56b0:decide (9999<(wrap64 (a1_2+a2)))=false:=decide_eq_false c56
       clear c56
       simp only [Option.some.injEq,Prod.mk.injEq] at H
       obtain ⟨rfl,rfl,rfl,rfl,rfl⟩:=H
       have Im:=Aq.out
       have In:=Ak.out
       have Io:=Aj.out
       have Ip:=Am.out
       obtain ⟨Fw,Fx,Fy,Fz,F0⟩:=cz5 Aa.out
       obtain ⟨F1,F2,F3,F4,F5⟩:=fz5 Aa.out
       go_wp2_with (first|((with_reducible refine gate_ld (t:=78) (x:=.tmp 7) rfl ?_);refine wpList_load_row rfl 78 _ rfl _ rfl _ _ _ _ (show _=some (Obj.cells #[.int .i64 (wrap64 (a1_0+a2)),.slice Ao79 t362.length co79,.int .i64 (wrap64 (a1_2+a2)),.int .i64 t366,.bool t367] 78 (0,0)) from by (with_reducible repeat (first|refine zq1 ?_ _|refine zq2 ?_|refine zq3 ?_ _));refine zq4 (cs:=#[.int .i64 (wrap64 (a1_0+a2)),.slice Ao79 t362.length co79,.int .i64 t365,.int .i64 t366,.bool t367]) ?_ 2 _ rfl;(with_reducible repeat (first|refine zq1 ?_ _|refine zq2 ?_|refine zq3 ?_ _));refine zq4 (cs:=#[.int .i64 t361,.slice Ao79 t362.length co79,.int .i64 t365,.int .i64 t366,.bool t367]) ?_ 0 _ rfl;(with_reducible repeat (first|refine zq1 ?_ _|refine zq2 ?_|refine zq3 ?_ _));apply pu5;(with_reducible repeat (first|refine zq1 ?_ _|refine zq2 ?_|refine zq3 ?_ _));exact Ah.out) Try.underlying78 rfl (by kernel_rfl) ?_)|((with_reducible refine gate_callee (f:=117) rfl ?_);refine goesL_ (some 19) rfl rfl Try.func117 (by kernel_rfl) rfl #[.agg #[.int .i64 a1_0,.slice A1_1 l1_1.length c1_1,.int .i64 a1_2,.int .i64 a1_3,.bool false]] rfl am ?_;(with_reducible refine (spec_l8Tx.calls Aw a1_0 _ _ l1_1 a1_2 a1_3 false t361 t362 t365 t366 t367 _ ?side1 ?side2 Ax.out).mono ?_);(case side1=>repeat (first|exact (Kd.C_below As.out HB.out)|(with_reducible refine Kd.C_alloc ?_ _)|(with_reducible refine Kd.C_drewN ?_ _)|(with_reducible refine Kd.C_drew ?_)));(case side2=>exact At.out);rintro e I6 ⟨v363,rfl,ho0,hb⟩;refine ⟨_,rfl,?_⟩;have Ag:=mk_ (Kd.S_lower ho0 (zr2 (yu1 HB.out)));replace Ac:=mk_ (zq6 (by exact Ac.out) hb);replace Aa:=mk_ (zq6 (by exact Aa.out) hb);replace Ab:=mk_ (zq6 (by exact Ab.out) hb);replace HB:=mk_ (zr3 (yu1 HB.out) hb);(try clear hb);(try clear hb2);(try clear hk);(try clear hi);(try clear ho0))|((with_reducible refine gate_dst (N:=7) rfl ?_);refine box_event ?hg (N:=7) ?hd (cs:=#[.int .i64 0,.slice none 0 0,.int .i64 0,.int .i64 0,.bool false]) (t:=78) ?hr ?_;(case hd=>rfl);(case hg=>rfl);(case hr=>first|(go_simp;done)|(go_simp;rfl));intro gb368 hg I7 hbox hb;replace Ag:=mk_ (Kd.S_below (mS Ag.out) hb);have Ah:=mk_ (hbox);have Ar:=mk_ ((by rw [hg];exact (zr2 (yu1 HB.out)):w.heap.size≤gb368));have Av:=Ar;replace HB:=mk_ (zr3 (yu1 HB.out) hb);have Ae:=mk_ ((by rw [hg];exact zm2 (zr6 (by exact Ac.out)):gb356≠gb368));replace Ac:=mk_ (zq6 (by exact Ac.out) hb);have An:=mk_ Ae.out.symm;have Af:=mk_ ((by rw [hg];exact zm2 (zr6 (by exact Aa.out)):gb357≠gb368));replace Aa:=mk_ (zq6 (by exact Aa.out) hb);have Ao:=mk_ Af.out.symm;have Ad:=mk_ ((by rw [hg];exact zm2 (zr6 (by exact Ab.out)):gb358≠gb368));replace Ab:=mk_ (zq6 (by exact Ab.out) hb);have Ap:=mk_ Ad.out.symm;clear hb hbox hg;have Iq:=An.out;have Ir:=Ae.out;have Is:=Ao.out;have It:=Af.out;have Iu:=Ap.out;have Iv:=Ad.out;obtain ⟨F6,F7,F8,F9,Ga⟩:=cz5 Ah.out;obtain ⟨Gb,Gc,Gd,Ge,Gf⟩:=fz5 Ah.out;obtain ⟨Ao79,co79,eo79⟩:=Kd.S_slice Ag.out;subst eo79;obtain ⟨Gg,Gh,Gi,Gj,Gk⟩:=cz5 Aa.out;obtain ⟨Gl,Gm,Gn,Gp,Gq⟩:=fz5 Aa.out;have Iw:=Al.out;have Ix:=Ai.out;obtain ⟨Gr,Gs,Gt,Gu,Gv⟩:=cz5 Ab.out;obtain ⟨Gw,Gx,Gy,Gz,G0⟩:=fz5 Ab.out))
       refine bodyPost_ret (results_cell_row rfl _ _ gb358 78 #[.int .i64 (wrap64 (a1_0+a2)),.slice Ao79 t362.length co79,.int .i64 (wrap64 (a1_2+a2)),.int .i64 t366,.bool t367] (0,0) _ rfl (yv11 Ad.out Ab.out) Try.underlying78 rfl (by kernel_rfl)) rfl ?_
       exact ⟨_,by first|rfl|(simp [errW_none,errW_some] <;> rfl)|(simp [*,errW_none,errW_some] <;> rfl),by (with_reducible repeat (first|apply Kd.S_alloc|apply Kd.S_drewN|apply Kd.S_drew));exact Kd.S_mono (Kd.S_far (p:=⟨gb358,4,none⟩) (Kd.S_far (p:=⟨gb358,3,none⟩) (Kd.S_far (p:=⟨gb358,2,none⟩) (Kd.S_far (p:=⟨gb358,1,none⟩) (Kd.S_far (p:=⟨gb358,0,none⟩) (Kd.S_far (p:=⟨gb368,2,none⟩) (Kd.S_far (p:=⟨gb368,0,none⟩) (Kd.S_far (p:=⟨gb368,4,none⟩) (Kd.S_far (p:=⟨gb368,3,none⟩) (Kd.S_far (p:=⟨gb368,2,none⟩) (Kd.S_far (p:=⟨gb368,1,none⟩) (Kd.S_far (p:=⟨gb368,0,none⟩) (Kd.S_types (Kd.S_types Ag.out Ah.out (by decide)) Ab.out (by decide)) (fun _ hk=>hk.1.2) (.int .i64 t361)) (fun _ hk=>hk.1.2) (.slice Ao79 t362.length co79)) (fun _ hk=>hk.1.2) (.int .i64 t365)) (fun _ hk=>hk.1.2) (.int .i64 t366)) (fun _ hk=>hk.1.2) (.bool t367)) (fun _ hk=>hk.1.2) (.int .i64 (wrap64 (a1_0+a2)))) (fun _ hk=>hk.1.2) (.int .i64 (wrap64 (a1_2+a2)))) (fun _ hk=>hk.2) (.int .i64 (wrap64 (a1_0+a2)))) (fun _ hk=>hk.2) (.slice Ao79 t362.length co79)) (fun _ hk=>hk.2) (.int .i64 (wrap64 (a1_2+a2)))) (fun _ hk=>hk.2) (.int .i64 t366)) (fun _ hk=>hk.2) (.bool t367)) (fun _ hk=>trivial),by exact yu1 HB.out⟩

end Go.Proofs.Yteknaofnageihaa.QFnCrdTxOk
