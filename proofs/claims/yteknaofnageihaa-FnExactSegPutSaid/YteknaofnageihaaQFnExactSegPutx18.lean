-- Written by a program of this session, a turned copy of the print (not by print.sh itself). Lean checks it.
import Derived.Test.YteknaofnageihaaQFnExactSegPutx0
import Derived.Test.YteknaofnageihaaQFnExactSegPutx17
namespace Go.Proofs.Yteknaofnageihaa.QFnExactSegPut
open Go.RowKit Go.Proofs.YteknaofnageihaaW.PrintWords Go.Proofs.YteknaofnageihaaW.PrintLast Go.Proofs.YteknaofnageihaaW.PrintMore Go.Proofs.YteknaofnageihaaLoc
attribute [local go_sem] max2_int min2_int max_two min_two max_three min_three max_four min_four   -- for this text's walks alone
set_option linter.unusedVariables false
set_option linter.unusedSimpArgs false

/-! ### spec_l4Put: function 76 -/
def spec_l4Put.j0 : Nat → List Int → Bool → Int → List Int → Option (Int × List Int × List Int × Int)
  | 0, _, _, _, _ => none
  | k + 1, x8, x52, x147000, x147001 => if x52 = true then ((spec_l4Bad.f).bind fun bt177 => (some (bt177.1, bt177.2.1, bt177.2.2.1, bt177.2.2.2))) else (some (x147000, x8, (([] : List Int)), 1))
def spec_l4Put.f (k : Nat) (a0_0 : Int) (l0_1 : List Int) (a1_0 : Int) (a1_1 : Int) (l1_2 : List Int) : Option (Int × List Int × List Int × Int) := (some (([] : List Int) : List Int)).bind fun y149 => (if y149.length + l0_1.length < 140737488355328 then ((some (y149 ++ l0_1 : List Int)).bind fun y152 => (if y152.length + l1_2.length < 140737488355328 then ((some (y152 ++ l1_2 : List Int)).bind fun y155 => (if a1_0 = 0 then (if a0_0 > 0 then ((spec_l4Bad.f).bind fun bt158 => (some (bt158.1, bt158.2.1, bt158.2.2.1, bt158.2.2.2))) else (some (0, ([] : List Int), y155, 2))) else (if a1_0 = 1 then (if a0_0 > 0 then ((spec_l4Bad.f).bind fun bt166 => (some (bt166.1, bt166.2.1, bt166.2.2.1, bt166.2.2.2))) else (some (a1_1, y155, (([] : List Int)), 1))) else (if a1_0 = 2 then (if a0_0 > 0 then (spec_l4Put.j0 k y155 (decide ((y155.length : Int) ≥ a0_0)) a0_0 l0_1) else (spec_l4Put.j0 k y155 true a0_0 l0_1)) else (if a0_0 > 0 then (if (y155.length : Int) = a0_0 then (some (0, ([] : List Int), y155, 2)) else ((spec_l4Bad.f).bind fun bt188 => (some (bt188.1, bt188.2.1, bt188.2.2.1, bt188.2.2.2)))) else ((spec_l4Bad.f).bind fun bt196 => (some (bt196.1, bt196.2.1, bt196.2.2.1, bt196.2.2.2)))))))) else (none))) else (none))
theorem spec_l4Put.mono_l : ∀ k, (∀ y0 y1 y2 y3, LeO (spec_l4Put.j0 k y0 y1 y2 y3) (spec_l4Put.j0 (k + 1) y0 y1 y2 y3))
  | 0 => fun _ _ _ _ r h => by simp [spec_l4Put.j0] at h
  | k + 1 => by
    have ih0 := spec_l4Put.mono_l k
    · intro y0 y1 y2 y3
      unfold spec_l4Put.j0
      repeat' first
      | (with_reducible exact ih0 _ _ _ _)
      | (with_reducible exact LeO.refl _)
      | (with_reducible exact LeO.none _)
      | (with_reducible refine LeO.ite ?_ ?_)
      | (with_reducible refine LeO.bind ?_ (fun _ => ?_))
      | exact ih0 _ _ _ _
      | exact LeO.none _
      | refine LeO.ite ?_ ?_
      | refine LeO.bind ?_ (fun _ => ?_)
theorem spec_l4Put.mono : ∀ a0 a1 a2 a3 a4 k, LeO (spec_l4Put.f k a0 a1 a2 a3 a4) (spec_l4Put.f (k + 1) a0 a1 a2 a3 a4) := by
 intro a0 a1 a2 a3 a4 k
 have ih0 := spec_l4Put.mono_l k
 unfold spec_l4Put.f
 repeat' first
     | (with_reducible exact ih0 _ _ _ _)
     | (with_reducible exact LeO.refl _)
     | (with_reducible exact LeO.none _)
     | (with_reducible refine LeO.ite ?_ ?_)
     | (with_reducible refine LeO.bind ?_ (fun _ => ?_))
     | exact ih0 _ _ _ _
     | exact LeO.none _
     | refine LeO.ite ?_ ?_
     | refine LeO.bind ?_ (fun _ => ?_)
def spec_l4Put.T2 : Bool × List (List Nat × List Nat) := (true, [([], []), ([], []), ([1], [1]), ([0, 2], [0, 2]), ([], []), ([4], [4]), ([3, 5, 3], [3, 5]), ([6, 6, 0, 1, 2, 3, 4, 5, 6], [6])])
def spec_l4Put.B2 : List Nat := [0, 0, 2, 7, 0, 16, 63, 127]
theorem spec_l4Put.tab2 : rtab .any (opsOf Try.f76 2) = spec_l4Put.T2 := by kernel_rfl
theorem spec_l4Put.bits2 : waitsOk spec_l4Put.T2.2 spec_l4Put.B2 = true := by kernel_rfl
set_option maxHeartbeats 60000000 in
set_option maxRecDepth 100000 in
theorem spec_l4Put.calls (k : Nat) (a0_0 : Int) (A0_1 : Option Addr) (c0_1 : Nat) (l0_1 : List Int) (a1_0 : Int) (a1_1 : Int) (A1_2 : Option Addr) (c1_2 : Nat) (l1_2 : List Int) (r1 : Int) (r2 : List Int) (r3 : List Int) (r4 : Int) (w : World) (hr0_1 : Kd.C (Kd.int .u8) w A0_1 l0_1.length l0_1) (hc0_1 : l0_1.length ≤ c0_1) (hr1_2 : Kd.C (Kd.int .u8) w A1_2 l1_2.length l1_2) (hc1_2 : l1_2.length ≤ c1_2) (h : spec_l4Put.f k a0_0 l0_1 a1_0 a1_1 l1_2 = some (r1, r2, r3, r4)) :
  Calls Try.prog 76 #[.agg #[.int .i64 a0_0,.slice A0_1 l0_1.length c0_1],.agg #[.int .i64 a1_0,.int .i64 a1_1,.slice A1_2 l1_2.length c1_2]] w fun e w'=>∃ v1_ v2_:Value,e=.returned (.tuple #[.agg #[.int .i64 r1,v1_],v2_,.int .i64 r4])∧Kd.R ku 5 w' w.heap.size (fun k_=>some k_≠(v2_:Value).ownBlock) v1_ r2∧Kd.R ku 5 w' w.heap.size (fun k_=>some k_≠(v1_:Value).ownBlock) v2_ r3∧Below w.heap.size w w':=by
 have hu35:=Try.underlying35
 have hu39:=Try.underlying39
 have Ap:=mk_ hr0_1
 have F3:=mk_ hc0_1
 clear hr0_1 hc0_1
 have Aq:=mk_ hr1_2
 have F4:=mk_ hc1_2
 clear hr1_2 hc1_2
 have HB:=mk_ (Below.refl w.heap.size w)
 have H:((some (([]:List Int):List Int)).bind fun y149=>(if y149.length+l0_1.length<140737488355328 then ((some (y149++l0_1:List Int)).bind fun y152=>(if y152.length+l1_2.length<140737488355328 then ((some (y152++l1_2:List Int)).bind fun y155=>(if a1_0=0 then (if a0_0 > 0 then ((spec_l4Bad.f).bind fun bt158=>(some (bt158.1,bt158.2.1,bt158.2.2.1,bt158.2.2.2))) else (some (0,([]:List Int),y155,2))) else (if a1_0=1 then (if a0_0 > 0 then ((spec_l4Bad.f).bind fun bt166=>(some (bt166.1,bt166.2.1,bt166.2.2.1,bt166.2.2.2))) else (some (a1_1,y155,(([]:List Int)),1))) else (if a1_0=2 then (if a0_0 > 0 then (spec_l4Put.j0 k y155 (decide ((y155.length:Int) ≥ a0_0)) a0_0 l0_1) else (spec_l4Put.j0 k y155 true a0_0 l0_1)) else (if a0_0 > 0 then (if (y155.length:Int)=a0_0 then (some (0,([]:List Int),y155,2)) else ((spec_l4Bad.f).bind fun bt188=>(some (bt188.1,bt188.2.1,bt188.2.2.1,bt188.2.2.2)))) else ((spec_l4Bad.f).bind fun bt196=>(some (bt196.1,bt196.2.1,bt196.2.2.1,bt196.2.2.2)))))))) else (none))) else (none)))=some (r1,r2,r3,r4):=h
 clear h
 obtain ⟨y149,hy149⟩:∃ y_:List Int,y_=(([]:List Int)):=⟨_,rfl⟩
 replace H:(if y149.length+l0_1.length<140737488355328 then ((some (y149++l0_1:List Int)).bind fun y152=>(if y152.length+l1_2.length<140737488355328 then ((some (y152++l1_2:List Int)).bind fun y155=>(if a1_0=0 then (if a0_0 > 0 then ((spec_l4Bad.f).bind fun bt158=>(some (bt158.1,bt158.2.1,bt158.2.2.1,bt158.2.2.2))) else (some (0,([]:List Int),y155,2))) else (if a1_0=1 then (if a0_0 > 0 then ((spec_l4Bad.f).bind fun bt166=>(some (bt166.1,bt166.2.1,bt166.2.2.1,bt166.2.2.2))) else (some (a1_1,y155,(([]:List Int)),1))) else (if a1_0=2 then (if a0_0 > 0 then (spec_l4Put.j0 k y155 (decide ((y155.length:Int) ≥ a0_0)) a0_0 l0_1) else (spec_l4Put.j0 k y155 true a0_0 l0_1)) else (if a0_0 > 0 then (if (y155.length:Int)=a0_0 then (some (0,([]:List Int),y155,2)) else ((spec_l4Bad.f).bind fun bt188=>(some (bt188.1,bt188.2.1,bt188.2.2.1,bt188.2.2.2)))) else ((spec_l4Bad.f).bind fun bt196=>(some (bt196.1,bt196.2.1,bt196.2.2.1,bt196.2.2.2)))))))) else (none))) else (none))=some (r1,r2,r3,r4):=by first|(rw [hy149];with_reducible exact H)|(have H2_:=(Option.bind_some _ _).symm.trans H;rw [hy149];with_reducible exact H2_)|(have H2_:=(Option.bind_some _ _).symm.trans H;with_reducible exact H2_)|with_reducible exact H|(rw [hy149];exact H)|exact H
 have Ny149:=mk_ hy149
 clear hy149
 by_cases c3:y149.length+l0_1.length<140737488355328
 ·rw [if_pos c3] at H
  have LMc3:=mk_ c3
  clear c3
  obtain ⟨y152,hy152⟩:∃ y_:List Int,y_=(y149++l0_1):=⟨_,rfl⟩
  replace H:(if y152.length+l1_2.length<140737488355328 then ((some (y152++l1_2:List Int)).bind fun y155=>(if a1_0=0 then (if a0_0 > 0 then ((spec_l4Bad.f).bind fun bt158=>(some (bt158.1,bt158.2.1,bt158.2.2.1,bt158.2.2.2))) else (some (0,([]:List Int),y155,2))) else (if a1_0=1 then (if a0_0 > 0 then ((spec_l4Bad.f).bind fun bt166=>(some (bt166.1,bt166.2.1,bt166.2.2.1,bt166.2.2.2))) else (some (a1_1,y155,(([]:List Int)),1))) else (if a1_0=2 then (if a0_0 > 0 then (spec_l4Put.j0 k y155 (decide ((y155.length:Int) ≥ a0_0)) a0_0 l0_1) else (spec_l4Put.j0 k y155 true a0_0 l0_1)) else (if a0_0 > 0 then (if (y155.length:Int)=a0_0 then (some (0,([]:List Int),y155,2)) else ((spec_l4Bad.f).bind fun bt188=>(some (bt188.1,bt188.2.1,bt188.2.2.1,bt188.2.2.2)))) else ((spec_l4Bad.f).bind fun bt196=>(some (bt196.1,bt196.2.1,bt196.2.2.1,bt196.2.2.2)))))))) else (none))=some (r1,r2,r3,r4):=by first|(rw [hy152];with_reducible exact H)|(have H2_:=(Option.bind_some _ _).symm.trans H;rw [hy152];with_reducible exact H2_)|(have H2_:=(Option.bind_some _ _).symm.trans H;with_reducible exact H2_)|with_reducible exact H|(rw [hy152];exact H)|exact H
  have Ny152:=mk_ hy152
  clear hy152
  by_cases c4:y152.length+l1_2.length<140737488355328
  ·rw [if_pos c4] at H
   have LMc4:=mk_ c4
   clear c4
   obtain ⟨y155,hy155⟩:∃ y_:List Int,y_=(y152++l1_2):=⟨_,rfl⟩
   replace H:(if a1_0=0 then (if a0_0 > 0 then ((spec_l4Bad.f).bind fun bt158=>(some (bt158.1,bt158.2.1,bt158.2.2.1,bt158.2.2.2))) else (some (0,([]:List Int),y155,2))) else (if a1_0=1 then (if a0_0 > 0 then ((spec_l4Bad.f).bind fun bt166=>(some (bt166.1,bt166.2.1,bt166.2.2.1,bt166.2.2.2))) else (some (a1_1,y155,(([]:List Int)),1))) else (if a1_0=2 then (if a0_0 > 0 then (spec_l4Put.j0 k y155 (decide ((y155.length:Int) ≥ a0_0)) a0_0 l0_1) else (spec_l4Put.j0 k y155 true a0_0 l0_1)) else (if a0_0 > 0 then (if (y155.length:Int)=a0_0 then (some (0,([]:List Int),y155,2)) else ((spec_l4Bad.f).bind fun bt188=>(some (bt188.1,bt188.2.1,bt188.2.2.1,bt188.2.2.2)))) else ((spec_l4Bad.f).bind fun bt196=>(some (bt196.1,bt196.2.1,bt196.2.2.1,bt196.2.2.2)))))))=some (r1,r2,r3,r4):=by first|(rw [hy155];with_reducible exact H)|(have H2_:=(Option.bind_some _ _).symm.trans H;rw [hy155];with_reducible exact H2_)|(have H2_:=(Option.bind_some _ _).symm.trans H;with_reducible exact H2_)|with_reducible exact H|(rw [hy155];exact H)|exact H
   have Ny155:=mk_ hy155
   clear hy155
   by_cases c5:a1_0=0
   ·rw [if_pos c5] at H
    have c5b0:(a1_0 == 0)=true:=beq_iff_eq.mpr c5
    have c5b1:(a1_0 != 0)=false:=bne_eq_false_iff_eq.mpr c5
    clear c5
    by_cases c6:a0_0 > 0
    ·rw [if_pos c6] at H
     have c6b0:decide (0<a0_0)=true:=decide_eq_true c6
     clear c6
     replace H:=Option.bind_eq_some_iff.mp H
     obtain ⟨⟨t158,t159,t162,t165⟩,Cu,H⟩:=H
     try dsimp only at H
     have A7:=mk_ Cu
     clear Cu
     simp only [Option.some.injEq,Prod.mk.injEq] at H
     obtain ⟨rfl,rfl,rfl,rfl⟩:=H
     go_enter Try.func76,Try.ntmps76
     try go_wp2_with (first|((with_reducible refine gate_dst (N:=2) rfl ?_);(try (refine gate_guard (by rfl) ?_;dsimp only));refine box_event ?hg (N:=2) ?hd (cs:=#[.int .i64 a0_0,.slice A0_1 l0_1.length c0_1]) (t:=35) ?hr ?_;(case hd=>rfl);(case hg=>rfl);(case hr=>first|(go_simp;done)|(go_simp;rfl));intro gb146 hg w8 hbox hb;have Aa:=mk_ (hbox);have Am:=mk_ ((by rw [hg];exact (zr2 (yu0 HB.out)):w.heap.size≤gb146));have Ar:=Am;replace HB:=mk_ (zr3 (yu0 HB.out) hb);clear hb hbox hg)|((with_reducible refine gate_dst (N:=3) rfl ?_);(try (refine gate_guard (by rfl) ?_;dsimp only));refine box_event ?hg (N:=3) ?hd (cs:=#[.int .i64 a1_0,.int .i64 a1_1,.slice A1_2 l1_2.length c1_2]) (t:=39) ?hr ?_;(case hd=>rfl);(case hg=>rfl);(case hr=>first|(go_simp;done)|(go_simp;rfl));intro gb147 hg w9 hbox hb;have Ab:=mk_ (hbox);have An:=mk_ ((by rw [hg];exact (zr2 (yu1 HB.out)):w.heap.size≤gb147));have As:=An;replace HB:=mk_ (zr3 (yu1 HB.out) hb);have Ag:=mk_ ((by rw [hg];exact zm2 (zr6 (by exact Aa.out)):gb146≠gb147));replace Aa:=mk_ (zq6 (by exact Aa.out) hb);have Ak:=mk_ Ag.out.symm;clear hb hbox hg)|((with_reducible refine gate_dst (N:=4) rfl ?_);(try (refine gate_guard (by rfl) ?_;dsimp only));refine box_event ?hg (N:=4) ?hd (cs:=#[.int .i64 0,.slice none 0 0]) (t:=35) ?hr ?_;(case hd=>rfl);(case hg=>rfl);(case hr=>first|(go_simp;done)|(go_simp;rfl));intro gb148 hg E8 hbox hb;have Ac:=mk_ (hbox);have Ao:=mk_ ((by rw [hg];exact (zr2 (yu1 HB.out)):w.heap.size≤gb148));have At:=Ao;replace HB:=mk_ (zr3 (yu1 HB.out) hb);have Ad:=mk_ ((by rw [hg];exact zm2 (zr6 (by exact Aa.out)):gb146≠gb148));replace Aa:=mk_ (zq6 (by exact Aa.out) hb);have Aj:=mk_ Ad.out.symm;have Ah:=mk_ ((by rw [hg];exact zm2 (zr6 (by exact Ab.out)):gb147≠gb148));replace Ab:=mk_ (zq6 (by exact Ab.out) hb);have Al:=mk_ Ah.out.symm;clear hb hbox hg;have F5:=Ag.out;have F6:=Ak.out;have F7:=Ad.out;have F8:=Aj.out;obtain ⟨Em,En⟩:=cz2 Aa.out;obtain ⟨Eo,Ep⟩:=fz2 Aa.out))
     replace Aa:=mk_ (zq2 Aa.out)
     replace Ab:=mk_ (zq2 Ab.out)
     replace Ac:=mk_ (zq2 Ac.out)
     replace HB:=mk_ (zq9 HB.out)
     refine start_ (n:=8) (S:=fun w'=>w'.cell? ⟨gb146,0,none⟩=some (.int .i64 a0_0)∧w'.cell? ⟨gb146,1,none⟩=some (.slice A0_1 l0_1.length c0_1)∧w'.cell? ⟨gb147,0,none⟩=some (.int .i64 a1_0)∧w'.cell? ⟨gb147,1,none⟩=some (.int .i64 a1_1)∧w'.cell? ⟨gb147,2,none⟩=some (.slice A1_2 l1_2.length c1_2)) (ds:=[]) (bm 8 0) (by kernel_rfl) rfl rfl ⟨(zr4 Aa.out 0).trans rfl,(zr4 Aa.out 1).trans rfl,(zr4 Ab.out 0).trans rfl,(zr4 Ab.out 1).trans rfl,(zr4 Ab.out 2).trans rfl⟩ (fun hHeld=>?_);refine with_tabW spec_l4Put.tab2 spec_l4Put.bits2 (fun HT_ HW_=>?_)
     generalize E8.drew=Hu at Aa Ab Ac HB hHeld ⊢
     refine pA 1 (some 13) (bm 8 2) rfl rfl HT_.out (by kernel_rfl) (fun _ _ _ h=>h) (by rfl) (by intro w';go_simp;with_reducible rfl) (by simp only [Act.put,zs1,zs2,zs3,i64_w,i32_w];rfl) ?_
     refine pA 4 (some 16) (bm 8 18) rfl rfl HT_.out (by kernel_rfl) (fun _ _ _ h=>h) (by rfl) (by intro w';go_simp;with_reducible rfl) (by simp only [Act.put,zs1,zs2,zs3,i64_w,i32_w];rfl) ?_
     refine tA 2 (some 14) (bm 8 22) rfl rfl HT_.out HW_.out (by kernel_rfl) (fun _ _ _ h=>h) (by rfl) hHeld (by rintro w' ⟨s0,s1,s2,s3,s4⟩;go_simp;with_reducible rfl) (by simp only [Act.put,zs1,zs2,zs3,i64_w,i32_w];rfl) ?_
     refine tA 5 (some 17) (bm 8 54) rfl rfl HT_.out HW_.out (by kernel_rfl) (fun _ _ _ h=>h) (by rfl) hHeld (by rintro w' ⟨s0,s1,s2,s3,s4⟩;go_simp;with_reducible rfl) (by simp only [Act.put,zs1,zs2,zs3,i64_w,i32_w];rfl) ?_
     refine one_ (i:=0) (N:=some 12) (bm 8 55) rfl rfl (one_of HT_.out (by kernel_rfl)) (by decide) (fun K hK=>?_)
     refine Kd.R_lit_step ku _ 5 ?hg (N:=12) ?hd (xs:=([]:List Int)) (inner:=[]) (ok:=fun _=>True) (okp:=fun _=>True) ?hr ?hp (fun _ hk=>hk) trivial (Below.refl _ _) (Nat.le_refl _) (by simp) ?_;(case hd=>rfl);(case hg=>rfl);(case hr=>first|(go_simp;done)|(go_simp;rfl));(case hp=>exact (Reps.none _ _))
     intro v150 Hv ho16 hb hg_ hnew_
     clear hg_ hnew_
     (first|rw [← Ny149.out] at ho16|(simp only [Int.reduceToNat] at ho16;rw [← Ny149.out] at ho16))
     have Ae:=mk_ (Kd.R_lower ho16 (zr2 (yu1 HB.out)))
     replace Aa:=mk_ (zq6 (by exact Aa.out) hb)
     replace Ab:=mk_ (zq6 (by exact Ab.out) hb)
     replace Ac:=mk_ (zq6 (by exact Ac.out) hb)
     replace HB:=mk_ (zr3 (yu1 HB.out) hb)
     clear hb ho16
     refine hK.out _ _ ⟨(zr4 Aa.out 0).trans rfl,(zr4 Aa.out 1).trans rfl,(zr4 Ab.out 0).trans rfl,(zr4 Ab.out 1).trans rfl,(zr4 Ab.out 2).trans rfl⟩ (fun hHeld=>?_)
     clear hK K
     refine norm_ (a':=?_) ?_ ?_
     rotate_left
     ·show Act.put _ (some 12) _=_
      simp only [Act.put,zs1,zs2,zs3,i64_w,i32_w]
      rfl
     refine one_ (i:=3) (N:=some 15) (bm 8 63) rfl rfl (one_of HT_.out (by kernel_rfl)) (by decide) (fun K hK=>?_)
     refine Kd.R_append_rows_step ku (w0:=w) w.heap.size (by rfl) (.tmp 12) (.tmp 14) 22 5 (.int .u8 0) 1 rfl Try.underlying22 info5 rfl (by decide) (by omega) v150 y149 l0_1 _ _ _ (fun _=>True) (fun _=>False) rfl rfl ?aO ?aR (fun _ _ h=>h) (fun _ h=>h.elim) ?aF ?aB ?aS ?aL ?_
     (case aR=>repeat (first|exact (Kd.C_below Ap.out HB.out)|(with_reducible refine Kd.C_alloc ?_ _)|(with_reducible refine Kd.C_drewN ?_ _)|(with_reducible refine Kd.C_drew ?_)))
     (case aB=>exact (yu1 HB.out))
     (case aF=>exact (fun _ _=>trivial))
     (case aO=>exact (mR Ae.out))
     (case aS=>exact (zr2 (yu1 HB.out)))
     (case aL=>have:=LMc3.out;omega)
     intro v153 Hw ho hb hg hat
     rw [← Ny152.out] at ho
     have n0_:=mk_ (blk_grown (g:=gb146) (o:=.cells #[.int .i64 a0_0,.slice A0_1 l0_1.length c0_1] 35 (0,0)) (by exact Aa.out) hg (Kd.R_ne Ae.out Aa.out (by decide)))
     have n1_:=mk_ (blk_grown (g:=gb147) (o:=.cells #[.int .i64 a1_0,.int .i64 a1_1,.slice A1_2 l1_2.length c1_2] 39 (0,0)) (by exact Ab.out) hg (Kd.R_ne Ae.out Ab.out (by decide)))
     have n2_:=mk_ (blk_grown (g:=gb148) (o:=.cells #[.int .i64 0,.slice none 0 0] 35 (0,0)) (by exact Ac.out) hg (Kd.R_ne Ae.out Ac.out (by decide)))
     have n3_:=mk_ (hb)
     have n4_:=mk_ (ho)
     clear Aa
     clear Ab
     clear Ac
     clear HB
     clear Ae
     have Aa:=n0_
     have Ab:=n1_
     have Ac:=n2_
     have HB:=n3_
     have Af:=n4_
     clear n0_ n1_ n2_ n3_ n4_
     clear ho hb hg hat
     refine hK.out _ _ ⟨(zr4 Aa.out 0).trans rfl,(zr4 Aa.out 1).trans rfl,(zr4 Ab.out 0).trans rfl,(zr4 Ab.out 1).trans rfl,(zr4 Ab.out 2).trans rfl⟩ (fun hHeld=>?_)
     clear hK K
     refine norm_ (a':=?_) ?_ ?_
     rotate_left
     ·show Act.put _ (some 15) _=_
      simp only [Act.put,zs1,zs2,zs3,i64_w,i32_w]
      rfl
     refine one_ (i:=6) (N:=some 18) (bm 8 127) rfl rfl (one_of HT_.out (by kernel_rfl)) (by decide) (fun K hK=>?_)
     refine Kd.R_append_rows_step ku (w0:=w) w.heap.size (by rfl) (.tmp 15) (.tmp 17) 22 5 (.int .u8 0) 1 rfl Try.underlying22 info5 rfl (by decide) (by omega) v153 y152 l1_2 _ _ _ (fun _=>True) (fun _=>False) rfl rfl ?aO ?aR (fun _ _ h=>h) (fun _ h=>h.elim) ?aF ?aB ?aS ?aL ?_
     (case aR=>repeat (first|exact (Kd.C_below Aq.out HB.out)|(with_reducible refine Kd.C_alloc ?_ _)|(with_reducible refine Kd.C_drewN ?_ _)|(with_reducible refine Kd.C_drew ?_)))
     (case aB=>exact (yu1 HB.out))
     (case aF=>exact (fun _ _=>trivial))
     (case aO=>exact (mR Af.out))
     (case aS=>exact (zr2 (yu1 HB.out)))
     (case aL=>have:=LMc4.out;omega)
     intro v156 Hx ho hb hg hat
     rw [← Ny155.out] at ho
     have n0_:=mk_ (blk_grown (g:=gb146) (o:=.cells #[.int .i64 a0_0,.slice A0_1 l0_1.length c0_1] 35 (0,0)) (by exact Aa.out) hg (Kd.R_ne Af.out Aa.out (by decide)))
     have n1_:=mk_ (blk_grown (g:=gb147) (o:=.cells #[.int .i64 a1_0,.int .i64 a1_1,.slice A1_2 l1_2.length c1_2] 39 (0,0)) (by exact Ab.out) hg (Kd.R_ne Af.out Ab.out (by decide)))
     have n2_:=mk_ (blk_grown (g:=gb148) (o:=.cells #[.int .i64 0,.slice none 0 0] 35 (0,0)) (by exact Ac.out) hg (Kd.R_ne Af.out Ac.out (by decide)))
     have n3_:=mk_ (hb)
     have n4_:=mk_ (ho)
     clear Aa
     clear Ab
     clear Ac
     clear HB
     clear Af
     have Aa:=n0_
     have Ab:=n1_
     have Ac:=n2_
     have HB:=n3_
     have Ai:=n4_
     clear n0_ n1_ n2_ n3_ n4_
     clear ho hb hg hat
     refine hK.out _ _ ⟨(zr4 Aa.out 0).trans rfl,(zr4 Aa.out 1).trans rfl,(zr4 Ab.out 0).trans rfl,(zr4 Ab.out 1).trans rfl,(zr4 Ab.out 2).trans rfl⟩ (fun hHeld=>?_)
     clear hK K
     refine norm_ (a':=?_) ?_ ?_
     rotate_left
     ·show Act.put _ (some 18) _=_
      simp only [Act.put,zs1,zs2,zs3,i64_w,i32_w]
      rfl
     refine pA 7 (some 8) (bm 8 255) rfl rfl HT_.out (by kernel_rfl) (fun _ _ _ h=>h) (by rfl) (by intro w';go_simp;with_reducible rfl) (by simp only [Act.put,zs1,zs2,zs3,i64_w,i32_w];rfl) ?_
     refine done_ (done_of HT_.out (by kernel_rfl)) ?_
     have F9:=Ah.out
     have Ga:=Al.out
     obtain ⟨Eq,Er,Es⟩:=cz3 Ab.out
     obtain ⟨Et,Eu,Ev⟩:=fz3 Ab.out
     try go_wp2_with (first|((with_reducible refine gate_callee (f:=97) rfl ?_);refine goesL_ (some 24) rfl rfl Try.func97 (by kernel_rfl) rfl #[] rfl am ?_;(with_reducible refine (spec_l4Bad.calls  t158 t159 t162 t165 _ A7.out).mono ?_);rintro e Hy ⟨v160,v163,rfl,ho0,ho1,hb⟩;refine ⟨_,rfl,?_⟩;have Ax:=mk_ (Kd.R_lower (Kd.R_new' ho0 (Kd.R_lt (mR Ai.out))) (zr2 (yu1 HB.out)));have Cn:=mk_ (Kd.R_lower (Kd.R_new' ho1 (Kd.R_lt (mR Ai.out))) (zr2 (yu1 HB.out)));replace Ai:=mk_ (Kd.R_mono (Kd.R_told (Kd.R_told (Kd.R_old (mR Ai.out) hb) (Kd.R_base ho0)) (Kd.R_base ho1)) (fun _ h_=>h_.1));replace Aa:=mk_ (zq6 (by exact Aa.out) hb);replace Ab:=mk_ (zq6 (by exact Ab.out) hb);replace Ac:=mk_ (zq6 (by exact Ac.out) hb);replace HB:=mk_ (zr3 (yu1 HB.out) hb);(try clear hb);(try clear hb2);(try clear hk);(try clear hi);(try clear ho0);(try clear ho1);obtain ⟨Ew,Ex⟩:=cz2 Ac.out;obtain ⟨Ey,Ez⟩:=fz2 Ac.out;obtain ⟨Ao23,co23,eo23⟩:=Kd.R_slice Ax.out;subst eo23))
     refine bodyPost_ret (results_ctt rfl _ _ gb148 35 #[.int .i64 t158,.slice Ao23 t159.length co23] (0,0) _ rfl (yv0 Ac.out) Try.underlying35 rfl (by kernel_rfl)) rfl ?_
     exact ⟨_,_,by first|rfl|(simp [errW_none,errW_some] <;> rfl)|(simp [*,errW_none,errW_some] <;> rfl),by (with_reducible repeat (first|apply Kd.R_alloc|apply Kd.R_drewN|apply Kd.R_drew));exact Kd.R_mono (Kd.R_far (p:=⟨gb148,1,none⟩) (Kd.R_far (p:=⟨gb148,0,none⟩) (Kd.R_types Ax.out Ac.out (by decide)) (fun _ hk=>hk.2) (.int .i64 t158)) (fun _ hk=>hk.2) (.slice Ao23 t159.length co23)) (fun _ hk=>hk.1.1),by (with_reducible repeat (first|apply Kd.R_alloc|apply Kd.R_drewN|apply Kd.R_drew));exact Kd.R_mono (Kd.R_far (p:=⟨gb148,1,none⟩) (Kd.R_far (p:=⟨gb148,0,none⟩) (Kd.R_types Cn.out Ac.out (by decide)) (fun _ hk=>hk.2) (.int .i64 t158)) (fun _ hk=>hk.2) (.slice Ao23 t159.length co23)) (fun _ hk=>hk.1.1),by exact yu1 HB.out⟩
    ·rw [if_neg c6] at H
     have c6b0:decide (0<a0_0)=false:=decide_eq_false c6
     clear c6
     simp only [Option.some.injEq,Prod.mk.injEq] at H
     obtain ⟨rfl,rfl,rfl,rfl⟩:=H
     go_enter Try.func76,Try.ntmps76
     try go_wp2_with (first|((with_reducible refine gate_dst (N:=2) rfl ?_);(try (refine gate_guard (by rfl) ?_;dsimp only));refine box_event ?hg (N:=2) ?hd (cs:=#[.int .i64 a0_0,.slice A0_1 l0_1.length c0_1]) (t:=35) ?hr ?_;(case hd=>rfl);(case hg=>rfl);(case hr=>first|(go_simp;done)|(go_simp;rfl));intro gb146 hg Hz hbox hb;have Aa:=mk_ (hbox);have Am:=mk_ ((by rw [hg];exact (zr2 (yu0 HB.out)):w.heap.size≤gb146));have Ar:=Am;replace HB:=mk_ (zr3 (yu0 HB.out) hb);clear hb hbox hg)|((with_reducible refine gate_dst (N:=3) rfl ?_);(try (refine gate_guard (by rfl) ?_;dsimp only));refine box_event ?hg (N:=3) ?hd (cs:=#[.int .i64 a1_0,.int .i64 a1_1,.slice A1_2 l1_2.length c1_2]) (t:=39) ?hr ?_;(case hd=>rfl);(case hg=>rfl);(case hr=>first|(go_simp;done)|(go_simp;rfl));intro gb147 hg H0 hbox hb;have Ab:=mk_ (hbox);have An:=mk_ ((by rw [hg];exact (zr2 (yu1 HB.out)):w.heap.size≤gb147));have As:=An;replace HB:=mk_ (zr3 (yu1 HB.out) hb);have Ag:=mk_ ((by rw [hg];exact zm2 (zr6 (by exact Aa.out)):gb146≠gb147));replace Aa:=mk_ (zq6 (by exact Aa.out) hb);have Ak:=mk_ Ag.out.symm;clear hb hbox hg)|((with_reducible refine gate_dst (N:=4) rfl ?_);(try (refine gate_guard (by rfl) ?_;dsimp only));refine box_event ?hg (N:=4) ?hd (cs:=#[.int .i64 0,.slice none 0 0]) (t:=35) ?hr ?_;(case hd=>rfl);(case hg=>rfl);(case hr=>first|(go_simp;done)|(go_simp;rfl));intro gb148 hg E9 hbox hb;have Ac:=mk_ (hbox);have Ao:=mk_ ((by rw [hg];exact (zr2 (yu1 HB.out)):w.heap.size≤gb148));have At:=Ao;replace HB:=mk_ (zr3 (yu1 HB.out) hb);have Ad:=mk_ ((by rw [hg];exact zm2 (zr6 (by exact Aa.out)):gb146≠gb148));replace Aa:=mk_ (zq6 (by exact Aa.out) hb);have Aj:=mk_ Ad.out.symm;have Ah:=mk_ ((by rw [hg];exact zm2 (zr6 (by exact Ab.out)):gb147≠gb148));replace Ab:=mk_ (zq6 (by exact Ab.out) hb);have Al:=mk_ Ah.out.symm;clear hb hbox hg;have Gb:=Ag.out;have Gc:=Ak.out;have Gd:=Ad.out;have Ge:=Aj.out;obtain ⟨E0,E1⟩:=cz2 Aa.out;obtain ⟨E2,E3⟩:=fz2 Aa.out))
     replace Aa:=mk_ (zq2 Aa.out)
     replace Ab:=mk_ (zq2 Ab.out)
     replace Ac:=mk_ (zq2 Ac.out)
     replace HB:=mk_ (zq9 HB.out)
     refine start_ (n:=8) (S:=fun w'=>w'.cell? ⟨gb146,0,none⟩=some (.int .i64 a0_0)∧w'.cell? ⟨gb146,1,none⟩=some (.slice A0_1 l0_1.length c0_1)∧w'.cell? ⟨gb147,0,none⟩=some (.int .i64 a1_0)∧w'.cell? ⟨gb147,1,none⟩=some (.int .i64 a1_1)∧w'.cell? ⟨gb147,2,none⟩=some (.slice A1_2 l1_2.length c1_2)) (ds:=[]) (bm 8 0) (by kernel_rfl) rfl rfl ⟨(zr4 Aa.out 0).trans rfl,(zr4 Aa.out 1).trans rfl,(zr4 Ab.out 0).trans rfl,(zr4 Ab.out 1).trans rfl,(zr4 Ab.out 2).trans rfl⟩ (fun hHeld=>?_);refine with_tabW spec_l4Put.tab2 spec_l4Put.bits2 (fun HT_ HW_=>?_)
     generalize E9.drew=H2 at Aa Ab Ac HB hHeld ⊢
     refine pA 1 (some 13) (bm 8 2) rfl rfl HT_.out (by kernel_rfl) (fun _ _ _ h=>h) (by rfl) (by intro w';go_simp;with_reducible rfl) (by simp only [Act.put,zs1,zs2,zs3,i64_w,i32_w];rfl) ?_
     refine pA 4 (some 16) (bm 8 18) rfl rfl HT_.out (by kernel_rfl) (fun _ _ _ h=>h) (by rfl) (by intro w';go_simp;with_reducible rfl) (by simp only [Act.put,zs1,zs2,zs3,i64_w,i32_w];rfl) ?_
     refine tA 2 (some 14) (bm 8 22) rfl rfl HT_.out HW_.out (by kernel_rfl) (fun _ _ _ h=>h) (by rfl) hHeld (by rintro w' ⟨s0,s1,s2,s3,s4⟩;go_simp;with_reducible rfl) (by simp only [Act.put,zs1,zs2,zs3,i64_w,i32_w];rfl) ?_
     refine tA 5 (some 17) (bm 8 54) rfl rfl HT_.out HW_.out (by kernel_rfl) (fun _ _ _ h=>h) (by rfl) hHeld (by rintro w' ⟨s0,s1,s2,s3,s4⟩;go_simp;with_reducible rfl) (by simp only [Act.put,zs1,zs2,zs3,i64_w,i32_w];rfl) ?_
     refine one_ (i:=0) (N:=some 12) (bm 8 55) rfl rfl (one_of HT_.out (by kernel_rfl)) (by decide) (fun K hK=>?_)
     refine Kd.R_lit_step ku _ 5 ?hg (N:=12) ?hd (xs:=([]:List Int)) (inner:=[]) (ok:=fun _=>True) (okp:=fun _=>True) ?hr ?hp (fun _ hk=>hk) trivial (Below.refl _ _) (Nat.le_refl _) (by simp) ?_;(case hd=>rfl);(case hg=>rfl);(case hr=>first|(go_simp;done)|(go_simp;rfl));(case hp=>exact (Reps.none _ _))
     intro v150 H3 ho32 hb hg_ hnew_
     clear hg_ hnew_
     (first|rw [← Ny149.out] at ho32|(simp only [Int.reduceToNat] at ho32;rw [← Ny149.out] at ho32))
     have Ae:=mk_ (Kd.R_lower ho32 (zr2 (yu1 HB.out)))
     replace Aa:=mk_ (zq6 (by exact Aa.out) hb)
     replace Ab:=mk_ (zq6 (by exact Ab.out) hb)
     replace Ac:=mk_ (zq6 (by exact Ac.out) hb)
     replace HB:=mk_ (zr3 (yu1 HB.out) hb)
     clear hb ho32
     refine hK.out _ _ ⟨(zr4 Aa.out 0).trans rfl,(zr4 Aa.out 1).trans rfl,(zr4 Ab.out 0).trans rfl,(zr4 Ab.out 1).trans rfl,(zr4 Ab.out 2).trans rfl⟩ (fun hHeld=>?_)
     clear hK K
     refine norm_ (a':=?_) ?_ ?_
     rotate_left
     ·show Act.put _ (some 12) _=_
      simp only [Act.put,zs1,zs2,zs3,i64_w,i32_w]
      rfl
     refine one_ (i:=3) (N:=some 15) (bm 8 63) rfl rfl (one_of HT_.out (by kernel_rfl)) (by decide) (fun K hK=>?_)
     refine Kd.R_append_rows_step ku (w0:=w) w.heap.size (by rfl) (.tmp 12) (.tmp 14) 22 5 (.int .u8 0) 1 rfl Try.underlying22 info5 rfl (by decide) (by omega) v150 y149 l0_1 _ _ _ (fun _=>True) (fun _=>False) rfl rfl ?aO ?aR (fun _ _ h=>h) (fun _ h=>h.elim) ?aF ?aB ?aS ?aL ?_
     (case aR=>repeat (first|exact (Kd.C_below Ap.out HB.out)|(with_reducible refine Kd.C_alloc ?_ _)|(with_reducible refine Kd.C_drewN ?_ _)|(with_reducible refine Kd.C_drew ?_)))
     (case aB=>exact (yu1 HB.out))
     (case aF=>exact (fun _ _=>trivial))
     (case aO=>exact (mR Ae.out))
     (case aS=>exact (zr2 (yu1 HB.out)))
     (case aL=>have:=LMc3.out;omega)
     intro v153 H4 ho hb hg hat
     rw [← Ny152.out] at ho
     have n0_:=mk_ (blk_grown (g:=gb146) (o:=.cells #[.int .i64 a0_0,.slice A0_1 l0_1.length c0_1] 35 (0,0)) (by exact Aa.out) hg (Kd.R_ne Ae.out Aa.out (by decide)))
     have n1_:=mk_ (blk_grown (g:=gb147) (o:=.cells #[.int .i64 a1_0,.int .i64 a1_1,.slice A1_2 l1_2.length c1_2] 39 (0,0)) (by exact Ab.out) hg (Kd.R_ne Ae.out Ab.out (by decide)))
     have n2_:=mk_ (blk_grown (g:=gb148) (o:=.cells #[.int .i64 0,.slice none 0 0] 35 (0,0)) (by exact Ac.out) hg (Kd.R_ne Ae.out Ac.out (by decide)))
     have n3_:=mk_ (hb)
     have n4_:=mk_ (ho)
     clear Aa
     clear Ab
     clear Ac
     clear HB
     clear Ae
     have Aa:=n0_
     have Ab:=n1_
     have Ac:=n2_
     have HB:=n3_
     have Af:=n4_
     clear n0_ n1_ n2_ n3_ n4_
     clear ho hb hg hat
     refine hK.out _ _ ⟨(zr4 Aa.out 0).trans rfl,(zr4 Aa.out 1).trans rfl,(zr4 Ab.out 0).trans rfl,(zr4 Ab.out 1).trans rfl,(zr4 Ab.out 2).trans rfl⟩ (fun hHeld=>?_)
     clear hK K
     refine norm_ (a':=?_) ?_ ?_
     rotate_left
     ·show Act.put _ (some 15) _=_
      simp only [Act.put,zs1,zs2,zs3,i64_w,i32_w]
      rfl
     refine one_ (i:=6) (N:=some 18) (bm 8 127) rfl rfl (one_of HT_.out (by kernel_rfl)) (by decide) (fun K hK=>?_)
     refine Kd.R_append_rows_step ku (w0:=w) w.heap.size (by rfl) (.tmp 15) (.tmp 17) 22 5 (.int .u8 0) 1 rfl Try.underlying22 info5 rfl (by decide) (by omega) v153 y152 l1_2 _ _ _ (fun _=>True) (fun _=>False) rfl rfl ?aO ?aR (fun _ _ h=>h) (fun _ h=>h.elim) ?aF ?aB ?aS ?aL ?_
     (case aR=>repeat (first|exact (Kd.C_below Aq.out HB.out)|(with_reducible refine Kd.C_alloc ?_ _)|(with_reducible refine Kd.C_drewN ?_ _)|(with_reducible refine Kd.C_drew ?_)))
     (case aB=>exact (yu1 HB.out))
     (case aF=>exact (fun _ _=>trivial))
     (case aO=>exact (mR Af.out))
     (case aS=>exact (zr2 (yu1 HB.out)))
     (case aL=>have:=LMc4.out;omega)
     intro v156 H5 ho hb hg hat
     rw [← Ny155.out] at ho
     have n0_:=mk_ (blk_grown (g:=gb146) (o:=.cells #[.int .i64 a0_0,.slice A0_1 l0_1.length c0_1] 35 (0,0)) (by exact Aa.out) hg (Kd.R_ne Af.out Aa.out (by decide)))
     have n1_:=mk_ (blk_grown (g:=gb147) (o:=.cells #[.int .i64 a1_0,.int .i64 a1_1,.slice A1_2 l1_2.length c1_2] 39 (0,0)) (by exact Ab.out) hg (Kd.R_ne Af.out Ab.out (by decide)))
     have n2_:=mk_ (blk_grown (g:=gb148) (o:=.cells #[.int .i64 0,.slice none 0 0] 35 (0,0)) (by exact Ac.out) hg (Kd.R_ne Af.out Ac.out (by decide)))
     have n3_:=mk_ (hb)
     have n4_:=mk_ (ho)
     clear Aa
     clear Ab
     clear Ac
     clear HB
     clear Af
     have Aa:=n0_
     have Ab:=n1_
     have Ac:=n2_
     have HB:=n3_
     have Ai:=n4_
     clear n0_ n1_ n2_ n3_ n4_
     clear ho hb hg hat
     refine hK.out _ _ ⟨(zr4 Aa.out 0).trans rfl,(zr4 Aa.out 1).trans rfl,(zr4 Ab.out 0).trans rfl,(zr4 Ab.out 1).trans rfl,(zr4 Ab.out 2).trans rfl⟩ (fun hHeld=>?_)
     clear hK K
     refine norm_ (a':=?_) ?_ ?_
     rotate_left
     ·show Act.put _ (some 18) _=_
      simp only [Act.put,zs1,zs2,zs3,i64_w,i32_w]
      rfl
     refine pA 7 (some 8) (bm 8 255) rfl rfl HT_.out (by kernel_rfl) (fun _ _ _ h=>h) (by rfl) (by intro w';go_simp;with_reducible rfl) (by simp only [Act.put,zs1,zs2,zs3,i64_w,i32_w];rfl) ?_
     refine done_ (done_of HT_.out (by kernel_rfl)) ?_
     have Gf:=Ah.out
     have Gg:=Al.out
     obtain ⟨A4,A5,A6⟩:=cz3 Ab.out
     obtain ⟨A8,A9,Ba⟩:=fz3 Ab.out
     obtain ⟨Bb,Bc⟩:=cz2 Ac.out
     obtain ⟨Bd,Be⟩:=fz2 Ac.out
     try go_wp2
     refine bodyPost_ret (results_ctt rfl _ _ gb148 35 #[.int .i64 0,.slice none 0 0] (0,0) _ rfl (yv0 Ac.out) Try.underlying35 rfl (by kernel_rfl)) rfl ?_
     exact ⟨_,_,by first|rfl|(simp [errW_none,errW_some] <;> rfl)|(simp [*,errW_none,errW_some] <;> rfl),by first|exact Kd.R_nil _ _ _ _ _|exact Kd.N_nil _ _ _ _ _|exact Kd.V_nil _ _ _ _ _|exact Kd.Q_nil _ _ _ _ _|exact Kd.S_nil _ _ _ _ _,by (with_reducible repeat (first|apply Kd.R_alloc|apply Kd.R_drewN|apply Kd.R_drew));exact Kd.R_mono (Kd.R_far (p:=⟨gb148,1,none⟩) (Kd.R_far (p:=⟨gb148,0,none⟩) (Kd.R_types Ai.out Ac.out (by decide)) (fun _ hk=>hk.2) (.int .i64 0)) (fun _ hk=>hk.2) (.slice none 0 0)) (fun _ hk=>(by simp [Value.ownBlock])),by exact yu1 HB.out⟩
   ·rw [if_neg c5] at H
    have c5b0:(a1_0 == 0)=false:=beq_eq_false_iff_ne.mpr c5
    have c5b1:(a1_0 != 0)=true:=bne_iff_ne.mpr c5
    by_cases c38:a1_0=1
    ·rw [if_pos c38] at H
     have c38b0:(a1_0 == 1)=true:=beq_iff_eq.mpr c38
     have c38b1:(a1_0 != 1)=false:=bne_eq_false_iff_eq.mpr c38
     clear c38
     by_cases c39:a0_0 > 0
     ·rw [if_pos c39] at H
      have c39b0:decide (0<a0_0)=true:=decide_eq_true c39
      clear c39
      replace H:=Option.bind_eq_some_iff.mp H
      obtain ⟨⟨t166,t167,t170,t173⟩,Cl,H⟩:=H
      try dsimp only at H
      have Fa:=mk_ Cl
      clear Cl
      simp only [Option.some.injEq,Prod.mk.injEq] at H
      obtain ⟨rfl,rfl,rfl,rfl⟩:=H
      go_enter Try.func76,Try.ntmps76
      try go_wp2_with (first|((with_reducible refine gate_dst (N:=2) rfl ?_);(try (refine gate_guard (by rfl) ?_;dsimp only));refine box_event ?hg (N:=2) ?hd (cs:=#[.int .i64 a0_0,.slice A0_1 l0_1.length c0_1]) (t:=35) ?hr ?_;(case hd=>rfl);(case hg=>rfl);(case hr=>first|(go_simp;done)|(go_simp;rfl));intro gb146 hg H6 hbox hb;have Aa:=mk_ (hbox);have Am:=mk_ ((by rw [hg];exact (zr2 (yu0 HB.out)):w.heap.size≤gb146));have Ar:=Am;replace HB:=mk_ (zr3 (yu0 HB.out) hb);clear hb hbox hg)|((with_reducible refine gate_dst (N:=3) rfl ?_);(try (refine gate_guard (by rfl) ?_;dsimp only));refine box_event ?hg (N:=3) ?hd (cs:=#[.int .i64 a1_0,.int .i64 a1_1,.slice A1_2 l1_2.length c1_2]) (t:=39) ?hr ?_;(case hd=>rfl);(case hg=>rfl);(case hr=>first|(go_simp;done)|(go_simp;rfl));intro gb147 hg H7 hbox hb;have Ab:=mk_ (hbox);have An:=mk_ ((by rw [hg];exact (zr2 (yu1 HB.out)):w.heap.size≤gb147));have As:=An;replace HB:=mk_ (zr3 (yu1 HB.out) hb);have Ag:=mk_ ((by rw [hg];exact zm2 (zr6 (by exact Aa.out)):gb146≠gb147));replace Aa:=mk_ (zq6 (by exact Aa.out) hb);have Ak:=mk_ Ag.out.symm;clear hb hbox hg)|((with_reducible refine gate_dst (N:=4) rfl ?_);(try (refine gate_guard (by rfl) ?_;dsimp only));refine box_event ?hg (N:=4) ?hd (cs:=#[.int .i64 0,.slice none 0 0]) (t:=35) ?hr ?_;(case hd=>rfl);(case hg=>rfl);(case hr=>first|(go_simp;done)|(go_simp;rfl));intro gb148 hg Fb hbox hb;have Ac:=mk_ (hbox);have Ao:=mk_ ((by rw [hg];exact (zr2 (yu1 HB.out)):w.heap.size≤gb148));have At:=Ao;replace HB:=mk_ (zr3 (yu1 HB.out) hb);have Ad:=mk_ ((by rw [hg];exact zm2 (zr6 (by exact Aa.out)):gb146≠gb148));replace Aa:=mk_ (zq6 (by exact Aa.out) hb);have Aj:=mk_ Ad.out.symm;have Ah:=mk_ ((by rw [hg];exact zm2 (zr6 (by exact Ab.out)):gb147≠gb148));replace Ab:=mk_ (zq6 (by exact Ab.out) hb);have Al:=mk_ Ah.out.symm;clear hb hbox hg;have Gh:=Ag.out;have Gi:=Ak.out;have Gj:=Ad.out;have Gk:=Aj.out;obtain ⟨Bf,Bg⟩:=cz2 Aa.out;obtain ⟨Bh,Bi⟩:=fz2 Aa.out))
      replace Aa:=mk_ (zq2 Aa.out)
      replace Ab:=mk_ (zq2 Ab.out)
      replace Ac:=mk_ (zq2 Ac.out)
      replace HB:=mk_ (zq9 HB.out)
      refine start_ (n:=8) (S:=fun w'=>w'.cell? ⟨gb146,0,none⟩=some (.int .i64 a0_0)∧w'.cell? ⟨gb146,1,none⟩=some (.slice A0_1 l0_1.length c0_1)∧w'.cell? ⟨gb147,0,none⟩=some (.int .i64 a1_0)∧w'.cell? ⟨gb147,1,none⟩=some (.int .i64 a1_1)∧w'.cell? ⟨gb147,2,none⟩=some (.slice A1_2 l1_2.length c1_2)) (ds:=[]) (bm 8 0) (by kernel_rfl) rfl rfl ⟨(zr4 Aa.out 0).trans rfl,(zr4 Aa.out 1).trans rfl,(zr4 Ab.out 0).trans rfl,(zr4 Ab.out 1).trans rfl,(zr4 Ab.out 2).trans rfl⟩ (fun hHeld=>?_);refine with_tabW spec_l4Put.tab2 spec_l4Put.bits2 (fun HT_ HW_=>?_)
      generalize Fb.drew=H8 at Aa Ab Ac HB hHeld ⊢
      refine pA 1 (some 13) (bm 8 2) rfl rfl HT_.out (by kernel_rfl) (fun _ _ _ h=>h) (by rfl) (by intro w';go_simp;with_reducible rfl) (by simp only [Act.put,zs1,zs2,zs3,i64_w,i32_w];rfl) ?_
      refine pA 4 (some 16) (bm 8 18) rfl rfl HT_.out (by kernel_rfl) (fun _ _ _ h=>h) (by rfl) (by intro w';go_simp;with_reducible rfl) (by simp only [Act.put,zs1,zs2,zs3,i64_w,i32_w];rfl) ?_
      refine tA 2 (some 14) (bm 8 22) rfl rfl HT_.out HW_.out (by kernel_rfl) (fun _ _ _ h=>h) (by rfl) hHeld (by rintro w' ⟨s0,s1,s2,s3,s4⟩;go_simp;with_reducible rfl) (by simp only [Act.put,zs1,zs2,zs3,i64_w,i32_w];rfl) ?_
      refine tA 5 (some 17) (bm 8 54) rfl rfl HT_.out HW_.out (by kernel_rfl) (fun _ _ _ h=>h) (by rfl) hHeld (by rintro w' ⟨s0,s1,s2,s3,s4⟩;go_simp;with_reducible rfl) (by simp only [Act.put,zs1,zs2,zs3,i64_w,i32_w];rfl) ?_
      refine one_ (i:=0) (N:=some 12) (bm 8 55) rfl rfl (one_of HT_.out (by kernel_rfl)) (by decide) (fun K hK=>?_)
      refine Kd.R_lit_step ku _ 5 ?hg (N:=12) ?hd (xs:=([]:List Int)) (inner:=[]) (ok:=fun _=>True) (okp:=fun _=>True) ?hr ?hp (fun _ hk=>hk) trivial (Below.refl _ _) (Nat.le_refl _) (by simp) ?_;(case hd=>rfl);(case hg=>rfl);(case hr=>first|(go_simp;done)|(go_simp;rfl));(case hp=>exact (Reps.none _ _))
      intro v150 H9 ho49 hb hg_ hnew_
      clear hg_ hnew_
      (first|rw [← Ny149.out] at ho49|(simp only [Int.reduceToNat] at ho49;rw [← Ny149.out] at ho49))
      have Ae:=mk_ (Kd.R_lower ho49 (zr2 (yu1 HB.out)))
      replace Aa:=mk_ (zq6 (by exact Aa.out) hb)
      replace Ab:=mk_ (zq6 (by exact Ab.out) hb)
      replace Ac:=mk_ (zq6 (by exact Ac.out) hb)
      replace HB:=mk_ (zr3 (yu1 HB.out) hb)
      clear hb ho49
      refine hK.out _ _ ⟨(zr4 Aa.out 0).trans rfl,(zr4 Aa.out 1).trans rfl,(zr4 Ab.out 0).trans rfl,(zr4 Ab.out 1).trans rfl,(zr4 Ab.out 2).trans rfl⟩ (fun hHeld=>?_)
      clear hK K
      refine norm_ (a':=?_) ?_ ?_
      rotate_left
      ·show Act.put _ (some 12) _=_
       simp only [Act.put,zs1,zs2,zs3,i64_w,i32_w]
       rfl
      refine one_ (i:=3) (N:=some 15) (bm 8 63) rfl rfl (one_of HT_.out (by kernel_rfl)) (by decide) (fun K hK=>?_)
      refine Kd.R_append_rows_step ku (w0:=w) w.heap.size (by rfl) (.tmp 12) (.tmp 14) 22 5 (.int .u8 0) 1 rfl Try.underlying22 info5 rfl (by decide) (by omega) v150 y149 l0_1 _ _ _ (fun _=>True) (fun _=>False) rfl rfl ?aO ?aR (fun _ _ h=>h) (fun _ h=>h.elim) ?aF ?aB ?aS ?aL ?_
      (case aR=>repeat (first|exact (Kd.C_below Ap.out HB.out)|(with_reducible refine Kd.C_alloc ?_ _)|(with_reducible refine Kd.C_drewN ?_ _)|(with_reducible refine Kd.C_drew ?_)))
      (case aB=>exact (yu1 HB.out))
      (case aF=>exact (fun _ _=>trivial))
      (case aO=>exact (mR Ae.out))
      (case aS=>exact (zr2 (yu1 HB.out)))
      (case aL=>have:=LMc3.out;omega)
      intro v153 Ia ho hb hg hat
      rw [← Ny152.out] at ho
      have n0_:=mk_ (blk_grown (g:=gb146) (o:=.cells #[.int .i64 a0_0,.slice A0_1 l0_1.length c0_1] 35 (0,0)) (by exact Aa.out) hg (Kd.R_ne Ae.out Aa.out (by decide)))
      have n1_:=mk_ (blk_grown (g:=gb147) (o:=.cells #[.int .i64 a1_0,.int .i64 a1_1,.slice A1_2 l1_2.length c1_2] 39 (0,0)) (by exact Ab.out) hg (Kd.R_ne Ae.out Ab.out (by decide)))
      have n2_:=mk_ (blk_grown (g:=gb148) (o:=.cells #[.int .i64 0,.slice none 0 0] 35 (0,0)) (by exact Ac.out) hg (Kd.R_ne Ae.out Ac.out (by decide)))
      have n3_:=mk_ (hb)
      have n4_:=mk_ (ho)
      clear Aa
      clear Ab
      clear Ac
      clear HB
      clear Ae
      have Aa:=n0_
      have Ab:=n1_
      have Ac:=n2_
      have HB:=n3_
      have Af:=n4_
      clear n0_ n1_ n2_ n3_ n4_
      clear ho hb hg hat
      refine hK.out _ _ ⟨(zr4 Aa.out 0).trans rfl,(zr4 Aa.out 1).trans rfl,(zr4 Ab.out 0).trans rfl,(zr4 Ab.out 1).trans rfl,(zr4 Ab.out 2).trans rfl⟩ (fun hHeld=>?_)
      clear hK K
      refine norm_ (a':=?_) ?_ ?_
      rotate_left
      ·show Act.put _ (some 15) _=_
       simp only [Act.put,zs1,zs2,zs3,i64_w,i32_w]
       rfl
      refine one_ (i:=6) (N:=some 18) (bm 8 127) rfl rfl (one_of HT_.out (by kernel_rfl)) (by decide) (fun K hK=>?_)
      refine Kd.R_append_rows_step ku (w0:=w) w.heap.size (by rfl) (.tmp 15) (.tmp 17) 22 5 (.int .u8 0) 1 rfl Try.underlying22 info5 rfl (by decide) (by omega) v153 y152 l1_2 _ _ _ (fun _=>True) (fun _=>False) rfl rfl ?aO ?aR (fun _ _ h=>h) (fun _ h=>h.elim) ?aF ?aB ?aS ?aL ?_
      (case aR=>repeat (first|exact (Kd.C_below Aq.out HB.out)|(with_reducible refine Kd.C_alloc ?_ _)|(with_reducible refine Kd.C_drewN ?_ _)|(with_reducible refine Kd.C_drew ?_)))
      (case aB=>exact (yu1 HB.out))
      (case aF=>exact (fun _ _=>trivial))
      (case aO=>exact (mR Af.out))
      (case aS=>exact (zr2 (yu1 HB.out)))
      (case aL=>have:=LMc4.out;omega)
      intro v156 Ib ho hb hg hat
      rw [← Ny155.out] at ho
      have n0_:=mk_ (blk_grown (g:=gb146) (o:=.cells #[.int .i64 a0_0,.slice A0_1 l0_1.length c0_1] 35 (0,0)) (by exact Aa.out) hg (Kd.R_ne Af.out Aa.out (by decide)))
      have n1_:=mk_ (blk_grown (g:=gb147) (o:=.cells #[.int .i64 a1_0,.int .i64 a1_1,.slice A1_2 l1_2.length c1_2] 39 (0,0)) (by exact Ab.out) hg (Kd.R_ne Af.out Ab.out (by decide)))
      have n2_:=mk_ (blk_grown (g:=gb148) (o:=.cells #[.int .i64 0,.slice none 0 0] 35 (0,0)) (by exact Ac.out) hg (Kd.R_ne Af.out Ac.out (by decide)))
      have n3_:=mk_ (hb)
      have n4_:=mk_ (ho)
      clear Aa
      clear Ab
      clear Ac
      clear HB
      clear Af
      have Aa:=n0_
      have Ab:=n1_
      have Ac:=n2_
      have HB:=n3_
      have Ai:=n4_
      clear n0_ n1_ n2_ n3_ n4_
      clear ho hb hg hat
      refine hK.out _ _ ⟨(zr4 Aa.out 0).trans rfl,(zr4 Aa.out 1).trans rfl,(zr4 Ab.out 0).trans rfl,(zr4 Ab.out 1).trans rfl,(zr4 Ab.out 2).trans rfl⟩ (fun hHeld=>?_)
      clear hK K
      refine norm_ (a':=?_) ?_ ?_
      rotate_left
      ·show Act.put _ (some 18) _=_
       simp only [Act.put,zs1,zs2,zs3,i64_w,i32_w]
       rfl
      refine pA 7 (some 8) (bm 8 255) rfl rfl HT_.out (by kernel_rfl) (fun _ _ _ h=>h) (by rfl) (by intro w';go_simp;with_reducible rfl) (by simp only [Act.put,zs1,zs2,zs3,i64_w,i32_w];rfl) ?_
      refine done_ (done_of HT_.out (by kernel_rfl)) ?_
      have Gl:=Ah.out
      have Gm:=Al.out
      obtain ⟨Bj,Bk,Bl⟩:=cz3 Ab.out
      obtain ⟨Bm,Bn,Bo⟩:=fz3 Ab.out
      try go_wp2_with (first|((with_reducible refine gate_callee (f:=97) rfl ?_);refine goesL_ (some 33) rfl rfl Try.func97 (by kernel_rfl) rfl #[] rfl am ?_;(with_reducible refine (spec_l4Bad.calls  t166 t167 t170 t173 _ Fa.out).mono ?_);rintro e Ic ⟨v168,v171,rfl,ho0,ho1,hb⟩;refine ⟨_,rfl,?_⟩;have Ay:=mk_ (Kd.R_lower (Kd.R_new' ho0 (Kd.R_lt (mR Ai.out))) (zr2 (yu1 HB.out)));have Co:=mk_ (Kd.R_lower (Kd.R_new' ho1 (Kd.R_lt (mR Ai.out))) (zr2 (yu1 HB.out)));replace Ai:=mk_ (Kd.R_mono (Kd.R_told (Kd.R_told (Kd.R_old (mR Ai.out) hb) (Kd.R_base ho0)) (Kd.R_base ho1)) (fun _ h_=>h_.1));replace Aa:=mk_ (zq6 (by exact Aa.out) hb);replace Ab:=mk_ (zq6 (by exact Ab.out) hb);replace Ac:=mk_ (zq6 (by exact Ac.out) hb);replace HB:=mk_ (zr3 (yu1 HB.out) hb);(try clear hb);(try clear hb2);(try clear hk);(try clear hi);(try clear ho0);(try clear ho1);obtain ⟨Bp,Bq⟩:=cz2 Ac.out;obtain ⟨Br,Bs⟩:=fz2 Ac.out;obtain ⟨Ao56,co56,eo56⟩:=Kd.R_slice Ay.out;subst eo56))
      refine bodyPost_ret (results_ctt rfl _ _ gb148 35 #[.int .i64 t166,.slice Ao56 t167.length co56] (0,0) _ rfl (yv0 Ac.out) Try.underlying35 rfl (by kernel_rfl)) rfl ?_
      exact ⟨_,_,by first|rfl|(simp [errW_none,errW_some] <;> rfl)|(simp [*,errW_none,errW_some] <;> rfl),by (with_reducible repeat (first|apply Kd.R_alloc|apply Kd.R_drewN|apply Kd.R_drew));exact Kd.R_mono (Kd.R_far (p:=⟨gb148,1,none⟩) (Kd.R_far (p:=⟨gb148,0,none⟩) (Kd.R_types Ay.out Ac.out (by decide)) (fun _ hk=>hk.2) (.int .i64 t166)) (fun _ hk=>hk.2) (.slice Ao56 t167.length co56)) (fun _ hk=>hk.1.1),by (with_reducible repeat (first|apply Kd.R_alloc|apply Kd.R_drewN|apply Kd.R_drew));exact Kd.R_mono (Kd.R_far (p:=⟨gb148,1,none⟩) (Kd.R_far (p:=⟨gb148,0,none⟩) (Kd.R_types Co.out Ac.out (by decide)) (fun _ hk=>hk.2) (.int .i64 t166)) (fun _ hk=>hk.2) (.slice Ao56 t167.length co56)) (fun _ hk=>hk.1.1),by exact yu1 HB.out⟩
     ·rw [if_neg c39] at H
      have c39b0:decide (0<a0_0)=false:=decide_eq_false c39
      clear c39
      obtain ⟨y174,hy174⟩:∃ y_:List Int,y_=(([]:List Int)):=⟨_,rfl⟩
      replace H:(some (a1_1,y155,y174,1))=some (r1,r2,r3,r4):=by first|(rw [hy174];with_reducible exact H)|(have H2_:=(Option.bind_some _ _).symm.trans H;rw [hy174];with_reducible exact H2_)|(have H2_:=(Option.bind_some _ _).symm.trans H;with_reducible exact H2_)|with_reducible exact H|(rw [hy174];exact H)|exact H
      have Ny174:=mk_ hy174
      clear hy174
      simp only [Option.some.injEq,Prod.mk.injEq] at H
      obtain ⟨rfl,rfl,rfl,rfl⟩:=H
      go_enter Try.func76,Try.ntmps76
      try go_wp2_with (first|((with_reducible refine gate_dst (N:=2) rfl ?_);(try (refine gate_guard (by rfl) ?_;dsimp only));refine box_event ?hg (N:=2) ?hd (cs:=#[.int .i64 a0_0,.slice A0_1 l0_1.length c0_1]) (t:=35) ?hr ?_;(case hd=>rfl);(case hg=>rfl);(case hr=>first|(go_simp;done)|(go_simp;rfl));intro gb146 hg Id hbox hb;have Aa:=mk_ (hbox);have Am:=mk_ ((by rw [hg];exact (zr2 (yu0 HB.out)):w.heap.size≤gb146));have Ar:=Am;replace HB:=mk_ (zr3 (yu0 HB.out) hb);clear hb hbox hg)|((with_reducible refine gate_dst (N:=3) rfl ?_);(try (refine gate_guard (by rfl) ?_;dsimp only));refine box_event ?hg (N:=3) ?hd (cs:=#[.int .i64 a1_0,.int .i64 a1_1,.slice A1_2 l1_2.length c1_2]) (t:=39) ?hr ?_;(case hd=>rfl);(case hg=>rfl);(case hr=>first|(go_simp;done)|(go_simp;rfl));intro gb147 hg Ie hbox hb;have Ab:=mk_ (hbox);have An:=mk_ ((by rw [hg];exact (zr2 (yu1 HB.out)):w.heap.size≤gb147));have As:=An;replace HB:=mk_ (zr3 (yu1 HB.out) hb);have Ag:=mk_ ((by rw [hg];exact zm2 (zr6 (by exact Aa.out)):gb146≠gb147));replace Aa:=mk_ (zq6 (by exact Aa.out) hb);have Ak:=mk_ Ag.out.symm;clear hb hbox hg)|((with_reducible refine gate_dst (N:=4) rfl ?_);(try (refine gate_guard (by rfl) ?_;dsimp only));refine box_event ?hg (N:=4) ?hd (cs:=#[.int .i64 0,.slice none 0 0]) (t:=35) ?hr ?_;(case hd=>rfl);(case hg=>rfl);(case hr=>first|(go_simp;done)|(go_simp;rfl));intro gb148 hg Fc hbox hb;have Ac:=mk_ (hbox);have Ao:=mk_ ((by rw [hg];exact (zr2 (yu1 HB.out)):w.heap.size≤gb148));have At:=Ao;replace HB:=mk_ (zr3 (yu1 HB.out) hb);have Ad:=mk_ ((by rw [hg];exact zm2 (zr6 (by exact Aa.out)):gb146≠gb148));replace Aa:=mk_ (zq6 (by exact Aa.out) hb);have Aj:=mk_ Ad.out.symm;have Ah:=mk_ ((by rw [hg];exact zm2 (zr6 (by exact Ab.out)):gb147≠gb148));replace Ab:=mk_ (zq6 (by exact Ab.out) hb);have Al:=mk_ Ah.out.symm;clear hb hbox hg;have Gn:=Ag.out;have Gp:=Ak.out;have Gq:=Ad.out;have Gr:=Aj.out;obtain ⟨Bt,Bu⟩:=cz2 Aa.out;obtain ⟨Bv,Bw⟩:=fz2 Aa.out))
      replace Aa:=mk_ (zq2 Aa.out)
      replace Ab:=mk_ (zq2 Ab.out)
      replace Ac:=mk_ (zq2 Ac.out)
      replace HB:=mk_ (zq9 HB.out)
      refine start_ (n:=8) (S:=fun w'=>w'.cell? ⟨gb146,0,none⟩=some (.int .i64 a0_0)∧w'.cell? ⟨gb146,1,none⟩=some (.slice A0_1 l0_1.length c0_1)∧w'.cell? ⟨gb147,0,none⟩=some (.int .i64 a1_0)∧w'.cell? ⟨gb147,1,none⟩=some (.int .i64 a1_1)∧w'.cell? ⟨gb147,2,none⟩=some (.slice A1_2 l1_2.length c1_2)) (ds:=[]) (bm 8 0) (by kernel_rfl) rfl rfl ⟨(zr4 Aa.out 0).trans rfl,(zr4 Aa.out 1).trans rfl,(zr4 Ab.out 0).trans rfl,(zr4 Ab.out 1).trans rfl,(zr4 Ab.out 2).trans rfl⟩ (fun hHeld=>?_);refine with_tabW spec_l4Put.tab2 spec_l4Put.bits2 (fun HT_ HW_=>?_)
      generalize Fc.drew=If at Aa Ab Ac HB hHeld ⊢
      refine pA 1 (some 13) (bm 8 2) rfl rfl HT_.out (by kernel_rfl) (fun _ _ _ h=>h) (by rfl) (by intro w';go_simp;with_reducible rfl) (by simp only [Act.put,zs1,zs2,zs3,i64_w,i32_w];rfl) ?_
      refine pA 4 (some 16) (bm 8 18) rfl rfl HT_.out (by kernel_rfl) (fun _ _ _ h=>h) (by rfl) (by intro w';go_simp;with_reducible rfl) (by simp only [Act.put,zs1,zs2,zs3,i64_w,i32_w];rfl) ?_
      refine tA 2 (some 14) (bm 8 22) rfl rfl HT_.out HW_.out (by kernel_rfl) (fun _ _ _ h=>h) (by rfl) hHeld (by rintro w' ⟨s0,s1,s2,s3,s4⟩;go_simp;with_reducible rfl) (by simp only [Act.put,zs1,zs2,zs3,i64_w,i32_w];rfl) ?_
      refine tA 5 (some 17) (bm 8 54) rfl rfl HT_.out HW_.out (by kernel_rfl) (fun _ _ _ h=>h) (by rfl) hHeld (by rintro w' ⟨s0,s1,s2,s3,s4⟩;go_simp;with_reducible rfl) (by simp only [Act.put,zs1,zs2,zs3,i64_w,i32_w];rfl) ?_
      refine one_ (i:=0) (N:=some 12) (bm 8 55) rfl rfl (one_of HT_.out (by kernel_rfl)) (by decide) (fun K hK=>?_)
      refine Kd.R_lit_step ku _ 5 ?hg (N:=12) ?hd (xs:=([]:List Int)) (inner:=[]) (ok:=fun _=>True) (okp:=fun _=>True) ?hr ?hp (fun _ hk=>hk) trivial (Below.refl _ _) (Nat.le_refl _) (by simp) ?_;(case hd=>rfl);(case hg=>rfl);(case hr=>first|(go_simp;done)|(go_simp;rfl));(case hp=>exact (Reps.none _ _))
      intro v150 Ig ho65 hb hg_ hnew_
      clear hg_ hnew_
      (first|rw [← Ny149.out] at ho65|(simp only [Int.reduceToNat] at ho65;rw [← Ny149.out] at ho65))
      have Ae:=mk_ (Kd.R_lower ho65 (zr2 (yu1 HB.out)))
      replace Aa:=mk_ (zq6 (by exact Aa.out) hb)
      replace Ab:=mk_ (zq6 (by exact Ab.out) hb)
      replace Ac:=mk_ (zq6 (by exact Ac.out) hb)
      replace HB:=mk_ (zr3 (yu1 HB.out) hb)
      clear hb ho65
      refine hK.out _ _ ⟨(zr4 Aa.out 0).trans rfl,(zr4 Aa.out 1).trans rfl,(zr4 Ab.out 0).trans rfl,(zr4 Ab.out 1).trans rfl,(zr4 Ab.out 2).trans rfl⟩ (fun hHeld=>?_)
      clear hK K
      refine norm_ (a':=?_) ?_ ?_
      rotate_left
      ·show Act.put _ (some 12) _=_
       simp only [Act.put,zs1,zs2,zs3,i64_w,i32_w]
       rfl
      refine one_ (i:=3) (N:=some 15) (bm 8 63) rfl rfl (one_of HT_.out (by kernel_rfl)) (by decide) (fun K hK=>?_)
      refine Kd.R_append_rows_step ku (w0:=w) w.heap.size (by rfl) (.tmp 12) (.tmp 14) 22 5 (.int .u8 0) 1 rfl Try.underlying22 info5 rfl (by decide) (by omega) v150 y149 l0_1 _ _ _ (fun _=>True) (fun _=>False) rfl rfl ?aO ?aR (fun _ _ h=>h) (fun _ h=>h.elim) ?aF ?aB ?aS ?aL ?_
      (case aR=>repeat (first|exact (Kd.C_below Ap.out HB.out)|(with_reducible refine Kd.C_alloc ?_ _)|(with_reducible refine Kd.C_drewN ?_ _)|(with_reducible refine Kd.C_drew ?_)))
      (case aB=>exact (yu1 HB.out))
      (case aF=>exact (fun _ _=>trivial))
      (case aO=>exact (mR Ae.out))
      (case aS=>exact (zr2 (yu1 HB.out)))
      (case aL=>have:=LMc3.out;omega)
      intro v153 Ih ho hb hg hat
      rw [← Ny152.out] at ho
      have n0_:=mk_ (blk_grown (g:=gb146) (o:=.cells #[.int .i64 a0_0,.slice A0_1 l0_1.length c0_1] 35 (0,0)) (by exact Aa.out) hg (Kd.R_ne Ae.out Aa.out (by decide)))
      have n1_:=mk_ (blk_grown (g:=gb147) (o:=.cells #[.int .i64 a1_0,.int .i64 a1_1,.slice A1_2 l1_2.length c1_2] 39 (0,0)) (by exact Ab.out) hg (Kd.R_ne Ae.out Ab.out (by decide)))
      have n2_:=mk_ (blk_grown (g:=gb148) (o:=.cells #[.int .i64 0,.slice none 0 0] 35 (0,0)) (by exact Ac.out) hg (Kd.R_ne Ae.out Ac.out (by decide)))
      have n3_:=mk_ (hb)
      have n4_:=mk_ (ho)
      clear Aa
      clear Ab
      clear Ac
      clear HB
      clear Ae
      have Aa:=n0_
      have Ab:=n1_
      have Ac:=n2_
      have HB:=n3_
      have Af:=n4_
      clear n0_ n1_ n2_ n3_ n4_
      clear ho hb hg hat
      refine hK.out _ _ ⟨(zr4 Aa.out 0).trans rfl,(zr4 Aa.out 1).trans rfl,(zr4 Ab.out 0).trans rfl,(zr4 Ab.out 1).trans rfl,(zr4 Ab.out 2).trans rfl⟩ (fun hHeld=>?_)
      clear hK K
      refine norm_ (a':=?_) ?_ ?_
      rotate_left
      ·show Act.put _ (some 15) _=_
       simp only [Act.put,zs1,zs2,zs3,i64_w,i32_w]
       rfl
      refine one_ (i:=6) (N:=some 18) (bm 8 127) rfl rfl (one_of HT_.out (by kernel_rfl)) (by decide) (fun K hK=>?_)
      refine Kd.R_append_rows_step ku (w0:=w) w.heap.size (by rfl) (.tmp 15) (.tmp 17) 22 5 (.int .u8 0) 1 rfl Try.underlying22 info5 rfl (by decide) (by omega) v153 y152 l1_2 _ _ _ (fun _=>True) (fun _=>False) rfl rfl ?aO ?aR (fun _ _ h=>h) (fun _ h=>h.elim) ?aF ?aB ?aS ?aL ?_
      (case aR=>repeat (first|exact (Kd.C_below Aq.out HB.out)|(with_reducible refine Kd.C_alloc ?_ _)|(with_reducible refine Kd.C_drewN ?_ _)|(with_reducible refine Kd.C_drew ?_)))
      (case aB=>exact (yu1 HB.out))
      (case aF=>exact (fun _ _=>trivial))
      (case aO=>exact (mR Af.out))
      (case aS=>exact (zr2 (yu1 HB.out)))
      (case aL=>have:=LMc4.out;omega)
      intro v156 Ii ho hb hg hat
      rw [← Ny155.out] at ho
      have n0_:=mk_ (blk_grown (g:=gb146) (o:=.cells #[.int .i64 a0_0,.slice A0_1 l0_1.length c0_1] 35 (0,0)) (by exact Aa.out) hg (Kd.R_ne Af.out Aa.out (by decide)))
      have n1_:=mk_ (blk_grown (g:=gb147) (o:=.cells #[.int .i64 a1_0,.int .i64 a1_1,.slice A1_2 l1_2.length c1_2] 39 (0,0)) (by exact Ab.out) hg (Kd.R_ne Af.out Ab.out (by decide)))
      have n2_:=mk_ (blk_grown (g:=gb148) (o:=.cells #[.int .i64 0,.slice none 0 0] 35 (0,0)) (by exact Ac.out) hg (Kd.R_ne Af.out Ac.out (by decide)))
      have n3_:=mk_ (hb)
      have n4_:=mk_ (ho)
      clear Aa
      clear Ab
      clear Ac
      clear HB
      clear Af
      have Aa:=n0_
      have Ab:=n1_
      have Ac:=n2_
      have HB:=n3_
      have Ai:=n4_
      clear n0_ n1_ n2_ n3_ n4_
      clear ho hb hg hat
      refine hK.out _ _ ⟨(zr4 Aa.out 0).trans rfl,(zr4 Aa.out 1).trans rfl,(zr4 Ab.out 0).trans rfl,(zr4 Ab.out 1).trans rfl,(zr4 Ab.out 2).trans rfl⟩ (fun hHeld=>?_)
      clear hK K
      refine norm_ (a':=?_) ?_ ?_
      rotate_left
      ·show Act.put _ (some 18) _=_
       simp only [Act.put,zs1,zs2,zs3,i64_w,i32_w]
       rfl
      refine pA 7 (some 8) (bm 8 255) rfl rfl HT_.out (by kernel_rfl) (fun _ _ _ h=>h) (by rfl) (by intro w';go_simp;with_reducible rfl) (by simp only [Act.put,zs1,zs2,zs3,i64_w,i32_w];rfl) ?_
      refine done_ (done_of HT_.out (by kernel_rfl)) ?_
      have Gs:=Ah.out
      have Gt:=Al.out
      obtain ⟨Bx,By,Bz⟩:=cz3 Ab.out
      obtain ⟨B0,B1,B2⟩:=fz3 Ab.out
      obtain ⟨Ao70,co70,eo70⟩:=Kd.R_slice Ai.out
      subst eo70
      try go_wp2_with (first|((with_reducible refine gate_dst (N:=41) rfl ?_);(try (refine gate_guard (by rfl) ?_;dsimp only));refine Kd.R_lit ku _ 5 ?hg (N:=41) ?hd (xs:=([]:List Int)) (inner:=[]) (ok:=fun _=>True) (okp:=fun _=>True) ?hr ?hp (fun _ hk=>hk) trivial (Below.refl _ _) (Nat.le_refl _) (by simp) ?_;(case hd=>rfl);(case hg=>rfl);(case hr=>first|(go_simp;done)|(go_simp;rfl));(case hp=>exact (Reps.none _ _));intro v175 Ij ho72 hb hg_ hnew_;clear hg_ hnew_;(first|rw [← Ny174.out] at ho72|(simp only [Int.reduceToNat] at ho72;rw [← Ny174.out] at ho72));have Cp:=mk_ (Kd.R_lower (Kd.R_new' ho72 (Kd.R_lt (mR Ai.out))) (zr2 (yu1 HB.out)));replace Ai:=mk_ (Kd.R_elder' (mR Ai.out) (Kd.R_base ho72) hb);replace Aa:=mk_ (zq6 (by exact Aa.out) hb);replace Ab:=mk_ (zq6 (by exact Ab.out) hb);replace Ac:=mk_ (zq6 (by exact Ac.out) hb);replace HB:=mk_ (zr3 (yu1 HB.out) hb);clear hb ho72;obtain ⟨B3,B4⟩:=cz2 Ac.out;obtain ⟨B5,B6⟩:=fz2 Ac.out))
      refine bodyPost_ret (results_ctt rfl _ _ gb148 35 #[.int .i64 a1_1,.slice Ao70 y155.length co70] (0,0) _ rfl (yv0 Ac.out) Try.underlying35 rfl (by kernel_rfl)) rfl ?_
      exact ⟨_,_,by first|rfl|(simp [errW_none,errW_some] <;> rfl)|(simp [*,errW_none,errW_some] <;> rfl),by (with_reducible repeat (first|apply Kd.R_alloc|apply Kd.R_drewN|apply Kd.R_drew));exact Kd.R_mono (Kd.R_far (p:=⟨gb148,1,none⟩) (Kd.R_far (p:=⟨gb148,0,none⟩) (Kd.R_types Ai.out Ac.out (by decide)) (fun _ hk=>hk.2) (.int .i64 a1_1)) (fun _ hk=>hk.2) (.slice Ao70 y155.length co70)) (fun _ hk=>hk.1.2),by (with_reducible repeat (first|apply Kd.R_alloc|apply Kd.R_drewN|apply Kd.R_drew));exact Kd.R_mono (Kd.R_far (p:=⟨gb148,1,none⟩) (Kd.R_far (p:=⟨gb148,0,none⟩) (Kd.R_types Cp.out Ac.out (by decide)) (fun _ hk=>hk.2) (.int .i64 a1_1)) (fun _ hk=>hk.2) (.slice Ao70 y155.length co70)) (fun _ hk=>hk.1.2),by exact yu1 HB.out⟩
    ·rw [if_neg c38] at H
     have c38b0:(a1_0 == 1)=false:=beq_eq_false_iff_ne.mpr c38
     have c38b1:(a1_0 != 1)=true:=bne_iff_ne.mpr c38
     by_cases c74:a1_0=2
     ·rw [if_pos c74] at H
      have c74b0:(a1_0 == 2)=true:=beq_iff_eq.mpr c74
      have c74b1:(a1_0 != 2)=false:=bne_eq_false_iff_eq.mpr c74
      clear c74
      have Aw:=mk_ H
      clear H
      go_enter Try.func76,Try.ntmps76
      try go_wp2_with (first|((with_reducible refine gate_dst (N:=2) rfl ?_);(try (refine gate_guard (by rfl) ?_;dsimp only));refine box_event ?hg (N:=2) ?hd (cs:=#[.int .i64 a0_0,.slice A0_1 l0_1.length c0_1]) (t:=35) ?hr ?_;(case hd=>rfl);(case hg=>rfl);(case hr=>first|(go_simp;done)|(go_simp;rfl));intro gb146 hg Ik hbox hb;have Aa:=mk_ (hbox);have Am:=mk_ ((by rw [hg];exact (zr2 (yu0 HB.out)):w.heap.size≤gb146));have Ar:=Am;replace HB:=mk_ (zr3 (yu0 HB.out) hb);clear hb hbox hg)|((with_reducible refine gate_dst (N:=3) rfl ?_);(try (refine gate_guard (by rfl) ?_;dsimp only));refine box_event ?hg (N:=3) ?hd (cs:=#[.int .i64 a1_0,.int .i64 a1_1,.slice A1_2 l1_2.length c1_2]) (t:=39) ?hr ?_;(case hd=>rfl);(case hg=>rfl);(case hr=>first|(go_simp;done)|(go_simp;rfl));intro gb147 hg Il hbox hb;have Ab:=mk_ (hbox);have An:=mk_ ((by rw [hg];exact (zr2 (yu1 HB.out)):w.heap.size≤gb147));have As:=An;replace HB:=mk_ (zr3 (yu1 HB.out) hb);have Ag:=mk_ ((by rw [hg];exact zm2 (zr6 (by exact Aa.out)):gb146≠gb147));replace Aa:=mk_ (zq6 (by exact Aa.out) hb);have Ak:=mk_ Ag.out.symm;clear hb hbox hg)|((with_reducible refine gate_dst (N:=4) rfl ?_);(try (refine gate_guard (by rfl) ?_;dsimp only));refine box_event ?hg (N:=4) ?hd (cs:=#[.int .i64 0,.slice none 0 0]) (t:=35) ?hr ?_;(case hd=>rfl);(case hg=>rfl);(case hr=>first|(go_simp;done)|(go_simp;rfl));intro gb148 hg Fd hbox hb;have Ac:=mk_ (hbox);have Ao:=mk_ ((by rw [hg];exact (zr2 (yu1 HB.out)):w.heap.size≤gb148));have At:=Ao;replace HB:=mk_ (zr3 (yu1 HB.out) hb);have Ad:=mk_ ((by rw [hg];exact zm2 (zr6 (by exact Aa.out)):gb146≠gb148));replace Aa:=mk_ (zq6 (by exact Aa.out) hb);have Aj:=mk_ Ad.out.symm;have Ah:=mk_ ((by rw [hg];exact zm2 (zr6 (by exact Ab.out)):gb147≠gb148));replace Ab:=mk_ (zq6 (by exact Ab.out) hb);have Al:=mk_ Ah.out.symm;clear hb hbox hg;have Gu:=Ag.out;have Gv:=Ak.out;have Gw:=Ad.out;have Gx:=Aj.out;obtain ⟨B7,B8⟩:=cz2 Aa.out;obtain ⟨B9,Ca⟩:=fz2 Aa.out))
      replace Aa:=mk_ (zq2 Aa.out)
      replace Ab:=mk_ (zq2 Ab.out)
      replace Ac:=mk_ (zq2 Ac.out)
      replace HB:=mk_ (zq9 HB.out)
      refine start_ (n:=8) (S:=fun w'=>w'.cell? ⟨gb146,0,none⟩=some (.int .i64 a0_0)∧w'.cell? ⟨gb146,1,none⟩=some (.slice A0_1 l0_1.length c0_1)∧w'.cell? ⟨gb147,0,none⟩=some (.int .i64 a1_0)∧w'.cell? ⟨gb147,1,none⟩=some (.int .i64 a1_1)∧w'.cell? ⟨gb147,2,none⟩=some (.slice A1_2 l1_2.length c1_2)) (ds:=[]) (bm 8 0) (by kernel_rfl) rfl rfl ⟨(zr4 Aa.out 0).trans rfl,(zr4 Aa.out 1).trans rfl,(zr4 Ab.out 0).trans rfl,(zr4 Ab.out 1).trans rfl,(zr4 Ab.out 2).trans rfl⟩ (fun hHeld=>?_);refine with_tabW spec_l4Put.tab2 spec_l4Put.bits2 (fun HT_ HW_=>?_)
      generalize Fd.drew=Im at Aa Ab Ac HB hHeld ⊢
      refine pA 1 (some 13) (bm 8 2) rfl rfl HT_.out (by kernel_rfl) (fun _ _ _ h=>h) (by rfl) (by intro w';go_simp;with_reducible rfl) (by simp only [Act.put,zs1,zs2,zs3,i64_w,i32_w];rfl) ?_
      refine pA 4 (some 16) (bm 8 18) rfl rfl HT_.out (by kernel_rfl) (fun _ _ _ h=>h) (by rfl) (by intro w';go_simp;with_reducible rfl) (by simp only [Act.put,zs1,zs2,zs3,i64_w,i32_w];rfl) ?_
      refine tA 2 (some 14) (bm 8 22) rfl rfl HT_.out HW_.out (by kernel_rfl) (fun _ _ _ h=>h) (by rfl) hHeld (by rintro w' ⟨s0,s1,s2,s3,s4⟩;go_simp;with_reducible rfl) (by simp only [Act.put,zs1,zs2,zs3,i64_w,i32_w];rfl) ?_
      refine tA 5 (some 17) (bm 8 54) rfl rfl HT_.out HW_.out (by kernel_rfl) (fun _ _ _ h=>h) (by rfl) hHeld (by rintro w' ⟨s0,s1,s2,s3,s4⟩;go_simp;with_reducible rfl) (by simp only [Act.put,zs1,zs2,zs3,i64_w,i32_w];rfl) ?_
      refine one_ (i:=0) (N:=some 12) (bm 8 55) rfl rfl (one_of HT_.out (by kernel_rfl)) (by decide) (fun K hK=>?_)
      refine Kd.R_lit_step ku _ 5 ?hg (N:=12) ?hd (xs:=([]:List Int)) (inner:=[]) (ok:=fun _=>True) (okp:=fun _=>True) ?hr ?hp (fun _ hk=>hk) trivial (Below.refl _ _) (Nat.le_refl _) (by simp) ?_;(case hd=>rfl);(case hg=>rfl);(case hr=>first|(go_simp;done)|(go_simp;rfl));(case hp=>exact (Reps.none _ _))
      intro v150 In ho84 hb hg_ hnew_
      clear hg_ hnew_
      (first|rw [← Ny149.out] at ho84|(simp only [Int.reduceToNat] at ho84;rw [← Ny149.out] at ho84))
      have Ae:=mk_ (Kd.R_lower ho84 (zr2 (yu1 HB.out)))
      replace Aa:=mk_ (zq6 (by exact Aa.out) hb)
      replace Ab:=mk_ (zq6 (by exact Ab.out) hb)
      replace Ac:=mk_ (zq6 (by exact Ac.out) hb)
      replace HB:=mk_ (zr3 (yu1 HB.out) hb)
      clear hb ho84
      refine hK.out _ _ ⟨(zr4 Aa.out 0).trans rfl,(zr4 Aa.out 1).trans rfl,(zr4 Ab.out 0).trans rfl,(zr4 Ab.out 1).trans rfl,(zr4 Ab.out 2).trans rfl⟩ (fun hHeld=>?_)
      clear hK K
      refine norm_ (a':=?_) ?_ ?_
      rotate_left
      ·show Act.put _ (some 12) _=_
       simp only [Act.put,zs1,zs2,zs3,i64_w,i32_w]
       rfl
      refine one_ (i:=3) (N:=some 15) (bm 8 63) rfl rfl (one_of HT_.out (by kernel_rfl)) (by decide) (fun K hK=>?_)
      refine Kd.R_append_rows_step ku (w0:=w) w.heap.size (by rfl) (.tmp 12) (.tmp 14) 22 5 (.int .u8 0) 1 rfl Try.underlying22 info5 rfl (by decide) (by omega) v150 y149 l0_1 _ _ _ (fun _=>True) (fun _=>False) rfl rfl ?aO ?aR (fun _ _ h=>h) (fun _ h=>h.elim) ?aF ?aB ?aS ?aL ?_
      (case aR=>repeat (first|exact (Kd.C_below Ap.out HB.out)|(with_reducible refine Kd.C_alloc ?_ _)|(with_reducible refine Kd.C_drewN ?_ _)|(with_reducible refine Kd.C_drew ?_)))
      (case aB=>exact (yu1 HB.out))
      (case aF=>exact (fun _ _=>trivial))
      (case aO=>exact (mR Ae.out))
      (case aS=>exact (zr2 (yu1 HB.out)))
      (case aL=>have:=LMc3.out;omega)
      intro v153 Io ho hb hg hat
      rw [← Ny152.out] at ho
      have n0_:=mk_ (blk_grown (g:=gb146) (o:=.cells #[.int .i64 a0_0,.slice A0_1 l0_1.length c0_1] 35 (0,0)) (by exact Aa.out) hg (Kd.R_ne Ae.out Aa.out (by decide)))
      have n1_:=mk_ (blk_grown (g:=gb147) (o:=.cells #[.int .i64 a1_0,.int .i64 a1_1,.slice A1_2 l1_2.length c1_2] 39 (0,0)) (by exact Ab.out) hg (Kd.R_ne Ae.out Ab.out (by decide)))
      have n2_:=mk_ (blk_grown (g:=gb148) (o:=.cells #[.int .i64 0,.slice none 0 0] 35 (0,0)) (by exact Ac.out) hg (Kd.R_ne Ae.out Ac.out (by decide)))
      have n3_:=mk_ (hb)
      have n4_:=mk_ (ho)
      clear Aa
      clear Ab
      clear Ac
      clear HB
      clear Ae
      have Aa:=n0_
      have Ab:=n1_
      have Ac:=n2_
      have HB:=n3_
      have Af:=n4_
      clear n0_ n1_ n2_ n3_ n4_
      clear ho hb hg hat
      refine hK.out _ _ ⟨(zr4 Aa.out 0).trans rfl,(zr4 Aa.out 1).trans rfl,(zr4 Ab.out 0).trans rfl,(zr4 Ab.out 1).trans rfl,(zr4 Ab.out 2).trans rfl⟩ (fun hHeld=>?_)
      clear hK K
      refine norm_ (a':=?_) ?_ ?_
      rotate_left
      ·show Act.put _ (some 15) _=_
       simp only [Act.put,zs1,zs2,zs3,i64_w,i32_w]
       rfl
      refine one_ (i:=6) (N:=some 18) (bm 8 127) rfl rfl (one_of HT_.out (by kernel_rfl)) (by decide) (fun K hK=>?_)
      refine Kd.R_append_rows_step ku (w0:=w) w.heap.size (by rfl) (.tmp 15) (.tmp 17) 22 5 (.int .u8 0) 1 rfl Try.underlying22 info5 rfl (by decide) (by omega) v153 y152 l1_2 _ _ _ (fun _=>True) (fun _=>False) rfl rfl ?aO ?aR (fun _ _ h=>h) (fun _ h=>h.elim) ?aF ?aB ?aS ?aL ?_
      (case aR=>repeat (first|exact (Kd.C_below Aq.out HB.out)|(with_reducible refine Kd.C_alloc ?_ _)|(with_reducible refine Kd.C_drewN ?_ _)|(with_reducible refine Kd.C_drew ?_)))
      (case aB=>exact (yu1 HB.out))
      (case aF=>exact (fun _ _=>trivial))
      (case aO=>exact (mR Af.out))
      (case aS=>exact (zr2 (yu1 HB.out)))
      (case aL=>have:=LMc4.out;omega)
      intro v156 Ip ho hb hg hat
      rw [← Ny155.out] at ho
      have n0_:=mk_ (blk_grown (g:=gb146) (o:=.cells #[.int .i64 a0_0,.slice A0_1 l0_1.length c0_1] 35 (0,0)) (by exact Aa.out) hg (Kd.R_ne Af.out Aa.out (by decide)))
      have n1_:=mk_ (blk_grown (g:=gb147) (o:=.cells #[.int .i64 a1_0,.int .i64 a1_1,.slice A1_2 l1_2.length c1_2] 39 (0,0)) (by exact Ab.out) hg (Kd.R_ne Af.out Ab.out (by decide)))
      have n2_:=mk_ (blk_grown (g:=gb148) (o:=.cells #[.int .i64 0,.slice none 0 0] 35 (0,0)) (by exact Ac.out) hg (Kd.R_ne Af.out Ac.out (by decide)))
      have n3_:=mk_ (hb)
      have n4_:=mk_ (ho)
      clear Aa
      clear Ab
      clear Ac
      clear HB
      clear Af
      have Aa:=n0_
      have Ab:=n1_
      have Ac:=n2_
      have HB:=n3_
      have Ai:=n4_
      clear n0_ n1_ n2_ n3_ n4_
      clear ho hb hg hat
      refine hK.out _ _ ⟨(zr4 Aa.out 0).trans rfl,(zr4 Aa.out 1).trans rfl,(zr4 Ab.out 0).trans rfl,(zr4 Ab.out 1).trans rfl,(zr4 Ab.out 2).trans rfl⟩ (fun hHeld=>?_)
      clear hK K
      refine norm_ (a':=?_) ?_ ?_
      rotate_left
      ·show Act.put _ (some 18) _=_
       simp only [Act.put,zs1,zs2,zs3,i64_w,i32_w]
       rfl
      refine pA 7 (some 8) (bm 8 255) rfl rfl HT_.out (by kernel_rfl) (fun _ _ _ h=>h) (by rfl) (by intro w';go_simp;with_reducible rfl) (by simp only [Act.put,zs1,zs2,zs3,i64_w,i32_w];rfl) ?_
      refine done_ (done_of HT_.out (by kernel_rfl)) ?_
      have Gy:=Ah.out
      have Gz:=Al.out
      obtain ⟨Cb,Cc,Cd⟩:=cz3 Ab.out
      obtain ⟨Ce,Cf,Cg⟩:=fz3 Ab.out
      go_upto_region 13 with (fail)
      go_cut [7,52] (fun v7 v52 wc=>v7=.bool (decide (0<a0_0))∧∃ (kq:Nat) (Av:Bool),v52=.bool Av∧Aside0 (spec_l4Put.j0 kq y155 Av a0_0 l0_1=some (r1,r2,r3,r4))∧Aside0 (kq≤k)∧Aside0 (Kd.R ku 5 wc w.heap.size (fun _=>True) v156 y155)∧Aside0 (wc.heap[gb146]? =some (.cells #[.int .i64 a0_0,(.slice A0_1 l0_1.length c0_1)] 35 (0,0)))∧Aside0 (wc.heap[gb147]? =some (.cells #[.int .i64 a1_0,.int .i64 a1_1,(.slice A1_2 l1_2.length c1_2)] 39 (0,0)))∧Aside0 (wc.heap[gb148]? =some (.cells #[.int .i64 0,(.slice none 0 0)] 35 (0,0)))∧Aside0 (Below w.heap.size w wc))
      case first =>
       have H:=Aw.out
       clear Aw
       by_cases c89:a0_0 > 0
       ·rw [if_pos c89] at H
        have c89b0:decide (0<a0_0)=true:=decide_eq_true c89
        clear c89
        (first|rw [c89b0]|(simp only [i64_w,i32_w];rw [c89b0])|skip)
        have H':=mk_ H
        clear H
        obtain ⟨Ao90,co90,eo90⟩:=Kd.R_slice Ai.out
        subst eo90
        have G0:=Ag.out
        have G1:=Ak.out
        have G2:=Ad.out
        have G3:=Aj.out
        obtain ⟨Ch,Ci⟩:=cz2 Aa.out
        obtain ⟨Cj,Ck⟩:=fz2 Aa.out
        go_wp2
        go_meet
        case rel=>exact ⟨(by first|rfl|(simp;done)|(simp [*];done)),_,(decide ((y155.length:Int) ≥ a0_0)),(by first|rfl|(simp;done)|(simp [*];done)),H',⟨by first|omega|exact Nat.le_refl _⟩,⟨by (with_reducible repeat (first|apply Kd.R_alloc|apply Kd.R_drewN|apply Kd.R_drew));exact Ai.out⟩,⟨by (with_reducible repeat (first|refine zq1 ?_ _|refine zq2 ?_|refine zq3 ?_ _));exact Aa.out⟩,⟨by (with_reducible repeat (first|refine zq1 ?_ _|refine zq2 ?_|refine zq3 ?_ _));exact Ab.out⟩,⟨by (with_reducible repeat (first|refine zq1 ?_ _|refine zq2 ?_|refine zq3 ?_ _));exact Ac.out⟩,⟨by exact yu1 HB.out⟩⟩
       ·rw [if_neg c89] at H
        have c89b0:decide (0<a0_0)=false:=decide_eq_false c89
        clear c89
        (first|rw [c89b0]|(simp only [i64_w,i32_w];rw [c89b0])|skip)
        have H':=mk_ H
        clear H
        go_wp2
        go_meet
        case rel=>exact ⟨(by first|rfl|(simp;done)|(simp [*];done)),_,(true),(by first|rfl|(simp;done)|(simp [*];done)),H',⟨by first|omega|exact Nat.le_refl _⟩,⟨by (with_reducible repeat (first|apply Kd.R_alloc|apply Kd.R_drewN|apply Kd.R_drew));exact Ai.out⟩,⟨by (with_reducible repeat (first|refine zq1 ?_ _|refine zq2 ?_|refine zq3 ?_ _));exact Aa.out⟩,⟨by (with_reducible repeat (first|refine zq1 ?_ _|refine zq2 ?_|refine zq3 ?_ _));exact Ab.out⟩,⟨by (with_reducible repeat (first|refine zq1 ?_ _|refine zq2 ?_|refine zq3 ?_ _));exact Ac.out⟩,⟨by exact yu1 HB.out⟩⟩
      case rest =>
       clear Aw
       try clear c1
       try clear p2
       try clear c3
       try clear c4
       try clear c5
       try clear c5b0
       try clear c5b1
       try clear c6
       try clear c7
       try clear c8
       try clear c9
       try clear c35
       try clear c38
       try clear c38b0
       try clear c38b1
       try clear c39
       try clear c39b0
       try clear c44
       try clear c45
       try clear c52
       try clear c60
       try clear c61
       try clear c68
       try clear c74
       try clear c74b0
       try clear c74b1
       try clear c76
       try clear c79
       try clear c80
       try clear c87
       try clear c89
       try clear c89b0
       try clear c91
       try clear c92
       try clear A4 A5 A6
       try clear Bb Bc
       try clear Bf Bg
       try clear Bj Bk Bl
       try clear Bp Bq
       try clear Bt Bu
       try clear Bx By Bz
       try clear B3 B4
       try clear B7 B8
       try clear Cb Cc Cd
       try clear Ch Ci
       try clear A8 A9 Ba
       try clear Bd Be
       try clear Bh Bi
       try clear Bm Bn Bo
       try clear Br Bs
       try clear Bv Bw
       try clear B0 B1 B2
       try clear B5 B6
       try clear B9 Ca
       try clear Ce Cf Cg
       try clear Cj Ck
       obtain ⟨rfl,kq,Av,rfl,HA,HJ74,Au,Aa,Ab,Ac,HB⟩:=hcut
       cases kq with
       |zero=>exact absurd HA.out (by simp [spec_l4Put.j0])
       |succ G8 =>
        have H:=HA.out
        clear HA
        simp only [spec_l4Put.j0] at H
        by_cases c94:Av=true
        ·subst c94
         have H1:((spec_l4Bad.f).bind fun bt177=>(some (bt177.1,bt177.2.1,bt177.2.2.1,bt177.2.2.2)))=some (r1,r2,r3,r4):=by rw [if_pos rfl] at H;exact H
         clear H
         have H:=H1
         clear H1
         replace H:=Option.bind_eq_some_iff.mp H
         obtain ⟨⟨t177,t178,t181,t184⟩,Cm,H⟩:=H
         try dsimp only at H
         have Fe:=mk_ Cm
         clear Cm
         simp only [Option.some.injEq,Prod.mk.injEq] at H
         obtain ⟨rfl,rfl,rfl,rfl⟩:=H
         go_wp2_with (first|((with_reducible refine gate_callee (f:=97) rfl ?_);refine goesL_ (some 53) rfl rfl Try.func97 (by kernel_rfl) rfl #[] rfl am ?_;(with_reducible refine (spec_l4Bad.calls  t177 t178 t181 t184 _ Fe.out).mono ?_);rintro e Iq ⟨v179,v182,rfl,ho0,ho1,hb⟩;refine ⟨_,rfl,?_⟩;have Az:=mk_ (Kd.R_lower (Kd.R_new' ho0 (Kd.R_lt (mR Au.out))) (zr2 (yu1 HB.out)));have Cq:=mk_ (Kd.R_lower (Kd.R_new' ho1 (Kd.R_lt (mR Au.out))) (zr2 (yu1 HB.out)));replace Au:=mk_ (Kd.R_mono (Kd.R_told (Kd.R_told (Kd.R_old (mR Au.out) hb) (Kd.R_base ho0)) (Kd.R_base ho1)) (fun _ h_=>h_.1));replace Aa:=mk_ (zq6 (by exact Aa.out) hb);replace Ab:=mk_ (zq6 (by exact Ab.out) hb);replace Ac:=mk_ (zq6 (by exact Ac.out) hb);replace HB:=mk_ (zr3 (yu1 HB.out) hb);(try clear hb);(try clear hb2);(try clear hk);(try clear hi);(try clear ho0);(try clear ho1);have G4:=Aj.out;have G5:=Ad.out;have G6:=Al.out;have G7:=Ah.out;obtain ⟨E4,E5⟩:=cz2 Ac.out;obtain ⟨E6,E7⟩:=fz2 Ac.out;obtain ⟨Ao100,co100,eo100⟩:=Kd.R_slice Az.out;subst eo100))
         refine bodyPost_ret (results_ctt rfl _ _ gb148 35 #[.int .i64 t177,.slice Ao100 t178.length co100] (0,0) _ rfl (yv0 Ac.out) Try.underlying35 rfl (by kernel_rfl)) rfl ?_
         exact ⟨_,_,by first|rfl|(simp [errW_none,errW_some] <;> rfl)|(simp [*,errW_none,errW_some] <;> rfl),by (with_reducible repeat (first|apply Kd.R_alloc|apply Kd.R_drewN|apply Kd.R_drew));exact Kd.R_mono (Kd.R_far (p:=⟨gb148,1,none⟩) (Kd.R_far (p:=⟨gb148,0,none⟩) (Kd.R_types Az.out Ac.out (by decide)) (fun _ hk=>hk.2) (.int .i64 t177)) (fun _ hk=>hk.2) (.slice Ao100 t178.length co100)) (fun _ hk=>hk.1.1),by (with_reducible repeat (first|apply Kd.R_alloc|apply Kd.R_drewN|apply Kd.R_drew));exact Kd.R_mono (Kd.R_far (p:=⟨gb148,1,none⟩) (Kd.R_far (p:=⟨gb148,0,none⟩) (Kd.R_types Cq.out Ac.out (by decide)) (fun _ hk=>hk.2) (.int .i64 t177)) (fun _ hk=>hk.2) (.slice Ao100 t178.length co100)) (fun _ hk=>hk.1.1),by exact yu1 HB.out⟩
        ·replace c94:=Bool.eq_false_iff.mpr c94
         subst c94
         have H1:(some (a0_0,y155,(([]:List Int)),1))=some (r1,r2,r3,r4):=by rw [if_neg (show ¬ (false=true) by decide)] at H;exact H
         clear H
         have H:=H1
         clear H1
         obtain ⟨y185,hy185⟩:∃ y_:List Int,y_=(([]:List Int)):=⟨_,rfl⟩
         replace H:(some (a0_0,y155,y185,1))=some (r1,r2,r3,r4):=by first|(rw [hy185];with_reducible exact H)|(have H2_:=(Option.bind_some _ _).symm.trans H;rw [hy185];with_reducible exact H2_)|(have H2_:=(Option.bind_some _ _).symm.trans H;with_reducible exact H2_)|with_reducible exact H|(rw [hy185];exact H)|exact H
         have Ny185:=mk_ hy185
         clear hy185
         simp only [Option.some.injEq,Prod.mk.injEq] at H
         obtain ⟨rfl,rfl,rfl,rfl⟩:=H
         have Ff:=Ag.out
         have Fg:=Ak.out
         have Fh:=Ad.out
         have Fi:=Aj.out
         obtain ⟨Cv,Cw⟩:=cz2 Aa.out
         obtain ⟨Cx,Cy⟩:=fz2 Aa.out
         obtain ⟨Ao104,co104,eo104⟩:=Kd.R_slice Au.out
         subst eo104
         go_wp2_with (first|((with_reducible refine gate_dst (N:=61) rfl ?_);(try (refine gate_guard (by rfl) ?_;dsimp only));refine Kd.R_lit ku _ 5 ?hg (N:=61) ?hd (xs:=([]:List Int)) (inner:=[]) (ok:=fun _=>True) (okp:=fun _=>True) ?hr ?hp (fun _ hk=>hk) trivial (Below.refl _ _) (Nat.le_refl _) (by simp) ?_;(case hd=>rfl);(case hg=>rfl);(case hr=>first|(go_simp;done)|(go_simp;rfl));(case hp=>exact (Reps.none _ _));intro v186 G9 ho106 hb hg_ hnew_;clear hg_ hnew_;(first|rw [← Ny185.out] at ho106|(simp only [Int.reduceToNat] at ho106;rw [← Ny185.out] at ho106));have Cr:=mk_ (Kd.R_lower (Kd.R_new' ho106 (Kd.R_lt (mR Au.out))) (zr2 (yu1 HB.out)));replace Au:=mk_ (Kd.R_elder' (mR Au.out) (Kd.R_base ho106) hb);replace Aa:=mk_ (zq6 (by exact Aa.out) hb);replace Ab:=mk_ (zq6 (by exact Ab.out) hb);replace Ac:=mk_ (zq6 (by exact Ac.out) hb);replace HB:=mk_ (zr3 (yu1 HB.out) hb);clear hb ho106;have Fj:=Al.out;have Fk:=Ah.out;obtain ⟨Cz,C0⟩:=cz2 Ac.out;obtain ⟨C1,C2⟩:=fz2 Ac.out))
         refine bodyPost_ret (results_ctt rfl _ _ gb148 35 #[.int .i64 a0_0,.slice Ao104 y155.length co104] (0,0) _ rfl (yv0 Ac.out) Try.underlying35 rfl (by kernel_rfl)) rfl ?_
         exact ⟨_,_,by first|rfl|(simp [errW_none,errW_some] <;> rfl)|(simp [*,errW_none,errW_some] <;> rfl),by (with_reducible repeat (first|apply Kd.R_alloc|apply Kd.R_drewN|apply Kd.R_drew));exact Kd.R_mono (Kd.R_far (p:=⟨gb148,1,none⟩) (Kd.R_far (p:=⟨gb148,0,none⟩) (Kd.R_types Au.out Ac.out (by decide)) (fun _ hk=>hk.2) (.int .i64 a0_0)) (fun _ hk=>hk.2) (.slice Ao104 y155.length co104)) (fun _ hk=>hk.1.2),by (with_reducible repeat (first|apply Kd.R_alloc|apply Kd.R_drewN|apply Kd.R_drew));exact Kd.R_mono (Kd.R_far (p:=⟨gb148,1,none⟩) (Kd.R_far (p:=⟨gb148,0,none⟩) (Kd.R_types Cr.out Ac.out (by decide)) (fun _ hk=>hk.2) (.int .i64 a0_0)) (fun _ hk=>hk.2) (.slice Ao104 y155.length co104)) (fun _ hk=>hk.1.2),by exact yu1 HB.out⟩
     ·rw [if_neg c74] at H
      have c74b0:(a1_0 == 2)=false:=beq_eq_false_iff_ne.mpr c74
      have c74b1:(a1_0 != 2)=true:=bne_iff_ne.mpr c74
      by_cases c109:a0_0 > 0
      ·rw [if_pos c109] at H
       have c109b0:decide (0<a0_0)=true:=decide_eq_true c109
       clear c109
       by_cases c110:(y155.length:Int)=a0_0
       ·rw [if_pos c110] at H
        have c110b0:((y155.length:Int) == a0_0)=true:=beq_iff_eq.mpr c110
        have c110b1:((y155.length:Int) != a0_0)=false:=bne_eq_false_iff_eq.mpr c110
        clear c110
        simp only [Option.some.injEq,Prod.mk.injEq] at H
        obtain ⟨rfl,rfl,rfl,rfl⟩:=H
        go_enter Try.func76,Try.ntmps76
        try go_wp2_with (first|((with_reducible refine gate_dst (N:=2) rfl ?_);(try (refine gate_guard (by rfl) ?_;dsimp only));refine box_event ?hg (N:=2) ?hd (cs:=#[.int .i64 a0_0,.slice A0_1 l0_1.length c0_1]) (t:=35) ?hr ?_;(case hd=>rfl);(case hg=>rfl);(case hr=>first|(go_simp;done)|(go_simp;rfl));intro gb146 hg Ha hbox hb;have Aa:=mk_ (hbox);have Am:=mk_ ((by rw [hg];exact (zr2 (yu0 HB.out)):w.heap.size≤gb146));have Ar:=Am;replace HB:=mk_ (zr3 (yu0 HB.out) hb);clear hb hbox hg)|((with_reducible refine gate_dst (N:=3) rfl ?_);(try (refine gate_guard (by rfl) ?_;dsimp only));refine box_event ?hg (N:=3) ?hd (cs:=#[.int .i64 a1_0,.int .i64 a1_1,.slice A1_2 l1_2.length c1_2]) (t:=39) ?hr ?_;(case hd=>rfl);(case hg=>rfl);(case hr=>first|(go_simp;done)|(go_simp;rfl));intro gb147 hg Hb hbox hb;have Ab:=mk_ (hbox);have An:=mk_ ((by rw [hg];exact (zr2 (yu1 HB.out)):w.heap.size≤gb147));have As:=An;replace HB:=mk_ (zr3 (yu1 HB.out) hb);have Ag:=mk_ ((by rw [hg];exact zm2 (zr6 (by exact Aa.out)):gb146≠gb147));replace Aa:=mk_ (zq6 (by exact Aa.out) hb);have Ak:=mk_ Ag.out.symm;clear hb hbox hg)|((with_reducible refine gate_dst (N:=4) rfl ?_);(try (refine gate_guard (by rfl) ?_;dsimp only));refine box_event ?hg (N:=4) ?hd (cs:=#[.int .i64 0,.slice none 0 0]) (t:=35) ?hr ?_;(case hd=>rfl);(case hg=>rfl);(case hr=>first|(go_simp;done)|(go_simp;rfl));intro gb148 hg C3 hbox hb;have Ac:=mk_ (hbox);have Ao:=mk_ ((by rw [hg];exact (zr2 (yu1 HB.out)):w.heap.size≤gb148));have At:=Ao;replace HB:=mk_ (zr3 (yu1 HB.out) hb);have Ad:=mk_ ((by rw [hg];exact zm2 (zr6 (by exact Aa.out)):gb146≠gb148));replace Aa:=mk_ (zq6 (by exact Aa.out) hb);have Aj:=mk_ Ad.out.symm;have Ah:=mk_ ((by rw [hg];exact zm2 (zr6 (by exact Ab.out)):gb147≠gb148));replace Ab:=mk_ (zq6 (by exact Ab.out) hb);have Al:=mk_ Ah.out.symm;clear hb hbox hg;have Fl:=Ag.out;have Fm:=Ak.out;have Fn:=Ad.out;have Fo:=Aj.out;obtain ⟨C4,C5⟩:=cz2 Aa.out;obtain ⟨C6,C7⟩:=fz2 Aa.out))
        replace Aa:=mk_ (zq2 Aa.out)
        replace Ab:=mk_ (zq2 Ab.out)
        replace Ac:=mk_ (zq2 Ac.out)
        replace HB:=mk_ (zq9 HB.out)
        refine start_ (n:=8) (S:=fun w'=>w'.cell? ⟨gb146,0,none⟩=some (.int .i64 a0_0)∧w'.cell? ⟨gb146,1,none⟩=some (.slice A0_1 l0_1.length c0_1)∧w'.cell? ⟨gb147,0,none⟩=some (.int .i64 a1_0)∧w'.cell? ⟨gb147,1,none⟩=some (.int .i64 a1_1)∧w'.cell? ⟨gb147,2,none⟩=some (.slice A1_2 l1_2.length c1_2)) (ds:=[]) (bm 8 0) (by kernel_rfl) rfl rfl ⟨(zr4 Aa.out 0).trans rfl,(zr4 Aa.out 1).trans rfl,(zr4 Ab.out 0).trans rfl,(zr4 Ab.out 1).trans rfl,(zr4 Ab.out 2).trans rfl⟩ (fun hHeld=>?_);refine with_tabW spec_l4Put.tab2 spec_l4Put.bits2 (fun HT_ HW_=>?_)
        generalize C3.drew=Hc at Aa Ab Ac HB hHeld ⊢
        refine pA 1 (some 13) (bm 8 2) rfl rfl HT_.out (by kernel_rfl) (fun _ _ _ h=>h) (by rfl) (by intro w';go_simp;with_reducible rfl) (by simp only [Act.put,zs1,zs2,zs3,i64_w,i32_w];rfl) ?_
        refine pA 4 (some 16) (bm 8 18) rfl rfl HT_.out (by kernel_rfl) (fun _ _ _ h=>h) (by rfl) (by intro w';go_simp;with_reducible rfl) (by simp only [Act.put,zs1,zs2,zs3,i64_w,i32_w];rfl) ?_
        refine tA 2 (some 14) (bm 8 22) rfl rfl HT_.out HW_.out (by kernel_rfl) (fun _ _ _ h=>h) (by rfl) hHeld (by rintro w' ⟨s0,s1,s2,s3,s4⟩;go_simp;with_reducible rfl) (by simp only [Act.put,zs1,zs2,zs3,i64_w,i32_w];rfl) ?_
        refine tA 5 (some 17) (bm 8 54) rfl rfl HT_.out HW_.out (by kernel_rfl) (fun _ _ _ h=>h) (by rfl) hHeld (by rintro w' ⟨s0,s1,s2,s3,s4⟩;go_simp;with_reducible rfl) (by simp only [Act.put,zs1,zs2,zs3,i64_w,i32_w];rfl) ?_
        refine one_ (i:=0) (N:=some 12) (bm 8 55) rfl rfl (one_of HT_.out (by kernel_rfl)) (by decide) (fun K hK=>?_)
        refine Kd.R_lit_step ku _ 5 ?hg (N:=12) ?hd (xs:=([]:List Int)) (inner:=[]) (ok:=fun _=>True) (okp:=fun _=>True) ?hr ?hp (fun _ hk=>hk) trivial (Below.refl _ _) (Nat.le_refl _) (by simp) ?_;(case hd=>rfl);(case hg=>rfl);(case hr=>first|(go_simp;done)|(go_simp;rfl));(case hp=>exact (Reps.none _ _))
        intro v150 Hd ho119 hb hg_ hnew_
        clear hg_ hnew_
        (first|rw [← Ny149.out] at ho119|(simp only [Int.reduceToNat] at ho119;rw [← Ny149.out] at ho119))
        have Ae:=mk_ (Kd.R_lower ho119 (zr2 (yu1 HB.out)))
        replace Aa:=mk_ (zq6 (by exact Aa.out) hb)
        replace Ab:=mk_ (zq6 (by exact Ab.out) hb)
        replace Ac:=mk_ (zq6 (by exact Ac.out) hb)
        replace HB:=mk_ (zr3 (yu1 HB.out) hb)
        clear hb ho119
        refine hK.out _ _ ⟨(zr4 Aa.out 0).trans rfl,(zr4 Aa.out 1).trans rfl,(zr4 Ab.out 0).trans rfl,(zr4 Ab.out 1).trans rfl,(zr4 Ab.out 2).trans rfl⟩ (fun hHeld=>?_)
        clear hK K
        refine norm_ (a':=?_) ?_ ?_
        rotate_left
        ·show Act.put _ (some 12) _=_
         simp only [Act.put,zs1,zs2,zs3,i64_w,i32_w]
         rfl
        refine one_ (i:=3) (N:=some 15) (bm 8 63) rfl rfl (one_of HT_.out (by kernel_rfl)) (by decide) (fun K hK=>?_)
        refine Kd.R_append_rows_step ku (w0:=w) w.heap.size (by rfl) (.tmp 12) (.tmp 14) 22 5 (.int .u8 0) 1 rfl Try.underlying22 info5 rfl (by decide) (by omega) v150 y149 l0_1 _ _ _ (fun _=>True) (fun _=>False) rfl rfl ?aO ?aR (fun _ _ h=>h) (fun _ h=>h.elim) ?aF ?aB ?aS ?aL ?_
        (case aR=>repeat (first|exact (Kd.C_below Ap.out HB.out)|(with_reducible refine Kd.C_alloc ?_ _)|(with_reducible refine Kd.C_drewN ?_ _)|(with_reducible refine Kd.C_drew ?_)))
        (case aB=>exact (yu1 HB.out))
        (case aF=>exact (fun _ _=>trivial))
        (case aO=>exact (mR Ae.out))
        (case aS=>exact (zr2 (yu1 HB.out)))
        (case aL=>have:=LMc3.out;omega)
        intro v153 He ho hb hg hat
        rw [← Ny152.out] at ho
        have n0_:=mk_ (blk_grown (g:=gb146) (o:=.cells #[.int .i64 a0_0,.slice A0_1 l0_1.length c0_1] 35 (0,0)) (by exact Aa.out) hg (Kd.R_ne Ae.out Aa.out (by decide)))
        have n1_:=mk_ (blk_grown (g:=gb147) (o:=.cells #[.int .i64 a1_0,.int .i64 a1_1,.slice A1_2 l1_2.length c1_2] 39 (0,0)) (by exact Ab.out) hg (Kd.R_ne Ae.out Ab.out (by decide)))
        have n2_:=mk_ (blk_grown (g:=gb148) (o:=.cells #[.int .i64 0,.slice none 0 0] 35 (0,0)) (by exact Ac.out) hg (Kd.R_ne Ae.out Ac.out (by decide)))
        have n3_:=mk_ (hb)
        have n4_:=mk_ (ho)
        clear Aa
        clear Ab
        clear Ac
        clear HB
        clear Ae
        have Aa:=n0_
        have Ab:=n1_
        have Ac:=n2_
        have HB:=n3_
        have Af:=n4_
        clear n0_ n1_ n2_ n3_ n4_
        clear ho hb hg hat
        refine hK.out _ _ ⟨(zr4 Aa.out 0).trans rfl,(zr4 Aa.out 1).trans rfl,(zr4 Ab.out 0).trans rfl,(zr4 Ab.out 1).trans rfl,(zr4 Ab.out 2).trans rfl⟩ (fun hHeld=>?_)
        clear hK K
        refine norm_ (a':=?_) ?_ ?_
        rotate_left
        ·show Act.put _ (some 15) _=_
         simp only [Act.put,zs1,zs2,zs3,i64_w,i32_w]
         rfl
        refine one_ (i:=6) (N:=some 18) (bm 8 127) rfl rfl (one_of HT_.out (by kernel_rfl)) (by decide) (fun K hK=>?_)
        refine Kd.R_append_rows_step ku (w0:=w) w.heap.size (by rfl) (.tmp 15) (.tmp 17) 22 5 (.int .u8 0) 1 rfl Try.underlying22 info5 rfl (by decide) (by omega) v153 y152 l1_2 _ _ _ (fun _=>True) (fun _=>False) rfl rfl ?aO ?aR (fun _ _ h=>h) (fun _ h=>h.elim) ?aF ?aB ?aS ?aL ?_
        (case aR=>repeat (first|exact (Kd.C_below Aq.out HB.out)|(with_reducible refine Kd.C_alloc ?_ _)|(with_reducible refine Kd.C_drewN ?_ _)|(with_reducible refine Kd.C_drew ?_)))
        (case aB=>exact (yu1 HB.out))
        (case aF=>exact (fun _ _=>trivial))
        (case aO=>exact (mR Af.out))
        (case aS=>exact (zr2 (yu1 HB.out)))
        (case aL=>have:=LMc4.out;omega)
        intro v156 Hf ho hb hg hat
        rw [← Ny155.out] at ho
        have n0_:=mk_ (blk_grown (g:=gb146) (o:=.cells #[.int .i64 a0_0,.slice A0_1 l0_1.length c0_1] 35 (0,0)) (by exact Aa.out) hg (Kd.R_ne Af.out Aa.out (by decide)))
        have n1_:=mk_ (blk_grown (g:=gb147) (o:=.cells #[.int .i64 a1_0,.int .i64 a1_1,.slice A1_2 l1_2.length c1_2] 39 (0,0)) (by exact Ab.out) hg (Kd.R_ne Af.out Ab.out (by decide)))
        have n2_:=mk_ (blk_grown (g:=gb148) (o:=.cells #[.int .i64 0,.slice none 0 0] 35 (0,0)) (by exact Ac.out) hg (Kd.R_ne Af.out Ac.out (by decide)))
        have n3_:=mk_ (hb)
        have n4_:=mk_ (ho)
        clear Aa
        clear Ab
        clear Ac
        clear HB
        clear Af
        have Aa:=n0_
        have Ab:=n1_
        have Ac:=n2_
        have HB:=n3_
        have Ai:=n4_
        clear n0_ n1_ n2_ n3_ n4_
        clear ho hb hg hat
        refine hK.out _ _ ⟨(zr4 Aa.out 0).trans rfl,(zr4 Aa.out 1).trans rfl,(zr4 Ab.out 0).trans rfl,(zr4 Ab.out 1).trans rfl,(zr4 Ab.out 2).trans rfl⟩ (fun hHeld=>?_)
        clear hK K
        refine norm_ (a':=?_) ?_ ?_
        rotate_left
        ·show Act.put _ (some 18) _=_
         simp only [Act.put,zs1,zs2,zs3,i64_w,i32_w]
         rfl
        refine pA 7 (some 8) (bm 8 255) rfl rfl HT_.out (by kernel_rfl) (fun _ _ _ h=>h) (by rfl) (by intro w';go_simp;with_reducible rfl) (by simp only [Act.put,zs1,zs2,zs3,i64_w,i32_w];rfl) ?_
        refine done_ (done_of HT_.out (by kernel_rfl)) ?_
        have Fp:=Ah.out
        have Fq:=Al.out
        obtain ⟨C8,C9,Da⟩:=cz3 Ab.out
        obtain ⟨Db,Dc,Dd⟩:=fz3 Ab.out
        obtain ⟨Ao124,co124,eo124⟩:=Kd.R_slice Ai.out
        subst eo124
        obtain ⟨De,Df⟩:=cz2 Aa.out
        obtain ⟨Dg,Dh⟩:=fz2 Aa.out
        obtain ⟨Di,Dj⟩:=cz2 Ac.out
        obtain ⟨Dk,Dl⟩:=fz2 Ac.out
        try go_wp2
        refine bodyPost_ret (results_ctt rfl _ _ gb148 35 #[.int .i64 0,.slice none 0 0] (0,0) _ rfl (yv0 Ac.out) Try.underlying35 rfl (by kernel_rfl)) rfl ?_
        exact ⟨_,_,by first|rfl|(simp [errW_none,errW_some] <;> rfl)|(simp [*,errW_none,errW_some] <;> rfl),by first|exact Kd.R_nil _ _ _ _ _|exact Kd.N_nil _ _ _ _ _|exact Kd.V_nil _ _ _ _ _|exact Kd.Q_nil _ _ _ _ _|exact Kd.S_nil _ _ _ _ _,by (with_reducible repeat (first|apply Kd.R_alloc|apply Kd.R_drewN|apply Kd.R_drew));exact Kd.R_mono (Kd.R_far (p:=⟨gb148,1,none⟩) (Kd.R_far (p:=⟨gb148,0,none⟩) (Kd.R_types Ai.out Ac.out (by decide)) (fun _ hk=>hk.2) (.int .i64 0)) (fun _ hk=>hk.2) (.slice none 0 0)) (fun _ hk=>(by simp [Value.ownBlock])),by exact yu1 HB.out⟩
       ·rw [if_neg c110] at H
        have c110b0:((y155.length:Int) == a0_0)=false:=beq_eq_false_iff_ne.mpr c110
        have c110b1:((y155.length:Int) != a0_0)=true:=bne_iff_ne.mpr c110
        replace H:=Option.bind_eq_some_iff.mp H
        obtain ⟨⟨t188,t189,t192,t195⟩,A0,H⟩:=H
        try dsimp only at H
        have Dm:=mk_ A0
        clear A0
        simp only [Option.some.injEq,Prod.mk.injEq] at H
        obtain ⟨rfl,rfl,rfl,rfl⟩:=H
        go_enter Try.func76,Try.ntmps76
        try go_wp2_with (first|((with_reducible refine gate_dst (N:=2) rfl ?_);(try (refine gate_guard (by rfl) ?_;dsimp only));refine box_event ?hg (N:=2) ?hd (cs:=#[.int .i64 a0_0,.slice A0_1 l0_1.length c0_1]) (t:=35) ?hr ?_;(case hd=>rfl);(case hg=>rfl);(case hr=>first|(go_simp;done)|(go_simp;rfl));intro gb146 hg Hg hbox hb;have Aa:=mk_ (hbox);have Am:=mk_ ((by rw [hg];exact (zr2 (yu0 HB.out)):w.heap.size≤gb146));have Ar:=Am;replace HB:=mk_ (zr3 (yu0 HB.out) hb);clear hb hbox hg)|((with_reducible refine gate_dst (N:=3) rfl ?_);(try (refine gate_guard (by rfl) ?_;dsimp only));refine box_event ?hg (N:=3) ?hd (cs:=#[.int .i64 a1_0,.int .i64 a1_1,.slice A1_2 l1_2.length c1_2]) (t:=39) ?hr ?_;(case hd=>rfl);(case hg=>rfl);(case hr=>first|(go_simp;done)|(go_simp;rfl));intro gb147 hg Hh hbox hb;have Ab:=mk_ (hbox);have An:=mk_ ((by rw [hg];exact (zr2 (yu1 HB.out)):w.heap.size≤gb147));have As:=An;replace HB:=mk_ (zr3 (yu1 HB.out) hb);have Ag:=mk_ ((by rw [hg];exact zm2 (zr6 (by exact Aa.out)):gb146≠gb147));replace Aa:=mk_ (zq6 (by exact Aa.out) hb);have Ak:=mk_ Ag.out.symm;clear hb hbox hg)|((with_reducible refine gate_dst (N:=4) rfl ?_);(try (refine gate_guard (by rfl) ?_;dsimp only));refine box_event ?hg (N:=4) ?hd (cs:=#[.int .i64 0,.slice none 0 0]) (t:=35) ?hr ?_;(case hd=>rfl);(case hg=>rfl);(case hr=>first|(go_simp;done)|(go_simp;rfl));intro gb148 hg Dn hbox hb;have Ac:=mk_ (hbox);have Ao:=mk_ ((by rw [hg];exact (zr2 (yu1 HB.out)):w.heap.size≤gb148));have At:=Ao;replace HB:=mk_ (zr3 (yu1 HB.out) hb);have Ad:=mk_ ((by rw [hg];exact zm2 (zr6 (by exact Aa.out)):gb146≠gb148));replace Aa:=mk_ (zq6 (by exact Aa.out) hb);have Aj:=mk_ Ad.out.symm;have Ah:=mk_ ((by rw [hg];exact zm2 (zr6 (by exact Ab.out)):gb147≠gb148));replace Ab:=mk_ (zq6 (by exact Ab.out) hb);have Al:=mk_ Ah.out.symm;clear hb hbox hg;have Fr:=Ag.out;have Fs:=Ak.out;have Ft:=Ad.out;have Fu:=Aj.out;obtain ⟨Do,Dp⟩:=cz2 Aa.out;obtain ⟨Dq,Dr⟩:=fz2 Aa.out))
        replace Aa:=mk_ (zq2 Aa.out)
        replace Ab:=mk_ (zq2 Ab.out)
        replace Ac:=mk_ (zq2 Ac.out)
        replace HB:=mk_ (zq9 HB.out)
        refine start_ (n:=8) (S:=fun w'=>w'.cell? ⟨gb146,0,none⟩=some (.int .i64 a0_0)∧w'.cell? ⟨gb146,1,none⟩=some (.slice A0_1 l0_1.length c0_1)∧w'.cell? ⟨gb147,0,none⟩=some (.int .i64 a1_0)∧w'.cell? ⟨gb147,1,none⟩=some (.int .i64 a1_1)∧w'.cell? ⟨gb147,2,none⟩=some (.slice A1_2 l1_2.length c1_2)) (ds:=[]) (bm 8 0) (by kernel_rfl) rfl rfl ⟨(zr4 Aa.out 0).trans rfl,(zr4 Aa.out 1).trans rfl,(zr4 Ab.out 0).trans rfl,(zr4 Ab.out 1).trans rfl,(zr4 Ab.out 2).trans rfl⟩ (fun hHeld=>?_);refine with_tabW spec_l4Put.tab2 spec_l4Put.bits2 (fun HT_ HW_=>?_)
        generalize Dn.drew=Hi at Aa Ab Ac HB hHeld ⊢
        refine pA 1 (some 13) (bm 8 2) rfl rfl HT_.out (by kernel_rfl) (fun _ _ _ h=>h) (by rfl) (by intro w';go_simp;with_reducible rfl) (by simp only [Act.put,zs1,zs2,zs3,i64_w,i32_w];rfl) ?_
        refine pA 4 (some 16) (bm 8 18) rfl rfl HT_.out (by kernel_rfl) (fun _ _ _ h=>h) (by rfl) (by intro w';go_simp;with_reducible rfl) (by simp only [Act.put,zs1,zs2,zs3,i64_w,i32_w];rfl) ?_
        refine tA 2 (some 14) (bm 8 22) rfl rfl HT_.out HW_.out (by kernel_rfl) (fun _ _ _ h=>h) (by rfl) hHeld (by rintro w' ⟨s0,s1,s2,s3,s4⟩;go_simp;with_reducible rfl) (by simp only [Act.put,zs1,zs2,zs3,i64_w,i32_w];rfl) ?_
        refine tA 5 (some 17) (bm 8 54) rfl rfl HT_.out HW_.out (by kernel_rfl) (fun _ _ _ h=>h) (by rfl) hHeld (by rintro w' ⟨s0,s1,s2,s3,s4⟩;go_simp;with_reducible rfl) (by simp only [Act.put,zs1,zs2,zs3,i64_w,i32_w];rfl) ?_
        refine one_ (i:=0) (N:=some 12) (bm 8 55) rfl rfl (one_of HT_.out (by kernel_rfl)) (by decide) (fun K hK=>?_)
        refine Kd.R_lit_step ku _ 5 ?hg (N:=12) ?hd (xs:=([]:List Int)) (inner:=[]) (ok:=fun _=>True) (okp:=fun _=>True) ?hr ?hp (fun _ hk=>hk) trivial (Below.refl _ _) (Nat.le_refl _) (by simp) ?_;(case hd=>rfl);(case hg=>rfl);(case hr=>first|(go_simp;done)|(go_simp;rfl));(case hp=>exact (Reps.none _ _))
        intro v150 Hj ho136 hb hg_ hnew_
        clear hg_ hnew_
        (first|rw [← Ny149.out] at ho136|(simp only [Int.reduceToNat] at ho136;rw [← Ny149.out] at ho136))
        have Ae:=mk_ (Kd.R_lower ho136 (zr2 (yu1 HB.out)))
        replace Aa:=mk_ (zq6 (by exact Aa.out) hb)
        replace Ab:=mk_ (zq6 (by exact Ab.out) hb)
        replace Ac:=mk_ (zq6 (by exact Ac.out) hb)
        replace HB:=mk_ (zr3 (yu1 HB.out) hb)
        clear hb ho136
        refine hK.out _ _ ⟨(zr4 Aa.out 0).trans rfl,(zr4 Aa.out 1).trans rfl,(zr4 Ab.out 0).trans rfl,(zr4 Ab.out 1).trans rfl,(zr4 Ab.out 2).trans rfl⟩ (fun hHeld=>?_)
        clear hK K
        refine norm_ (a':=?_) ?_ ?_
        rotate_left
        ·show Act.put _ (some 12) _=_
         simp only [Act.put,zs1,zs2,zs3,i64_w,i32_w]
         rfl
        refine one_ (i:=3) (N:=some 15) (bm 8 63) rfl rfl (one_of HT_.out (by kernel_rfl)) (by decide) (fun K hK=>?_)
        refine Kd.R_append_rows_step ku (w0:=w) w.heap.size (by rfl) (.tmp 12) (.tmp 14) 22 5 (.int .u8 0) 1 rfl Try.underlying22 info5 rfl (by decide) (by omega) v150 y149 l0_1 _ _ _ (fun _=>True) (fun _=>False) rfl rfl ?aO ?aR (fun _ _ h=>h) (fun _ h=>h.elim) ?aF ?aB ?aS ?aL ?_
        (case aR=>repeat (first|exact (Kd.C_below Ap.out HB.out)|(with_reducible refine Kd.C_alloc ?_ _)|(with_reducible refine Kd.C_drewN ?_ _)|(with_reducible refine Kd.C_drew ?_)))
        (case aB=>exact (yu1 HB.out))
        (case aF=>exact (fun _ _=>trivial))
        (case aO=>exact (mR Ae.out))
        (case aS=>exact (zr2 (yu1 HB.out)))
        (case aL=>have:=LMc3.out;omega)
        intro v153 Hk ho hb hg hat
        rw [← Ny152.out] at ho
        have n0_:=mk_ (blk_grown (g:=gb146) (o:=.cells #[.int .i64 a0_0,.slice A0_1 l0_1.length c0_1] 35 (0,0)) (by exact Aa.out) hg (Kd.R_ne Ae.out Aa.out (by decide)))
        have n1_:=mk_ (blk_grown (g:=gb147) (o:=.cells #[.int .i64 a1_0,.int .i64 a1_1,.slice A1_2 l1_2.length c1_2] 39 (0,0)) (by exact Ab.out) hg (Kd.R_ne Ae.out Ab.out (by decide)))
        have n2_:=mk_ (blk_grown (g:=gb148) (o:=.cells #[.int .i64 0,.slice none 0 0] 35 (0,0)) (by exact Ac.out) hg (Kd.R_ne Ae.out Ac.out (by decide)))
        have n3_:=mk_ (hb)
        have n4_:=mk_ (ho)
        clear Aa
        clear Ab
        clear Ac
        clear HB
        clear Ae
        have Aa:=n0_
        have Ab:=n1_
        have Ac:=n2_
        have HB:=n3_
        have Af:=n4_
        clear n0_ n1_ n2_ n3_ n4_
        clear ho hb hg hat
        refine hK.out _ _ ⟨(zr4 Aa.out 0).trans rfl,(zr4 Aa.out 1).trans rfl,(zr4 Ab.out 0).trans rfl,(zr4 Ab.out 1).trans rfl,(zr4 Ab.out 2).trans rfl⟩ (fun hHeld=>?_)
        clear hK K
        refine norm_ (a':=?_) ?_ ?_
        rotate_left
        ·show Act.put _ (some 15) _=_
         simp only [Act.put,zs1,zs2,zs3,i64_w,i32_w]
         rfl
        refine one_ (i:=6) (N:=some 18) (bm 8 127) rfl rfl (one_of HT_.out (by kernel_rfl)) (by decide) (fun K hK=>?_)
        refine Kd.R_append_rows_step ku (w0:=w) w.heap.size (by rfl) (.tmp 15) (.tmp 17) 22 5 (.int .u8 0) 1 rfl Try.underlying22 info5 rfl (by decide) (by omega) v153 y152 l1_2 _ _ _ (fun _=>True) (fun _=>False) rfl rfl ?aO ?aR (fun _ _ h=>h) (fun _ h=>h.elim) ?aF ?aB ?aS ?aL ?_
        (case aR=>repeat (first|exact (Kd.C_below Aq.out HB.out)|(with_reducible refine Kd.C_alloc ?_ _)|(with_reducible refine Kd.C_drewN ?_ _)|(with_reducible refine Kd.C_drew ?_)))
        (case aB=>exact (yu1 HB.out))
        (case aF=>exact (fun _ _=>trivial))
        (case aO=>exact (mR Af.out))
        (case aS=>exact (zr2 (yu1 HB.out)))
        (case aL=>have:=LMc4.out;omega)
        intro v156 Hl ho hb hg hat
        rw [← Ny155.out] at ho
        have n0_:=mk_ (blk_grown (g:=gb146) (o:=.cells #[.int .i64 a0_0,.slice A0_1 l0_1.length c0_1] 35 (0,0)) (by exact Aa.out) hg (Kd.R_ne Af.out Aa.out (by decide)))
        have n1_:=mk_ (blk_grown (g:=gb147) (o:=.cells #[.int .i64 a1_0,.int .i64 a1_1,.slice A1_2 l1_2.length c1_2] 39 (0,0)) (by exact Ab.out) hg (Kd.R_ne Af.out Ab.out (by decide)))
        have n2_:=mk_ (blk_grown (g:=gb148) (o:=.cells #[.int .i64 0,.slice none 0 0] 35 (0,0)) (by exact Ac.out) hg (Kd.R_ne Af.out Ac.out (by decide)))
        have n3_:=mk_ (hb)
        have n4_:=mk_ (ho)
        clear Aa
        clear Ab
        clear Ac
        clear HB
        clear Af
        have Aa:=n0_
        have Ab:=n1_
        have Ac:=n2_
        have HB:=n3_
        have Ai:=n4_
        clear n0_ n1_ n2_ n3_ n4_
        clear ho hb hg hat
        refine hK.out _ _ ⟨(zr4 Aa.out 0).trans rfl,(zr4 Aa.out 1).trans rfl,(zr4 Ab.out 0).trans rfl,(zr4 Ab.out 1).trans rfl,(zr4 Ab.out 2).trans rfl⟩ (fun hHeld=>?_)
        clear hK K
        refine norm_ (a':=?_) ?_ ?_
        rotate_left
        ·show Act.put _ (some 18) _=_
         simp only [Act.put,zs1,zs2,zs3,i64_w,i32_w]
         rfl
        refine pA 7 (some 8) (bm 8 255) rfl rfl HT_.out (by kernel_rfl) (fun _ _ _ h=>h) (by rfl) (by intro w';go_simp;with_reducible rfl) (by simp only [Act.put,zs1,zs2,zs3,i64_w,i32_w];rfl) ?_
        refine done_ (done_of HT_.out (by kernel_rfl)) ?_
        have Fv:=Ah.out
        have Fw:=Al.out
        obtain ⟨Ds,Dt,Du⟩:=cz3 Ab.out
        obtain ⟨Dv,Dw,Dx⟩:=fz3 Ab.out
        obtain ⟨Ao141,co141,eo141⟩:=Kd.R_slice Ai.out
        subst eo141
        obtain ⟨Dy,Dz⟩:=cz2 Aa.out
        obtain ⟨D0,D1⟩:=fz2 Aa.out
        try go_wp2_with (first|((with_reducible refine gate_callee (f:=97) rfl ?_);refine goesL_ (some 71) rfl rfl Try.func97 (by kernel_rfl) rfl #[] rfl am ?_;(with_reducible refine (spec_l4Bad.calls  t188 t189 t192 t195 _ Dm.out).mono ?_);rintro e Hm ⟨v190,v193,rfl,ho0,ho1,hb⟩;refine ⟨_,rfl,?_⟩;have A1:=mk_ (Kd.R_lower (Kd.R_new' ho0 (Kd.R_lt (mR Ai.out))) (zr2 (yu1 HB.out)));have Cs:=mk_ (Kd.R_lower (Kd.R_new' ho1 (Kd.R_lt (mR Ai.out))) (zr2 (yu1 HB.out)));replace Ai:=mk_ (Kd.R_mono (Kd.R_told (Kd.R_told (Kd.R_old (mR Ai.out) hb) (Kd.R_base ho0)) (Kd.R_base ho1)) (fun _ h_=>h_.1));replace Aa:=mk_ (zq6 (by exact Aa.out) hb);replace Ab:=mk_ (zq6 (by exact Ab.out) hb);replace Ac:=mk_ (zq6 (by exact Ac.out) hb);replace HB:=mk_ (zr3 (yu1 HB.out) hb);(try clear hb);(try clear hb2);(try clear hk);(try clear hi);(try clear ho0);(try clear ho1);obtain ⟨D2,D3⟩:=cz2 Ac.out;obtain ⟨D4,D5⟩:=fz2 Ac.out;obtain ⟨Ao145,co145,eo145⟩:=Kd.R_slice A1.out;subst eo145))
        refine bodyPost_ret (results_ctt rfl _ _ gb148 35 #[.int .i64 t188,.slice Ao145 t189.length co145] (0,0) _ rfl (yv0 Ac.out) Try.underlying35 rfl (by kernel_rfl)) rfl ?_
        exact ⟨_,_,by first|rfl|(simp [errW_none,errW_some] <;> rfl)|(simp [*,errW_none,errW_some] <;> rfl),by (with_reducible repeat (first|apply Kd.R_alloc|apply Kd.R_drewN|apply Kd.R_drew));exact Kd.R_mono (Kd.R_far (p:=⟨gb148,1,none⟩) (Kd.R_far (p:=⟨gb148,0,none⟩) (Kd.R_types A1.out Ac.out (by decide)) (fun _ hk=>hk.2) (.int .i64 t188)) (fun _ hk=>hk.2) (.slice Ao145 t189.length co145)) (fun _ hk=>hk.1.1),by (with_reducible repeat (first|apply Kd.R_alloc|apply Kd.R_drewN|apply Kd.R_drew));exact Kd.R_mono (Kd.R_far (p:=⟨gb148,1,none⟩) (Kd.R_far (p:=⟨gb148,0,none⟩) (Kd.R_types Cs.out Ac.out (by decide)) (fun _ hk=>hk.2) (.int .i64 t188)) (fun _ hk=>hk.2) (.slice Ao145 t189.length co145)) (fun _ hk=>hk.1.1),by exact yu1 HB.out⟩
      ·rw [if_neg c109] at H
       have c109b0:decide (0<a0_0)=false:=decide_eq_false c109
       clear c109
       replace H:=Option.bind_eq_some_iff.mp H
       obtain ⟨⟨t196,t197,t200,t203⟩,A2,H⟩:=H
       try dsimp only at H
       have D6:=mk_ A2
       clear A2
       simp only [Option.some.injEq,Prod.mk.injEq] at H
       obtain ⟨rfl,rfl,rfl,rfl⟩:=H
       go_enter Try.func76,Try.ntmps76
       try go_wp2_with (first|((with_reducible refine gate_dst (N:=2) rfl ?_);(try (refine gate_guard (by rfl) ?_;dsimp only));refine box_event ?hg (N:=2) ?hd (cs:=#[.int .i64 a0_0,.slice A0_1 l0_1.length c0_1]) (t:=35) ?hr ?_;(case hd=>rfl);(case hg=>rfl);(case hr=>first|(go_simp;done)|(go_simp;rfl));intro gb146 hg Hn hbox hb;have Aa:=mk_ (hbox);have Am:=mk_ ((by rw [hg];exact (zr2 (yu0 HB.out)):w.heap.size≤gb146));have Ar:=Am;replace HB:=mk_ (zr3 (yu0 HB.out) hb);clear hb hbox hg)|((with_reducible refine gate_dst (N:=3) rfl ?_);(try (refine gate_guard (by rfl) ?_;dsimp only));refine box_event ?hg (N:=3) ?hd (cs:=#[.int .i64 a1_0,.int .i64 a1_1,.slice A1_2 l1_2.length c1_2]) (t:=39) ?hr ?_;(case hd=>rfl);(case hg=>rfl);(case hr=>first|(go_simp;done)|(go_simp;rfl));intro gb147 hg Ho hbox hb;have Ab:=mk_ (hbox);have An:=mk_ ((by rw [hg];exact (zr2 (yu1 HB.out)):w.heap.size≤gb147));have As:=An;replace HB:=mk_ (zr3 (yu1 HB.out) hb);have Ag:=mk_ ((by rw [hg];exact zm2 (zr6 (by exact Aa.out)):gb146≠gb147));replace Aa:=mk_ (zq6 (by exact Aa.out) hb);have Ak:=mk_ Ag.out.symm;clear hb hbox hg)|((with_reducible refine gate_dst (N:=4) rfl ?_);(try (refine gate_guard (by rfl) ?_;dsimp only));refine box_event ?hg (N:=4) ?hd (cs:=#[.int .i64 0,.slice none 0 0]) (t:=35) ?hr ?_;(case hd=>rfl);(case hg=>rfl);(case hr=>first|(go_simp;done)|(go_simp;rfl));intro gb148 hg D7 hbox hb;have Ac:=mk_ (hbox);have Ao:=mk_ ((by rw [hg];exact (zr2 (yu1 HB.out)):w.heap.size≤gb148));have At:=Ao;replace HB:=mk_ (zr3 (yu1 HB.out) hb);have Ad:=mk_ ((by rw [hg];exact zm2 (zr6 (by exact Aa.out)):gb146≠gb148));replace Aa:=mk_ (zq6 (by exact Aa.out) hb);have Aj:=mk_ Ad.out.symm;have Ah:=mk_ ((by rw [hg];exact zm2 (zr6 (by exact Ab.out)):gb147≠gb148));replace Ab:=mk_ (zq6 (by exact Ab.out) hb);have Al:=mk_ Ah.out.symm;clear hb hbox hg;have Fx:=Ag.out;have Fy:=Ak.out;have Fz:=Ad.out;have F0:=Aj.out;obtain ⟨D8,D9⟩:=cz2 Aa.out;obtain ⟨Ea,Eb⟩:=fz2 Aa.out))
       replace Aa:=mk_ (zq2 Aa.out)
       replace Ab:=mk_ (zq2 Ab.out)
       replace Ac:=mk_ (zq2 Ac.out)
       replace HB:=mk_ (zq9 HB.out)
       refine start_ (n:=8) (S:=fun w'=>w'.cell? ⟨gb146,0,none⟩=some (.int .i64 a0_0)∧w'.cell? ⟨gb146,1,none⟩=some (.slice A0_1 l0_1.length c0_1)∧w'.cell? ⟨gb147,0,none⟩=some (.int .i64 a1_0)∧w'.cell? ⟨gb147,1,none⟩=some (.int .i64 a1_1)∧w'.cell? ⟨gb147,2,none⟩=some (.slice A1_2 l1_2.length c1_2)) (ds:=[]) (bm 8 0) (by kernel_rfl) rfl rfl ⟨(zr4 Aa.out 0).trans rfl,(zr4 Aa.out 1).trans rfl,(zr4 Ab.out 0).trans rfl,(zr4 Ab.out 1).trans rfl,(zr4 Ab.out 2).trans rfl⟩ (fun hHeld=>?_);refine with_tabW spec_l4Put.tab2 spec_l4Put.bits2 (fun HT_ HW_=>?_)
       generalize D7.drew=Hp at Aa Ab Ac HB hHeld ⊢
       refine pA 1 (some 13) (bm 8 2) rfl rfl HT_.out (by kernel_rfl) (fun _ _ _ h=>h) (by rfl) (by intro w';go_simp;with_reducible rfl) (by simp only [Act.put,zs1,zs2,zs3,i64_w,i32_w];rfl) ?_
       refine pA 4 (some 16) (bm 8 18) rfl rfl HT_.out (by kernel_rfl) (fun _ _ _ h=>h) (by rfl) (by intro w';go_simp;with_reducible rfl) (by simp only [Act.put,zs1,zs2,zs3,i64_w,i32_w];rfl) ?_
       refine tA 2 (some 14) (bm 8 22) rfl rfl HT_.out HW_.out (by kernel_rfl) (fun _ _ _ h=>h) (by rfl) hHeld (by rintro w' ⟨s0,s1,s2,s3,s4⟩;go_simp;with_reducible rfl) (by simp only [Act.put,zs1,zs2,zs3,i64_w,i32_w];rfl) ?_
       refine tA 5 (some 17) (bm 8 54) rfl rfl HT_.out HW_.out (by kernel_rfl) (fun _ _ _ h=>h) (by rfl) hHeld (by rintro w' ⟨s0,s1,s2,s3,s4⟩;go_simp;with_reducible rfl) (by simp only [Act.put,zs1,zs2,zs3,i64_w,i32_w];rfl) ?_
       refine one_ (i:=0) (N:=some 12) (bm 8 55) rfl rfl (one_of HT_.out (by kernel_rfl)) (by decide) (fun K hK=>?_)
       refine Kd.R_lit_step ku _ 5 ?hg (N:=12) ?hd (xs:=([]:List Int)) (inner:=[]) (ok:=fun _=>True) (okp:=fun _=>True) ?hr ?hp (fun _ hk=>hk) trivial (Below.refl _ _) (Nat.le_refl _) (by simp) ?_;(case hd=>rfl);(case hg=>rfl);(case hr=>first|(go_simp;done)|(go_simp;rfl));(case hp=>exact (Reps.none _ _))
       intro v150 Hq ho155 hb hg_ hnew_
       clear hg_ hnew_
       (first|rw [← Ny149.out] at ho155|(simp only [Int.reduceToNat] at ho155;rw [← Ny149.out] at ho155))
       have Ae:=mk_ (Kd.R_lower ho155 (zr2 (yu1 HB.out)))
       replace Aa:=mk_ (zq6 (by exact Aa.out) hb)
       replace Ab:=mk_ (zq6 (by exact Ab.out) hb)
       replace Ac:=mk_ (zq6 (by exact Ac.out) hb)
       replace HB:=mk_ (zr3 (yu1 HB.out) hb)
       clear hb ho155
       refine hK.out _ _ ⟨(zr4 Aa.out 0).trans rfl,(zr4 Aa.out 1).trans rfl,(zr4 Ab.out 0).trans rfl,(zr4 Ab.out 1).trans rfl,(zr4 Ab.out 2).trans rfl⟩ (fun hHeld=>?_)
       clear hK K
       refine norm_ (a':=?_) ?_ ?_
       rotate_left
       ·show Act.put _ (some 12) _=_
        simp only [Act.put,zs1,zs2,zs3,i64_w,i32_w]
        rfl
       refine one_ (i:=3) (N:=some 15) (bm 8 63) rfl rfl (one_of HT_.out (by kernel_rfl)) (by decide) (fun K hK=>?_)
       refine Kd.R_append_rows_step ku (w0:=w) w.heap.size (by rfl) (.tmp 12) (.tmp 14) 22 5 (.int .u8 0) 1 rfl Try.underlying22 info5 rfl (by decide) (by omega) v150 y149 l0_1 _ _ _ (fun _=>True) (fun _=>False) rfl rfl ?aO ?aR (fun _ _ h=>h) (fun _ h=>h.elim) ?aF ?aB ?aS ?aL ?_
       (case aR=>repeat (first|exact (Kd.C_below Ap.out HB.out)|(with_reducible refine Kd.C_alloc ?_ _)|(with_reducible refine Kd.C_drewN ?_ _)|(with_reducible refine Kd.C_drew ?_)))
       (case aB=>exact (yu1 HB.out))
       (case aF=>exact (fun _ _=>trivial))
       (case aO=>exact (mR Ae.out))
       (case aS=>exact (zr2 (yu1 HB.out)))
       (case aL=>have:=LMc3.out;omega)
       intro v153 Hr ho hb hg hat
       rw [← Ny152.out] at ho
       have n0_:=mk_ (blk_grown (g:=gb146) (o:=.cells #[.int .i64 a0_0,.slice A0_1 l0_1.length c0_1] 35 (0,0)) (by exact Aa.out) hg (Kd.R_ne Ae.out Aa.out (by decide)))
       have n1_:=mk_ (blk_grown (g:=gb147) (o:=.cells #[.int .i64 a1_0,.int .i64 a1_1,.slice A1_2 l1_2.length c1_2] 39 (0,0)) (by exact Ab.out) hg (Kd.R_ne Ae.out Ab.out (by decide)))
       have n2_:=mk_ (blk_grown (g:=gb148) (o:=.cells #[.int .i64 0,.slice none 0 0] 35 (0,0)) (by exact Ac.out) hg (Kd.R_ne Ae.out Ac.out (by decide)))
       have n3_:=mk_ (hb)
       have n4_:=mk_ (ho)
       clear Aa
       clear Ab
       clear Ac
       clear HB
       clear Ae
       have Aa:=n0_
       have Ab:=n1_
       have Ac:=n2_
       have HB:=n3_
       have Af:=n4_
       clear n0_ n1_ n2_ n3_ n4_
       clear ho hb hg hat
       refine hK.out _ _ ⟨(zr4 Aa.out 0).trans rfl,(zr4 Aa.out 1).trans rfl,(zr4 Ab.out 0).trans rfl,(zr4 Ab.out 1).trans rfl,(zr4 Ab.out 2).trans rfl⟩ (fun hHeld=>?_)
       clear hK K
       refine norm_ (a':=?_) ?_ ?_
       rotate_left
       ·show Act.put _ (some 15) _=_
        simp only [Act.put,zs1,zs2,zs3,i64_w,i32_w]
        rfl
       refine one_ (i:=6) (N:=some 18) (bm 8 127) rfl rfl (one_of HT_.out (by kernel_rfl)) (by decide) (fun K hK=>?_)
       refine Kd.R_append_rows_step ku (w0:=w) w.heap.size (by rfl) (.tmp 15) (.tmp 17) 22 5 (.int .u8 0) 1 rfl Try.underlying22 info5 rfl (by decide) (by omega) v153 y152 l1_2 _ _ _ (fun _=>True) (fun _=>False) rfl rfl ?aO ?aR (fun _ _ h=>h) (fun _ h=>h.elim) ?aF ?aB ?aS ?aL ?_
       (case aR=>repeat (first|exact (Kd.C_below Aq.out HB.out)|(with_reducible refine Kd.C_alloc ?_ _)|(with_reducible refine Kd.C_drewN ?_ _)|(with_reducible refine Kd.C_drew ?_)))
       (case aB=>exact (yu1 HB.out))
       (case aF=>exact (fun _ _=>trivial))
       (case aO=>exact (mR Af.out))
       (case aS=>exact (zr2 (yu1 HB.out)))
       (case aL=>have:=LMc4.out;omega)
       intro v156 Hs ho hb hg hat
       rw [← Ny155.out] at ho
       have n0_:=mk_ (blk_grown (g:=gb146) (o:=.cells #[.int .i64 a0_0,.slice A0_1 l0_1.length c0_1] 35 (0,0)) (by exact Aa.out) hg (Kd.R_ne Af.out Aa.out (by decide)))
       have n1_:=mk_ (blk_grown (g:=gb147) (o:=.cells #[.int .i64 a1_0,.int .i64 a1_1,.slice A1_2 l1_2.length c1_2] 39 (0,0)) (by exact Ab.out) hg (Kd.R_ne Af.out Ab.out (by decide)))
       have n2_:=mk_ (blk_grown (g:=gb148) (o:=.cells #[.int .i64 0,.slice none 0 0] 35 (0,0)) (by exact Ac.out) hg (Kd.R_ne Af.out Ac.out (by decide)))
       have n3_:=mk_ (hb)
       have n4_:=mk_ (ho)
       clear Aa
       clear Ab
       clear Ac
       clear HB
       clear Af
       have Aa:=n0_
       have Ab:=n1_
       have Ac:=n2_
       have HB:=n3_
       have Ai:=n4_
       clear n0_ n1_ n2_ n3_ n4_
       clear ho hb hg hat
       refine hK.out _ _ ⟨(zr4 Aa.out 0).trans rfl,(zr4 Aa.out 1).trans rfl,(zr4 Ab.out 0).trans rfl,(zr4 Ab.out 1).trans rfl,(zr4 Ab.out 2).trans rfl⟩ (fun hHeld=>?_)
       clear hK K
       refine norm_ (a':=?_) ?_ ?_
       rotate_left
       ·show Act.put _ (some 18) _=_
        simp only [Act.put,zs1,zs2,zs3,i64_w,i32_w]
        rfl
       refine pA 7 (some 8) (bm 8 255) rfl rfl HT_.out (by kernel_rfl) (fun _ _ _ h=>h) (by rfl) (by intro w';go_simp;with_reducible rfl) (by simp only [Act.put,zs1,zs2,zs3,i64_w,i32_w];rfl) ?_
       refine done_ (done_of HT_.out (by kernel_rfl)) ?_
       have F1:=Ah.out
       have F2:=Al.out
       obtain ⟨Ec,Ed,Ee⟩:=cz3 Ab.out
       obtain ⟨Ef,Eg,Eh⟩:=fz3 Ab.out
       try go_wp2_with (first|((with_reducible refine gate_callee (f:=97) rfl ?_);refine goesL_ (some 71) rfl rfl Try.func97 (by kernel_rfl) rfl #[] rfl am ?_;(with_reducible refine (spec_l4Bad.calls  t196 t197 t200 t203 _ D6.out).mono ?_);rintro e Ht ⟨v198,v201,rfl,ho0,ho1,hb⟩;refine ⟨_,rfl,?_⟩;have A3:=mk_ (Kd.R_lower (Kd.R_new' ho0 (Kd.R_lt (mR Ai.out))) (zr2 (yu1 HB.out)));have Ct:=mk_ (Kd.R_lower (Kd.R_new' ho1 (Kd.R_lt (mR Ai.out))) (zr2 (yu1 HB.out)));replace Ai:=mk_ (Kd.R_mono (Kd.R_told (Kd.R_told (Kd.R_old (mR Ai.out) hb) (Kd.R_base ho0)) (Kd.R_base ho1)) (fun _ h_=>h_.1));replace Aa:=mk_ (zq6 (by exact Aa.out) hb);replace Ab:=mk_ (zq6 (by exact Ab.out) hb);replace Ac:=mk_ (zq6 (by exact Ac.out) hb);replace HB:=mk_ (zr3 (yu1 HB.out) hb);(try clear hb);(try clear hb2);(try clear hk);(try clear hi);(try clear ho0);(try clear ho1);obtain ⟨Ei,Ej⟩:=cz2 Ac.out;obtain ⟨Ek,El⟩:=fz2 Ac.out;obtain ⟨Ao162,co162,eo162⟩:=Kd.R_slice A3.out;subst eo162))
       refine bodyPost_ret (results_ctt rfl _ _ gb148 35 #[.int .i64 t196,.slice Ao162 t197.length co162] (0,0) _ rfl (yv0 Ac.out) Try.underlying35 rfl (by kernel_rfl)) rfl ?_
       exact ⟨_,_,by first|rfl|(simp [errW_none,errW_some] <;> rfl)|(simp [*,errW_none,errW_some] <;> rfl),by (with_reducible repeat (first|apply Kd.R_alloc|apply Kd.R_drewN|apply Kd.R_drew));exact Kd.R_mono (Kd.R_far (p:=⟨gb148,1,none⟩) (Kd.R_far (p:=⟨gb148,0,none⟩) (Kd.R_types A3.out Ac.out (by decide)) (fun _ hk=>hk.2) (.int .i64 t196)) (fun _ hk=>hk.2) (.slice Ao162 t197.length co162)) (fun _ hk=>hk.1.1),by (with_reducible repeat (first|apply Kd.R_alloc|apply Kd.R_drewN|apply Kd.R_drew));exact Kd.R_mono (Kd.R_far (p:=⟨gb148,1,none⟩) (Kd.R_far (p:=⟨gb148,0,none⟩) (Kd.R_types Ct.out Ac.out (by decide)) (fun _ hk=>hk.2) (.int .i64 t196)) (fun _ hk=>hk.2) (.slice Ao162 t197.length co162)) (fun _ hk=>hk.1.1),by exact yu1 HB.out⟩
  ·rw [if_neg c4] at H
   exact absurd H (by simp)
 ·rw [if_neg c3] at H
  exact absurd H (by simp)

end Go.Proofs.Yteknaofnageihaa.QFnExactSegPut
