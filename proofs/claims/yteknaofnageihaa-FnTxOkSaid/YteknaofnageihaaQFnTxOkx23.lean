-- Written by a program of this session, a turned copy of the print (not by print.sh itself). Lean checks it.
import Derived.Test.YteknaofnageihaaQFnTxOkx0
namespace Go.Proofs.Yteknaofnageihaa.QFnTxOk
open Go.RowKit Go.Proofs.YteknaofnageihaaW.PrintWords Go.Proofs.YteknaofnageihaaW.PrintLast Go.Proofs.YteknaofnageihaaW.PrintMore Go.Proofs.YteknaofnageihaaLoc
attribute [local go_sem] max2_int min2_int max_two min_two max_three min_three max_four min_four   -- for this text's walks alone
set_option linter.unusedVariables false
set_option linter.unusedSimpArgs false

/-! ### spec_l6Frame: function 119 -/
def spec_l6Frame.f (a0_0 : Int) (a0_1 : Int) (l0_2 : List Int) (a1 : Int) (a2 : Int) : Option (Int × Int × Int × Bool × Bool × Int × Int × Int × List Int) := (some (([] : List Int) : List Int)).bind fun y330 => (if y330.length + l0_2.length < 140737488355328 then (some (1, a1, a2, false, false, 0, a0_0, a0_1, (y330 ++ l0_2))) else (none))
def spec_l6Frame.T1 : Bool × List (List Nat × List Nat) := (true, [([], []), ([], []), ([], []), ([2], [2]), ([], []), ([4], [4]), ([], []), ([], []), ([7], [7]), ([6, 8], [6, 8]), ([0, 1, 3, 5, 9], [0, 1, 3, 5, 9]), ([10, 9, 0, 1, 2, 3, 4, 5, 6, 7, 8, 9, 10], [10])])
def spec_l6Frame.B1 : List Nat := [0, 0, 0, 4, 0, 16, 0, 0, 128, 448, 1023, 2047]
theorem spec_l6Frame.tab1 : rtab .any (opsOf Try.f119 1) = spec_l6Frame.T1 := by kernel_rfl
theorem spec_l6Frame.bits1 : waitsOk spec_l6Frame.T1.2 spec_l6Frame.B1 = true := by kernel_rfl
set_option maxHeartbeats 60000000 in
set_option maxRecDepth 100000 in
theorem spec_l6Frame.calls (a0_0 : Int) (a0_1 : Int) (A0_2 : Option Addr) (c0_2 : Nat) (l0_2 : List Int) (a1 : Int) (a2 : Int) (r1 : Int) (r2 : Int) (r3 : Int) (r4 : Bool) (r5 : Bool) (r6 : Int) (r7 : Int) (r8 : Int) (r9 : List Int) (w : World) (hr0_2 : Kd.C (Kd.int .u8) w A0_2 l0_2.length l0_2) (hc0_2 : l0_2.length ≤ c0_2) (h : spec_l6Frame.f a0_0 a0_1 l0_2 a1 a2 = some (r1, r2, r3, r4, r5, r6, r7, r8, r9)) :
  Calls Try.prog 119 #[.agg #[.int .i64 a0_0,.int .i64 a0_1,.slice A0_2 l0_2.length c0_2],.int .i64 a1,.int .i64 a2] w fun e w'=>∃ v8_:Value,e=.returned (.agg #[.int .i64 r1,.int .i64 r2,.int .i64 r3,.bool r4,.bool r5,.int .i64 r6,.int .i64 r7,.int .i64 r8,v8_])∧Kd.R ku 5 w' w.heap.size (fun _=>True) v8_ r9∧Below w.heap.size w w':=by
 have hu39:=Try.underlying39
 have hu102:=Try.underlying102
 have Ah:=mk_ hr0_2
 have Ak:=mk_ hc0_2
 clear hr0_2 hc0_2
 have HB:=mk_ (Below.refl w.heap.size w)
 have H:((some (([]:List Int):List Int)).bind fun y330=>(if y330.length+l0_2.length<140737488355328 then (some (1,a1,a2,false,false,0,a0_0,a0_1,(y330++l0_2))) else (none)))=some (r1,r2,r3,r4,r5,r6,r7,r8,r9):=h
 clear h
 obtain ⟨y330,hy330⟩:∃ y_:List Int,y_=(([]:List Int)):=⟨_,rfl⟩
 replace H:(if y330.length+l0_2.length<140737488355328 then (some (1,a1,a2,false,false,0,a0_0,a0_1,(y330++l0_2))) else (none))=some (r1,r2,r3,r4,r5,r6,r7,r8,r9):=by first|(rw [hy330];with_reducible exact H)|(have H2_:=(Option.bind_some _ _).symm.trans H;rw [hy330];with_reducible exact H2_)|(have H2_:=(Option.bind_some _ _).symm.trans H;with_reducible exact H2_)|with_reducible exact H|(rw [hy330];exact H)|exact H
 have Ny330:=mk_ hy330
 clear hy330
 by_cases c4:y330.length+l0_2.length<140737488355328
 rotate_left
 ·rw [if_neg c4] at H
  exact absurd H (by simp)
 rw [if_pos c4] at H
 have LMc4:=mk_ c4
 clear c4
 obtain ⟨y333,hy333⟩:∃ y_:List Int,y_=(y330++l0_2):=⟨_,rfl⟩
 replace H:(some (1,a1,a2,false,false,0,a0_0,a0_1,y333))=some (r1,r2,r3,r4,r5,r6,r7,r8,r9):=by first|(rw [hy333];with_reducible exact H)|(have H2_:=(Option.bind_some _ _).symm.trans H;rw [hy333];with_reducible exact H2_)|(have H2_:=(Option.bind_some _ _).symm.trans H;with_reducible exact H2_)|with_reducible exact H|(rw [hy333];exact H)|exact H
 have Ny333:=mk_ hy333
 clear hy333
 simp only [Option.some.injEq,Prod.mk.injEq] at H
 obtain ⟨rfl,rfl,rfl,rfl,rfl,rfl,rfl,rfl,rfl⟩:=H
 go_enter Try.func119,Try.ntmps119
 try go_wp2_with (first|((with_reducible refine gate_dst (N:=3) rfl ?_);refine box_event ?hg (N:=3) ?hd (cs:=#[.int .i64 a0_0,.int .i64 a0_1,.slice A0_2 l0_2.length c0_2]) (t:=39) ?hr ?_;(case hd=>rfl);(case hg=>rfl);(case hr=>first|(go_simp;done)|(go_simp;rfl));intro gb328 hg w5 hbox hb;have Ac:=mk_ (hbox);have Ai:=mk_ ((by rw [hg];exact (zr2 (yu6 HB.out)):w.heap.size≤gb328));have Al:=Ai;replace HB:=mk_ (zr3 (yu6 HB.out) hb);clear hb hbox hg)|((with_reducible refine gate_dst (N:=6) rfl ?_);refine box_event ?hg (N:=6) ?hd (cs:=#[.int .i64 0,.int .i64 0,.int .i64 0,.bool false,.bool false,.int .i64 0,.int .i64 0,.int .i64 0,.slice none 0 0]) (t:=102) ?hr ?_;(case hd=>rfl);(case hg=>rfl);(case hr=>first|(go_simp;done)|(go_simp;rfl));intro gb329 hg w6 hbox hb;have Aa:=mk_ (hbox);have Aj:=mk_ ((by rw [hg];exact (zr2 (yu7 HB.out)):w.heap.size≤gb329));have Am:=Aj;replace HB:=mk_ (zr3 (yu7 HB.out) hb);have Ab:=mk_ ((by rw [hg];exact zm2 (zr6 (by exact Ac.out)):gb328≠gb329));replace Ac:=mk_ (zq6 (by exact Ac.out) hb);have Ad:=mk_ Ab.out.symm;clear hb hbox hg))
 replace Ac:=mk_ (zq2 Ac.out)
 replace Aa:=mk_ (zq2 Aa.out)
 replace HB:=mk_ (zq9 HB.out)
 refine start_ (n:=12) (S:=fun w'=>w'.cell? ⟨gb328,0,none⟩=some (.int .i64 a0_0)∧w'.cell? ⟨gb328,1,none⟩=some (.int .i64 a0_1)∧w'.cell? ⟨gb328,2,none⟩=some (.slice A0_2 l0_2.length c0_2)) (ds:=[]) (bm 12 0) (by kernel_rfl) rfl rfl ⟨(zr4 Ac.out 0).trans rfl,(zr4 Ac.out 1).trans rfl,(zr4 Ac.out 2).trans rfl⟩ (fun hHeld=>?_);refine with_tabW spec_l6Frame.tab1 spec_l6Frame.bits1 (fun HT_ HW_=>?_)
 generalize w6.drew=w7 at Ac Aa HB hHeld ⊢
 refine pA 0 (some 7) (bm 12 1) rfl rfl HT_.out (by kernel_rfl) (fun _ _ _ h=>h) (by rfl) (by intro w';go_simp;with_reducible rfl) (by simp only [Act.put,zs1,zs2,zs3,i64_w,i32_w];rfl) ?_
 refine pA 1 (some 8) (bm 12 3) rfl rfl HT_.out (by kernel_rfl) (fun _ _ _ h=>h) (by rfl) (by intro w';go_simp;with_reducible rfl) (by simp only [Act.put,zs1,zs2,zs3,i64_w,i32_w];rfl) ?_
 refine pA 2 (some 9) (bm 12 7) rfl rfl HT_.out (by kernel_rfl) (fun _ _ _ h=>h) (by rfl) (by intro w';go_simp;with_reducible rfl) (by simp only [Act.put,zs1,zs2,zs3,i64_w,i32_w];rfl) ?_
 refine pA 4 (some 11) (bm 12 23) rfl rfl HT_.out (by kernel_rfl) (fun _ _ _ h=>h) (by rfl) (by intro w';go_simp;with_reducible rfl) (by simp only [Act.put,zs1,zs2,zs3,i64_w,i32_w];rfl) ?_
 refine pA 7 (some 14) (bm 12 151) rfl rfl HT_.out (by kernel_rfl) (fun _ _ _ h=>h) (by rfl) (by intro w';go_simp;with_reducible rfl) (by simp only [Act.put,zs1,zs2,zs3,i64_w,i32_w];rfl) ?_
 refine tA 3 (some 10) (bm 12 159) rfl rfl HT_.out HW_.out (by kernel_rfl) (fun _ _ _ h=>h) (by rfl) hHeld (by rintro w' ⟨s0,s1,s2⟩;go_simp;with_reducible rfl) (by simp only [Act.put,zs1,zs2,zs3,i64_w,i32_w];rfl) ?_
 refine tA 5 (some 12) (bm 12 191) rfl rfl HT_.out HW_.out (by kernel_rfl) (fun _ _ _ h=>h) (by rfl) hHeld (by rintro w' ⟨s0,s1,s2⟩;go_simp;with_reducible rfl) (by simp only [Act.put,zs1,zs2,zs3,i64_w,i32_w];rfl) ?_
 refine tA 8 (some 15) (bm 12 447) rfl rfl HT_.out HW_.out (by kernel_rfl) (fun _ _ _ h=>h) (by rfl) hHeld (by rintro w' ⟨s0,s1,s2⟩;go_simp;with_reducible rfl) (by simp only [Act.put,zs1,zs2,zs3,i64_w,i32_w];rfl) ?_
 refine one_ (i:=6) (N:=some 13) (bm 12 511) rfl rfl (one_of HT_.out (by kernel_rfl)) (by decide) (fun K hK=>?_)
 refine Kd.R_lit_step ku _ 5 ?hg (N:=13) ?hd (xs:=([]:List Int)) (inner:=[]) (ok:=fun _=>True) (okp:=fun _=>True) ?hr ?hp (fun _ hk=>hk) trivial (Below.refl _ _) (Nat.le_refl _) (by simp) ?_;(case hd=>rfl);(case hg=>rfl);(case hr=>first|(go_simp;done)|(go_simp;rfl));(case hp=>exact (Reps.none _ _))
 intro v331 w8 ho9 hb hg_ hnew_
 clear hg_ hnew_
 (first|rw [← Ny330.out] at ho9|(simp only [Int.reduceToNat] at ho9;rw [← Ny330.out] at ho9))
 have Af:=mk_ (Kd.R_lower ho9 (zr2 (yu7 HB.out)))
 replace Ac:=mk_ (zq6 (by exact Ac.out) hb)
 replace Aa:=mk_ (zq6 (by exact Aa.out) hb)
 replace HB:=mk_ (zr3 (yu7 HB.out) hb)
 clear hb ho9
 refine hK.out _ _ ⟨(zr4 Ac.out 0).trans rfl,(zr4 Ac.out 1).trans rfl,(zr4 Ac.out 2).trans rfl⟩ (fun hHeld=>?_)
 clear hK K
 refine norm_ (a':=?_) ?_ ?_
 rotate_left
 ·show Act.put _ (some 13) _=_
  simp only [Act.put,zs1,zs2,zs3,i64_w,i32_w]
  rfl
 refine one_ (i:=9) (N:=some 16) (bm 12 1023) rfl rfl (one_of HT_.out (by kernel_rfl)) (by decide) (fun K hK=>?_)
 refine Kd.R_append_rows_step ku (w0:=w) w.heap.size (by rfl) (.tmp 13) (.tmp 15) 22 5 (.int .u8 0) 1 rfl Try.underlying22 info5 rfl (by decide) (by omega) v331 y330 l0_2 _ _ _ (fun _=>True) (fun _=>False) rfl rfl ?aO ?aR (fun _ _ h=>h) (fun _ h=>h.elim) ?aF ?aB ?aS ?aL ?_
 (case aR=>repeat (first|exact (Kd.C_below Ah.out HB.out)|(with_reducible refine Kd.C_alloc ?_ _)|(with_reducible refine Kd.C_drewN ?_ _)|(with_reducible refine Kd.C_drew ?_)))
 (case aB=>exact (yu7 HB.out))
 (case aF=>exact (fun _ _=>trivial))
 (case aO=>exact (mR Af.out))
 (case aS=>exact (zr2 (yu7 HB.out)))
 (case aL=>have:=LMc4.out;omega)
 intro v334 Ae ho hb hg hat
 rw [← Ny333.out] at ho
 have n0_:=mk_ (blk_grown (g:=gb328) (o:=.cells #[.int .i64 a0_0,.int .i64 a0_1,.slice A0_2 l0_2.length c0_2] 39 (0,0)) (by exact Ac.out) hg (Kd.R_ne Af.out Ac.out (by decide)))
 have n1_:=mk_ (blk_grown (g:=gb329) (o:=.cells #[.int .i64 0,.int .i64 0,.int .i64 0,.bool false,.bool false,.int .i64 0,.int .i64 0,.int .i64 0,.slice none 0 0] 102 (0,0)) (by exact Aa.out) hg (Kd.R_ne Af.out Aa.out (by decide)))
 have n2_:=mk_ (hb)
 have n3_:=mk_ (ho)
 clear Ac
 clear Aa
 clear HB
 clear Af
 have Ac:=n0_
 have Aa:=n1_
 have HB:=n2_
 have Ag:=n3_
 clear n0_ n1_ n2_ n3_
 clear ho hb hg hat
 obtain ⟨Ao11,co11,eo11⟩:=Kd.R_slice Ag.out
 (first|subst eo11|(injection eo11 with f1_ f2_ f3_;have f4_:=f1_.symm;have f5_:=f3_.symm;clear f1_ f2_ f3_;subst f4_;subst f5_))
 refine hK.out _ _ ⟨(zr4 Ac.out 0).trans rfl,(zr4 Ac.out 1).trans rfl,(zr4 Ac.out 2).trans rfl⟩ (fun hHeld=>?_)
 clear hK K
 refine norm_ (a':=?_) ?_ ?_
 rotate_left
 ·show Act.put _ (some 16) _=_
  simp only [Act.put,zs1,zs2,zs3,i64_w,i32_w]
  rfl
 refine pA 10 (some 17) (bm 12 2047) rfl rfl HT_.out (by kernel_rfl) (fun _ _ _ h=>h) (by rfl) (by intro w';go_simp;with_reducible rfl) (by simp only [Act.put,zs1,zs2,zs3,i64_w,i32_w];rfl) ?_
 refine one_ (i:=11) (N:=none) (bm 12 4095) rfl rfl (one_of HT_.out (by kernel_rfl)) (by decide) (fun K hK=>?_)
 have hs12:Ae.cell? ⟨gb329,0,none⟩=some (.int .i64 0):=(zr4 Aa.out 0).trans rfl
 have hfs12:=zr5 Aa.out 0
 have hns12_0:=Ab.out
 have hms12_0:=Ad.out
 have hs13:Ae.cell? ⟨gb329,1,none⟩=some (.int .i64 0):=(zr4 Aa.out 1).trans rfl
 have hfs13:=zr5 Aa.out 1
 have hns13_0:=Ab.out
 have hms13_0:=Ad.out
 have hs14:Ae.cell? ⟨gb329,2,none⟩=some (.int .i64 0):=(zr4 Aa.out 2).trans rfl
 have hfs14:=zr5 Aa.out 2
 have hns14_0:=Ab.out
 have hms14_0:=Ad.out
 have hs15:Ae.cell? ⟨gb329,3,none⟩=some (.bool false):=(zr4 Aa.out 3).trans rfl
 have hfs15:=zr5 Aa.out 3
 have hns15_0:=Ab.out
 have hms15_0:=Ad.out
 have hs16:Ae.cell? ⟨gb329,4,none⟩=some (.bool false):=(zr4 Aa.out 4).trans rfl
 have hfs16:=zr5 Aa.out 4
 have hns16_0:=Ab.out
 have hms16_0:=Ad.out
 have hs17:Ae.cell? ⟨gb329,5,none⟩=some (.int .i64 0):=(zr4 Aa.out 5).trans rfl
 have hfs17:=zr5 Aa.out 5
 have hns17_0:=Ab.out
 have hms17_0:=Ad.out
 have hs18:Ae.cell? ⟨gb329,6,none⟩=some (.int .i64 0):=(zr4 Aa.out 6).trans rfl
 have hfs18:=zr5 Aa.out 6
 have hns18_0:=Ab.out
 have hms18_0:=Ad.out
 have hs19:Ae.cell? ⟨gb329,7,none⟩=some (.int .i64 0):=(zr4 Aa.out 7).trans rfl
 have hfs19:=zr5 Aa.out 7
 have hns19_0:=Ab.out
 have hms19_0:=Ad.out
 have hs20:Ae.cell? ⟨gb329,8,none⟩=some (.slice none 0 0):=(zr4 Aa.out 8).trans rfl
 have hfs20:=zr5 Aa.out 8
 have hns20_0:=Ab.out
 have hms20_0:=Ad.out
 refine skip_ (w1:=?_) (by rfl) rfl ?_ ?_
 rotate_left
 ·go_simp
  rfl
 refine hK.out _ _ ⟨(fr9 Ab.out hHeld.1),(fr9 Ab.out hHeld.2.1),(fr9 Ab.out hHeld.2.2)⟩ (fun hHeld=>?_)
 clear hK K
 refine done_ (done_of HT_.out (by kernel_rfl)) ?_
 try go_wp2
 refine bodyPost_ret (results_cell_row rfl _ _ gb329 102 #[.int .i64 1,.int .i64 a1,.int .i64 a2,.bool false,.bool false,.int .i64 0,.int .i64 a0_0,.int .i64 a0_1,.slice Ao11 y333.length co11] (0,0) _ rfl (yv7 Aa.out) Try.underlying102 rfl (by kernel_rfl)) rfl ?_
 exact ⟨_,by first|rfl|(simp [errW_none,errW_some] <;> rfl)|(simp [*,errW_none,errW_some] <;> rfl),by (with_reducible repeat (first|apply Kd.R_alloc|apply Kd.R_drewN|apply Kd.R_drew));exact Kd.R_mono (Kd.R_far (p:=⟨gb329,8,none⟩) (Kd.R_far (p:=⟨gb329,7,none⟩) (Kd.R_far (p:=⟨gb329,6,none⟩) (Kd.R_far (p:=⟨gb329,5,none⟩) (Kd.R_far (p:=⟨gb329,4,none⟩) (Kd.R_far (p:=⟨gb329,3,none⟩) (Kd.R_far (p:=⟨gb329,2,none⟩) (Kd.R_far (p:=⟨gb329,1,none⟩) (Kd.R_far (p:=⟨gb329,0,none⟩) (Kd.R_types Ag.out Aa.out (by decide)) (fun _ hk=>hk.2) (.int .i64 1)) (fun _ hk=>hk.2) (.int .i64 a1)) (fun _ hk=>hk.2) (.int .i64 a2)) (fun _ hk=>hk.2) (.bool false)) (fun _ hk=>hk.2) (.bool false)) (fun _ hk=>hk.2) (.int .i64 0)) (fun _ hk=>hk.2) (.int .i64 a0_0)) (fun _ hk=>hk.2) (.int .i64 a0_1)) (fun _ hk=>hk.2) (.slice Ao11 y333.length co11)) (fun _ hk=>trivial),by exact yu7 HB.out⟩

end Go.Proofs.Yteknaofnageihaa.QFnTxOk
