-- Written by a program of this session, a turned copy of the print (not by print.sh itself). Lean checks it.
import Derived.Test.YteknaofnageihaaQFnCrdTxOkx0
import Derived.Test.YteknaofnageihaaQFnCrdTxOkx14
import Derived.Test.YteknaofnageihaaQFnCrdTxOkx17
import Derived.Test.YteknaofnageihaaQFnCrdTxOkx27
namespace Go.Proofs.Yteknaofnageihaa.QFnCrdTxOk
open Go.RowKit Go.Proofs.YteknaofnageihaaW.PrintWords Go.Proofs.YteknaofnageihaaW.PrintLast Go.Proofs.YteknaofnageihaaW.PrintMore Go.Proofs.YteknaofnageihaaLoc
attribute [local go_sem] max2_int min2_int max_two min_two max_three min_three max_four min_four   -- for this text's walks alone
set_option linter.unusedVariables false
set_option linter.unusedSimpArgs false

/-! ### spec_DrawCrdTxOk: function 60 -/
def spec_DrawCrdTxOk.f (k : Nat) (l0 : List Int) : Option (Int × Int × Int × Int × Int × Int × (List (S39)) × Int × Int × Bool) := (spec_l20Open.f l0).bind fun bt485 => ((spec_l20Cfg.f k bt485.1 bt485.2 12).bind fun bt488 => ((spec_l20Ctx.f k bt485.1 bt488.2.2.2.2.2 bt488.1 bt488.2.1 bt488.2.2.1 bt488.2.2.2.1 bt488.2.2.2.2.1 2).bind fun bt495 => (some (bt488.1, bt488.2.1, bt488.2.2.1, bt488.2.2.2.1, bt488.2.2.2.2.1, bt495.1, bt495.2.1, bt495.2.2.1, bt495.2.2.2.1, bt495.2.2.2.2.1))))
theorem spec_DrawCrdTxOk.mono : ∀ a0 k, LeO (spec_DrawCrdTxOk.f k a0) (spec_DrawCrdTxOk.f (k + 1) a0) := by
 intro a0 k
 unfold spec_DrawCrdTxOk.f
 repeat' first
     | (with_reducible exact spec_l20Cfg.mono _ _ _ _)
     | (with_reducible exact spec_l20Ctx.mono _ _ _ _ _ _ _ _ _)
     | (with_reducible exact LeO.refl _)
     | (with_reducible exact LeO.none _)
     | (with_reducible refine LeO.ite ?_ ?_)
     | (with_reducible refine LeO.bind ?_ (fun _ => ?_))
     | exact spec_l20Cfg.mono _ _ _ _
     | exact spec_l20Ctx.mono _ _ _ _ _ _ _ _ _
     | exact LeO.none _
     | refine LeO.ite ?_ ?_
     | refine LeO.bind ?_ (fun _ => ?_)
set_option maxHeartbeats 60000000 in
set_option maxRecDepth 100000 in
theorem spec_DrawCrdTxOk.calls (k : Nat) (A0 : Option Addr) (c0 : Nat) (l0 : List Int) (r1 : Int) (r2 : Int) (r3 : Int) (r4 : Int) (r5 : Int) (r6 : Int) (r7 : List (S39)) (r8 : Int) (r9 : Int) (r10 : Bool) (w : World) (hr0 : Kd.C (Kd.int .u8) w A0 l0.length l0) (hc0 : l0.length ≤ c0) (h : spec_DrawCrdTxOk.f k l0 = some (r1, r2, r3, r4, r5, r6, r7, r8, r9, r10)) :
  Calls Try.prog 60 #[.slice A0 l0.length c0] w fun e w'=>∃ v6_:Value,e=.returned (.tuple #[.agg #[.int .i64 r1,.int .i64 r2,.int .i64 r3,.int .i64 r4,.int .i64 r5],.agg #[.int .i64 r6,v6_,.int .i64 r8,.int .i64 r9,.bool r10]])∧Kd.N k39 39 w' w.heap.size (fun k_=>(w.heap.size≤k_)) v6_ r7∧Below w.heap.size w w':=by
 have hu66:=Try.underlying66
 have hu78:=Try.underlying78
 have Bb:=mk_ hr0
 have Bc:=mk_ hc0
 clear hr0 hc0
 have HB:=mk_ (Below.refl w.heap.size w)
 have H:((spec_l20Open.f l0).bind fun bt485=>((spec_l20Cfg.f k bt485.1 bt485.2 12).bind fun bt488=>((spec_l20Ctx.f k bt485.1 bt488.2.2.2.2.2 bt488.1 bt488.2.1 bt488.2.2.1 bt488.2.2.2.1 bt488.2.2.2.2.1 2).bind fun bt495=>(some (bt488.1,bt488.2.1,bt488.2.2.1,bt488.2.2.2.1,bt488.2.2.2.2.1,bt495.1,bt495.2.1,bt495.2.2.1,bt495.2.2.2.1,bt495.2.2.2.2.1)))))=some (r1,r2,r3,r4,r5,r6,r7,r8,r9,r10):=h
 clear h
 replace H:=Option.bind_eq_some_iff.mp H
 obtain ⟨⟨t485,t486⟩,As,H⟩:=H
 try dsimp only at H
 have A2:=mk_ As
 clear As
 replace H:=Option.bind_eq_some_iff.mp H
 obtain ⟨⟨t488,t489,t490,t491,t492,t493⟩,At,H⟩:=H
 try dsimp only at H
 have A3:=mk_ At
 clear At
 replace H:=Option.bind_eq_some_iff.mp H
 obtain ⟨⟨t495,t496,t499,t500,t501,t502⟩,Au,H⟩:=H
 try dsimp only at H
 have A4:=mk_ Au
 clear Au
 simp only [Option.some.injEq,Prod.mk.injEq] at H
 obtain ⟨rfl,rfl,rfl,rfl,rfl,rfl,rfl,rfl,rfl,rfl⟩:=H
 go_enter Try.func60,Try.ntmps60
 try go_wp2_with (first|((with_reducible refine gate_dst (N:=2) rfl ?_);refine box_event ?hg (N:=2) ?hd (cs:=#[.int .i64 0,.int .i64 0,.int .i64 0,.int .i64 0,.int .i64 0]) (t:=66) ?hr ?_;(case hd=>rfl);(case hg=>rfl);(case hr=>first|(go_simp;done)|(go_simp;rfl));intro gb483 hg w5 hbox hb;have Aa:=mk_ (hbox);have Ap:=mk_ ((by rw [hg];exact (zr2 (yu0 HB.out)):w.heap.size≤gb483));have Be:=Ap;replace HB:=mk_ (zr3 (yu0 HB.out) hb);clear hb hbox hg)|((with_reducible refine gate_dst (N:=3) rfl ?_);refine box_event ?hg (N:=3) ?hd (cs:=#[.int .i64 0,.slice none 0 0,.int .i64 0,.int .i64 0,.bool false]) (t:=78) ?hr ?_;(case hd=>rfl);(case hg=>rfl);(case hr=>first|(go_simp;done)|(go_simp;rfl));intro gb484 hg w6 hbox hb;have Ab:=mk_ (hbox);have Aq:=mk_ ((by rw [hg];exact (zr2 (yu1 HB.out)):w.heap.size≤gb484));have Bf:=Aq;replace HB:=mk_ (zr3 (yu1 HB.out) hb);have Ac:=mk_ ((by rw [hg];exact zm2 (zr6 (by exact Aa.out)):gb483≠gb484));replace Aa:=mk_ (zq6 (by exact Aa.out) hb);have Ae:=mk_ Ac.out.symm;clear hb hbox hg)|((with_reducible refine gate_callee (f:=68) rfl ?_);refine goesL_ (some 7) rfl rfl Try.func68 (by kernel_rfl) rfl #[.slice A0 l0.length c0] rfl am ?_;(with_reducible refine (spec_l20Open.calls _ _ l0 t485 t486 w _ ?side1 ?side2 ?side3 A2.out).mono ?_);(case side1=>exact yu1 HB.out);(case side2=>exact Bb.out);(case side3=>exact Bc.out);rintro e w7 ⟨g487,rfl,hi,hb,hb2⟩;refine ⟨_,rfl,?_⟩;replace HB:=mk_ (hb);have HI487:=mk_ (hi);have Av:=mk_ (IsS113.ne_blk hi (zq6 (by exact Aa.out) hb2) (by decide));have Ak:=mk_ (Ne.symm (IsS113.ne_blk hi (zq6 (by exact Aa.out) hb2) (by decide)));replace Aa:=mk_ (zq6 (by exact Aa.out) hb2);have Aw:=mk_ (IsS113.ne_blk hi (zq6 (by exact Ab.out) hb2) (by decide));have Al:=mk_ (Ne.symm (IsS113.ne_blk hi (zq6 (by exact Ab.out) hb2) (by decide)));replace Ab:=mk_ (zq6 (by exact Ab.out) hb2);(try clear hb);(try clear hb2);(try clear hk);(try clear hi))|((with_reducible refine gate_callee (f:=90) rfl ?_);refine goesL_ (some 9) rfl rfl Try.func90 (by kernel_rfl) rfl #[.pointer (some ⟨g487,0,none⟩),.int .i64 12] rfl am ?_;(with_reducible refine (spec_l20Cfg.calls k g487 t485 t486 12 t488 t489 t490 t491 t492 t493 w _ ?side1 ?side2 A3.out).mono ?_);(case side1=>exact yu7 HI487.out);(case side2=>exact yu11 HB.out HI487.out);rintro e w8 ⟨rfl,hi,hb,hk⟩;refine ⟨_,rfl,?_⟩;replace Aa:=mk_ (KeepBut.blk hk (g':=gb483) (o:=.cells #[.int .i64 0,.int .i64 0,.int .i64 0,.int .i64 0,.int .i64 0] 66 (0,0)) (by exact Aa.out) Ak.out (by simp));replace Ab:=mk_ (KeepBut.blk hk (g':=gb484) (o:=.cells #[.int .i64 0,.slice none 0 0,.int .i64 0,.int .i64 0,.bool false] 78 (0,0)) (by exact Ab.out) Al.out (by simp));replace HB:=mk_ (hb);replace HI487:=mk_ (hi);(try clear hb);(try clear hb2);(try clear hk);(try clear hi))|((with_reducible refine gate_dst (N:=5) rfl ?_);refine box_event ?hg (N:=5) ?hd (cs:=#[.int .i64 0,.int .i64 0,.int .i64 0,.int .i64 0,.int .i64 0]) (t:=66) ?hr ?_;(case hd=>rfl);(case hg=>rfl);(case hr=>first|(go_simp;done)|(go_simp;rfl));intro gb494 hg w9 hbox hb;have Ad:=mk_ (hbox);have Ar:=mk_ ((by rw [hg];exact (zr2 (yu11 HB.out HI487.out)):w.heap.size≤gb494));have Bg:=Ar;replace HB:=mk_ (zr3 (yu11 HB.out HI487.out) hb);have Ah:=mk_ ((by rw [hg];exact zm2 (zr6 (by exact Aa.out)):gb483≠gb494));replace Aa:=mk_ (zq6 (by exact Aa.out) hb);have Af:=mk_ Ah.out.symm;have Ai:=mk_ ((by rw [hg];exact zm2 (zr6 (by exact Ab.out)):gb484≠gb494));replace Ab:=mk_ (zq6 (by exact Ab.out) hb);have Ag:=mk_ Ai.out.symm;have Am:=mk_ ((by rw [hg];exact zm2 (IsS113.lt (show IsS113 w _ g487 t485 t493 from by exact yu7 HI487.out)):g487≠gb494));replace HI487:=mk_ (IsS113.below (yu7 HI487.out) hb);have An:=mk_ Am.out.symm;clear hb hbox hg;have Bh:=Af.out;have Bi:=Ah.out;have Bj:=Ag.out;have Bk:=Ai.out;have Bl:=An.out;have Bm:=Am.out;obtain ⟨Ax,Ay,Az,A1,A5⟩:=cz5 Ad.out;obtain ⟨A6,A7,A8,A9,Ba⟩:=fz5 Ad.out))
 have n0_:Aside0 ((((((w9.setCell ⟨gb494,0,none⟩ (.int .i64 t488)).setCell ⟨gb494,1,none⟩ (.int .i64 t489)).setCell ⟨gb494,2,none⟩ (.int .i64 t490)).setCell ⟨gb494,3,none⟩ (.int .i64 t491)).setCell ⟨gb494,4,none⟩ (.int .i64 t492)).heap[gb483]? =some (.cells #[.int .i64 0,.int .i64 0,.int .i64 0,.int .i64 0,.int .i64 0] 66 (0,0))):=⟨by (with_reducible repeat (first|refine zq1 ?_ _|refine zq2 ?_|refine zq3 ?_ _));refine fa5 ?_ Ah.out;(with_reducible repeat (first|refine zq1 ?_ _|refine zq2 ?_|refine zq3 ?_ _));exact Aa.out⟩
 have n1_:Aside0 ((((((w9.setCell ⟨gb494,0,none⟩ (.int .i64 t488)).setCell ⟨gb494,1,none⟩ (.int .i64 t489)).setCell ⟨gb494,2,none⟩ (.int .i64 t490)).setCell ⟨gb494,3,none⟩ (.int .i64 t491)).setCell ⟨gb494,4,none⟩ (.int .i64 t492)).heap[gb484]? =some (.cells #[.int .i64 0,.slice none 0 0,.int .i64 0,.int .i64 0,.bool false] 78 (0,0))):=⟨by (with_reducible repeat (first|refine zq1 ?_ _|refine zq2 ?_|refine zq3 ?_ _));refine fa5 ?_ Ai.out;(with_reducible repeat (first|refine zq1 ?_ _|refine zq2 ?_|refine zq3 ?_ _));exact Ab.out⟩
 have n2_:Aside0 ((((((w9.setCell ⟨gb494,0,none⟩ (.int .i64 t488)).setCell ⟨gb494,1,none⟩ (.int .i64 t489)).setCell ⟨gb494,2,none⟩ (.int .i64 t490)).setCell ⟨gb494,3,none⟩ (.int .i64 t491)).setCell ⟨gb494,4,none⟩ (.int .i64 t492)).heap[gb494]? =some (.cells #[.int .i64 t488,.int .i64 t489,.int .i64 t490,.int .i64 t491,.int .i64 t492] 66 (0,0))):=⟨by (with_reducible repeat (first|refine zq1 ?_ _|refine zq2 ?_|refine zq3 ?_ _));apply pu5;(with_reducible repeat (first|refine zq1 ?_ _|refine zq2 ?_|refine zq3 ?_ _));exact Ad.out⟩
 have n3_:Aside0 (IsS113 w (((((w9.setCell ⟨gb494,0,none⟩ (.int .i64 t488)).setCell ⟨gb494,1,none⟩ (.int .i64 t489)).setCell ⟨gb494,2,none⟩ (.int .i64 t490)).setCell ⟨gb494,3,none⟩ (.int .i64 t491)).setCell ⟨gb494,4,none⟩ (.int .i64 t492)) g487 t485 t493):=⟨by exact yu7 HI487.out⟩
 have n4_:Aside0 (Below w.heap.size w (((((w9.setCell ⟨gb494,0,none⟩ (.int .i64 t488)).setCell ⟨gb494,1,none⟩ (.int .i64 t489)).setCell ⟨gb494,2,none⟩ (.int .i64 t490)).setCell ⟨gb494,3,none⟩ (.int .i64 t491)).setCell ⟨gb494,4,none⟩ (.int .i64 t492))):=⟨by exact yu11 HB.out HI487.out⟩
 (try clear Aa)
 (try clear Ab)
 (try clear Ad)
 (try clear HI487)
 (try clear HB)
 generalize (((((w9.setCell ⟨gb494,0,none⟩ (.int .i64 t488)).setCell ⟨gb494,1,none⟩ (.int .i64 t489)).setCell ⟨gb494,2,none⟩ (.int .i64 t490)).setCell ⟨gb494,3,none⟩ (.int .i64 t491)).setCell ⟨gb494,4,none⟩ (.int .i64 t492))=Bd at n0_ n1_ n2_ n3_ n4_ ⊢
 have Aa:=n0_
 have Ab:=n1_
 have Ad:=n2_
 have HI487:=n3_
 have HB:=n4_
 clear n0_ n1_ n2_ n3_ n4_
 replace Aa:=mk_ (zq2 Aa.out)
 replace Ab:=mk_ (zq2 Ab.out)
 replace Ad:=mk_ (zq2 Ad.out)
 replace HI487:=mk_ (IsS113.drew HI487.out)
 replace HB:=mk_ (zq9 HB.out)
 refine start_ (n:=6) (S:=fun w'=>w'.cell? ⟨gb494,0,none⟩=some (.int .i64 t488)∧w'.cell? ⟨gb494,1,none⟩=some (.int .i64 t489)∧w'.cell? ⟨gb494,2,none⟩=some (.int .i64 t490)∧w'.cell? ⟨gb494,3,none⟩=some (.int .i64 t491)∧w'.cell? ⟨gb494,4,none⟩=some (.int .i64 t492)) (ds:=[]) (bm 6 0) (by kernel_rfl) rfl rfl ⟨(zr4 Ad.out 0).trans rfl,(zr4 Ad.out 1).trans rfl,(zr4 Ad.out 2).trans rfl,(zr4 Ad.out 3).trans rfl,(zr4 Ad.out 4).trans rfl⟩ (fun hHeld=>?_)
 generalize Bd.drew=Bn at Aa Ab Ad HI487 HB hHeld ⊢
 refine pure_ (i:=1) (N:=some 11) (v:=?_) (a':=?_) (bm 6 2) rfl rfl (by kernel_rfl) (fun _ _ _ h=>h) (Or.inl ⟨by rfl,?_⟩) ?_ ?_
 rotate_left
 ·intro w'
  go_simp
  with_reducible rfl
 rotate_left
 ·simp only [Act.put,zs1,zs2,zs3,i64_w,i32_w]
  rfl
 refine take_ (i:=0) (N:=some 10) (v:=?_) (a':=?_) (bm 6 3) rfl rfl (by kernel_rfl) (fun _ _ _ h=>h) (Or.inl ⟨by rfl,?_⟩) hHeld ?_ ?_
 rotate_left
 ·rintro w' ⟨s0,s1,s2,s3,s4⟩
  go_simp
  with_reducible rfl
 rotate_left
 ·simp only [Act.put,zs1,zs2,zs3,i64_w,i32_w]
  rfl
 refine take_ (i:=2) (N:=some 12) (v:=?_) (a':=?_) (bm 6 7) rfl rfl (by kernel_rfl) (fun _ _ _ h=>h) (Or.inl ⟨by rfl,?_⟩) hHeld ?_ ?_
 rotate_left
 ·rintro w' ⟨s0,s1,s2,s3,s4⟩
  go_simp
  with_reducible rfl
 rotate_left
 ·simp only [Act.put,zs1,zs2,zs3,i64_w,i32_w]
  rfl
 refine one_ (i:=3) (N:=some 13) (bm 6 15) rfl rfl (by kernel_rfl) (by decide) (fun K hK=>?_)
 refine goes_ Try.func92 (by kernel_rfl) rfl #[.pointer (some ⟨g487,0,none⟩),.agg #[.int .i64 t488,.int .i64 t489,.int .i64 t490,.int .i64 t491,.int .i64 t492],.int .i64 2] (by rfl) rfl rfl am ?_
 with_reducible refine (spec_l20Ctx.calls k g487 t485 t493 t488 t489 t490 t491 t492 2 t495 t496 t499 t500 t501 t502 w _ ?side1 ?side2 A4.out).mono ?_
 (case side1=>exact yu7 HI487.out)
 (case side2=>exact yu11 HB.out HI487.out)
 rintro e Aj ⟨v497,rfl,ho0,hi,hb,hk⟩
 refine ⟨_,rfl,?_⟩
 have Ao:=mk_ (Kd.N_lower (Kd.N_mono (ok':=fun k_=>(w.heap.size≤k_)∧k_≠gb483∧k_≠gb484∧k_≠gb494∧k_≠g487) ho0 (fun k_ hk_=>⟨(Nat.le_trans (zr2 (yu11 HB.out HI487.out)) hk_),(Kd.freshB (g:=gb483) (o:=.cells #[.int .i64 0,.int .i64 0,.int .i64 0,.int .i64 0,.int .i64 0] 66 (0,0)) (by exact Aa.out) k_ hk_),(Kd.freshB (g:=gb484) (o:=.cells #[.int .i64 0,.slice none 0 0,.int .i64 0,.int .i64 0,.bool false] 78 (0,0)) (by exact Ab.out) k_ hk_),(Kd.freshB (g:=gb494) (o:=.cells #[.int .i64 t488,.int .i64 t489,.int .i64 t490,.int .i64 t491,.int .i64 t492] 66 (0,0)) (by exact Ad.out) k_ hk_),(IsS113.fresh (yu7 HI487.out) k_ hk_)⟩)) (zr2 (yu11 HB.out HI487.out)))
 replace Aa:=mk_ (KeepBut.blk hk (g':=gb483) (o:=.cells #[.int .i64 0,.int .i64 0,.int .i64 0,.int .i64 0,.int .i64 0] 66 (0,0)) (by exact Aa.out) Ak.out (by simp))
 replace Ab:=mk_ (KeepBut.blk hk (g':=gb484) (o:=.cells #[.int .i64 0,.slice none 0 0,.int .i64 0,.int .i64 0,.bool false] 78 (0,0)) (by exact Ab.out) Al.out (by simp))
 replace Ad:=mk_ (KeepBut.blk hk (g':=gb494) (o:=.cells #[.int .i64 t488,.int .i64 t489,.int .i64 t490,.int .i64 t491,.int .i64 t492] 66 (0,0)) (by exact Ad.out) An.out (by simp))
 replace HB:=mk_ (hb)
 replace HI487:=mk_ (hi)
 (try clear hb)
 (try clear hb2)
 (try clear hk)
 (try clear hi)
 (try clear ho0)
 obtain ⟨Ao23,co23,eo23⟩:=Kd.N_slice Ao.out
 (first|subst eo23|(injection eo23 with f1_ f2_ f3_;have f4_:=f1_.symm;have f5_:=f3_.symm;clear f1_ f2_ f3_;subst f4_;subst f5_))
 refine hK.out _ _ ⟨(zr4 Ad.out 0).trans rfl,(zr4 Ad.out 1).trans rfl,(zr4 Ad.out 2).trans rfl,(zr4 Ad.out 3).trans rfl,(zr4 Ad.out 4).trans rfl⟩ (fun hHeld=>?_)
 clear hK K
 refine norm_ (a':=?_) ?_ ?_
 rotate_left
 ·show Act.put _ (some 13) _=_
  simp only [Act.put,zs1,zs2,zs3,i64_w,i32_w]
  rfl
 refine one_ (i:=4) (N:=none) (bm 6 31) rfl rfl (by kernel_rfl) (by decide) (fun K hK=>?_)
 have hs17:Aj.cell? ⟨gb483,0,none⟩=some (.int .i64 0):=(zr4 Aa.out 0).trans rfl
 have hfs17:=zr5 Aa.out 0
 have hns17_1:=Ae.out
 have hns17_2:=Af.out
 have hms17_1:=Ac.out
 have hms17_2:=Ah.out
 have hs18:Aj.cell? ⟨gb483,1,none⟩=some (.int .i64 0):=(zr4 Aa.out 1).trans rfl
 have hfs18:=zr5 Aa.out 1
 have hns18_1:=Ae.out
 have hns18_2:=Af.out
 have hms18_1:=Ac.out
 have hms18_2:=Ah.out
 have hs19:Aj.cell? ⟨gb483,2,none⟩=some (.int .i64 0):=(zr4 Aa.out 2).trans rfl
 have hfs19:=zr5 Aa.out 2
 have hns19_1:=Ae.out
 have hns19_2:=Af.out
 have hms19_1:=Ac.out
 have hms19_2:=Ah.out
 have hs20:Aj.cell? ⟨gb483,3,none⟩=some (.int .i64 0):=(zr4 Aa.out 3).trans rfl
 have hfs20:=zr5 Aa.out 3
 have hns20_1:=Ae.out
 have hns20_2:=Af.out
 have hms20_1:=Ac.out
 have hms20_2:=Ah.out
 have hs21:Aj.cell? ⟨gb483,4,none⟩=some (.int .i64 0):=(zr4 Aa.out 4).trans rfl
 have hfs21:=zr5 Aa.out 4
 have hns21_1:=Ae.out
 have hns21_2:=Af.out
 have hms21_1:=Ac.out
 have hms21_2:=Ah.out
 refine skip_ (w1:=?_) (by rfl) rfl ?_ ?_
 rotate_left
 ·go_simp
  rfl
 refine hK.out _ _ ⟨(fr5 Af.out hHeld.1),(fr5 Af.out hHeld.2.1),(fr5 Af.out hHeld.2.2.1),(fr5 Af.out hHeld.2.2.2.1),(fr5 Af.out hHeld.2.2.2.2)⟩ (fun hHeld=>?_)
 clear hK K
 refine one_ (i:=5) (N:=none) (bm 6 63) rfl rfl (by kernel_rfl) (by decide) (fun K hK=>?_)
 have hs22:Aj.cell? ⟨gb484,0,none⟩=some (.int .i64 0):=(zr4 Ab.out 0).trans rfl
 have hfs22:=zr5 Ab.out 0
 have hns22_0:=Ac.out
 have hns22_2:=Ag.out
 have hms22_0:=Ae.out
 have hms22_2:=Ai.out
 have hs24:Aj.cell? ⟨gb484,1,none⟩=some (.slice none 0 0):=(zr4 Ab.out 1).trans rfl
 have hfs24:=zr5 Ab.out 1
 have hns24_0:=Ac.out
 have hns24_2:=Ag.out
 have hms24_0:=Ae.out
 have hms24_2:=Ai.out
 have hs25:Aj.cell? ⟨gb484,2,none⟩=some (.int .i64 0):=(zr4 Ab.out 2).trans rfl
 have hfs25:=zr5 Ab.out 2
 have hns25_0:=Ac.out
 have hns25_2:=Ag.out
 have hms25_0:=Ae.out
 have hms25_2:=Ai.out
 have hs26:Aj.cell? ⟨gb484,3,none⟩=some (.int .i64 0):=(zr4 Ab.out 3).trans rfl
 have hfs26:=zr5 Ab.out 3
 have hns26_0:=Ac.out
 have hns26_2:=Ag.out
 have hms26_0:=Ae.out
 have hms26_2:=Ai.out
 have hs27:Aj.cell? ⟨gb484,4,none⟩=some (.bool false):=(zr4 Ab.out 4).trans rfl
 have hfs27:=zr5 Ab.out 4
 have hns27_0:=Ac.out
 have hns27_2:=Ag.out
 have hms27_0:=Ae.out
 have hms27_2:=Ai.out
 refine skip_ (w1:=?_) (by rfl) rfl ?_ ?_
 rotate_left
 ·go_simp
  rfl
 refine hK.out _ _ ⟨(fr5 Ag.out hHeld.1),(fr5 Ag.out hHeld.2.1),(fr5 Ag.out hHeld.2.2.1),(fr5 Ag.out hHeld.2.2.2.1),(fr5 Ag.out hHeld.2.2.2.2)⟩ (fun hHeld=>?_)
 clear hK K
 refine done_ (by kernel_rfl) ?_
 try go_wp2
 refine bodyPost_ret (results_cc rfl _ _ gb483 gb484 66 78 #[.int .i64 t488,.int .i64 t489,.int .i64 t490,.int .i64 t491,.int .i64 t492] #[.int .i64 t495,.slice Ao23 t496.length co23,.int .i64 t499,.int .i64 t500,.bool t501] (0,0) (0,0) _ _ rfl (yv16 Ac.out Aa.out) Try.underlying66 rfl (by kernel_rfl) rfl (yv9 Ae.out Ab.out) Try.underlying78 rfl (by kernel_rfl)) rfl ?_
 exact ⟨_,by first|rfl|(simp [errW_none,errW_some] <;> rfl)|(simp [*,errW_none,errW_some] <;> rfl),by (with_reducible repeat (first|apply Kd.N_alloc|apply Kd.N_drewN|apply Kd.N_drew));exact Kd.N_mono (Kd.N_far (p:=⟨gb484,4,none⟩) (Kd.N_far (p:=⟨gb484,3,none⟩) (Kd.N_far (p:=⟨gb484,2,none⟩) (Kd.N_far (p:=⟨gb484,1,none⟩) (Kd.N_far (p:=⟨gb484,0,none⟩) (Kd.N_far (p:=⟨gb483,4,none⟩) (Kd.N_far (p:=⟨gb483,3,none⟩) (Kd.N_far (p:=⟨gb483,2,none⟩) (Kd.N_far (p:=⟨gb483,1,none⟩) (Kd.N_far (p:=⟨gb483,0,none⟩) (Kd.N_mono (Kd.N_mono Ao.out (fun k_ hk=>(⟨hk,hk.2.1⟩:_∧k_≠gb483))) (fun k_ hk=>(⟨hk,hk.1.2.2.1⟩:_∧k_≠gb484))) (fun _ hk=>hk.1.2) (.int .i64 t488)) (fun _ hk=>hk.1.2) (.int .i64 t489)) (fun _ hk=>hk.1.2) (.int .i64 t490)) (fun _ hk=>hk.1.2) (.int .i64 t491)) (fun _ hk=>hk.1.2) (.int .i64 t492)) (fun _ hk=>hk.2) (.int .i64 t495)) (fun _ hk=>hk.2) (.slice Ao23 t496.length co23)) (fun _ hk=>hk.2) (.int .i64 t499)) (fun _ hk=>hk.2) (.int .i64 t500)) (fun _ hk=>hk.2) (.bool t501)) (fun _ hk=>hk.1.1.1),by exact yu11 HB.out HI487.out⟩

end Go.Proofs.Yteknaofnageihaa.QFnCrdTxOk
