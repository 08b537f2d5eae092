-- Written by a program of this session, a turned copy of the print (not by print.sh itself). Lean checks it.
import Derived.Test.YteknaofnageihaaQFnTxOkx0
import Derived.Test.YteknaofnageihaaQFnTxOkx4
import Derived.Test.YteknaofnageihaaQFnTxOkx5
import Derived.Test.YteknaofnageihaaQFnTxOkx6
import Derived.Test.YteknaofnageihaaQFnTxOkx9
namespace Go.Proofs.Yteknaofnageihaa.QFnTxOk
open Go.RowKit Go.Proofs.YteknaofnageihaaW.PrintWords Go.Proofs.YteknaofnageihaaW.PrintLast Go.Proofs.YteknaofnageihaaW.PrintMore Go.Proofs.YteknaofnageihaaLoc
attribute [local go_sem] max2_int min2_int max_two min_two max_three min_three max_four min_four   -- for this text's walks alone
set_option linter.unusedVariables false
set_option linter.unusedSimpArgs false

/-! ### spec_l20PartOr: function 78 -/
def spec_l20PartOr.f (k : Nat) (s0_0 : List Int) (s0_1 : Int) (a1 : Int) : Option (Int × Int × List Int × Int) := (spec_l20Part.f k s0_0 s0_1).bind fun bt208 => ((spec_l20Rd_odd.f k s0_0 bt208.2.2.2 a1).bind fun bt215 => (if bt215.1 = true then ((spec_l20Rd_pick.f k s0_0 bt215.2 3).bind fun bt217 => (if bt217.1 = 0 then ((some (([(-1), 4, 1] : List Int) : List Int)).bind fun y219 => ((spec_l20Rd_pick.f k s0_0 bt217.2 3).bind fun bt222 => (if 0 ≤ bt222.1 then (if bt222.1 < (y219.length : Int) then (some (rd y219 bt222.1, bt208.2.1, bt208.2.2.1, bt222.2)) else (none)) else (none)))) else (if bt217.1 = 1 then ((some (([(-1), 25, 3] : List Int) : List Int)).bind fun y225 => ((spec_l20Rd_pick.f k s0_0 bt217.2 3).bind fun bt228 => (if 0 ≤ bt228.1 then (if bt228.1 < (y225.length : Int) then (some (bt208.1, rd y225 bt228.1, bt208.2.2.1, bt228.2)) else (none)) else (none)))) else ((some (([1, 2, 3, 4, 5, 6, 7, 8] : List Int) : List Int)).bind fun y231 => (if bt208.2.2.1.length + y231.length < 140737488355328 then (some (bt208.1, bt208.2.1, (bt208.2.2.1 ++ y231), bt217.2)) else (none)))))) else (some (bt208.1, bt208.2.1, bt208.2.2.1, bt215.2))))
theorem spec_l20PartOr.mono : ∀ a0 a1 a2 k, LeO (spec_l20PartOr.f k a0 a1 a2) (spec_l20PartOr.f (k + 1) a0 a1 a2) := by
 intro a0 a1 a2 k
 unfold spec_l20PartOr.f
 repeat' first
     | (with_reducible exact spec_l20Part.mono _ _ _)
     | (with_reducible exact spec_l20Rd_odd.mono _ _ _ _)
     | (with_reducible exact spec_l20Rd_pick.mono _ _ _ _)
     | (with_reducible exact LeO.refl _)
     | (with_reducible exact LeO.none _)
     | (with_reducible refine LeO.ite ?_ ?_)
     | (with_reducible refine LeO.bind ?_ (fun _ => ?_))
     | exact spec_l20Part.mono _ _ _
     | exact spec_l20Rd_odd.mono _ _ _ _
     | exact spec_l20Rd_pick.mono _ _ _ _
     | exact LeO.none _
     | refine LeO.ite ?_ ?_
     | refine LeO.bind ?_ (fun _ => ?_)
set_option maxHeartbeats 60000000 in
set_option maxRecDepth 100000 in
theorem spec_l20PartOr.calls (k : Nat) (g : Nat) (s0_0 : List Int) (s0_1 : Int) (a1 : Int) (r1 : Int) (r2 : Int) (r3 : List Int) (r4 : Int) (w0 w : World) (hI : IsS113 w0 w g s0_0 s0_1) (hB : Below w0.heap.size w0 w) (h : spec_l20PartOr.f k s0_0 s0_1 a1 = some (r1, r2, r3, r4)) :
  Calls Try.prog 78 #[.pointer (some ⟨g,0,none⟩),.int .i64 a1] w fun e w'=>∃ v2_:Value,e=.returned (.agg #[.int .i64 r1,.int .i64 r2,v2_])∧Kd.R ku 5 w' w.heap.size (fun _=>True) v2_ r3∧IsS113 w0 w' g s0_0 r4∧Below w0.heap.size w0 w'∧KeepBut w w' g none:=by
 have hu39:=Try.underlying39
 have HI0:=mk_ hI
 have HK:=mk_ (KeepBut.refl w g none)
 have HL:=mk_ hB.size
 clear hI
 have HW0:=mk_ hB.size
 have HB:=mk_ hB
 clear hB
 have H:((spec_l20Part.f k s0_0 s0_1).bind fun bt208=>((spec_l20Rd_odd.f k s0_0 bt208.2.2.2 a1).bind fun bt215=>(if bt215.1=true then ((spec_l20Rd_pick.f k s0_0 bt215.2 3).bind fun bt217=>(if bt217.1=0 then ((some (([(-1),4,1]:List Int):List Int)).bind fun y219=>((spec_l20Rd_pick.f k s0_0 bt217.2 3).bind fun bt222=>(if 0≤bt222.1 then (if bt222.1<(y219.length:Int) then (some (rd y219 bt222.1,bt208.2.1,bt208.2.2.1,bt222.2)) else (none)) else (none)))) else (if bt217.1=1 then ((some (([(-1),25,3]:List Int):List Int)).bind fun y225=>((spec_l20Rd_pick.f k s0_0 bt217.2 3).bind fun bt228=>(if 0≤bt228.1 then (if bt228.1<(y225.length:Int) then (some (bt208.1,rd y225 bt228.1,bt208.2.2.1,bt228.2)) else (none)) else (none)))) else ((some (([1,2,3,4,5,6,7,8]:List Int):List Int)).bind fun y231=>(if bt208.2.2.1.length+y231.length<140737488355328 then (some (bt208.1,bt208.2.1,(bt208.2.2.1++y231),bt217.2)) else (none)))))) else (some (bt208.1,bt208.2.1,bt208.2.2.1,bt215.2)))))=some (r1,r2,r3,r4):=h
 clear h
 replace H:=Option.bind_eq_some_iff.mp H
 obtain ⟨⟨t208,t209,t210,t213⟩,Aq,H⟩:=H
 try dsimp only at H
 have A3:=mk_ Aq
 clear Aq
 replace H:=Option.bind_eq_some_iff.mp H
 obtain ⟨⟨t215,t216⟩,Ar,H⟩:=H
 try dsimp only at H
 have A4:=mk_ Ar
 clear Ar
 have HH_:=mk_ H
 clear H
 go_enter Try.func78,Try.ntmps78
 go_wp2_with (first|((with_reducible refine gate_dst (N:=4) rfl ?_);refine box_event ?hg (N:=4) ?hd (cs:=#[.int .i64 0,.int .i64 0,.slice none 0 0]) (t:=39) ?hr ?_;(case hd=>rfl);(case hg=>rfl);(case hr=>first|(go_simp;done)|(go_simp;rfl));intro gb207 hg Dv hbox hb;replace HB:=mk_ (zr3 (yu0 HB.out HI0.out) hb);have Aa:=mk_ (hbox);have C5:=mk_ ((by rw [hg];exact (keep_size (w:=w) (g:=g) (row:=none) (yu1 HK.out)):w.heap.size≤gb207));have C6:=mk_ ((Nat.le_trans HW0.out (by rw [hg];exact (keep_size (w:=w) (g:=g) (row:=none) (yu1 HK.out)):w.heap.size≤gb207):w0.heap.size≤gb207));replace HK:=mk_ (KeepBut.trans (yu1 HK.out) (KeepBut.of_below hb g none) (.inl rfl));have Ai:=mk_ ((by rw [hg];exact zm2 (IsS113.lt (show IsS113 w0 _ g s0_0 s0_1 from by exact yu2 HI0.out)):g≠gb207));replace HI0:=mk_ (IsS113.below (yu2 HI0.out) hb);have Af:=mk_ Ai.out.symm;clear hb hbox hg)|((with_reducible refine gate_callee (f:=99) rfl ?_);refine goesL_ (some 7) rfl rfl Try.func99 (by kernel_rfl) rfl #[.pointer (some ⟨g,0,none⟩)] rfl am ?_;(with_reducible refine (spec_l20Part.calls k g s0_0 s0_1 t208 t209 t210 t213 w0 _ ?side1 ?side2 A3.out).mono ?_);(case side1=>exact yu3 HI0.out);(case side2=>exact yu4 HB.out HI0.out);rintro e Dw ⟨v211,rfl,ho0,hi,hb,hk⟩;refine ⟨_,rfl,?_⟩;replace Aa:=mk_ (KeepBut.blk hk (g':=gb207) (o:=.cells #[.int .i64 0,.int .i64 0,.slice none 0 0] 39 (0,0)) (by exact Aa.out) Af.out (by simp));have Ac:=mk_ (Kd.R_lower ho0 (keep_size (w:=w) (g:=g) (row:=none) (yu5 HK.out)));replace HK:=mk_ (KeepBut.trans (yu5 HK.out) hk (.inl rfl));replace HB:=mk_ (hb);replace HI0:=mk_ (hi);(try clear hb);(try clear hb2);(try clear hk);(try clear hi);(try clear ho0))|((with_reducible refine gate_dst (N:=5) rfl ?_);refine Aside0.out ?_))
 have H:=HH_.out
 clear HH_
 by_cases c5:t215=true
 rotate_left
 ·replace c5:=Bool.eq_false_iff.mpr c5
  subst c5
  have H1:(some (t208,t209,t210,t216))=some (r1,r2,r3,r4):=by rw [if_neg (show ¬ (false=true) by decide)] at H;exact H
  clear H
  have H:=H1
  clear H1
  simp only [Option.some.injEq,Prod.mk.injEq] at H
  obtain ⟨rfl,rfl,rfl,rfl⟩:=H
  refine mk_ ?_
  go_wp2_with (first|((with_reducible refine gate_dst (N:=5) rfl ?_);refine box_event ?hg (N:=5) ?hd (cs:=#[.int .i64 0,.int .i64 0,.slice none 0 0]) (t:=39) ?hr ?_;(case hd=>rfl);(case hg=>rfl);(case hr=>first|(go_simp;done)|(go_simp;rfl));intro gb214 hg Dx hbox hb;replace Ac:=mk_ (Kd.R_below (mR Ac.out) hb);replace HB:=mk_ (zr3 (yu4 HB.out HI0.out) hb);have Ab:=mk_ (hbox);have Am:=mk_ ((by rw [hg];exact (keep_size (w:=w) (g:=g) (row:=none) (yu5 HK.out)):w.heap.size≤gb214));have An:=mk_ ((Nat.le_trans HW0.out (by rw [hg];exact (keep_size (w:=w) (g:=g) (row:=none) (yu5 HK.out)):w.heap.size≤gb214):w0.heap.size≤gb214));replace HK:=mk_ (KeepBut.trans (yu5 HK.out) (KeepBut.of_below hb g none) (.inl rfl));have Ad:=mk_ ((by rw [hg];exact zm2 (zr6 (by exact Aa.out)):gb207≠gb214));replace Aa:=mk_ (zq6 (by exact Aa.out) hb);have Ah:=mk_ Ad.out.symm;have Ag:=mk_ ((by rw [hg];exact zm2 (IsS113.lt (show IsS113 w0 _ g s0_0 t213 from by exact yu3 HI0.out)):g≠gb214));replace HI0:=mk_ (IsS113.below (yu3 HI0.out) hb);have Ae:=mk_ Ag.out.symm;clear hb hbox hg;have C7:=Ah.out;have C8:=Ad.out;have C9:=Ae.out;have Da:=Ag.out;obtain ⟨Au,Av,Aw⟩:=cz3 Ab.out;obtain ⟨Ax,Ay,Az⟩:=fz3 Ab.out;obtain ⟨Ao72,co72,eo72⟩:=Kd.R_slice Ac.out;subst eo72)|((with_reducible refine gate_callee (f:=98) rfl ?_);refine goesL_ (some 10) rfl rfl Try.func98 (by kernel_rfl) rfl #[.pointer (some ⟨g,0,none⟩),.int .i64 a1] rfl am ?_;(with_reducible refine (spec_l20Rd_odd.calls k g s0_0 t213 a1 false t216 w0 _ ?side1 ?side2 A4.out).mono ?_);(case side1=>exact yu3 HI0.out);(case side2=>exact yu4 HB.out HI0.out);rintro e Dy ⟨rfl,hi,hb,hk⟩;refine ⟨_,rfl,?_⟩;replace Aa:=mk_ (KeepBut.blk hk (g':=gb207) (o:=.cells #[.int .i64 0,.int .i64 0,.slice none 0 0] 39 (0,0)) (yv0 Ad.out Aa.out) Af.out (by simp));replace Ac:=mk_ (Kd.R_mono (Kd.R_keep (IsS113.apart (show IsS113 w0 _ g s0_0 t213 from by exact yu3 HI0.out) (mF3 Ac.out Ab.out) (by decide)) hk (fun _ h=>h.2)) (fun _ h=>h.1));replace Ab:=mk_ (KeepBut.blk hk (g':=gb214) (o:=.cells #[.int .i64 t208,.int .i64 t209,.slice Ao72 t210.length co72] 39 (0,0)) (yv1 Ab.out) Ae.out (by simp));replace HK:=mk_ (KeepBut.trans (yu5 HK.out) hk (.inl rfl));replace HB:=mk_ (hb);replace HI0:=mk_ (hi);(try clear hb);(try clear hb2);(try clear hk);(try clear hi);obtain ⟨A0,A1,A2⟩:=cz3 Ab.out;obtain ⟨A5,A7,A9⟩:=fz3 Ab.out;have Db:=Af.out;have Dc:=Ai.out;obtain ⟨Ba,Bb,Bc⟩:=cz3 Aa.out;obtain ⟨Bd,Be,Bf⟩:=fz3 Aa.out))
  refine bodyPost_ret (results_cell_row rfl _ _ gb207 39 #[.int .i64 t208,.int .i64 t209,.slice Ao72 t210.length co72] (0,0) _ rfl (yv1 Aa.out) Try.underlying39 rfl (by kernel_rfl)) rfl ?_
  exact ⟨_,by first|rfl|(simp [errW_none,errW_some] <;> rfl)|(simp [*,errW_none,errW_some] <;> rfl),by (with_reducible repeat (first|apply Kd.R_alloc|apply Kd.R_drewN|apply Kd.R_drew));exact Kd.R_mono (Kd.R_far (p:=⟨gb207,2,none⟩) (Kd.R_far (p:=⟨gb207,1,none⟩) (Kd.R_far (p:=⟨gb207,0,none⟩) (Kd.R_types Ac.out Aa.out (by decide)) (fun _ hk=>hk.2) (.int .i64 t208)) (fun _ hk=>hk.2) (.int .i64 t209)) (fun _ hk=>hk.2) (.slice Ao72 t210.length co72)) (fun _ hk=>trivial),by exact yu3 HI0.out,by exact yu4 HB.out HI0.out,by exact yu5 HK.out⟩
 subst c5
 have H1:((spec_l20Rd_pick.f k s0_0 t216 3).bind fun bt217=>(if bt217.1=0 then ((some (([(-1),4,1]:List Int):List Int)).bind fun y219=>((spec_l20Rd_pick.f k s0_0 bt217.2 3).bind fun bt222=>(if 0≤bt222.1 then (if bt222.1<(y219.length:Int) then (some (rd y219 bt222.1,t209,t210,bt222.2)) else (none)) else (none)))) else (if bt217.1=1 then ((some (([(-1),25,3]:List Int):List Int)).bind fun y225=>((spec_l20Rd_pick.f k s0_0 bt217.2 3).bind fun bt228=>(if 0≤bt228.1 then (if bt228.1<(y225.length:Int) then (some (t208,rd y225 bt228.1,t210,bt228.2)) else (none)) else (none)))) else ((some (([1,2,3,4,5,6,7,8]:List Int):List Int)).bind fun y231=>(if t210.length+y231.length<140737488355328 then (some (t208,t209,(t210++y231),bt217.2)) else (none))))))=some (r1,r2,r3,r4):=by rw [if_pos rfl] at H;exact H
 clear H
 have H:=H1
 clear H1
 replace H:=Option.bind_eq_some_iff.mp H
 obtain ⟨⟨t217,t218⟩,As,H⟩:=H
 try dsimp only at H
 have A6:=mk_ As
 clear As
 by_cases c7:t217=0
 ·rw [if_pos c7] at H
  have c7b0:(t217 == 0)=true:=beq_iff_eq.mpr c7
  have c7b1:(t217 != 0)=false:=bne_eq_false_iff_eq.mpr c7
  clear c7
  obtain ⟨y219,hy219⟩:∃ y_:List Int,y_=(([(-1),4,1]:List Int)):=⟨_,rfl⟩
  replace H:((spec_l20Rd_pick.f k s0_0 t218 3).bind fun bt222=>(if 0≤bt222.1 then (if bt222.1<(y219.length:Int) then (some (rd y219 bt222.1,t209,t210,bt222.2)) else (none)) else (none)))=some (r1,r2,r3,r4):=by first|(rw [hy219];with_reducible exact H)|(have H2_:=(Option.bind_some _ _).symm.trans H;rw [hy219];with_reducible exact H2_)|(have H2_:=(Option.bind_some _ _).symm.trans H;with_reducible exact H2_)|with_reducible exact H|(rw [hy219];exact H)|exact H
  have Ny219:=mk_ hy219
  clear hy219
  replace H:=Option.bind_eq_some_iff.mp H
  obtain ⟨⟨t222,t223⟩,At,H⟩:=H
  try dsimp only at H
  have A8:=mk_ At
  clear At
  have HH_:=mk_ H
  clear H
  refine mk_ ?_
  go_wp2_with (first|((with_reducible refine gate_dst (N:=5) rfl ?_);refine box_event ?hg (N:=5) ?hd (cs:=#[.int .i64 0,.int .i64 0,.slice none 0 0]) (t:=39) ?hr ?_;(case hd=>rfl);(case hg=>rfl);(case hr=>first|(go_simp;done)|(go_simp;rfl));intro gb214 hg Dz hbox hb;replace Ac:=mk_ (Kd.R_below (mR Ac.out) hb);replace HB:=mk_ (zr3 (yu4 HB.out HI0.out) hb);have Ab:=mk_ (hbox);have Am:=mk_ ((by rw [hg];exact (keep_size (w:=w) (g:=g) (row:=none) (yu5 HK.out)):w.heap.size≤gb214));have An:=mk_ ((Nat.le_trans HW0.out (by rw [hg];exact (keep_size (w:=w) (g:=g) (row:=none) (yu5 HK.out)):w.heap.size≤gb214):w0.heap.size≤gb214));replace HK:=mk_ (KeepBut.trans (yu5 HK.out) (KeepBut.of_below hb g none) (.inl rfl));have Ad:=mk_ ((by rw [hg];exact zm2 (zr6 (by exact Aa.out)):gb207≠gb214));replace Aa:=mk_ (zq6 (by exact Aa.out) hb);have Ah:=mk_ Ad.out.symm;have Ag:=mk_ ((by rw [hg];exact zm2 (IsS113.lt (show IsS113 w0 _ g s0_0 t213 from by exact yu3 HI0.out)):g≠gb214));replace HI0:=mk_ (IsS113.below (yu3 HI0.out) hb);have Ae:=mk_ Ag.out.symm;clear hb hbox hg;have Dd:=Ah.out;have De:=Ad.out;have Df:=Ae.out;have Dg:=Ag.out;obtain ⟨Bg,Bh,Bi⟩:=cz3 Ab.out;obtain ⟨Bj,Bk,Bl⟩:=fz3 Ab.out;obtain ⟨Ao17,co17,eo17⟩:=Kd.R_slice Ac.out;subst eo17)|((with_reducible refine gate_callee (f:=98) rfl ?_);refine goesL_ (some 10) rfl rfl Try.func98 (by kernel_rfl) rfl #[.pointer (some ⟨g,0,none⟩),.int .i64 a1] rfl am ?_;(with_reducible refine (spec_l20Rd_odd.calls k g s0_0 t213 a1 true t216 w0 _ ?side1 ?side2 A4.out).mono ?_);(case side1=>exact yu3 HI0.out);(case side2=>exact yu4 HB.out HI0.out);rintro e D0 ⟨rfl,hi,hb,hk⟩;refine ⟨_,rfl,?_⟩;replace Aa:=mk_ (KeepBut.blk hk (g':=gb207) (o:=.cells #[.int .i64 0,.int .i64 0,.slice none 0 0] 39 (0,0)) (yv0 Ad.out Aa.out) Af.out (by simp));replace Ac:=mk_ (Kd.R_mono (Kd.R_keep (IsS113.apart (show IsS113 w0 _ g s0_0 t213 from by exact yu3 HI0.out) (mF3 Ac.out Ab.out) (by decide)) hk (fun _ h=>h.2)) (fun _ h=>h.1));replace Ab:=mk_ (KeepBut.blk hk (g':=gb214) (o:=.cells #[.int .i64 t208,.int .i64 t209,.slice Ao17 t210.length co17] 39 (0,0)) (yv1 Ab.out) Ae.out (by simp));replace HK:=mk_ (KeepBut.trans (yu5 HK.out) hk (.inl rfl));replace HB:=mk_ (hb);replace HI0:=mk_ (hi);(try clear hb);(try clear hb2);(try clear hk);(try clear hi))|((with_reducible refine gate_callee (f:=70) rfl ?_);refine goesL_ (some 12) rfl rfl Try.func70 (by kernel_rfl) rfl #[.pointer (some ⟨g,0,none⟩),.int .i64 3] rfl am ?_;(with_reducible refine (spec_l20Rd_pick.calls k g s0_0 t216 3 t217 t218 w0 _ ?side1 ?side2 A6.out).mono ?_);(case side1=>exact yu3 HI0.out);(case side2=>exact yu4 HB.out HI0.out);rintro e D1 ⟨rfl,hi,hb,hk⟩;refine ⟨_,rfl,?_⟩;replace Aa:=mk_ (KeepBut.blk hk (g':=gb207) (o:=.cells #[.int .i64 0,.int .i64 0,.slice none 0 0] 39 (0,0)) (by exact Aa.out) Af.out (by simp));replace Ac:=mk_ (Kd.R_mono (Kd.R_keep (IsS113.apart (show IsS113 w0 _ g s0_0 t216 from by exact yu3 HI0.out) (mR Ac.out) (by decide)) hk (fun _ h=>h.2)) (fun _ h=>h.1));replace Ab:=mk_ (KeepBut.blk hk (g':=gb214) (o:=.cells #[.int .i64 t208,.int .i64 t209,.slice Ao17 t210.length co17] 39 (0,0)) (by exact Ab.out) Ae.out (by simp));replace HK:=mk_ (KeepBut.trans (yu5 HK.out) hk (.inl rfl));replace HB:=mk_ (hb);replace HI0:=mk_ (hi);(try clear hb);(try clear hb2);(try clear hk);(try clear hi))|((with_reducible refine gate_dst (N:=20) rfl ?_);refine Aside0.out ?_))
  have H:=HH_.out
  clear HH_
  by_cases c9:0≤t222
  rotate_left
  ·rw [if_neg c9] at H
   exact absurd H (by simp)
  rw [if_pos c9] at H
  have c9b0:decide (0≤t222)=true:=decide_eq_true c9
  clear c9
  by_cases c10:t222<(y219.length:Int)
  rotate_left
  ·rw [if_neg c10] at H
   exact absurd H (by simp)
  rw [if_pos c10] at H
  have c10b0:decide (t222<(y219.length:Int))=true:=decide_eq_true c10
  clear c10
  simp only [Option.some.injEq,Prod.mk.injEq] at H
  obtain ⟨rfl,rfl,rfl,rfl⟩:=H
  refine mk_ ?_
  go_wp2_with (first|((with_reducible refine gate_dst (N:=20) rfl ?_);refine Kd.R_lit (Kd.int .i64) _ 3 ?hg (N:=20) ?hd (xs:=([(-1),4,1]:List Int)) (inner:=[.int .i64 (-1),.int .i64 4,.int .i64 1]) (ok:=fun _=>True) (okp:=fun _=>True) ?hr ?hp (fun _ hk=>hk) trivial (Below.refl _ _) (Nat.le_refl _) (by simp) ?_;(case hd=>rfl);(case hg=>rfl);(case hr=>first|(go_simp;done)|(go_simp;rfl));(case hp=>exact (Reps.one (show Kd.M (Kd.int .i64) _ _ _ (-1) [.int .i64 (-1)] from rfl) (Reps.one (show Kd.M (Kd.int .i64) _ _ _ 4 [.int .i64 4] from rfl) (Reps.one (show Kd.M (Kd.int .i64) _ _ _ 1 [.int .i64 1] from rfl) (Reps.none _ _)))));intro v220 D2 ho21 hb hg_ hnew_;clear hg_ hnew_;(first|rw [← Ny219.out] at ho21|(simp only [Int.reduceToNat] at ho21;rw [← Ny219.out] at ho21));replace Ac:=mk_ (Kd.R_below (mR Ac.out) hb);have Ak:=mk_ (Kd.R_lower ho21 (keep_size (w:=w) (g:=g) (row:=none) (yu5 HK.out)));replace Aa:=mk_ (zq6 (by exact Aa.out) hb);replace Ab:=mk_ (zq6 (by exact Ab.out) hb);replace HK:=mk_ (KeepBut.trans (yu5 HK.out) (KeepBut.of_below hb g none) (.inl rfl));replace HB:=mk_ (zr3 (yu4 HB.out HI0.out) hb);replace HI0:=mk_ (IsS113.below (yu3 HI0.out) hb);clear hb ho21)|((with_reducible refine gate_callee (f:=70) rfl ?_);refine goesL_ (some 22) rfl rfl Try.func70 (by kernel_rfl) rfl #[.pointer (some ⟨g,0,none⟩),.int .i64 3] rfl am ?_;(with_reducible refine (spec_l20Rd_pick.calls k g s0_0 t218 3 t222 t223 w0 _ ?side1 ?side2 A8.out).mono ?_);(case side1=>exact yu3 HI0.out);(case side2=>exact yu4 HB.out HI0.out);rintro e D3 ⟨rfl,hi,hb,hk⟩;refine ⟨_,rfl,?_⟩;replace Aa:=mk_ (KeepBut.blk hk (g':=gb207) (o:=.cells #[.int .i64 0,.int .i64 0,.slice none 0 0] 39 (0,0)) (by exact Aa.out) Af.out (by simp));replace Ac:=mk_ (Kd.R_mono (Kd.R_keep (IsS113.apart (show IsS113 w0 _ g s0_0 t218 from by exact yu3 HI0.out) (mR Ac.out) (by decide)) hk (fun _ h=>h.2)) (fun _ h=>h.1));replace Ab:=mk_ (KeepBut.blk hk (g':=gb214) (o:=.cells #[.int .i64 t208,.int .i64 t209,.slice Ao17 t210.length co17] 39 (0,0)) (by exact Ab.out) Ae.out (by simp));replace Ak:=mk_ (Kd.R_mono (Kd.R_keep (IsS113.apart (show IsS113 w0 _ g s0_0 t218 from by exact yu3 HI0.out) (mR Ak.out) (by decide)) hk (fun _ h=>h.2)) (fun _ h=>h.1));replace HK:=mk_ (KeepBut.trans (yu5 HK.out) hk (.inl rfl));replace HB:=mk_ (hb);replace HI0:=mk_ (hi);(try clear hb);(try clear hb2);(try clear hk);(try clear hi);obtain ⟨Ao23,co23,eo23⟩:=Kd.R_slice Ak.out;subst eo23;have p224:0≤(t222:Int):=of_decide_eq_true (by first|(with_reducible assumption)|assumption);have q224:t222<(y219.length:Int):=of_decide_eq_true (by first|(with_reducible assumption)|assumption);obtain ⟨ad224,e224,hx224_0⟩:=Kd.at_int (Kd.R_reads' Ak.out).2.2 t222 p224 q224;cases e224;replace p224:=eq_true p224;replace q224:=eq_true q224;obtain ⟨Bm,Bn,Bo⟩:=cz3 Ab.out;obtain ⟨Bp,Bq,Br⟩:=fz3 Ab.out;have Dh:=Af.out;have Di:=Ai.out;obtain ⟨Bs,Bt,Bu⟩:=cz3 Aa.out;obtain ⟨Bv,Bw,Bx⟩:=fz3 Aa.out))
  refine bodyPost_ret (results_cell_row rfl _ _ gb207 39 #[.int .i64 (rd y219 t222),.int .i64 t209,.slice Ao17 t210.length co17] (0,0) _ rfl (yv2 Ad.out Aa.out) Try.underlying39 rfl (by kernel_rfl)) rfl ?_
  exact ⟨_,by first|rfl|(simp [errW_none,errW_some] <;> rfl)|(simp [*,errW_none,errW_some] <;> rfl),by (with_reducible repeat (first|apply Kd.R_alloc|apply Kd.R_drewN|apply Kd.R_drew));exact Kd.R_mono (Kd.R_far (p:=⟨gb207,2,none⟩) (Kd.R_far (p:=⟨gb207,1,none⟩) (Kd.R_far (p:=⟨gb207,0,none⟩) (Kd.R_far (p:=⟨gb214,0,none⟩) (Kd.R_types (Kd.R_types Ac.out Ab.out (by decide)) Aa.out (by decide)) (fun _ hk=>hk.1.2) (.int .i64 (rd y219 t222))) (fun _ hk=>hk.2) (.int .i64 (rd y219 t222))) (fun _ hk=>hk.2) (.int .i64 t209)) (fun _ hk=>hk.2) (.slice Ao17 t210.length co17)) (fun _ hk=>trivial),by exact yu3 HI0.out,by exact yu4 HB.out HI0.out,by exact yu5 HK.out⟩
 rw [if_neg c7] at H
 have c7b0:(t217 == 0)=false:=beq_eq_false_iff_ne.mpr c7
 have c7b1:(t217 != 0)=true:=bne_iff_ne.mpr c7
 by_cases c27:t217=1
 ·rw [if_pos c27] at H
  have c27b0:(t217 == 1)=true:=beq_iff_eq.mpr c27
  have c27b1:(t217 != 1)=false:=bne_eq_false_iff_eq.mpr c27
  clear c27
  obtain ⟨y225,hy225⟩:∃ y_:List Int,y_=(([(-1),25,3]:List Int)):=⟨_,rfl⟩
  replace H:((spec_l20Rd_pick.f k s0_0 t218 3).bind fun bt228=>(if 0≤bt228.1 then (if bt228.1<(y225.length:Int) then (some (t208,rd y225 bt228.1,t210,bt228.2)) else (none)) else (none)))=some (r1,r2,r3,r4):=by first|(rw [hy225];with_reducible exact H)|(have H2_:=(Option.bind_some _ _).symm.trans H;rw [hy225];with_reducible exact H2_)|(have H2_:=(Option.bind_some _ _).symm.trans H;with_reducible exact H2_)|with_reducible exact H|(rw [hy225];exact H)|exact H
  have Ny225:=mk_ hy225
  clear hy225
  replace H:=Option.bind_eq_some_iff.mp H
  obtain ⟨⟨t228,t229⟩,Ap,H⟩:=H
  try dsimp only at H
  have C4:=mk_ Ap
  clear Ap
  have HH_:=mk_ H
  clear H
  refine mk_ ?_
  go_wp2_with (first|((with_reducible refine gate_dst (N:=5) rfl ?_);refine box_event ?hg (N:=5) ?hd (cs:=#[.int .i64 0,.int .i64 0,.slice none 0 0]) (t:=39) ?hr ?_;(case hd=>rfl);(case hg=>rfl);(case hr=>first|(go_simp;done)|(go_simp;rfl));intro gb214 hg D4 hbox hb;replace Ac:=mk_ (Kd.R_below (mR Ac.out) hb);replace HB:=mk_ (zr3 (yu4 HB.out HI0.out) hb);have Ab:=mk_ (hbox);have Am:=mk_ ((by rw [hg];exact (keep_size (w:=w) (g:=g) (row:=none) (yu5 HK.out)):w.heap.size≤gb214));have An:=mk_ ((Nat.le_trans HW0.out (by rw [hg];exact (keep_size (w:=w) (g:=g) (row:=none) (yu5 HK.out)):w.heap.size≤gb214):w0.heap.size≤gb214));replace HK:=mk_ (KeepBut.trans (yu5 HK.out) (KeepBut.of_below hb g none) (.inl rfl));have Ad:=mk_ ((by rw [hg];exact zm2 (zr6 (by exact Aa.out)):gb207≠gb214));replace Aa:=mk_ (zq6 (by exact Aa.out) hb);have Ah:=mk_ Ad.out.symm;have Ag:=mk_ ((by rw [hg];exact zm2 (IsS113.lt (show IsS113 w0 _ g s0_0 t213 from by exact yu3 HI0.out)):g≠gb214));replace HI0:=mk_ (IsS113.below (yu3 HI0.out) hb);have Ae:=mk_ Ag.out.symm;clear hb hbox hg;have Dj:=Ah.out;have Dk:=Ad.out;have Dl:=Ae.out;have Dm:=Ag.out;obtain ⟨By,Bz,B0⟩:=cz3 Ab.out;obtain ⟨B1,B2,B3⟩:=fz3 Ab.out;obtain ⟨Ao37,co37,eo37⟩:=Kd.R_slice Ac.out;subst eo37)|((with_reducible refine gate_callee (f:=98) rfl ?_);refine goesL_ (some 10) rfl rfl Try.func98 (by kernel_rfl) rfl #[.pointer (some ⟨g,0,none⟩),.int .i64 a1] rfl am ?_;(with_reducible refine (spec_l20Rd_odd.calls k g s0_0 t213 a1 true t216 w0 _ ?side1 ?side2 A4.out).mono ?_);(case side1=>exact yu3 HI0.out);(case side2=>exact yu4 HB.out HI0.out);rintro e D5 ⟨rfl,hi,hb,hk⟩;refine ⟨_,rfl,?_⟩;replace Aa:=mk_ (KeepBut.blk hk (g':=gb207) (o:=.cells #[.int .i64 0,.int .i64 0,.slice none 0 0] 39 (0,0)) (yv0 Ad.out Aa.out) Af.out (by simp));replace Ac:=mk_ (Kd.R_mono (Kd.R_keep (IsS113.apart (show IsS113 w0 _ g s0_0 t213 from by exact yu3 HI0.out) (mF3 Ac.out Ab.out) (by decide)) hk (fun _ h=>h.2)) (fun _ h=>h.1));replace Ab:=mk_ (KeepBut.blk hk (g':=gb214) (o:=.cells #[.int .i64 t208,.int .i64 t209,.slice Ao37 t210.length co37] 39 (0,0)) (yv1 Ab.out) Ae.out (by simp));replace HK:=mk_ (KeepBut.trans (yu5 HK.out) hk (.inl rfl));replace HB:=mk_ (hb);replace HI0:=mk_ (hi);(try clear hb);(try clear hb2);(try clear hk);(try clear hi))|((with_reducible refine gate_callee (f:=70) rfl ?_);refine goesL_ (some 12) rfl rfl Try.func70 (by kernel_rfl) rfl #[.pointer (some ⟨g,0,none⟩),.int .i64 3] rfl am ?_;(with_reducible refine (spec_l20Rd_pick.calls k g s0_0 t216 3 t217 t218 w0 _ ?side1 ?side2 A6.out).mono ?_);(case side1=>exact yu3 HI0.out);(case side2=>exact yu4 HB.out HI0.out);rintro e D6 ⟨rfl,hi,hb,hk⟩;refine ⟨_,rfl,?_⟩;replace Aa:=mk_ (KeepBut.blk hk (g':=gb207) (o:=.cells #[.int .i64 0,.int .i64 0,.slice none 0 0] 39 (0,0)) (by exact Aa.out) Af.out (by simp));replace Ac:=mk_ (Kd.R_mono (Kd.R_keep (IsS113.apart (show IsS113 w0 _ g s0_0 t216 from by exact yu3 HI0.out) (mR Ac.out) (by decide)) hk (fun _ h=>h.2)) (fun _ h=>h.1));replace Ab:=mk_ (KeepBut.blk hk (g':=gb214) (o:=.cells #[.int .i64 t208,.int .i64 t209,.slice Ao37 t210.length co37] 39 (0,0)) (by exact Ab.out) Ae.out (by simp));replace HK:=mk_ (KeepBut.trans (yu5 HK.out) hk (.inl rfl));replace HB:=mk_ (hb);replace HI0:=mk_ (hi);(try clear hb);(try clear hb2);(try clear hk);(try clear hi))|((with_reducible refine gate_dst (N:=28) rfl ?_);refine Aside0.out ?_))
  have H:=HH_.out
  clear HH_
  by_cases c29:0≤t228
  rotate_left
  ·rw [if_neg c29] at H
   exact absurd H (by simp)
  rw [if_pos c29] at H
  have c29b0:decide (0≤t228)=true:=decide_eq_true c29
  clear c29
  by_cases c30:t228<(y225.length:Int)
  rotate_left
  ·rw [if_neg c30] at H
   exact absurd H (by simp)
  rw [if_pos c30] at H
  have c30b0:decide (t228<(y225.length:Int))=true:=decide_eq_true c30
  clear c30
  simp only [Option.some.injEq,Prod.mk.injEq] at H
  obtain ⟨rfl,rfl,rfl,rfl⟩:=H
  refine mk_ ?_
  go_wp2_with (first|((with_reducible refine gate_dst (N:=28) rfl ?_);refine Kd.R_lit (Kd.int .i64) _ 3 ?hg (N:=28) ?hd (xs:=([(-1),25,3]:List Int)) (inner:=[.int .i64 (-1),.int .i64 25,.int .i64 3]) (ok:=fun _=>True) (okp:=fun _=>True) ?hr ?hp (fun _ hk=>hk) trivial (Below.refl _ _) (Nat.le_refl _) (by simp) ?_;(case hd=>rfl);(case hg=>rfl);(case hr=>first|(go_simp;done)|(go_simp;rfl));(case hp=>exact (Reps.one (show Kd.M (Kd.int .i64) _ _ _ (-1) [.int .i64 (-1)] from rfl) (Reps.one (show Kd.M (Kd.int .i64) _ _ _ 25 [.int .i64 25] from rfl) (Reps.one (show Kd.M (Kd.int .i64) _ _ _ 3 [.int .i64 3] from rfl) (Reps.none _ _)))));intro v226 D7 ho41 hb hg_ hnew_;clear hg_ hnew_;(first|rw [← Ny225.out] at ho41|(simp only [Int.reduceToNat] at ho41;rw [← Ny225.out] at ho41));replace Ac:=mk_ (Kd.R_below (mR Ac.out) hb);have Al:=mk_ (Kd.R_lower ho41 (keep_size (w:=w) (g:=g) (row:=none) (yu5 HK.out)));replace Aa:=mk_ (zq6 (by exact Aa.out) hb);replace Ab:=mk_ (zq6 (by exact Ab.out) hb);replace HK:=mk_ (KeepBut.trans (yu5 HK.out) (KeepBut.of_below hb g none) (.inl rfl));replace HB:=mk_ (zr3 (yu4 HB.out HI0.out) hb);replace HI0:=mk_ (IsS113.below (yu3 HI0.out) hb);clear hb ho41)|((with_reducible refine gate_callee (f:=70) rfl ?_);refine goesL_ (some 30) rfl rfl Try.func70 (by kernel_rfl) rfl #[.pointer (some ⟨g,0,none⟩),.int .i64 3] rfl am ?_;(with_reducible refine (spec_l20Rd_pick.calls k g s0_0 t218 3 t228 t229 w0 _ ?side1 ?side2 C4.out).mono ?_);(case side1=>exact yu3 HI0.out);(case side2=>exact yu4 HB.out HI0.out);rintro e D8 ⟨rfl,hi,hb,hk⟩;refine ⟨_,rfl,?_⟩;replace Aa:=mk_ (KeepBut.blk hk (g':=gb207) (o:=.cells #[.int .i64 0,.int .i64 0,.slice none 0 0] 39 (0,0)) (by exact Aa.out) Af.out (by simp));replace Ac:=mk_ (Kd.R_mono (Kd.R_keep (IsS113.apart (show IsS113 w0 _ g s0_0 t218 from by exact yu3 HI0.out) (mR Ac.out) (by decide)) hk (fun _ h=>h.2)) (fun _ h=>h.1));replace Ab:=mk_ (KeepBut.blk hk (g':=gb214) (o:=.cells #[.int .i64 t208,.int .i64 t209,.slice Ao37 t210.length co37] 39 (0,0)) (by exact Ab.out) Ae.out (by simp));replace Al:=mk_ (Kd.R_mono (Kd.R_keep (IsS113.apart (show IsS113 w0 _ g s0_0 t218 from by exact yu3 HI0.out) (mR Al.out) (by decide)) hk (fun _ h=>h.2)) (fun _ h=>h.1));replace HK:=mk_ (KeepBut.trans (yu5 HK.out) hk (.inl rfl));replace HB:=mk_ (hb);replace HI0:=mk_ (hi);(try clear hb);(try clear hb2);(try clear hk);(try clear hi);obtain ⟨Ao43,co43,eo43⟩:=Kd.R_slice Al.out;subst eo43;have p230:0≤(t228:Int):=of_decide_eq_true (by first|(with_reducible assumption)|assumption);have q230:t228<(y225.length:Int):=of_decide_eq_true (by first|(with_reducible assumption)|assumption);obtain ⟨ad230,e230,hx230_0⟩:=Kd.at_int (Kd.R_reads' Al.out).2.2 t228 p230 q230;cases e230;replace p230:=eq_true p230;replace q230:=eq_true q230;obtain ⟨B4,B5,B6⟩:=cz3 Ab.out;obtain ⟨B7,B8,B9⟩:=fz3 Ab.out;have Dn:=Af.out;have Do:=Ai.out;obtain ⟨Ca,Cb,Cc⟩:=cz3 Aa.out;obtain ⟨Cd,Ce,Cf⟩:=fz3 Aa.out))
  refine bodyPost_ret (results_cell_row rfl _ _ gb207 39 #[.int .i64 t208,.int .i64 (rd y225 t228),.slice Ao37 t210.length co37] (0,0) _ rfl (yv2 Ad.out Aa.out) Try.underlying39 rfl (by kernel_rfl)) rfl ?_
  exact ⟨_,by first|rfl|(simp [errW_none,errW_some] <;> rfl)|(simp [*,errW_none,errW_some] <;> rfl),by (with_reducible repeat (first|apply Kd.R_alloc|apply Kd.R_drewN|apply Kd.R_drew));exact Kd.R_mono (Kd.R_far (p:=⟨gb207,2,none⟩) (Kd.R_far (p:=⟨gb207,1,none⟩) (Kd.R_far (p:=⟨gb207,0,none⟩) (Kd.R_far (p:=⟨gb214,1,none⟩) (Kd.R_types (Kd.R_types Ac.out Ab.out (by decide)) Aa.out (by decide)) (fun _ hk=>hk.1.2) (.int .i64 (rd y225 t228))) (fun _ hk=>hk.2) (.int .i64 t208)) (fun _ hk=>hk.2) (.int .i64 (rd y225 t228))) (fun _ hk=>hk.2) (.slice Ao37 t210.length co37)) (fun _ hk=>trivial),by exact yu3 HI0.out,by exact yu4 HB.out HI0.out,by exact yu5 HK.out⟩
 rw [if_neg c27] at H
 have c27b0:(t217 == 1)=false:=beq_eq_false_iff_ne.mpr c27
 have c27b1:(t217 != 1)=true:=bne_iff_ne.mpr c27
 obtain ⟨y231,hy231⟩:∃ y_:List Int,y_=(([1,2,3,4,5,6,7,8]:List Int)):=⟨_,rfl⟩
 replace H:(if t210.length+y231.length<140737488355328 then (some (t208,t209,(t210++y231),t218)) else (none))=some (r1,r2,r3,r4):=by first|(rw [hy231];with_reducible exact H)|(have H2_:=(Option.bind_some _ _).symm.trans H;rw [hy231];with_reducible exact H2_)|(have H2_:=(Option.bind_some _ _).symm.trans H;with_reducible exact H2_)|with_reducible exact H|(rw [hy231];exact H)|exact H
 have Ny231:=mk_ hy231
 clear hy231
 have HH_:=mk_ H
 clear H
 refine mk_ ?_
 go_wp2_with (first|((with_reducible refine gate_dst (N:=5) rfl ?_);refine box_event ?hg (N:=5) ?hd (cs:=#[.int .i64 0,.int .i64 0,.slice none 0 0]) (t:=39) ?hr ?_;(case hd=>rfl);(case hg=>rfl);(case hr=>first|(go_simp;done)|(go_simp;rfl));intro gb214 hg D9 hbox hb;replace Ac:=mk_ (Kd.R_below (mR Ac.out) hb);replace HB:=mk_ (zr3 (yu4 HB.out HI0.out) hb);have Ab:=mk_ (hbox);have Am:=mk_ ((by rw [hg];exact (keep_size (w:=w) (g:=g) (row:=none) (yu5 HK.out)):w.heap.size≤gb214));have An:=mk_ ((Nat.le_trans HW0.out (by rw [hg];exact (keep_size (w:=w) (g:=g) (row:=none) (yu5 HK.out)):w.heap.size≤gb214):w0.heap.size≤gb214));replace HK:=mk_ (KeepBut.trans (yu5 HK.out) (KeepBut.of_below hb g none) (.inl rfl));have Ad:=mk_ ((by rw [hg];exact zm2 (zr6 (by exact Aa.out)):gb207≠gb214));replace Aa:=mk_ (zq6 (by exact Aa.out) hb);have Ah:=mk_ Ad.out.symm;have Ag:=mk_ ((by rw [hg];exact zm2 (IsS113.lt (show IsS113 w0 _ g s0_0 t213 from by exact yu3 HI0.out)):g≠gb214));replace HI0:=mk_ (IsS113.below (yu3 HI0.out) hb);have Ae:=mk_ Ag.out.symm;clear hb hbox hg;have Dp:=Ah.out;have Dq:=Ad.out;have Dr:=Ae.out;have Ds:=Ag.out;obtain ⟨Cg,Ch,Ci⟩:=cz3 Ab.out;obtain ⟨Cj,Ck,Cl⟩:=fz3 Ab.out;obtain ⟨Ao54,co54,eo54⟩:=Kd.R_slice Ac.out;subst eo54)|((with_reducible refine gate_callee (f:=98) rfl ?_);refine goesL_ (some 10) rfl rfl Try.func98 (by kernel_rfl) rfl #[.pointer (some ⟨g,0,none⟩),.int .i64 a1] rfl am ?_;(with_reducible refine (spec_l20Rd_odd.calls k g s0_0 t213 a1 true t216 w0 _ ?side1 ?side2 A4.out).mono ?_);(case side1=>exact yu3 HI0.out);(case side2=>exact yu4 HB.out HI0.out);rintro e Ea ⟨rfl,hi,hb,hk⟩;refine ⟨_,rfl,?_⟩;replace Aa:=mk_ (KeepBut.blk hk (g':=gb207) (o:=.cells #[.int .i64 0,.int .i64 0,.slice none 0 0] 39 (0,0)) (yv0 Ad.out Aa.out) Af.out (by simp));replace Ac:=mk_ (Kd.R_mono (Kd.R_keep (IsS113.apart (show IsS113 w0 _ g s0_0 t213 from by exact yu3 HI0.out) (mF3 Ac.out Ab.out) (by decide)) hk (fun _ h=>h.2)) (fun _ h=>h.1));replace Ab:=mk_ (KeepBut.blk hk (g':=gb214) (o:=.cells #[.int .i64 t208,.int .i64 t209,.slice Ao54 t210.length co54] 39 (0,0)) (yv1 Ab.out) Ae.out (by simp));replace HK:=mk_ (KeepBut.trans (yu5 HK.out) hk (.inl rfl));replace HB:=mk_ (hb);replace HI0:=mk_ (hi);(try clear hb);(try clear hb2);(try clear hk);(try clear hi))|((with_reducible refine gate_callee (f:=70) rfl ?_);refine Aside0.out ?_))
 have H:=HH_.out
 clear HH_
 by_cases c47:t210.length+y231.length<140737488355328
 rotate_left
 ·rw [if_neg c47] at H
  exact absurd H (by simp)
 rw [if_pos c47] at H
 have LMc47:=mk_ c47
 clear c47
 obtain ⟨y234,hy234⟩:∃ y_:List Int,y_=(t210++y231):=⟨_,rfl⟩
 replace H:(some (t208,t209,y234,t218))=some (r1,r2,r3,r4):=by first|(rw [hy234];with_reducible exact H)|(have H2_:=(Option.bind_some _ _).symm.trans H;rw [hy234];with_reducible exact H2_)|(have H2_:=(Option.bind_some _ _).symm.trans H;with_reducible exact H2_)|with_reducible exact H|(rw [hy234];exact H)|exact H
 have Ny234:=mk_ hy234
 clear hy234
 simp only [Option.some.injEq,Prod.mk.injEq] at H
 obtain ⟨rfl,rfl,rfl,rfl⟩:=H
 refine mk_ ?_
 go_wp2_with (first|((with_reducible refine gate_callee (f:=70) rfl ?_);refine goesL_ (some 12) rfl rfl Try.func70 (by kernel_rfl) rfl #[.pointer (some ⟨g,0,none⟩),.int .i64 3] rfl am ?_;(with_reducible refine (spec_l20Rd_pick.calls k g s0_0 t216 3 t217 t218 w0 _ ?side1 ?side2 A6.out).mono ?_);(case side1=>exact yu3 HI0.out);(case side2=>exact yu4 HB.out HI0.out);rintro e Eb ⟨rfl,hi,hb,hk⟩;refine ⟨_,rfl,?_⟩;replace Aa:=mk_ (KeepBut.blk hk (g':=gb207) (o:=.cells #[.int .i64 0,.int .i64 0,.slice none 0 0] 39 (0,0)) (by exact Aa.out) Af.out (by simp));replace Ac:=mk_ (Kd.R_mono (Kd.R_keep (IsS113.apart (show IsS113 w0 _ g s0_0 t216 from by exact yu3 HI0.out) (mR Ac.out) (by decide)) hk (fun _ h=>h.2)) (fun _ h=>h.1));replace Ab:=mk_ (KeepBut.blk hk (g':=gb214) (o:=.cells #[.int .i64 t208,.int .i64 t209,.slice Ao54 t210.length co54] 39 (0,0)) (by exact Ab.out) Ae.out (by simp));replace HK:=mk_ (KeepBut.trans (yu5 HK.out) hk (.inl rfl));replace HB:=mk_ (hb);replace HI0:=mk_ (hi);(try clear hb);(try clear hb2);(try clear hk);(try clear hi);obtain ⟨Cm,Cn,Co⟩:=cz3 Ab.out;obtain ⟨Cp,Cq,Cr⟩:=fz3 Ab.out)|((with_reducible refine gate_builtin (b:=.append) (xs:=#[.tmp 14,.tmp 15]) rfl ?_);at_builtin;refine Kd.R_append_rows ku w.heap.size rfl (.tmp 14) (.tmp 15) 22 5 (.int .u8 0) 1 rfl Try.underlying22 info5 rfl (by decide) (by omega) (.slice Ao54 t210.length co54) t210 y231 _ _ _ (fun k_=>some k_≠(.slice Ao61 y231.length co61:Value).ownBlock) (fun _=>False) rfl rfl ?aO ?aR (fun _ _ h=>h) (fun _ h=>h.elim) ?aF (Below.refl _ _) ?aS ?aL ?_;(case aR=>exact mC (Kd.R_reads' Aj.out).2.2);(case aF=>exact (fun k_ hk=>Kd.fresh' (Kd.R_lt (mR Aj.out)) k_ hk));(case aO=>exact (by (with_reducible repeat (first|apply Kd.R_alloc|apply Kd.R_drewN|apply Kd.R_drew));exact Kd.R_mono Ac.out (fun _ hk=>hk.2)));(case aS=>exact (keep_size (w:=w) (g:=g) (row:=none) (yu5 HK.out)));(case aL=>have:=LMc47.out;omega);intro v235 Ec ho hb hg hat;rw [← Ny234.out] at ho;have n0_:=mk_ (IsS113.grown (yu3 HI0.out) hg (IsS113.own_ne HI0.out Ac.out (by decide)));have n1_:=mk_ (blk_grown (g:=gb207) (o:=.cells #[.int .i64 0,.int .i64 0,.slice none 0 0] 39 (0,0)) (by exact Aa.out) hg (Kd.R_ne Ac.out Aa.out (by decide)));have n2_:=mk_ (blk_grown (g:=gb214) (o:=.cells #[.int .i64 t208,.int .i64 t209,.slice Ao54 t210.length co54] 39 (0,0)) (by exact Ab.out) hg (Kd.R_ne Ac.out Ab.out (by decide)));have n3_:=mk_ (Kd.R_after (ok:=(fun _=>True)) (mR Aj.out) hg hat);have n4_:=mk_ (below_weaken (yu4 HB.out HI0.out) HL.out hb);have n5_:=mk_ (KeepBut.trans (yu5 HK.out) (KeepBut.of_grown hg g) (Kd.R_base2 Ac.out));have n6_:=mk_ (ho);clear HI0;clear Aa;clear Ab;clear Aj;clear HB;clear HK;clear Ac;have HI0:=n0_;have Aa:=n1_;have Ab:=n2_;have Aj:=n3_;have HB:=n4_;have HK:=n5_;have Ao:=n6_;clear n0_ n1_ n2_ n3_ n4_ n5_ n6_;clear ho hb hg hat;obtain ⟨Ao62,co62,eo62⟩:=Kd.R_slice Ao.out;subst eo62;obtain ⟨Cs,Ct,Cu⟩:=cz3 Ab.out;obtain ⟨Cv,Cw,Cx⟩:=fz3 Ab.out;have Dt:=Af.out;have Du:=Ai.out;obtain ⟨Cy,Cz,C0⟩:=cz3 Aa.out;obtain ⟨C1,C2,C3⟩:=fz3 Aa.out)|((with_reducible refine gate_dst (N:=15) rfl ?_);refine Kd.R_lit ku _ 5 ?hg (N:=15) ?hd (xs:=([1,2,3,4,5,6,7,8]:List Int)) (inner:=[.int .u8 1,.int .u8 2,.int .u8 3,.int .u8 4,.int .u8 5,.int .u8 6,.int .u8 7,.int .u8 8]) (ok:=fun _=>True) (okp:=fun _=>True) ?hr ?hp (fun _ hk=>hk) trivial (Below.refl _ _) (Nat.le_refl _) (by simp) ?_;(case hd=>rfl);(case hg=>rfl);(case hr=>first|(go_simp;done)|(go_simp;rfl));(case hp=>exact (Reps.one (show Kd.M ku _ _ _ 1 [.int .u8 1] from rfl) (Reps.one (show Kd.M ku _ _ _ 2 [.int .u8 2] from rfl) (Reps.one (show Kd.M ku _ _ _ 3 [.int .u8 3] from rfl) (Reps.one (show Kd.M ku _ _ _ 4 [.int .u8 4] from rfl) (Reps.one (show Kd.M ku _ _ _ 5 [.int .u8 5] from rfl) (Reps.one (show Kd.M ku _ _ _ 6 [.int .u8 6] from rfl) (Reps.one (show Kd.M ku _ _ _ 7 [.int .u8 7] from rfl) (Reps.one (show Kd.M ku _ _ _ 8 [.int .u8 8] from rfl) (Reps.none _ _))))))))));intro v232 Ed ho59 hb hg_ hnew_;clear hg_ hnew_;(first|rw [← Ny231.out] at ho59|(simp only [Int.reduceToNat] at ho59;rw [← Ny231.out] at ho59));have Aj:=mk_ (Kd.R_lower (Kd.R_new' ho59 (Kd.R_lt (mR Ac.out))) (keep_size (w:=w) (g:=g) (row:=none) (yu5 HK.out)));replace Ac:=mk_ (Kd.R_elder' (mR Ac.out) (Kd.R_base ho59) hb);replace Aa:=mk_ (zq6 (by exact Aa.out) hb);replace Ab:=mk_ (zq6 (by exact Ab.out) hb);replace HK:=mk_ (KeepBut.trans (yu5 HK.out) (KeepBut.of_below hb g none) (.inl rfl));replace HB:=mk_ (zr3 (yu4 HB.out HI0.out) hb);replace HI0:=mk_ (IsS113.below (yu3 HI0.out) hb);clear hb ho59;obtain ⟨Ao61,co61,eo61⟩:=Kd.R_slice Aj.out;subst eo61))
 refine bodyPost_ret (results_cell_row rfl _ _ gb207 39 #[.int .i64 t208,.int .i64 t209,.slice Ao62 y234.length co62] (0,0) _ rfl (yv2 Ad.out Aa.out) Try.underlying39 rfl (by kernel_rfl)) rfl ?_
 exact ⟨_,by first|rfl|(simp [errW_none,errW_some] <;> rfl)|(simp [*,errW_none,errW_some] <;> rfl),by (with_reducible repeat (first|apply Kd.R_alloc|apply Kd.R_drewN|apply Kd.R_drew));exact Kd.R_mono (Kd.R_far (p:=⟨gb207,2,none⟩) (Kd.R_far (p:=⟨gb207,1,none⟩) (Kd.R_far (p:=⟨gb207,0,none⟩) (Kd.R_far (p:=⟨gb214,2,none⟩) (Kd.R_types (Kd.R_types Ao.out Ab.out (by decide)) Aa.out (by decide)) (fun _ hk=>hk.1.2) (.slice Ao62 y234.length co62)) (fun _ hk=>hk.2) (.int .i64 t208)) (fun _ hk=>hk.2) (.int .i64 t209)) (fun _ hk=>hk.2) (.slice Ao62 y234.length co62)) (fun _ hk=>trivial),by exact yu3 HI0.out,by exact yu4 HB.out HI0.out,by exact yu5 HK.out⟩

end Go.Proofs.Yteknaofnageihaa.QFnTxOk
