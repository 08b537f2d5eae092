-- Written by a program of this session, a turned copy of the print (not by print.sh itself). Lean checks it.
import Derived.Test.YteknaofnageihaaQFnExactSegPutx0
import Derived.Test.YteknaofnageihaaQFnExactSegPutx1
namespace Go.Proofs.Yteknaofnageihaa.QFnExactSegPut
open Go.RowKit Go.Proofs.YteknaofnageihaaW.PrintWords Go.Proofs.YteknaofnageihaaW.PrintLast Go.Proofs.YteknaofnageihaaW.PrintMore Go.Proofs.YteknaofnageihaaLoc
attribute [local go_sem] max2_int min2_int max_two min_two max_three min_three max_four min_four   -- for this text's walks alone
set_option linter.unusedVariables false
set_option linter.unusedSimpArgs false

/-! ### laws_eqSegPart: function 38 -/
def laws_eqSegPart.f (k : Nat) (a0_0 : Int) (a0_1 : Int) (l0_2 : List Int) (a1_0 : Int) (a1_1 : Int) (l1_2 : List Int) : Option (Bool) := if a0_0 = a1_0 then (if a0_1 = a1_1 then ((laws_eqByteS.f k l0_2 l1_2).bind fun t245 => (if t245 = true then (some true) else (some false))) else (some false)) else (some false)
theorem laws_eqSegPart.mono : ∀ a0 a1 a2 a3 a4 a5 k, LeO (laws_eqSegPart.f k a0 a1 a2 a3 a4 a5) (laws_eqSegPart.f (k + 1) a0 a1 a2 a3 a4 a5) := by
 intro a0 a1 a2 a3 a4 a5 k
 unfold laws_eqSegPart.f
 repeat' first
     | (with_reducible exact laws_eqByteS.mono _ _ _)
     | (with_reducible exact LeO.refl _)
     | (with_reducible exact LeO.none _)
     | (with_reducible refine LeO.ite ?_ ?_)
     | (with_reducible refine LeO.bind ?_ (fun _ => ?_))
     | exact laws_eqByteS.mono _ _ _
     | exact LeO.none _
     | refine LeO.ite ?_ ?_
     | refine LeO.bind ?_ (fun _ => ?_)
set_option maxHeartbeats 60000000 in
set_option maxRecDepth 100000 in
theorem laws_eqSegPart.calls (k : Nat) (a0_0 : Int) (a0_1 : Int) (A0_2 : Option Addr) (c0_2 : Nat) (l0_2 : List Int) (a1_0 : Int) (a1_1 : Int) (A1_2 : Option Addr) (c1_2 : Nat) (l1_2 : List Int) (r : Bool) (w : World) (hr0_2 : Kd.C (Kd.int .u8) w A0_2 l0_2.length l0_2) (hc0_2 : l0_2.length ≤ c0_2) (hr1_2 : Kd.C (Kd.int .u8) w A1_2 l1_2.length l1_2) (hc1_2 : l1_2.length ≤ c1_2) (h : laws_eqSegPart.f k a0_0 a0_1 l0_2 a1_0 a1_1 l1_2 = some r) :
  Calls Try.prog 38 #[.agg #[.int .i64 a0_0,.int .i64 a0_1,.slice A0_2 l0_2.length c0_2],.agg #[.int .i64 a1_0,.int .i64 a1_1,.slice A1_2 l1_2.length c1_2]] w fun e w'=>e=.returned (.bool r)∧Below w.heap.size w w':=by
 have hu39:=Try.underlying39
 have Ai:=mk_ hr0_2
 have Aj:=mk_ hc0_2
 clear hr0_2 hc0_2
 have Ak:=mk_ hr1_2
 have Al:=mk_ hc1_2
 clear hr1_2 hc1_2
 have HB:=mk_ (Below.refl w.heap.size w)
 have H:(if a0_0=a1_0 then (if a0_1=a1_1 then ((laws_eqByteS.f k l0_2 l1_2).bind fun t245=>(if t245=true then (some true) else (some false))) else (some false)) else (some false))=some r:=h
 clear h
 by_cases c3:a0_0=a1_0
 rotate_left
 ·rw [if_neg c3] at H
  have c3b0:(a0_0 == a1_0)=false:=beq_eq_false_iff_ne.mpr c3
  have c3b1:(a0_0 != a1_0)=true:=bne_iff_ne.mpr c3
  obtain rfl:=Option.some.inj H
  go_enter Try.func38,Try.ntmps38
  go_wp2_with (first|((with_reducible refine gate_dst (N:=2) rfl ?_);refine box_event ?hg (N:=2) ?hd (cs:=#[.int .i64 a0_0,.int .i64 a0_1,.slice A0_2 l0_2.length c0_2]) (t:=39) ?hr ?_;(case hd=>rfl);(case hg=>rfl);(case hr=>first|(go_simp;done)|(go_simp;rfl));intro gb243 hg B8 hbox hb;have Aa:=mk_ (hbox);have Ae:=mk_ ((by rw [hg];exact (zr2 (yu0 HB.out)):w.heap.size≤gb243));have Ag:=Ae;replace HB:=mk_ (zr3 (yu0 HB.out) hb);clear hb hbox hg)|((with_reducible refine gate_dst (N:=3) rfl ?_);refine box_event ?hg (N:=3) ?hd (cs:=#[.int .i64 a1_0,.int .i64 a1_1,.slice A1_2 l1_2.length c1_2]) (t:=39) ?hr ?_;(case hd=>rfl);(case hg=>rfl);(case hr=>first|(go_simp;done)|(go_simp;rfl));intro gb244 hg B9 hbox hb;have Ad:=mk_ (hbox);have Af:=mk_ ((by rw [hg];exact (zr2 (yu1 HB.out)):w.heap.size≤gb244));have Ah:=Af;replace HB:=mk_ (zr3 (yu1 HB.out) hb);have Ab:=mk_ ((by rw [hg];exact zm2 (zr6 (by exact Aa.out)):gb243≠gb244));replace Aa:=mk_ (zq6 (by exact Aa.out) hb);have Ac:=mk_ Ab.out.symm;clear hb hbox hg;have B0:=Ab.out;have B1:=Ac.out;obtain ⟨An,Ao,Ap⟩:=cz3 Aa.out;obtain ⟨Aq,Ar,As⟩:=fz3 Aa.out;obtain ⟨At,Au,Av⟩:=cz3 Ad.out;obtain ⟨Aw,Ax,Ay⟩:=fz3 Ad.out))
  go_ret
  exact ⟨by first|rfl|(simp [errW_none,errW_some] <;> rfl)|(simp [*,errW_none,errW_some] <;> rfl),by exact yu1 HB.out⟩
 rw [if_pos c3] at H
 have c3b0:(a0_0 == a1_0)=true:=beq_iff_eq.mpr c3
 have c3b1:(a0_0 != a1_0)=false:=bne_eq_false_iff_eq.mpr c3
 clear c3
 by_cases c4:a0_1=a1_1
 rotate_left
 ·rw [if_neg c4] at H
  have c4b0:(a0_1 == a1_1)=false:=beq_eq_false_iff_ne.mpr c4
  have c4b1:(a0_1 != a1_1)=true:=bne_iff_ne.mpr c4
  obtain rfl:=Option.some.inj H
  go_enter Try.func38,Try.ntmps38
  go_wp2_with (first|((with_reducible refine gate_dst (N:=2) rfl ?_);refine box_event ?hg (N:=2) ?hd (cs:=#[.int .i64 a0_0,.int .i64 a0_1,.slice A0_2 l0_2.length c0_2]) (t:=39) ?hr ?_;(case hd=>rfl);(case hg=>rfl);(case hr=>first|(go_simp;done)|(go_simp;rfl));intro gb243 hg Ca hbox hb;have Aa:=mk_ (hbox);have Ae:=mk_ ((by rw [hg];exact (zr2 (yu0 HB.out)):w.heap.size≤gb243));have Ag:=Ae;replace HB:=mk_ (zr3 (yu0 HB.out) hb);clear hb hbox hg)|((with_reducible refine gate_dst (N:=3) rfl ?_);refine box_event ?hg (N:=3) ?hd (cs:=#[.int .i64 a1_0,.int .i64 a1_1,.slice A1_2 l1_2.length c1_2]) (t:=39) ?hr ?_;(case hd=>rfl);(case hg=>rfl);(case hr=>first|(go_simp;done)|(go_simp;rfl));intro gb244 hg Cb hbox hb;have Ad:=mk_ (hbox);have Af:=mk_ ((by rw [hg];exact (zr2 (yu1 HB.out)):w.heap.size≤gb244));have Ah:=Af;replace HB:=mk_ (zr3 (yu1 HB.out) hb);have Ab:=mk_ ((by rw [hg];exact zm2 (zr6 (by exact Aa.out)):gb243≠gb244));replace Aa:=mk_ (zq6 (by exact Aa.out) hb);have Ac:=mk_ Ab.out.symm;clear hb hbox hg;have B2:=Ab.out;have B3:=Ac.out;obtain ⟨Az,A0,A1⟩:=cz3 Aa.out;obtain ⟨A2,A3,A4⟩:=fz3 Aa.out;obtain ⟨A6,A7,A8⟩:=cz3 Ad.out;obtain ⟨A9,Ba,Bb⟩:=fz3 Ad.out))
  go_ret
  exact ⟨by first|rfl|(simp [errW_none,errW_some] <;> rfl)|(simp [*,errW_none,errW_some] <;> rfl),by exact yu1 HB.out⟩
 rw [if_pos c4] at H
 have c4b0:(a0_1 == a1_1)=true:=beq_iff_eq.mpr c4
 have c4b1:(a0_1 != a1_1)=false:=bne_eq_false_iff_eq.mpr c4
 clear c4
 replace H:=Option.bind_eq_some_iff.mp H
 obtain ⟨t245,Am,H⟩:=H
 try dsimp only at H
 have A5:=mk_ Am
 clear Am
 by_cases c6:t245=true
 ·subst c6
  have H1:(some true)=some r:=by rw [if_pos rfl] at H;exact H
  clear H
  have H:=H1
  clear H1
  obtain rfl:=Option.some.inj H
  go_enter Try.func38,Try.ntmps38
  go_wp2_with (first|((with_reducible refine gate_dst (N:=2) rfl ?_);refine box_event ?hg (N:=2) ?hd (cs:=#[.int .i64 a0_0,.int .i64 a0_1,.slice A0_2 l0_2.length c0_2]) (t:=39) ?hr ?_;(case hd=>rfl);(case hg=>rfl);(case hr=>first|(go_simp;done)|(go_simp;rfl));intro gb243 hg w7 hbox hb;have Aa:=mk_ (hbox);have Ae:=mk_ ((by rw [hg];exact (zr2 (yu0 HB.out)):w.heap.size≤gb243));have Ag:=Ae;replace HB:=mk_ (zr3 (yu0 HB.out) hb);clear hb hbox hg)|((with_reducible refine gate_dst (N:=3) rfl ?_);refine box_event ?hg (N:=3) ?hd (cs:=#[.int .i64 a1_0,.int .i64 a1_1,.slice A1_2 l1_2.length c1_2]) (t:=39) ?hr ?_;(case hd=>rfl);(case hg=>rfl);(case hr=>first|(go_simp;done)|(go_simp;rfl));intro gb244 hg w8 hbox hb;have Ad:=mk_ (hbox);have Af:=mk_ ((by rw [hg];exact (zr2 (yu1 HB.out)):w.heap.size≤gb244));have Ah:=Af;replace HB:=mk_ (zr3 (yu1 HB.out) hb);have Ab:=mk_ ((by rw [hg];exact zm2 (zr6 (by exact Aa.out)):gb243≠gb244));replace Aa:=mk_ (zq6 (by exact Aa.out) hb);have Ac:=mk_ Ab.out.symm;clear hb hbox hg;have B6:=Ab.out;have B7:=Ac.out;obtain ⟨Bc,Bd,Be⟩:=cz3 Aa.out;obtain ⟨Bf,Bg,Bh⟩:=fz3 Aa.out;obtain ⟨Bi,Bj,Bk⟩:=cz3 Ad.out;obtain ⟨Bl,Bm,Bn⟩:=fz3 Ad.out)|((with_reducible refine gate_callee (f:=19) rfl ?_);refine goesL_ (some 19) rfl rfl Try.func19 (by kernel_rfl) rfl #[.slice A0_2 l0_2.length c0_2,.slice A1_2 l1_2.length c1_2] rfl am ?_;(with_reducible refine (laws_eqByteS.calls k _ _ l0_2 _ _ l1_2 true _ ?side1 ?side2 ?side3 ?side4 A5.out).mono ?_);(case side1=>repeat (first|exact (Kd.C_below Ai.out HB.out)|(with_reducible refine Kd.C_alloc ?_ _)|(with_reducible refine Kd.C_drewN ?_ _)|(with_reducible refine Kd.C_drew ?_)));(case side2=>exact Aj.out);(case side3=>repeat (first|exact (Kd.C_below Ak.out HB.out)|(with_reducible refine Kd.C_alloc ?_ _)|(with_reducible refine Kd.C_drewN ?_ _)|(with_reducible refine Kd.C_drew ?_)));(case side4=>exact Al.out);rintro e w' ⟨rfl,⟨nd,rfl⟩⟩;refine ⟨_,rfl,?_⟩))
  go_ret
  exact ⟨by first|rfl|(simp [errW_none,errW_some] <;> rfl)|(simp [*,errW_none,errW_some] <;> rfl),by exact yu1 HB.out⟩
 replace c6:=Bool.eq_false_iff.mpr c6
 subst c6
 have H1:(some false)=some r:=by rw [if_neg (show ¬ (false=true) by decide)] at H;exact H
 clear H
 have H:=H1
 clear H1
 obtain rfl:=Option.some.inj H
 go_enter Try.func38,Try.ntmps38
 go_wp2_with (first|((with_reducible refine gate_dst (N:=2) rfl ?_);refine box_event ?hg (N:=2) ?hd (cs:=#[.int .i64 a0_0,.int .i64 a0_1,.slice A0_2 l0_2.length c0_2]) (t:=39) ?hr ?_;(case hd=>rfl);(case hg=>rfl);(case hr=>first|(go_simp;done)|(go_simp;rfl));intro gb243 hg Cc hbox hb;have Aa:=mk_ (hbox);have Ae:=mk_ ((by rw [hg];exact (zr2 (yu0 HB.out)):w.heap.size≤gb243));have Ag:=Ae;replace HB:=mk_ (zr3 (yu0 HB.out) hb);clear hb hbox hg)|((with_reducible refine gate_dst (N:=3) rfl ?_);refine box_event ?hg (N:=3) ?hd (cs:=#[.int .i64 a1_0,.int .i64 a1_1,.slice A1_2 l1_2.length c1_2]) (t:=39) ?hr ?_;(case hd=>rfl);(case hg=>rfl);(case hr=>first|(go_simp;done)|(go_simp;rfl));intro gb244 hg Cd hbox hb;have Ad:=mk_ (hbox);have Af:=mk_ ((by rw [hg];exact (zr2 (yu1 HB.out)):w.heap.size≤gb244));have Ah:=Af;replace HB:=mk_ (zr3 (yu1 HB.out) hb);have Ab:=mk_ ((by rw [hg];exact zm2 (zr6 (by exact Aa.out)):gb243≠gb244));replace Aa:=mk_ (zq6 (by exact Aa.out) hb);have Ac:=mk_ Ab.out.symm;clear hb hbox hg;have B4:=Ab.out;have B5:=Ac.out;obtain ⟨Bo,Bp,Bq⟩:=cz3 Aa.out;obtain ⟨Br,Bs,Bt⟩:=fz3 Aa.out;obtain ⟨Bu,Bv,Bw⟩:=cz3 Ad.out;obtain ⟨Bx,By,Bz⟩:=fz3 Ad.out)|((with_reducible refine gate_callee (f:=19) rfl ?_);refine goesL_ (some 19) rfl rfl Try.func19 (by kernel_rfl) rfl #[.slice A0_2 l0_2.length c0_2,.slice A1_2 l1_2.length c1_2] rfl am ?_;(with_reducible refine (laws_eqByteS.calls k _ _ l0_2 _ _ l1_2 false _ ?side1 ?side2 ?side3 ?side4 A5.out).mono ?_);(case side1=>repeat (first|exact (Kd.C_below Ai.out HB.out)|(with_reducible refine Kd.C_alloc ?_ _)|(with_reducible refine Kd.C_drewN ?_ _)|(with_reducible refine Kd.C_drew ?_)));(case side2=>exact Aj.out);(case side3=>repeat (first|exact (Kd.C_below Ak.out HB.out)|(with_reducible refine Kd.C_alloc ?_ _)|(with_reducible refine Kd.C_drewN ?_ _)|(with_reducible refine Kd.C_drew ?_)));(case side4=>exact Al.out);rintro e w' ⟨rfl,⟨nd,rfl⟩⟩;refine ⟨_,rfl,?_⟩))
 go_ret
 exact ⟨by first|rfl|(simp [errW_none,errW_some] <;> rfl)|(simp [*,errW_none,errW_some] <;> rfl),by exact yu1 HB.out⟩

end Go.Proofs.Yteknaofnageihaa.QFnExactSegPut
