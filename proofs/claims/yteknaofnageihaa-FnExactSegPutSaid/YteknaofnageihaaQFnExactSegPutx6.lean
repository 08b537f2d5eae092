-- Written by a program of this session, a turned copy of the print (not by print.sh itself). Lean checks it.
import Derived.Test.YteknaofnageihaaQFnExactSegPutx0
import Derived.Test.YteknaofnageihaaQFnExactSegPutx3
namespace Go.Proofs.Yteknaofnageihaa.QFnExactSegPut
open Go.RowKit Go.Proofs.YteknaofnageihaaW.PrintWords Go.Proofs.YteknaofnageihaaW.PrintLast Go.Proofs.YteknaofnageihaaW.PrintMore Go.Proofs.YteknaofnageihaaLoc
attribute [local go_sem] max2_int min2_int max_two min_two max_three min_three max_four min_four   -- for this text's walks alone
set_option linter.unusedVariables false
set_option linter.unusedSimpArgs false

/-! ### impl_JoinOk: function 46 -/
def impl_JoinOk.f (a0_0 : Int) (l0_1 : List Int) : Option (Bool) := if a0_0 = 0 then (if (l0_1.length : Int) = 0 then (some true) else ((impl_in.f a0_0 2 24).bind fun t111 => (if t111 = true then ((impl_in.f (l0_1.length : Int) 1 (wrap64 (a0_0 - 1))).bind fun t112 => (some t112)) else (some false)))) else ((impl_in.f a0_0 2 24).bind fun t113 => (if t113 = true then ((impl_in.f (l0_1.length : Int) 1 (wrap64 (a0_0 - 1))).bind fun t114 => (some t114)) else (some false)))
set_option maxHeartbeats 60000000 in
set_option maxRecDepth 100000 in
theorem impl_JoinOk.calls (a0_0 : Int) (A0_1 : Option Addr) (c0_1 : Nat) (l0_1 : List Int) (r : Bool) (w : World) (hr0_1 : Kd.C (Kd.int .u8) w A0_1 l0_1.length l0_1) (hc0_1 : l0_1.length ≤ c0_1) (h : impl_JoinOk.f a0_0 l0_1 = some r) :
  Calls Try.prog 46 #[.agg #[.int .i64 a0_0,.slice A0_1 l0_1.length c0_1]] w fun e w'=>e=.returned (.bool r)∧Below w.heap.size w w':=by
 have hu35:=Try.underlying35
 have A3:=mk_ hr0_1
 have A4:=mk_ hc0_1
 clear hr0_1 hc0_1
 have HB:=mk_ (Below.refl w.heap.size w)
 have H:(if a0_0=0 then (if (l0_1.length:Int)=0 then (some true) else ((impl_in.f a0_0 2 24).bind fun t111=>(if t111=true then ((impl_in.f (l0_1.length:Int) 1 (wrap64 (a0_0 - 1))).bind fun t112=>(some t112)) else (some false)))) else ((impl_in.f a0_0 2 24).bind fun t113=>(if t113=true then ((impl_in.f (l0_1.length:Int) 1 (wrap64 (a0_0 - 1))).bind fun t114=>(some t114)) else (some false))))=some r:=h
 clear h
 by_cases c2:a0_0=0
 rotate_left
 ·rw [if_neg c2] at H
  have c2b0:(a0_0 == 0)=false:=beq_eq_false_iff_ne.mpr c2
  have c2b1:(a0_0 != 0)=true:=bne_iff_ne.mpr c2
  replace H:=Option.bind_eq_some_iff.mp H
  obtain ⟨t113,Ad,H⟩:=H
  try dsimp only at H
  have Af:=mk_ Ad
  clear Ad
  by_cases c14:t113=true
  rotate_left
  ·replace c14:=Bool.eq_false_iff.mpr c14
   subst c14
   have H1:(some false)=some r:=by rw [if_neg (show ¬ (false=true) by decide)] at H;exact H
   clear H
   have H:=H1
   clear H1
   obtain rfl:=Option.some.inj H
   go_enter Try.func46,Try.ntmps46
   go_wp2_with (first|(go_at_call 65;(with_reducible refine (impl_in.calls a0_0 2 24 false _ Af.out).mono ?_);rintro e w' ⟨rfl,⟨nd,rfl⟩⟩)|((with_reducible refine gate_dst (N:=1) rfl ?_);(try (refine gate_guard (by rfl) ?_;dsimp only));refine box_event ?hg (N:=1) ?hd (cs:=#[.int .i64 a0_0,.slice A0_1 l0_1.length c0_1]) (t:=35) ?hr ?_;(case hd=>rfl);(case hg=>rfl);(case hr=>first|(go_simp;done)|(go_simp;rfl));intro gb110 hg A5 hbox hb;have Aa:=mk_ (hbox);have Ab:=mk_ ((by rw [hg];exact (zr2 (yu0 HB.out)):w.heap.size≤gb110));have Ac:=Ab;replace HB:=mk_ (zr3 (yu0 HB.out) hb);clear hb hbox hg;obtain ⟨Ai,Aj⟩:=cz2 Aa.out;obtain ⟨Ak,Al⟩:=fz2 Aa.out))
   go_ret
   exact ⟨by first|rfl|(simp [errW_none,errW_some] <;> rfl)|(simp [*,errW_none,errW_some] <;> rfl),by exact yu1 HB.out⟩
  subst c14
  have H1:((impl_in.f (l0_1.length:Int) 1 (wrap64 (a0_0 - 1))).bind fun t114=>(some t114))=some r:=by rw [if_pos rfl] at H;exact H
  clear H
  have H:=H1
  clear H1
  replace H:=Option.bind_eq_some_iff.mp H
  obtain ⟨t114,Ae,H⟩:=H
  try dsimp only at H
  have Ay:=mk_ Ae
  clear Ae
  obtain rfl:=Option.some.inj H
  go_enter Try.func46,Try.ntmps46
  go_wp2_with (first|(go_at_call 65;(with_reducible refine (impl_in.calls a0_0 2 24 true _ Af.out).mono ?_);rintro e w' ⟨rfl,⟨nd,rfl⟩⟩)|((with_reducible refine gate_dst (N:=1) rfl ?_);(try (refine gate_guard (by rfl) ?_;dsimp only));refine box_event ?hg (N:=1) ?hd (cs:=#[.int .i64 a0_0,.slice A0_1 l0_1.length c0_1]) (t:=35) ?hr ?_;(case hd=>rfl);(case hg=>rfl);(case hr=>first|(go_simp;done)|(go_simp;rfl));intro gb110 hg A7 hbox hb;have Aa:=mk_ (hbox);have Ab:=mk_ ((by rw [hg];exact (zr2 (yu0 HB.out)):w.heap.size≤gb110));have Ac:=Ab;replace HB:=mk_ (zr3 (yu0 HB.out) hb);clear hb hbox hg;obtain ⟨Am,An⟩:=cz2 Aa.out;obtain ⟨Ao,Ap⟩:=fz2 Aa.out)|(go_at_call 65;(with_reducible refine (impl_in.calls (l0_1.length:Int) 1 (wrap64 (a0_0 - 1)) t114 _ Ay.out).mono ?_);rintro e w' ⟨rfl,⟨nd,rfl⟩⟩))
  go_ret
  exact ⟨by first|rfl|(simp [errW_none,errW_some] <;> rfl)|(simp [*,errW_none,errW_some] <;> rfl),by exact yu1 HB.out⟩
 rw [if_pos c2] at H
 have c2b0:(a0_0 == 0)=true:=beq_iff_eq.mpr c2
 have c2b1:(a0_0 != 0)=false:=bne_eq_false_iff_eq.mpr c2
 clear c2
 by_cases c3:(l0_1.length:Int)=0
 ·rw [if_pos c3] at H
  have c3b0:((l0_1.length:Int) == 0)=true:=beq_iff_eq.mpr c3
  have c3b1:((l0_1.length:Int) != 0)=false:=bne_eq_false_iff_eq.mpr c3
  clear c3
  obtain rfl:=Option.some.inj H
  go_enter Try.func46,Try.ntmps46
  go_wp2_with (first|((with_reducible refine gate_dst (N:=1) rfl ?_);(try (refine gate_guard (by rfl) ?_;dsimp only));refine box_event ?hg (N:=1) ?hd (cs:=#[.int .i64 a0_0,.slice A0_1 l0_1.length c0_1]) (t:=35) ?hr ?_;(case hd=>rfl);(case hg=>rfl);(case hr=>first|(go_simp;done)|(go_simp;rfl));intro gb110 hg w4 hbox hb;have Aa:=mk_ (hbox);have Ab:=mk_ ((by rw [hg];exact (zr2 (yu0 HB.out)):w.heap.size≤gb110));have Ac:=Ab;replace HB:=mk_ (zr3 (yu0 HB.out) hb);clear hb hbox hg;obtain ⟨Az,A0⟩:=cz2 Aa.out;obtain ⟨A1,A2⟩:=fz2 Aa.out))
  go_ret
  exact ⟨by first|rfl|(simp [errW_none,errW_some] <;> rfl)|(simp [*,errW_none,errW_some] <;> rfl),by exact yu1 HB.out⟩
 rw [if_neg c3] at H
 have c3b0:((l0_1.length:Int) == 0)=false:=beq_eq_false_iff_ne.mpr c3
 have c3b1:((l0_1.length:Int) != 0)=true:=bne_iff_ne.mpr c3
 have c3b2:¬ (l0_1=[]):=fun h_=>c3 (by rw [h_];rfl)
 replace H:=Option.bind_eq_some_iff.mp H
 obtain ⟨t111,Ag,H⟩:=H
 try dsimp only at H
 have A6:=mk_ Ag
 clear Ag
 by_cases c7:t111=true
 rotate_left
 ·replace c7:=Bool.eq_false_iff.mpr c7
  subst c7
  have H1:(some false)=some r:=by rw [if_neg (show ¬ (false=true) by decide)] at H;exact H
  clear H
  have H:=H1
  clear H1
  obtain rfl:=Option.some.inj H
  go_enter Try.func46,Try.ntmps46
  go_wp2_with (first|(go_at_call 65;(with_reducible refine (impl_in.calls a0_0 2 24 false _ A6.out).mono ?_);rintro e w' ⟨rfl,⟨nd,rfl⟩⟩)|((with_reducible refine gate_dst (N:=1) rfl ?_);(try (refine gate_guard (by rfl) ?_;dsimp only));refine box_event ?hg (N:=1) ?hd (cs:=#[.int .i64 a0_0,.slice A0_1 l0_1.length c0_1]) (t:=35) ?hr ?_;(case hd=>rfl);(case hg=>rfl);(case hr=>first|(go_simp;done)|(go_simp;rfl));intro gb110 hg A9 hbox hb;have Aa:=mk_ (hbox);have Ab:=mk_ ((by rw [hg];exact (zr2 (yu0 HB.out)):w.heap.size≤gb110));have Ac:=Ab;replace HB:=mk_ (zr3 (yu0 HB.out) hb);clear hb hbox hg;obtain ⟨Aq,Ar⟩:=cz2 Aa.out;obtain ⟨As,At⟩:=fz2 Aa.out))
  go_ret
  exact ⟨by first|rfl|(simp [errW_none,errW_some] <;> rfl)|(simp [*,errW_none,errW_some] <;> rfl),by exact yu1 HB.out⟩
 subst c7
 have H1:((impl_in.f (l0_1.length:Int) 1 (wrap64 (a0_0 - 1))).bind fun t112=>(some t112))=some r:=by rw [if_pos rfl] at H;exact H
 clear H
 have H:=H1
 clear H1
 replace H:=Option.bind_eq_some_iff.mp H
 obtain ⟨t112,Ah,H⟩:=H
 try dsimp only at H
 have A8:=mk_ Ah
 clear Ah
 obtain rfl:=Option.some.inj H
 go_enter Try.func46,Try.ntmps46
 go_wp2_with (first|(go_at_call 65;(with_reducible refine (impl_in.calls a0_0 2 24 true _ A6.out).mono ?_);rintro e w' ⟨rfl,⟨nd,rfl⟩⟩)|((with_reducible refine gate_dst (N:=1) rfl ?_);(try (refine gate_guard (by rfl) ?_;dsimp only));refine box_event ?hg (N:=1) ?hd (cs:=#[.int .i64 a0_0,.slice A0_1 l0_1.length c0_1]) (t:=35) ?hr ?_;(case hd=>rfl);(case hg=>rfl);(case hr=>first|(go_simp;done)|(go_simp;rfl));intro gb110 hg w9 hbox hb;have Aa:=mk_ (hbox);have Ab:=mk_ ((by rw [hg];exact (zr2 (yu0 HB.out)):w.heap.size≤gb110));have Ac:=Ab;replace HB:=mk_ (zr3 (yu0 HB.out) hb);clear hb hbox hg;obtain ⟨Au,Av⟩:=cz2 Aa.out;obtain ⟨Aw,Ax⟩:=fz2 Aa.out)|(go_at_call 65;(with_reducible refine (impl_in.calls (l0_1.length:Int) 1 (wrap64 (a0_0 - 1)) t112 _ A8.out).mono ?_);rintro e w' ⟨rfl,⟨nd,rfl⟩⟩))
 go_ret
 exact ⟨by first|rfl|(simp [errW_none,errW_some] <;> rfl)|(simp [*,errW_none,errW_some] <;> rfl),by exact yu1 HB.out⟩

end Go.Proofs.Yteknaofnageihaa.QFnExactSegPut
