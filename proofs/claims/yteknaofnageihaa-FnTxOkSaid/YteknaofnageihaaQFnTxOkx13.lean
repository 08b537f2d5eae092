-- Written by a program of this session, a turned copy of the print (not by print.sh itself). Lean checks it.
import Derived.Test.YteknaofnageihaaQFnTxOkx0
import Derived.Test.YteknaofnageihaaQFnTxOkx11
namespace Go.Proofs.Yteknaofnageihaa.QFnTxOk
open Go.RowKit Go.Proofs.YteknaofnageihaaW.PrintWords Go.Proofs.YteknaofnageihaaW.PrintLast Go.Proofs.YteknaofnageihaaW.PrintMore Go.Proofs.YteknaofnageihaaLoc
attribute [local go_sem] max2_int min2_int max_two min_two max_three min_three max_four min_four   -- for this text's walks alone
set_option linter.unusedVariables false
set_option linter.unusedSimpArgs false

/-! ### spec_CfgOk: function 81 -/
def spec_CfgOk.f (a0_0 : Int) (a0_1 : Int) (a0_2 : Int) (a0_3 : Int) (a0_4 : Int) : Option (Bool) := (spec_l1In.f a0_0 1 2).bind fun t277 => (if t277 = true then ((spec_l1In.f a0_1 1 4).bind fun t278 => (if t278 = true then ((spec_l1In.f a0_2 1 8).bind fun t279 => (if t279 = true then ((spec_l1In.f a0_3 1 24).bind fun t280 => (if t280 = true then ((spec_l1In.f a0_4 1 5).bind fun t281 => (some t281)) else (some false))) else (some false))) else (some false))) else (some false))
set_option maxHeartbeats 60000000 in
set_option maxRecDepth 100000 in
theorem spec_CfgOk.calls (a0_0 : Int) (a0_1 : Int) (a0_2 : Int) (a0_3 : Int) (a0_4 : Int) (r : Bool) (w : World) (h : spec_CfgOk.f a0_0 a0_1 a0_2 a0_3 a0_4 = some r) :
  Calls Try.prog 81 #[.agg #[.int .i64 a0_0,.int .i64 a0_1,.int .i64 a0_2,.int .i64 a0_3,.int .i64 a0_4]] w fun e w'=>e=.returned (.bool r)∧Below w.heap.size w w':=by
 have hu66:=Try.underlying66
 have HB:=mk_ (Below.refl w.heap.size w)
 have H:((spec_l1In.f a0_0 1 2).bind fun t277=>(if t277=true then ((spec_l1In.f a0_1 1 4).bind fun t278=>(if t278=true then ((spec_l1In.f a0_2 1 8).bind fun t279=>(if t279=true then ((spec_l1In.f a0_3 1 24).bind fun t280=>(if t280=true then ((spec_l1In.f a0_4 1 5).bind fun t281=>(some t281)) else (some false))) else (some false))) else (some false))) else (some false)))=some r:=h
 clear h
 replace H:=Option.bind_eq_some_iff.mp H
 obtain ⟨t277,Ae,H⟩:=H
 try dsimp only at H
 have A2:=mk_ Ae
 clear Ae
 by_cases c3:t277=true
 rotate_left
 ·replace c3:=Bool.eq_false_iff.mpr c3
  subst c3
  have H1:(some false)=some r:=by rw [if_neg (show ¬ (false=true) by decide)] at H;exact H
  clear H
  have H:=H1
  clear H1
  obtain rfl:=Option.some.inj H
  go_enter Try.func81,Try.ntmps81
  go_wp2_with (first|((with_reducible refine gate_dst (N:=1) rfl ?_);refine box_event ?hg (N:=1) ?hd (cs:=#[.int .i64 a0_0,.int .i64 a0_1,.int .i64 a0_2,.int .i64 a0_3,.int .i64 a0_4]) (t:=66) ?hr ?_;(case hd=>rfl);(case hg=>rfl);(case hr=>first|(go_simp;done)|(go_simp;rfl));intro gb276 hg A5 hbox hb;have Aa:=mk_ (hbox);have Ab:=mk_ ((by rw [hg];exact (zr2 (yu6 HB.out)):w.heap.size≤gb276));have Ad:=Ab;replace HB:=mk_ (zr3 (yu6 HB.out) hb);clear hb hbox hg;obtain ⟨Ai,Aj,Ak,Al,Am⟩:=cz5 Aa.out;obtain ⟨An,Ao,Ap,Aq,Ar⟩:=fz5 Aa.out)|((with_reducible refine gate_callee (f:=64) rfl ?_);refine goesL_ (some 5) rfl rfl Try.func64 (by kernel_rfl) rfl #[.int .i64 a0_0,.int .i64 1,.int .i64 2] rfl am ?_;(with_reducible refine (spec_l1In.calls a0_0 1 2 false _ A2.out).mono ?_);rintro e w' ⟨rfl,⟨nd,rfl⟩⟩;refine ⟨_,rfl,?_⟩))
  go_ret
  exact ⟨by first|rfl|(simp [errW_none,errW_some] <;> rfl)|(simp [*,errW_none,errW_some] <;> rfl),by exact yu7 HB.out⟩
 subst c3
 have H1:((spec_l1In.f a0_1 1 4).bind fun t278=>(if t278=true then ((spec_l1In.f a0_2 1 8).bind fun t279=>(if t279=true then ((spec_l1In.f a0_3 1 24).bind fun t280=>(if t280=true then ((spec_l1In.f a0_4 1 5).bind fun t281=>(some t281)) else (some false))) else (some false))) else (some false)))=some r:=by rw [if_pos rfl] at H;exact H
 clear H
 have H:=H1
 clear H1
 replace H:=Option.bind_eq_some_iff.mp H
 obtain ⟨t278,Af,H⟩:=H
 try dsimp only at H
 have A4:=mk_ Af
 clear Af
 have HH_:=mk_ H
 clear H
 go_enter Try.func81,Try.ntmps81
 go_wp2_with (first|((with_reducible refine gate_dst (N:=1) rfl ?_);refine box_event ?hg (N:=1) ?hd (cs:=#[.int .i64 a0_0,.int .i64 a0_1,.int .i64 a0_2,.int .i64 a0_3,.int .i64 a0_4]) (t:=66) ?hr ?_;(case hd=>rfl);(case hg=>rfl);(case hr=>first|(go_simp;done)|(go_simp;rfl));intro gb276 hg A7 hbox hb;have Aa:=mk_ (hbox);have Ab:=mk_ ((by rw [hg];exact (zr2 (yu6 HB.out)):w.heap.size≤gb276));have Ad:=Ab;replace HB:=mk_ (zr3 (yu6 HB.out) hb);clear hb hbox hg;obtain ⟨As,At,Au,Av,Aw⟩:=cz5 Aa.out;obtain ⟨Ax,Ay,Az,A0,A1⟩:=fz5 Aa.out)|((with_reducible refine gate_callee (f:=64) rfl ?_);refine goesL_ (some 5) rfl rfl Try.func64 (by kernel_rfl) rfl #[.int .i64 a0_0,.int .i64 1,.int .i64 2] rfl am ?_;(with_reducible refine (spec_l1In.calls a0_0 1 2 true _ A2.out).mono ?_);rintro e w' ⟨rfl,⟨nd,rfl⟩⟩;refine ⟨_,rfl,?_⟩))
 have H:=HH_.out
 clear HH_
 by_cases c5:t278=true
 rotate_left
 ·replace c5:=Bool.eq_false_iff.mpr c5
  subst c5
  have H1:(some false)=some r:=by rw [if_neg (show ¬ (false=true) by decide)] at H;exact H
  clear H
  have H:=H1
  clear H1
  obtain rfl:=Option.some.inj H
  go_wp2_with (first|(go_at_call 64;(with_reducible refine (spec_l1In.calls a0_1 1 4 false _ A4.out).mono ?_);rintro e w' ⟨rfl,⟨nd,rfl⟩⟩))
  go_ret
  exact ⟨by first|rfl|(simp [errW_none,errW_some] <;> rfl)|(simp [*,errW_none,errW_some] <;> rfl),by exact yu7 HB.out⟩
 subst c5
 have H1:((spec_l1In.f a0_2 1 8).bind fun t279=>(if t279=true then ((spec_l1In.f a0_3 1 24).bind fun t280=>(if t280=true then ((spec_l1In.f a0_4 1 5).bind fun t281=>(some t281)) else (some false))) else (some false)))=some r:=by rw [if_pos rfl] at H;exact H
 clear H
 have H:=H1
 clear H1
 replace H:=Option.bind_eq_some_iff.mp H
 obtain ⟨t279,Ag,H⟩:=H
 try dsimp only at H
 have A6:=mk_ Ag
 clear Ag
 have HH_:=mk_ H
 clear H
 go_wp2_with (first|(go_at_call 64;(with_reducible refine (spec_l1In.calls a0_1 1 4 true _ A4.out).mono ?_);rintro e w' ⟨rfl,⟨nd,rfl⟩⟩))
 have H:=HH_.out
 clear HH_
 by_cases c7:t279=true
 rotate_left
 ·replace c7:=Bool.eq_false_iff.mpr c7
  subst c7
  have H1:(some false)=some r:=by rw [if_neg (show ¬ (false=true) by decide)] at H;exact H
  clear H
  have H:=H1
  clear H1
  obtain rfl:=Option.some.inj H
  go_wp2_with (first|(go_at_call 64;(with_reducible refine (spec_l1In.calls a0_2 1 8 false _ A6.out).mono ?_);rintro e w' ⟨rfl,⟨nd,rfl⟩⟩))
  go_ret
  exact ⟨by first|rfl|(simp [errW_none,errW_some] <;> rfl)|(simp [*,errW_none,errW_some] <;> rfl),by exact yu7 HB.out⟩
 subst c7
 have H1:((spec_l1In.f a0_3 1 24).bind fun t280=>(if t280=true then ((spec_l1In.f a0_4 1 5).bind fun t281=>(some t281)) else (some false)))=some r:=by rw [if_pos rfl] at H;exact H
 clear H
 have H:=H1
 clear H1
 replace H:=Option.bind_eq_some_iff.mp H
 obtain ⟨t280,Ah,H⟩:=H
 try dsimp only at H
 have A8:=mk_ Ah
 clear Ah
 have HH_:=mk_ H
 clear H
 go_wp2_with (first|(go_at_call 64;(with_reducible refine (spec_l1In.calls a0_2 1 8 true _ A6.out).mono ?_);rintro e w' ⟨rfl,⟨nd,rfl⟩⟩))
 have H:=HH_.out
 clear HH_
 by_cases c9:t280=true
 rotate_left
 ·replace c9:=Bool.eq_false_iff.mpr c9
  subst c9
  have H1:(some false)=some r:=by rw [if_neg (show ¬ (false=true) by decide)] at H;exact H
  clear H
  have H:=H1
  clear H1
  obtain rfl:=Option.some.inj H
  go_wp2_with (first|(go_at_call 64;(with_reducible refine (spec_l1In.calls a0_3 1 24 false _ A8.out).mono ?_);rintro e w' ⟨rfl,⟨nd,rfl⟩⟩))
  go_ret
  exact ⟨by first|rfl|(simp [errW_none,errW_some] <;> rfl)|(simp [*,errW_none,errW_some] <;> rfl),by exact yu7 HB.out⟩
 subst c9
 have H1:((spec_l1In.f a0_4 1 5).bind fun t281=>(some t281))=some r:=by rw [if_pos rfl] at H;exact H
 clear H
 have H:=H1
 clear H1
 replace H:=Option.bind_eq_some_iff.mp H
 obtain ⟨t281,Ac,H⟩:=H
 try dsimp only at H
 have A3:=mk_ Ac
 clear Ac
 obtain rfl:=Option.some.inj H
 go_wp2_with (first|(go_at_call 64;(with_reducible refine (spec_l1In.calls a0_3 1 24 true _ A8.out).mono ?_);rintro e w' ⟨rfl,⟨nd,rfl⟩⟩)|(go_at_call 64;(with_reducible refine (spec_l1In.calls a0_4 1 5 t281 _ A3.out).mono ?_);rintro e w' ⟨rfl,⟨nd,rfl⟩⟩))
 go_ret
 exact ⟨by first|rfl|(simp [errW_none,errW_some] <;> rfl)|(simp [*,errW_none,errW_some] <;> rfl),by exact yu7 HB.out⟩

end Go.Proofs.Yteknaofnageihaa.QFnTxOk
