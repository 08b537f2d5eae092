-- Written by a program of this session, a turned copy of the print (not by print.sh itself). Lean checks it.
import Derived.Test.YteknaofnageihaaQFnTxLeftx0
namespace Go.Proofs.Yteknaofnageihaa.QFnTxLeft
open Go.RowKit Go.Proofs.YteknaofnageihaaW.PrintWords Go.Proofs.YteknaofnageihaaW.PrintLast Go.Proofs.YteknaofnageihaaW.PrintMore Go.Proofs.YteknaofnageihaaLoc
attribute [local go_sem] max2_int min2_int max_two min_two max_three min_three max_four min_four   -- for this text's walks alone
set_option linter.unusedVariables false
set_option linter.unusedSimpArgs false

/-! ### impl_TxLeft: function 62 -/
def impl_TxLeft.f (a0_0 : Int) (a0_1 : Int) (l0_2 : List (S39)) (a0_3 : Int) (l0_4 : List (S39)) (a0_5 : Bool) (a0_6 : Int) (a0_7 : Bool) (a0_8 : Int) (a0_9 : Bool) : Option (Int) := some (wrap64 ((l0_2.length : Int) + (l0_4.length : Int)))
set_option maxHeartbeats 60000000 in
set_option maxRecDepth 100000 in
theorem impl_TxLeft.calls (a0_0 : Int) (a0_1 : Int) (A0_2 : Option Addr) (c0_2 : Nat) (l0_2 : List (S39)) (a0_3 : Int) (A0_4 : Option Addr) (c0_4 : Nat) (l0_4 : List (S39)) (a0_5 : Bool) (a0_6 : Int) (a0_7 : Bool) (a0_8 : Int) (a0_9 : Bool) (r : Int) (w : World) (hr0_2 : Kd.C k39 w A0_2 l0_2.length l0_2) (hc0_2 : l0_2.length ≤ c0_2) (hr0_4 : Kd.C k39 w A0_4 l0_4.length l0_4) (hc0_4 : l0_4.length ≤ c0_4) (h : impl_TxLeft.f a0_0 a0_1 l0_2 a0_3 l0_4 a0_5 a0_6 a0_7 a0_8 a0_9 = some r) :
  Calls Try.prog 62 #[.agg #[.int .i64 a0_0,.int .i64 a0_1,.slice A0_2 l0_2.length c0_2,.int .i64 a0_3,.slice A0_4 l0_4.length c0_4,.bool a0_5,.int .i64 a0_6,.bool a0_7,.int .i64 a0_8,.bool a0_9]] w fun e w'=>e=.returned (.int .i64 r)∧Below w.heap.size w w':=by
 have hu69:=Try.underlying69
 have Aw:=mk_ hr0_2
 have Ax:=mk_ hc0_2
 clear hr0_2 hc0_2
 have Ay:=mk_ hr0_4
 have Az:=mk_ hc0_4
 clear hr0_4 hc0_4
 have HB:=mk_ (Below.refl w.heap.size w)
 have H:(some (wrap64 ((l0_2.length:Int)+(l0_4.length:Int))))=some r:=h
 clear h
 obtain rfl:=Option.some.inj H
 go_enter Try.func62,Try.ntmps62
 go_wp2_with (first|((with_reducible refine gate_dst (N:=1) rfl ?_);refine box_event ?hg (N:=1) ?hd (cs:=#[.int .i64 a0_0,.int .i64 a0_1,.slice A0_2 l0_2.length c0_2,.int .i64 a0_3,.slice A0_4 l0_4.length c0_4,.bool a0_5,.int .i64 a0_6,.bool a0_7,.int .i64 a0_8,.bool a0_9]) (t:=69) ?hr ?_;(case hd=>rfl);(case hg=>rfl);(case hr=>first|(go_simp;done)|(go_simp;rfl));intro gb667 hg w2 hbox hb;have Aa:=mk_ (hbox);have Ab:=mk_ ((by rw [hg];exact (zr2 (yu6 HB.out)):w.heap.size≤gb667));have A0:=Ab;replace HB:=mk_ (zr3 (yu6 HB.out) hb);clear hb hbox hg;obtain ⟨Ac,Ad,Ae,Af,Ag,Ah,Ai,Aj,Ak,Al⟩:=cz10 Aa.out;obtain ⟨Am,An,Ao,Ap,Aq,Ar,As,At,Au,Av⟩:=fz10 Aa.out))
 go_ret
 exact ⟨by first|rfl|(simp [errW_none,errW_some] <;> rfl)|(simp [*,errW_none,errW_some] <;> rfl),by exact yu7 HB.out⟩

end Go.Proofs.Yteknaofnageihaa.QFnTxLeft
