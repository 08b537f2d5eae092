-- Written by a program of this session, a turned copy of the print (not by print.sh itself). Lean checks it.
import Derived.Test.YteknaofnageihaaQFnTxOkx0
import Derived.Test.YteknaofnageihaaQFnTxOkx4
import Derived.Test.YteknaofnageihaaQFnTxOkx5
namespace Go.Proofs.Yteknaofnageihaa.QFnTxOk
open Go.RowKit Go.Proofs.YteknaofnageihaaW.PrintWords Go.Proofs.YteknaofnageihaaW.PrintLast Go.Proofs.YteknaofnageihaaW.PrintMore Go.Proofs.YteknaofnageihaaLoc
attribute [local go_sem] max2_int min2_int max_two min_two max_three min_three max_four min_four   -- for this text's walks alone
set_option linter.unusedVariables false
set_option linter.unusedSimpArgs false

/-! ### spec_l20Rd_odd: function 98 -/
def spec_l20Rd_odd.f (k : Nat) (s0_0 : List Int) (s0_1 : Int) (a1 : Int) : Option (Bool × Int) := if a1 > 0 then ((spec_l20Rd_pick.f k s0_0 s0_1 a1).bind fun bt114 => (some ((bt114.1 == (wrap64 (a1 - 1))), bt114.2))) else (some (false, s0_1))
theorem spec_l20Rd_odd.mono : ∀ a0 a1 a2 k, LeO (spec_l20Rd_odd.f k a0 a1 a2) (spec_l20Rd_odd.f (k + 1) a0 a1 a2) := by
 intro a0 a1 a2 k
 unfold spec_l20Rd_odd.f
 repeat' first
     | (with_reducible exact spec_l20Rd_pick.mono _ _ _ _)
     | (with_reducible exact LeO.refl _)
     | (with_reducible exact LeO.none _)
     | (with_reducible refine LeO.ite ?_ ?_)
     | (with_reducible refine LeO.bind ?_ (fun _ => ?_))
     | exact spec_l20Rd_pick.mono _ _ _ _
     | exact LeO.none _
     | refine LeO.ite ?_ ?_
     | refine LeO.bind ?_ (fun _ => ?_)
set_option maxHeartbeats 60000000 in
set_option maxRecDepth 100000 in
theorem spec_l20Rd_odd.calls (k : Nat) (g : Nat) (s0_0 : List Int) (s0_1 : Int) (a1 : Int) (r1 : Bool) (r2 : Int) (w0 w : World) (hI : IsS113 w0 w g s0_0 s0_1) (hB : Below w0.heap.size w0 w) (h : spec_l20Rd_odd.f k s0_0 s0_1 a1 = some (r1, r2)) :
  Calls Try.prog 98 #[.pointer (some ⟨g,0,none⟩),.int .i64 a1] w fun e w'=>e=.returned (.bool r1)∧IsS113 w0 w' g s0_0 r2∧Below w0.heap.size w0 w'∧KeepBut w w' g none:=by
 have HI0:=mk_ hI
 have HK:=mk_ (KeepBut.refl w g none)
 have HL:=mk_ hB.size
 clear hI
 have HW0:=mk_ hB.size
 have HB:=mk_ hB
 clear hB
 have H:(if a1 > 0 then ((spec_l20Rd_pick.f k s0_0 s0_1 a1).bind fun bt114=>(some ((bt114.1 == (wrap64 (a1 - 1))),bt114.2))) else (some (false,s0_1)))=some (r1,r2):=h
 clear h
 by_cases c3:a1 > 0
 rotate_left
 ·rw [if_neg c3] at H
  have c3b0:decide (0<a1)=false:=decide_eq_false c3
  clear c3
  simp only [Option.some.injEq,Prod.mk.injEq] at H
  obtain ⟨rfl,rfl⟩:=H
  go_enter Try.func98,Try.ntmps98
  go_wp2
  go_ret
  exact ⟨by first|rfl|(simp [errW_none,errW_some] <;> rfl)|(simp [*,errW_none,errW_some] <;> rfl),by exact yu2 HI0.out,by exact yu0 HB.out HI0.out,by exact yu1 HK.out⟩
 rw [if_pos c3] at H
 have c3b0:decide (0<a1)=true:=decide_eq_true c3
 clear c3
 replace H:=Option.bind_eq_some_iff.mp H
 obtain ⟨⟨t114,t115⟩,Aa,H⟩:=H
 try dsimp only at H
 have A4:=mk_ Aa
 clear Aa
 simp only [Option.some.injEq,Prod.mk.injEq] at H
 obtain ⟨rfl,rfl⟩:=H
 go_enter Try.func98,Try.ntmps98
 go_wp2_with (first|(go_at_call 70;(with_reducible refine (spec_l20Rd_pick.calls k g s0_0 s0_1 a1 t114 t115 w0 _ ?side1 ?side2 A4.out).mono ?_);(case side1=>exact yu2 HI0.out);(case side2=>exact yu0 HB.out HI0.out);rintro e w5 ⟨rfl,hi,hb,hk⟩;replace HK:=mk_ (KeepBut.trans (yu1 HK.out) hk (.inl rfl));replace HB:=mk_ (hb);replace HI0:=mk_ (hi);(try clear hb);(try clear hb2);(try clear hk);(try clear hi)))
 go_ret
 exact ⟨by first|rfl|(simp [errW_none,errW_some] <;> rfl)|(simp [*,errW_none,errW_some] <;> rfl),by exact yu2 HI0.out,by exact yu0 HB.out HI0.out,by exact yu1 HK.out⟩

end Go.Proofs.Yteknaofnageihaa.QFnTxOk
