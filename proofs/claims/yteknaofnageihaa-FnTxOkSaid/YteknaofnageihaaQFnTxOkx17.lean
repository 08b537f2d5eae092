-- Written by a program of this session, a turned copy of the print (not by print.sh itself). Lean checks it.
import Derived.Test.YteknaofnageihaaQFnTxOkx0
import Derived.Test.YteknaofnageihaaQFnTxOkx16
namespace Go.Proofs.Yteknaofnageihaa.QFnTxOk
open Go.RowKit Go.Proofs.YteknaofnageihaaW.PrintWords Go.Proofs.YteknaofnageihaaW.PrintLast Go.Proofs.YteknaofnageihaaW.PrintMore Go.Proofs.YteknaofnageihaaLoc
attribute [local go_sem] max2_int min2_int max_two min_two max_three min_three max_four min_four   -- for this text's walks alone
set_option linter.unusedVariables false
set_option linter.unusedSimpArgs false

/-! ### spec_PartOk: function 45 -/
def spec_PartOk.f (k : Nat) (a0_0 : Int) (a0_1 : Int) (l0_2 : List Int) : Option (Bool) := (spec_l2Seg.f k 0 0 0 false false 0 a0_0 a0_1 l0_2).bind fun t288 => (some t288)
theorem spec_PartOk.mono : ∀ a0 a1 a2 k, LeO (spec_PartOk.f k a0 a1 a2) (spec_PartOk.f (k + 1) a0 a1 a2) := by
 intro a0 a1 a2 k
 unfold spec_PartOk.f
 repeat' first
     | (with_reducible exact spec_l2Seg.mono _ _ _ _ _ _ _ _ _ _)
     | (with_reducible exact LeO.refl _)
     | (with_reducible exact LeO.none _)
     | (with_reducible refine LeO.ite ?_ ?_)
     | (with_reducible refine LeO.bind ?_ (fun _ => ?_))
     | exact spec_l2Seg.mono _ _ _ _ _ _ _ _ _ _
     | exact LeO.none _
     | refine LeO.ite ?_ ?_
     | refine LeO.bind ?_ (fun _ => ?_)
set_option maxHeartbeats 60000000 in
set_option maxRecDepth 100000 in
theorem spec_PartOk.calls (k : Nat) (a0_0 : Int) (a0_1 : Int) (A0_2 : Option Addr) (c0_2 : Nat) (l0_2 : List Int) (r : Bool) (w : World) (hr0_2 : Kd.C (Kd.int .u8) w A0_2 l0_2.length l0_2) (hc0_2 : l0_2.length ≤ c0_2) (h : spec_PartOk.f k a0_0 a0_1 l0_2 = some r) :
  Calls Try.prog 45 #[.agg #[.int .i64 a0_0,.int .i64 a0_1,.slice A0_2 l0_2.length c0_2]] w fun e w'=>e=.returned (.bool r)∧Below w.heap.size w w':=by
 have hu39:=Try.underlying39
 have hu102:=Try.underlying102
 have Ab:=mk_ hr0_2
 have Ac:=mk_ hc0_2
 clear hr0_2 hc0_2
 have HB:=mk_ (Below.refl w.heap.size w)
 have H:((spec_l2Seg.f k 0 0 0 false false 0 a0_0 a0_1 l0_2).bind fun t288=>(some t288))=some r:=h
 clear h
 replace H:=Option.bind_eq_some_iff.mp H
 obtain ⟨t288,Ae,H⟩:=H
 try dsimp only at H
 have A2:=mk_ Ae
 clear Ae
 obtain rfl:=Option.some.inj H
 go_enter Try.func45,Try.ntmps45
 go_wp2_with (first|((with_reducible refine gate_dst (N:=1) rfl ?_);refine box_event ?hg (N:=1) ?hd (cs:=#[.int .i64 a0_0,.int .i64 a0_1,.slice A0_2 l0_2.length c0_2]) (t:=39) ?hr ?_;(case hd=>rfl);(case hg=>rfl);(case hr=>first|(go_simp;done)|(go_simp;rfl));intro gb287 hg w3 hbox hb;have Aa:=mk_ (hbox);have Ad:=mk_ ((by rw [hg];exact (zr2 (yu6 HB.out)):w.heap.size≤gb287));have Al:=Ad;replace HB:=mk_ (zr3 (yu6 HB.out) hb);clear hb hbox hg;obtain ⟨Af,Ag,Ah⟩:=cz3 Aa.out;obtain ⟨Ai,Aj,Ak⟩:=fz3 Aa.out)|((with_reducible refine gate_callee (f:=79) rfl ?_);refine goesL_ (some 10) rfl rfl Try.func79 (by kernel_rfl) rfl #[.agg #[.int .i64 0,.int .i64 0,.int .i64 0,.bool false,.bool false,.int .i64 0,.int .i64 a0_0,.int .i64 a0_1,.slice A0_2 l0_2.length c0_2]] rfl am ?_;(with_reducible refine (spec_l2Seg.calls k 0 0 0 false false 0 a0_0 a0_1 _ _ l0_2 t288 _ ?side1 ?side2 A2.out).mono ?_);(case side1=>repeat (first|exact (Kd.C_below Ab.out HB.out)|(with_reducible refine Kd.C_alloc ?_ _)|(with_reducible refine Kd.C_drewN ?_ _)|(with_reducible refine Kd.C_drew ?_)));(case side2=>exact Ac.out);rintro e w5 ⟨rfl,hb⟩;refine ⟨_,rfl,?_⟩;replace Aa:=mk_ (zq6 (by exact Aa.out) hb);replace HB:=mk_ (zr3 (yu7 HB.out) hb);(try clear hb);(try clear hb2);(try clear hk);(try clear hi)))
 go_ret
 exact ⟨by first|rfl|(simp [errW_none,errW_some] <;> rfl)|(simp [*,errW_none,errW_some] <;> rfl),by exact yu7 HB.out⟩

end Go.Proofs.Yteknaofnageihaa.QFnTxOk
