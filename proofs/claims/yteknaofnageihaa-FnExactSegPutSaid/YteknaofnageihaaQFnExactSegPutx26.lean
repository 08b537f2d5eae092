-- Written by a program of this session, a turned copy of the print (not by print.sh itself). Lean checks it.
import Derived.Test.YteknaofnageihaaQFnExactSegPutx0
import Derived.Test.YteknaofnageihaaQFnExactSegPutx2
namespace Go.Proofs.Yteknaofnageihaa.QFnExactSegPut
open Go.RowKit Go.Proofs.YteknaofnageihaaW.PrintWords Go.Proofs.YteknaofnageihaaW.PrintLast Go.Proofs.YteknaofnageihaaW.PrintMore Go.Proofs.YteknaofnageihaaLoc
attribute [local go_sem] max2_int min2_int max_two min_two max_three min_three max_four min_four   -- for this text's walks alone
set_option linter.unusedVariables false
set_option linter.unusedSimpArgs false

/-! ### laws_markSegPart: function 40 -/
def laws_markSegPart.f (k : Nat) (a0_0 : Int) (a0_1 : Int) (l0_2 : List Int) (a1 : Int) : Option (Int × List Int) := (laws_markByteS.f k l0_2 a1).bind fun bt250 => (some (bt250.1, bt250.2))
theorem laws_markSegPart.mono : ∀ a0 a1 a2 a3 k, LeO (laws_markSegPart.f k a0 a1 a2 a3) (laws_markSegPart.f (k + 1) a0 a1 a2 a3) := by
 intro a0 a1 a2 a3 k
 unfold laws_markSegPart.f
 repeat' first
     | (with_reducible exact laws_markByteS.mono _ _ _)
     | (with_reducible exact LeO.refl _)
     | (with_reducible exact LeO.none _)
     | (with_reducible refine LeO.ite ?_ ?_)
     | (with_reducible refine LeO.bind ?_ (fun _ => ?_))
     | exact laws_markByteS.mono _ _ _
     | exact LeO.none _
     | refine LeO.ite ?_ ?_
     | refine LeO.bind ?_ (fun _ => ?_)
set_option maxHeartbeats 60000000 in
set_option maxRecDepth 100000 in
theorem laws_markSegPart.calls (k : Nat) (a0_0 : Int) (a0_1 : Int) (P0_2_ : Nat → Prop) (u9000_ : Value) (l0_2 : List Int) (a1 : Int) (r1 : Int) (r2 : List Int) (w0 w : World) (hB : Below w0.heap.size w0 w) (ho0_2 : RR (Kd.int .u8) 5 w w0.heap.size P0_2_ u9000_ l0_2) (h : laws_markSegPart.f k a0_0 a0_1 l0_2 a1 = some (r1, r2)) :
  Calls Try.prog 40 #[.agg #[.int .i64 a0_0,.int .i64 a0_1,u9000_],.int .i64 a1] w fun e w'=>e=.returned (.int .i64 r1)∧RR ku 5 w' w0.heap.size (fun k_=>(P0_2_ k_∨w.heap.size≤k_)) u9000_ r2∧Below w0.heap.size w0 w'∧Kept w w' (fun k_=>P0_2_ k_):=by
 have hu39:=Try.underlying39
 have Aa:=mk_ (show RR ku 5 w w0.heap.size (fun k_=>(P0_2_ k_∨w.heap.size≤k_)) u9000_ l0_2 from RR_mono ho0_2 (fun k_ hk=>(.inl hk)))
 have HK:=mk_ (Kept.refl w (fun k_=>P0_2_ k_))
 have HW0:=mk_ hB.size
 have HB:=mk_ hB
 clear hB
 have H:((laws_markByteS.f k l0_2 a1).bind fun bt250=>(some (bt250.1,bt250.2)))=some (r1,r2):=h
 clear h
 replace H:=Option.bind_eq_some_iff.mp H
 obtain ⟨⟨t250,t251⟩,Ad,H⟩:=H
 try dsimp only at H
 have A3:=mk_ Ad
 clear Ad
 simp only [Option.some.injEq,Prod.mk.injEq] at H
 obtain ⟨rfl,rfl⟩:=H
 obtain ⟨Ao4,co4,eo4⟩:=RR_slice Aa.out
 subst eo4
 go_enter Try.func40,Try.ntmps40
 go_wp2_with (first|((with_reducible refine gate_dst (N:=2) rfl ?_);refine box_event ?hg (N:=2) ?hd (cs:=#[.int .i64 a0_0,.int .i64 a0_1,.slice Ao4 l0_2.length co4]) (t:=39) ?hr ?_;(case hd=>rfl);(case hg=>rfl);(case hr=>first|(go_simp;done)|(go_simp;rfl));intro gb249 hg w5 hbox hb;replace Aa:=mk_ (RR_below (mRR Aa.out) hb);have Ab:=mk_ (hbox);have Ac:=mk_ ((by rw [hg];exact (by first|exact HK.out.1|exact (show Kept w _ (fun k_=>P0_2_ k_) from by exact yu2 HK.out).1):w.heap.size≤gb249));replace HK:=mk_ (Kept.below (S:=(fun k_=>P0_2_ k_)) (yu2 HK.out) hb);have Ak:=mk_ ((by rw [hg];exact (zr2 (yu0 HB.out)):w0.heap.size≤gb249));replace HB:=mk_ (zr3 (yu0 HB.out) hb);clear hb hbox hg;obtain ⟨Ae,Af,Ag⟩:=cz3 Ab.out;obtain ⟨Ah,Ai,Aj⟩:=fz3 Ab.out)|((with_reducible refine gate_callee (f:=20) rfl ?_);refine goesL_ (some 8) rfl rfl Try.func20 (by kernel_rfl) rfl #[.slice Ao4 l0_2.length co4,.int .i64 a1] rfl am ?_;(with_reducible refine (laws_markByteS.calls k (fun k_=>some k_=(.slice Ao4 l0_2.length co4:Value).ownBlock) (.slice Ao4 l0_2.length co4) l0_2 a1 t250 t251 w0 _ ?side1 ?side2 A3.out).mono ?_);(case side1=>exact yu1 HB.out);(case side2=>exact RR_tight rfl Aa.out);rintro e w7 ⟨rfl,hy0,hb,hkp⟩;refine ⟨_,rfl,?_⟩;replace Ab:=mk_ (bk Ab.out hkp (fun e_=>RR_ne Aa.out Ab.out (by decide) e_));replace HK:=mk_ (Kept.then_ (S:=(fun k_=>P0_2_ k_)) (by repeat (first|(with_reducible first|exact HK.out|apply Kept.alloc|apply Kept.drewN|apply Kept.drew|refine Kept.setCell ?_ (.inr Ac.out) _)|exact HK.out)) hkp (fun k_ hs_=>(fun e_=>(RR_ok Aa.out k_ e_.symm)) hs_));replace Aa:=mk_ (RR_reok rfl hy0 (fun k_ e_=>RR_ok Aa.out k_ e_));replace HB:=mk_ (hb);(try clear hb);(try clear hkp);(try clear hy0)))
 go_ret
 exact ⟨by first|rfl|(simp [errW_none,errW_some] <;> rfl)|(simp [*,errW_none,errW_some] <;> rfl),by (with_reducible repeat (first|apply RR_alloc|apply RR_drewN|apply RR_drew));exact Aa.out,by exact yu1 HB.out,by repeat (first|(with_reducible first|exact HK.out|apply Kept.alloc|apply Kept.drewN|apply Kept.drew|refine Kept.setCell ?_ (.inr Ac.out) _)|exact HK.out)⟩

end Go.Proofs.Yteknaofnageihaa.QFnExactSegPut
