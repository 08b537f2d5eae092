-- Written by a program of this session, a turned copy of the print (not by print.sh itself). Lean checks it.
import Derived.Test.YteknaofnageihaaQFnExactSegPutx0
namespace Go.Proofs.Yteknaofnageihaa.QFnExactSegPut
open Go.RowKit Go.Proofs.YteknaofnageihaaW.PrintWords Go.Proofs.YteknaofnageihaaW.PrintLast Go.Proofs.YteknaofnageihaaW.PrintMore Go.Proofs.YteknaofnageihaaLoc
attribute [local go_sem] max2_int min2_int max_two min_two max_three min_three max_four min_four   -- for this text's walks alone
set_option linter.unusedVariables false
set_option linter.unusedSimpArgs false

/-! ### spec_l4Bad: function 97 -/
def spec_l4Bad.f  : Option (Int × List Int × List Int × Int) := some (0, ([] : List Int), (([] : List Int)), 3)
set_option maxHeartbeats 60000000 in
set_option maxRecDepth 100000 in
theorem spec_l4Bad.calls  (r1 : Int) (r2 : List Int) (r3 : List Int) (r4 : Int) (w : World) (h : spec_l4Bad.f  = some (r1, r2, r3, r4)) :
  Calls Try.prog 97 #[] w fun e w'=>∃ v1_ v2_:Value,e=.returned (.tuple #[.agg #[.int .i64 r1,v1_],v2_,.int .i64 r4])∧Kd.R ku 5 w' w.heap.size (fun k_=>some k_≠(v2_:Value).ownBlock) v1_ r2∧Kd.R ku 5 w' w.heap.size (fun k_=>some k_≠(v1_:Value).ownBlock) v2_ r3∧Below w.heap.size w w':=by
 have hu35:=Try.underlying35
 have HB:=mk_ (Below.refl w.heap.size w)
 have H:(some (0,([]:List Int),(([]:List Int)),3))=some (r1,r2,r3,r4):=h
 clear h
 obtain ⟨y143,hy143⟩:∃ y_:List Int,y_=(([]:List Int)):=⟨_,rfl⟩
 replace H:(some (0,([]:List Int),y143,3))=some (r1,r2,r3,r4):=by first|(rw [hy143];with_reducible exact H)|(have H2_:=(Option.bind_some _ _).symm.trans H;rw [hy143];with_reducible exact H2_)|(have H2_:=(Option.bind_some _ _).symm.trans H;with_reducible exact H2_)|with_reducible exact H|(rw [hy143];exact H)|exact H
 have Ny143:=mk_ hy143
 clear hy143
 simp only [Option.some.injEq,Prod.mk.injEq] at H
 obtain ⟨rfl,rfl,rfl,rfl⟩:=H
 go_enter Try.func97,Try.ntmps97
 go_wp2_with (first|((with_reducible refine gate_dst (N:=0) rfl ?_);refine box_event ?hg (N:=0) ?hd (cs:=#[.int .i64 0,.slice none 0 0]) (t:=35) ?hr ?_;(case hd=>rfl);(case hg=>rfl);(case hr=>first|(go_simp;done)|(go_simp;rfl));intro gb142 hg w1 hbox hb;have Aa:=mk_ (hbox);have Ab:=mk_ ((by rw [hg];exact (zr2 (yu0 HB.out)):w.heap.size≤gb142));have Ah:=Ab;replace HB:=mk_ (zr3 (yu0 HB.out) hb);clear hb hbox hg)|((with_reducible refine gate_dst (N:=4) rfl ?_);refine Kd.R_lit ku _ 5 ?hg (N:=4) ?hd (xs:=([]:List Int)) (inner:=[]) (ok:=fun _=>True) (okp:=fun _=>True) ?hr ?hp (fun _ hk=>hk) trivial (Below.refl _ _) (Nat.le_refl _) (by simp) ?_;(case hd=>rfl);(case hg=>rfl);(case hr=>first|(go_simp;done)|(go_simp;rfl));(case hp=>exact (Reps.none _ _));intro v144 w2 ho3 hb hg_ hnew_;clear hg_ hnew_;(first|rw [← Ny143.out] at ho3|(simp only [Int.reduceToNat] at ho3;rw [← Ny143.out] at ho3));have Ac:=mk_ (Kd.R_lower ho3 (zr2 (yu1 HB.out)));replace Aa:=mk_ (zq6 (by exact Aa.out) hb);replace HB:=mk_ (zr3 (yu1 HB.out) hb);clear hb ho3;obtain ⟨Ad,Ae⟩:=cz2 Aa.out;obtain ⟨Af,Ag⟩:=fz2 Aa.out))
 refine bodyPost_ret (results_ctt rfl _ _ gb142 35 #[.int .i64 0,.slice none 0 0] (0,0) _ rfl (yv0 Aa.out) Try.underlying35 rfl (by kernel_rfl)) rfl ?_
 exact ⟨_,_,by first|rfl|(simp [errW_none,errW_some] <;> rfl)|(simp [*,errW_none,errW_some] <;> rfl),by first|exact Kd.R_nil _ _ _ _ _|exact Kd.N_nil _ _ _ _ _|exact Kd.V_nil _ _ _ _ _|exact Kd.Q_nil _ _ _ _ _|exact Kd.S_nil _ _ _ _ _,by (with_reducible repeat (first|apply Kd.R_alloc|apply Kd.R_drewN|apply Kd.R_drew));exact Kd.R_mono (Kd.R_far (p:=⟨gb142,1,none⟩) (Kd.R_far (p:=⟨gb142,0,none⟩) (Kd.R_types Ac.out Aa.out (by decide)) (fun _ hk=>hk.2) (.int .i64 0)) (fun _ hk=>hk.2) (.slice none 0 0)) (fun _ hk=>(by simp [Value.ownBlock])),by exact yu1 HB.out⟩

end Go.Proofs.Yteknaofnageihaa.QFnExactSegPut
