-- Written by a program of this session, a turned copy of the print (not by print.sh itself). Lean checks it.
import Derived.Test.YteknaofnageihaaQFnCrdTxOkx0
import Derived.Test.YteknaofnageihaaQFnCrdTxOkx22
namespace Go.Proofs.Yteknaofnageihaa.QFnCrdTxOk
open Go.RowKit Go.Proofs.YteknaofnageihaaW.PrintWords Go.Proofs.YteknaofnageihaaW.PrintLast Go.Proofs.YteknaofnageihaaW.PrintMore Go.Proofs.YteknaofnageihaaLoc
attribute [local go_sem] max2_int min2_int max_two min_two max_three min_three max_four min_four   -- for this text's walks alone
set_option linter.unusedVariables false
set_option linter.unusedSimpArgs false

/-! ### spec_l8Tx: function 117 -/
def spec_l8Tx.f (k : Nat) (a0_0 : Int) (l0_1 : List (S39)) (a0_2 : Int) (a0_3 : Int) (a0_4 : Bool) : Option (Int × (List (S39)) × Int × Int × Bool) := (spec_l6List.f k l0_1).bind fun t328 => (some (a0_0, t328, a0_2, a0_3, a0_4))
theorem spec_l8Tx.mono : ∀ a0 a1 a2 a3 a4 k, LeO (spec_l8Tx.f k a0 a1 a2 a3 a4) (spec_l8Tx.f (k + 1) a0 a1 a2 a3 a4) := by
 intro a0 a1 a2 a3 a4 k
 unfold spec_l8Tx.f
 repeat' first
     | (with_reducible exact spec_l6List.mono _ _)
     | (with_reducible exact LeO.refl _)
     | (with_reducible exact LeO.none _)
     | (with_reducible refine LeO.ite ?_ ?_)
     | (with_reducible refine LeO.bind ?_ (fun _ => ?_))
     | exact spec_l6List.mono _ _
     | exact LeO.none _
     | refine LeO.ite ?_ ?_
     | refine LeO.bind ?_ (fun _ => ?_)
set_option maxHeartbeats 60000000 in
set_option maxRecDepth 100000 in
theorem spec_l8Tx.calls (k : Nat) (a0_0 : Int) (A0_1 : Option Addr) (c0_1 : Nat) (l0_1 : List (S39)) (a0_2 : Int) (a0_3 : Int) (a0_4 : Bool) (r1 : Int) (r2 : List (S39)) (r3 : Int) (r4 : Int) (r5 : Bool) (w : World) (hr0_1 : Kd.C k39 w A0_1 l0_1.length l0_1) (hc0_1 : l0_1.length ≤ c0_1) (h : spec_l8Tx.f k a0_0 l0_1 a0_2 a0_3 a0_4 = some (r1, r2, r3, r4, r5)) :
  Calls Try.prog 117 #[.agg #[.int .i64 a0_0,.slice A0_1 l0_1.length c0_1,.int .i64 a0_2,.int .i64 a0_3,.bool a0_4]] w fun e w'=>∃ v1_:Value,e=.returned (.agg #[.int .i64 r1,v1_,.int .i64 r3,.int .i64 r4,.bool r5])∧Kd.S k39 39 w' w.heap.size (fun _=>True) v1_ r2∧Below w.heap.size w w':=by
 have hu78:=Try.underlying78
 have Ak:=mk_ hr0_1
 have Al:=mk_ hc0_1
 clear hr0_1 hc0_1
 have HB:=mk_ (Below.refl w.heap.size w)
 have H:((spec_l6List.f k l0_1).bind fun t328=>(some (a0_0,t328,a0_2,a0_3,a0_4)))=some (r1,r2,r3,r4,r5):=h
 clear h
 replace H:=Option.bind_eq_some_iff.mp H
 obtain ⟨t328,Ap,H⟩:=H
 try dsimp only at H
 have A2:=mk_ Ap
 clear Ap
 simp only [Option.some.injEq,Prod.mk.injEq] at H
 obtain ⟨rfl,rfl,rfl,rfl,rfl⟩:=H
 go_enter Try.func117,Try.ntmps117
 go_wp2_with (first|((with_reducible refine gate_dst (N:=1) rfl ?_);refine box_event ?hg (N:=1) ?hd (cs:=#[.int .i64 a0_0,.slice A0_1 l0_1.length c0_1,.int .i64 a0_2,.int .i64 a0_3,.bool a0_4]) (t:=78) ?hr ?_;(case hd=>rfl);(case hg=>rfl);(case hr=>first|(go_simp;done)|(go_simp;rfl));intro gb325 hg w3 hbox hb;have Aa:=mk_ (hbox);have Am:=mk_ ((by rw [hg];exact (zr2 (yu0 HB.out)):w.heap.size≤gb325));have B5:=Am;replace HB:=mk_ (zr3 (yu0 HB.out) hb);clear hb hbox hg)|((with_reducible refine gate_dst (N:=2) rfl ?_);refine box_event ?hg (N:=2) ?hd (cs:=#[.int .i64 0,.slice none 0 0,.int .i64 0,.int .i64 0,.bool false]) (t:=78) ?hr ?_;(case hd=>rfl);(case hg=>rfl);(case hr=>first|(go_simp;done)|(go_simp;rfl));intro gb326 hg w4 hbox hb;have Ab:=mk_ (hbox);have An:=mk_ ((by rw [hg];exact (zr2 (yu1 HB.out)):w.heap.size≤gb326));have B6:=An;replace HB:=mk_ (zr3 (yu1 HB.out) hb);have Af:=mk_ ((by rw [hg];exact zm2 (zr6 (by exact Aa.out)):gb325≠gb326));replace Aa:=mk_ (zq6 (by exact Aa.out) hb);have Ag:=mk_ Af.out.symm;clear hb hbox hg;have B8:=Af.out;have B9:=Ag.out;obtain ⟨Bv,Bw,Bx,By,Bz⟩:=cz5 Aa.out;obtain ⟨B0,B1,B2,B3,B4⟩:=fz5 Aa.out)|((with_reducible refine gate_dst (N:=3) rfl ?_);refine box_event ?hg (N:=3) ?hd (cs:=#[.int .i64 0,.slice none 0 0,.int .i64 0,.int .i64 0,.bool false]) (t:=78) ?hr ?_;(case hd=>rfl);(case hg=>rfl);(case hr=>first|(go_simp;done)|(go_simp;rfl));intro gb327 hg w7 hbox hb;have Ad:=mk_ (hbox);have Ao:=mk_ ((by rw [hg];exact (zr2 (yu1 HB.out)):w.heap.size≤gb327));have B7:=Ao;replace HB:=mk_ (zr3 (yu1 HB.out) hb);have Ae:=mk_ ((by rw [hg];exact zm2 (zr6 (by exact Aa.out)):gb325≠gb327));replace Aa:=mk_ (zq6 (by exact Aa.out) hb);have Ah:=mk_ Ae.out.symm;have Ac:=mk_ ((by rw [hg];exact zm2 (zr6 (by exact Ab.out)):gb326≠gb327));replace Ab:=mk_ (zq6 (by exact Ab.out) hb);have Ai:=mk_ Ac.out.symm;clear hb hbox hg;have Ca:=Ah.out;have Cb:=Ae.out;have Cc:=Ai.out;have Cd:=Ac.out;obtain ⟨Aq,Ar,As,At,Au⟩:=cz5 Ad.out;obtain ⟨Av,Aw,Ax,Ay,Az⟩:=fz5 Ad.out;obtain ⟨A0,A1,A3,A4,A5⟩:=cz5 Aa.out;obtain ⟨A6,A7,A8,A9,Ba⟩:=fz5 Aa.out)|((with_reducible refine gate_callee (f:=118) rfl ?_);refine goesL_ (some 7) rfl rfl Try.func118 (by kernel_rfl) rfl #[.slice A0_1 l0_1.length c0_1] rfl am ?_;(with_reducible refine (spec_l6List.calls k _ _ l0_1 t328 _ ?side1 ?side2 A2.out).mono ?_);(case side1=>exact Kd.C_below Ak.out (yu1 HB.out));(case side2=>exact Al.out);rintro e Ce ⟨v329,rfl,ho0,hb⟩;refine ⟨_,rfl,?_⟩;have Aj:=mk_ (Kd.S_lower ho0 (zr2 (yu1 HB.out)));replace Aa:=mk_ (zq6 (g:=gb325) (o:=.cells #[.int .i64 a0_0,.slice A0_1 l0_1.length c0_1,.int .i64 a0_2,.int .i64 a0_3,.bool a0_4] 78 (0,0)) (yv5 Ae.out Aa.out) hb);replace Ab:=mk_ (zq6 (g:=gb326) (o:=.cells #[.int .i64 0,.slice none 0 0,.int .i64 0,.int .i64 0,.bool false] 78 (0,0)) (yv5 Ac.out Ab.out) hb);replace Ad:=mk_ (zq6 (g:=gb327) (o:=.cells #[.int .i64 a0_0,.slice A0_1 l0_1.length c0_1,.int .i64 a0_2,.int .i64 a0_3,.bool a0_4] 78 (0,0)) (yv6 Ad.out) hb);replace HB:=mk_ (zr3 (yu1 HB.out) hb);(try clear hb);(try clear hb2);(try clear hk);(try clear hi);(try clear ho0);obtain ⟨Ao13,co13,eo13⟩:=Kd.S_slice Aj.out;subst eo13;obtain ⟨Bb,Bc,Bd,Be,Bf⟩:=cz5 Ad.out;obtain ⟨Bg,Bh,Bi,Bj,Bk⟩:=fz5 Ad.out;obtain ⟨Bl,Bm,Bn,Bo,Bp⟩:=cz5 Ab.out;obtain ⟨Bq,Br,Bs,Bt,Bu⟩:=fz5 Ab.out))
 refine bodyPost_ret (results_cell_row rfl _ _ gb326 78 #[.int .i64 a0_0,.slice Ao13 t328.length co13,.int .i64 a0_2,.int .i64 a0_3,.bool a0_4] (0,0) _ rfl (yv7 Ac.out Ab.out) Try.underlying78 rfl (by kernel_rfl)) rfl ?_
 exact ⟨_,by first|rfl|(simp [errW_none,errW_some] <;> rfl)|(simp [*,errW_none,errW_some] <;> rfl),by (with_reducible repeat (first|apply Kd.S_alloc|apply Kd.S_drewN|apply Kd.S_drew));exact Kd.S_mono (Kd.S_far (p:=⟨gb326,4,none⟩) (Kd.S_far (p:=⟨gb326,3,none⟩) (Kd.S_far (p:=⟨gb326,2,none⟩) (Kd.S_far (p:=⟨gb326,1,none⟩) (Kd.S_far (p:=⟨gb326,0,none⟩) (Kd.S_far (p:=⟨gb327,1,none⟩) (Kd.S_types (Kd.S_types Aj.out Ad.out (by decide)) Ab.out (by decide)) (fun _ hk=>hk.1.2) (.slice Ao13 t328.length co13)) (fun _ hk=>hk.2) (.int .i64 a0_0)) (fun _ hk=>hk.2) (.slice Ao13 t328.length co13)) (fun _ hk=>hk.2) (.int .i64 a0_2)) (fun _ hk=>hk.2) (.int .i64 a0_3)) (fun _ hk=>hk.2) (.bool a0_4)) (fun _ hk=>trivial),by exact yu1 HB.out⟩

end Go.Proofs.Yteknaofnageihaa.QFnCrdTxOk
