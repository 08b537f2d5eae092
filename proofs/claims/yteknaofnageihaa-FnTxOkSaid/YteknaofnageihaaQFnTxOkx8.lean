-- Written by a program of this session, a turned copy of the print (not by print.sh itself). Lean checks it.
import Derived.Test.YteknaofnageihaaQFnTxOkx0
import Derived.Test.YteknaofnageihaaQFnTxOkx4
import Derived.Test.YteknaofnageihaaQFnTxOkx5
namespace Go.Proofs.Yteknaofnageihaa.QFnTxOk
open Go.RowKit Go.Proofs.YteknaofnageihaaW.PrintWords Go.Proofs.YteknaofnageihaaW.PrintLast Go.Proofs.YteknaofnageihaaW.PrintMore Go.Proofs.YteknaofnageihaaLoc
attribute [local go_sem] max2_int min2_int max_two min_two max_three min_three max_four min_four   -- for this text's walks alone
set_option linter.unusedVariables false
set_option linter.unusedSimpArgs false

/-! ### spec_l20Bytes: function 69 -/
def spec_l20Bytes.l0 : Nat → List Int → Int → List Int → Int → Option (List Int × Int)
  | 0, _, _, _, _ => none
  | k + 1, x5, x6, x1000, x1001 => if x6 > 0 then ((spec_l20Rd_pick.f k x1000 x1001 256).bind fun bt179 => ((spec_l20Rd_pick.f k x1000 bt179.2 4).bind fun bt181 => ((some (([bt179.1, bt181.1, 255] : List Int) : List Int)).bind fun y183 => ((spec_l20Rd_pick.f k x1000 bt181.2 3).bind fun bt186 => (if 0 ≤ bt186.1 then (if bt186.1 < (y183.length : Int) then (if x5.length < 140737488355328 then (spec_l20Bytes.l0 k (x5 ++ [(rd y183 bt186.1) % 256]) (wrap64 (x6 - 1)) x1000 bt186.2) else (none)) else (none)) else (none)))))) else (some (x5, x1001))
def spec_l20Bytes.f (k : Nat) (s0_0 : List Int) (s0_1 : Int) (a1 : Int) : Option (List Int × Int) := (spec_l20Rd_pick.f k s0_0 s0_1 (wrap64 (a1 + 1))).bind fun bt177 => (spec_l20Bytes.l0 k (([] : List Int)) bt177.1 s0_0 bt177.2)
theorem spec_l20Bytes.mono_l : ∀ k, (∀ y0 y1 y2 y3, LeO (spec_l20Bytes.l0 k y0 y1 y2 y3) (spec_l20Bytes.l0 (k + 1) y0 y1 y2 y3))
  | 0 => fun _ _ _ _ r h => by simp [spec_l20Bytes.l0] at h
  | k + 1 => by
    have ih0 := spec_l20Bytes.mono_l k
    · intro y0 y1 y2 y3
      unfold spec_l20Bytes.l0
      repeat' first
      | (with_reducible exact ih0 _ _ _ _)
      | (with_reducible exact spec_l20Rd_pick.mono _ _ _ _)
      | (with_reducible exact LeO.refl _)
      | (with_reducible exact LeO.none _)
      | (with_reducible refine LeO.ite ?_ ?_)
      | (with_reducible refine LeO.bind ?_ (fun _ => ?_))
      | exact ih0 _ _ _ _
      | exact spec_l20Rd_pick.mono _ _ _ _
      | exact LeO.none _
      | refine LeO.ite ?_ ?_
      | refine LeO.bind ?_ (fun _ => ?_)
theorem spec_l20Bytes.mono : ∀ a0 a1 a2 k, LeO (spec_l20Bytes.f k a0 a1 a2) (spec_l20Bytes.f (k + 1) a0 a1 a2) := by
 intro a0 a1 a2 k
 have ih0 := spec_l20Bytes.mono_l k
 unfold spec_l20Bytes.f
 repeat' first
     | (with_reducible exact ih0 _ _ _ _)
     | (with_reducible exact spec_l20Rd_pick.mono _ _ _ _)
     | (with_reducible exact LeO.refl _)
     | (with_reducible exact LeO.none _)
     | (with_reducible refine LeO.ite ?_ ?_)
     | (with_reducible refine LeO.bind ?_ (fun _ => ?_))
     | exact ih0 _ _ _ _
     | exact spec_l20Rd_pick.mono _ _ _ _
     | exact LeO.none _
     | refine LeO.ite ?_ ?_
     | refine LeO.bind ?_ (fun _ => ?_)
set_option maxHeartbeats 60000000 in
set_option maxRecDepth 100000 in
theorem spec_l20Bytes.calls (k : Nat) (g : Nat) (s0_0 : List Int) (s0_1 : Int) (a1 : Int) (r1 : List Int) (r2 : Int) (w0 w : World) (hI : IsS113 w0 w g s0_0 s0_1) (hB : Below w0.heap.size w0 w) (h : spec_l20Bytes.f k s0_0 s0_1 a1 = some (r1, r2)) :
  Calls Try.prog 69 #[.pointer (some ⟨g,0,none⟩),.int .i64 a1] w fun e w'=>∃ v0_:Value,e=.returned (v0_)∧Kd.R ku 5 w' w.heap.size (fun _=>True) v0_ r1∧IsS113 w0 w' g s0_0 r2∧Below w0.heap.size w0 w'∧KeepBut w w' g none:=by
 have HI0:=mk_ hI
 have HK:=mk_ (KeepBut.refl w g none)
 have HL:=mk_ hB.size
 clear hI
 have HW0:=mk_ hB.size
 have HB:=mk_ hB
 clear hB
 have H:((spec_l20Rd_pick.f k s0_0 s0_1 (wrap64 (a1+1))).bind fun bt177=>(spec_l20Bytes.l0 k (([]:List Int)) bt177.1 s0_0 bt177.2))=some (r1,r2):=h
 clear h
 obtain ⟨y174,hy174⟩:∃ y_:List Int,y_=(([]:List Int)):=⟨_,rfl⟩
 replace H:((spec_l20Rd_pick.f k s0_0 s0_1 (wrap64 (a1+1))).bind fun bt177=>(spec_l20Bytes.l0 k y174 bt177.1 s0_0 bt177.2))=some (r1,r2):=by first|(rw [hy174];with_reducible exact H)|(have H2_:=(Option.bind_some _ _).symm.trans H;rw [hy174];with_reducible exact H2_)|(have H2_:=(Option.bind_some _ _).symm.trans H;with_reducible exact H2_)|with_reducible exact H|(rw [hy174];exact H)|exact H
 have Ny174:=mk_ hy174
 clear hy174
 replace H:=Option.bind_eq_some_iff.mp H
 obtain ⟨⟨t177,t178⟩,Ai,H⟩:=H
 try dsimp only at H
 have A3:=mk_ Ai
 clear Ai
 have H':=mk_ H
 clear H
 go_enter Try.func69,Try.ntmps69
 go_wp2_with (first|((with_reducible refine gate_dst (N:=7) rfl ?_);refine Kd.R_lit ku _ 5 ?hg (N:=7) ?hd (xs:=([]:List Int)) (inner:=[]) (ok:=fun _=>True) (okp:=fun _=>True) ?hr ?hp (fun _ hk=>hk) trivial (Below.refl _ _) (Nat.le_refl _) (by simp) ?_;(case hd=>rfl);(case hg=>rfl);(case hr=>first|(go_simp;done)|(go_simp;rfl));(case hp=>exact (Reps.none _ _));intro v175 w4 ho5 hb hg_ hnew_;clear hg_ hnew_;(first|rw [← Ny174.out] at ho5|(simp only [Int.reduceToNat] at ho5;rw [← Ny174.out] at ho5));have Af:=mk_ (Kd.R_lower ho5 (keep_size (w:=w) (g:=g) (row:=none) (yu1 HK.out)));replace HK:=mk_ (KeepBut.trans (yu1 HK.out) (KeepBut.of_below hb g none) (.inl rfl));replace HB:=mk_ (zr3 (yu0 HB.out HI0.out) hb);replace HI0:=mk_ (IsS113.below (yu2 HI0.out) hb);clear hb ho5)|((with_reducible refine gate_callee (f:=70) rfl ?_);refine goesL_ (some 11) rfl rfl Try.func70 (by kernel_rfl) rfl #[.pointer (some ⟨g,0,none⟩),.int .i64 (wrap64 (a1+1))] rfl am ?_;(with_reducible refine (spec_l20Rd_pick.calls k g s0_0 s0_1 (wrap64 (a1+1)) t177 t178 w0 _ ?side1 ?side2 A3.out).mono ?_);(case side1=>exact yu2 HI0.out);(case side2=>exact yu0 HB.out HI0.out);rintro e w6 ⟨rfl,hi,hb,hk⟩;refine ⟨_,rfl,?_⟩;replace Af:=mk_ (Kd.R_mono (Kd.R_keep (IsS113.apart (show IsS113 w0 _ g s0_0 s0_1 from by exact yu2 HI0.out) (mR Af.out) (by decide)) hk (fun _ h=>h.2)) (fun _ h=>h.1));replace HK:=mk_ (KeepBut.trans (yu1 HK.out) hk (.inl rfl));replace HB:=mk_ (hb);replace HI0:=mk_ (hi);(try clear hb);(try clear hb2);(try clear hk);(try clear hi)))
 go_loopg [5,6] k (fun kq v5 v6 w'=>∃ (Ae:List Int) (Ac:Int) (Ab:Int),v6=.int .i64 Ac∧Aside0 (spec_l20Bytes.l0 kq Ae Ac s0_0 Ab=some (r1,r2))∧Aside0 (kq≤k)∧Aside0 (Kd.R ku 5 w' w.heap.size (fun _=>True) v5 Ae)∧Aside0 (IsS113 w0 w' g s0_0 Ab)∧Aside0 (KeepBut w w' g none)∧Aside0 (Below w0.heap.size w0 w'))
 case atStart=>exact ⟨(y174),(t177),(t178),(by first|rfl|(simp;done)|(simp [*];done)),H',⟨Nat.le_refl _⟩,⟨by (with_reducible repeat (first|apply Kd.R_alloc|apply Kd.R_drewN|apply Kd.R_drew));exact Af.out⟩,⟨by exact yu2 HI0.out⟩,⟨by exact yu1 HK.out⟩,⟨by exact yu0 HB.out HI0.out⟩⟩
 case round =>
  clear H'
  try clear p2
  try clear c6
  try clear p6
  obtain ⟨Ae,Ac,Ab,rfl,HA,HK1,Aa,HI0,HK,HB⟩:=hrel
  cases gk with
 |zero=>exact absurd HA.out (by simp [spec_l20Bytes.l0])
 |succ k1 =>
   have H:=HA.out
   clear HA
   simp only [spec_l20Bytes.l0] at H
   by_cases c7:Ac > 0
   rotate_left
   ·rw [if_neg c7] at H
    have c7b0:decide (0<Ac)=false:=decide_eq_false c7
    clear c7
    simp only [Option.some.injEq,Prod.mk.injEq] at H
    obtain ⟨rfl,rfl⟩:=H
    go_wp2
    go_ret
    exact ⟨_,by first|rfl|(simp [errW_none,errW_some] <;> rfl)|(simp [*,errW_none,errW_some] <;> rfl),by (with_reducible repeat (first|apply Kd.R_alloc|apply Kd.R_drewN|apply Kd.R_drew));exact Aa.out,by exact yu2 HI0.out,by exact yu0 HB.out HI0.out,by exact yu1 HK.out⟩
   rw [if_pos c7] at H
   have c7b0:decide (0<Ac)=true:=decide_eq_true c7
   clear c7
   replace H:=Option.bind_eq_some_iff.mp H
   obtain ⟨⟨t179,t180⟩,Aj,H⟩:=H
   try dsimp only at H
   have A8:=mk_ Aj
   clear Aj
   replace H:=Option.bind_eq_some_iff.mp H
   obtain ⟨⟨t181,t182⟩,Ak,H⟩:=H
   try dsimp only at H
   have A9:=mk_ Ak
   clear Ak
   obtain ⟨y183,hy183⟩:∃ y_:List Int,y_=(([t179,t181,255]:List Int)):=⟨_,rfl⟩
   replace H:((spec_l20Rd_pick.f k1 s0_0 t182 3).bind fun bt186=>(if 0≤bt186.1 then (if bt186.1<(y183.length:Int) then (if Ae.length<140737488355328 then (spec_l20Bytes.l0 k1 (Ae++[(rd y183 bt186.1) % 256]) (wrap64 (Ac - 1)) s0_0 bt186.2) else (none)) else (none)) else (none)))=some (r1,r2):=by first|(rw [hy183];with_reducible exact H)|(have H2_:=(Option.bind_some _ _).symm.trans H;rw [hy183];with_reducible exact H2_)|(have H2_:=(Option.bind_some _ _).symm.trans H;with_reducible exact H2_)|with_reducible exact H|(rw [hy183];exact H)|exact H
   have Ny183:=mk_ hy183
   clear hy183
   replace H:=Option.bind_eq_some_iff.mp H
   obtain ⟨⟨t186,t187⟩,Ag,H⟩:=H
   try dsimp only at H
   have Al:=mk_ Ag
   clear Ag
   by_cases c11:0≤t186
   rotate_left
   ·rw [if_neg c11] at H
    exact absurd H (by simp)
   rw [if_pos c11] at H
   have c11b0:decide (0≤t186)=true:=decide_eq_true c11
   clear c11
   by_cases c12:t186<(y183.length:Int)
   rotate_left
   ·rw [if_neg c12] at H
    exact absurd H (by simp)
   rw [if_pos c12] at H
   have c12b0:decide (t186<(y183.length:Int))=true:=decide_eq_true c12
   clear c12
   by_cases c13:Ae.length<140737488355328
   rotate_left
   ·rw [if_neg c13] at H
    exact absurd H (by simp)
   rw [if_pos c13] at H
   have LMc13:=mk_ c13
   clear c13
   obtain ⟨y189,hy189⟩:∃ y_:List Int,y_=(Ae++[(rd y183 t186) % 256]):=⟨_,rfl⟩
   replace H:(spec_l20Bytes.l0 k1 y189 (wrap64 (Ac - 1)) s0_0 t187)=some (r1,r2):=by first|(rw [hy189];with_reducible exact H)|(have H2_:=(Option.bind_some _ _).symm.trans H;rw [hy189];with_reducible exact H2_)|(have H2_:=(Option.bind_some _ _).symm.trans H;with_reducible exact H2_)|with_reducible exact H|(rw [hy189];exact H)|exact H
   have Ny189:=mk_ hy189
   clear hy189
   have H':=mk_ H
   clear H
   go_wp2_with (first|((with_reducible refine gate_callee (f:=70) rfl ?_);refine goesL_ (some 18) rfl rfl Try.func70 (by kernel_rfl) rfl #[.pointer (some ⟨g,0,none⟩),.int .i64 256] rfl am ?_;(with_reducible refine (spec_l20Rd_pick.calls k1 g s0_0 Ab 256 t179 t180 w0 _ ?side1 ?side2 A8.out).mono ?_);(case side1=>exact yu2 HI0.out);(case side2=>exact yu0 HB.out HI0.out);rintro e Am ⟨rfl,hi,hb,hk⟩;refine ⟨_,rfl,?_⟩;replace Aa:=mk_ (Kd.R_mono (Kd.R_keep (IsS113.apart (show IsS113 w0 _ g s0_0 Ab from by exact yu2 HI0.out) (mR Aa.out) (by decide)) hk (fun _ h=>h.2)) (fun _ h=>h.1));replace HK:=mk_ (KeepBut.trans (yu1 HK.out) hk (.inl rfl));replace HB:=mk_ (hb);replace HI0:=mk_ (hi);(try clear hb);(try clear hb2);(try clear hk);(try clear hi))|((with_reducible refine gate_callee (f:=70) rfl ?_);refine goesL_ (some 20) rfl rfl Try.func70 (by kernel_rfl) rfl #[.pointer (some ⟨g,0,none⟩),.int .i64 4] rfl am ?_;(with_reducible refine (spec_l20Rd_pick.calls k1 g s0_0 t180 4 t181 t182 w0 _ ?side1 ?side2 A9.out).mono ?_);(case side1=>exact yu2 HI0.out);(case side2=>exact yu0 HB.out HI0.out);rintro e An ⟨rfl,hi,hb,hk⟩;refine ⟨_,rfl,?_⟩;replace Aa:=mk_ (Kd.R_mono (Kd.R_keep (IsS113.apart (show IsS113 w0 _ g s0_0 t180 from by exact yu2 HI0.out) (mR Aa.out) (by decide)) hk (fun _ h=>h.2)) (fun _ h=>h.1));replace HK:=mk_ (KeepBut.trans (yu1 HK.out) hk (.inl rfl));replace HB:=mk_ (hb);replace HI0:=mk_ (hi);(try clear hb);(try clear hb2);(try clear hk);(try clear hi))|((with_reducible refine gate_dst (N:=21) rfl ?_);refine Kd.R_lit (Kd.int .i64) _ 3 ?hg (N:=21) ?hd (xs:=([t179,t181,255]:List Int)) (inner:=[.int .i64 t179,.int .i64 t181,.int .i64 255]) (ok:=fun _=>True) (okp:=fun _=>True) ?hr ?hp (fun _ hk=>hk) trivial (Below.refl _ _) (Nat.le_refl _) (by simp) ?_;(case hd=>rfl);(case hg=>rfl);(case hr=>first|(go_simp;done)|(go_simp;rfl));(case hp=>exact (Reps.one (show Kd.M (Kd.int .i64) _ _ _ t179 [.int .i64 t179] from rfl) (Reps.one (show Kd.M (Kd.int .i64) _ _ _ t181 [.int .i64 t181] from rfl) (Reps.one (show Kd.M (Kd.int .i64) _ _ _ 255 [.int .i64 255] from rfl) (Reps.none _ _)))));intro v184 Ao ho17 hb hg_ hnew_;clear hg_ hnew_;(first|rw [← Ny183.out] at ho17|(simp only [Int.reduceToNat] at ho17;rw [← Ny183.out] at ho17));replace Aa:=mk_ (Kd.R_below (mR Aa.out) hb);have Ad:=mk_ (Kd.R_lower ho17 (keep_size (w:=w) (g:=g) (row:=none) (yu1 HK.out)));replace HK:=mk_ (KeepBut.trans (yu1 HK.out) (KeepBut.of_below hb g none) (.inl rfl));replace HB:=mk_ (zr3 (yu0 HB.out HI0.out) hb);replace HI0:=mk_ (IsS113.below (yu2 HI0.out) hb);clear hb ho17)|((with_reducible refine gate_callee (f:=70) rfl ?_);refine goesL_ (some 23) rfl rfl Try.func70 (by kernel_rfl) rfl #[.pointer (some ⟨g,0,none⟩),.int .i64 3] rfl am ?_;(with_reducible refine (spec_l20Rd_pick.calls k1 g s0_0 t182 3 t186 t187 w0 _ ?side1 ?side2 Al.out).mono ?_);(case side1=>exact yu2 HI0.out);(case side2=>exact yu0 HB.out HI0.out);rintro e Ap ⟨rfl,hi,hb,hk⟩;refine ⟨_,rfl,?_⟩;replace Aa:=mk_ (Kd.R_mono (Kd.R_keep (IsS113.apart (show IsS113 w0 _ g s0_0 t182 from by exact yu2 HI0.out) (mR Aa.out) (by decide)) hk (fun _ h=>h.2)) (fun _ h=>h.1));replace Ad:=mk_ (Kd.R_mono (Kd.R_keep (IsS113.apart (show IsS113 w0 _ g s0_0 t182 from by exact yu2 HI0.out) (mR Ad.out) (by decide)) hk (fun _ h=>h.2)) (fun _ h=>h.1));replace HK:=mk_ (KeepBut.trans (yu1 HK.out) hk (.inl rfl));replace HB:=mk_ (hb);replace HI0:=mk_ (hi);(try clear hb);(try clear hb2);(try clear hk);(try clear hi);obtain ⟨Ao19,co19,eo19⟩:=Kd.R_slice Ad.out;subst eo19;have p188:0≤(t186:Int):=of_decide_eq_true (by first|(with_reducible assumption)|assumption);have q188:t186<(y183.length:Int):=of_decide_eq_true (by first|(with_reducible assumption)|assumption);obtain ⟨ad188,e188,hx188_0⟩:=Kd.at_int (Kd.R_reads' Ad.out).2.2 t186 p188 q188;cases e188;replace p188:=eq_true p188;replace q188:=eq_true q188)|((with_reducible refine gate_builtin (b:=.append) (xs:=#[.tmp 16,.tmp 27]) rfl ?_);at_builtin;refine Kd.R_append ku w.heap.size rfl (.tmp 16) (.tmp 27) 22 5 (.int .u8 0) 1 rfl Try.underlying22 info5 rfl (by decide) (by omega) u5 Ae ((rd y183 t186) % 256) [.int .u8 ((rd y183 t186) % 256)] (fun _=>True) (fun _=>False) rfl rfl ?aP (fun _ hk=>hk.elim) ?aF ?aO (Below.refl _ _) ?aS ?aL ?_;(case aP=>exact rfl);(case aF=>exact (fun _ _=>trivial));(case aO=>exact (mR Aa.out));(case aS=>exact (keep_size (w:=w) (g:=g) (row:=none) (yu1 HK.out)));(case aL=>have:=LMc13.out;omega);intro v190 Aq ho hb hg hat;rw [← Ny189.out] at ho;have n0_:=mk_ (IsS113.grown (yu2 HI0.out) hg (IsS113.own_ne HI0.out Aa.out (by decide)));have n1_:=mk_ (Kd.R_over' (mR Ad.out) (Kd.R_typed (mR Aa.out)) (by decide) hg);have n2_:=mk_ (below_weaken (yu0 HB.out HI0.out) HL.out hb);have n3_:=mk_ (KeepBut.trans (yu1 HK.out) (KeepBut.of_grown hg g) (Kd.R_base2 Aa.out));have n4_:=mk_ (ho);clear HI0;clear Ad;clear HB;clear HK;clear Aa;have HI0:=n0_;have Ad:=n1_;have HB:=n2_;have HK:=n3_;have Ah:=n4_;clear n0_ n1_ n2_ n3_ n4_;clear ho hb hg hat))
   go_roundg k1
   case measure=>have:=HK1.out;omega
   case rel=>exact ⟨(y189),(wrap64 (Ac - 1)),(t187),(by first|rfl|(simp;done)|(simp [*];done)),H',⟨by have:=HK1.out;omega⟩,⟨by (with_reducible repeat (first|apply Kd.R_alloc|apply Kd.R_drewN|apply Kd.R_drew));exact Ah.out⟩,⟨by exact yu2 HI0.out⟩,⟨by exact yu1 HK.out⟩,⟨by exact yu0 HB.out HI0.out⟩⟩

end Go.Proofs.Yteknaofnageihaa.QFnTxOk
