-- Written by a program of this session, a turned copy of the print (not by print.sh itself). Lean checks it.
import Derived.Test.YteknaofnageihaaQFnTxOkx0
import Derived.Test.YteknaofnageihaaQFnTxOkx4
import Derived.Test.YteknaofnageihaaQFnTxOkx5
import Derived.Test.YteknaofnageihaaQFnTxOkx8
namespace Go.Proofs.Yteknaofnageihaa.QFnTxOk
open Go.RowKit Go.Proofs.YteknaofnageihaaW.PrintWords Go.Proofs.YteknaofnageihaaW.PrintLast Go.Proofs.YteknaofnageihaaW.PrintMore Go.Proofs.YteknaofnageihaaLoc
attribute [local go_sem] max2_int min2_int max_two min_two max_three min_three max_four min_four   -- for this text's walks alone
set_option linter.unusedVariables false
set_option linter.unusedSimpArgs false

/-! ### spec_l20Part: function 99 -/
mutual
def spec_l20Part.j0 : Nat → Bool → List Int → Int → Int → Int → List Int → Option (Int × Int × List Int × Int)
  | 0, _, _, _, _, _, _ => none
  | k + 1, x17, x1000, x1001, x200000, x200001, x200002 => if x17 = true then (spec_l20Part.j1 k x1000 x1001 x200000 x200001 (([7] : List Int))) else (spec_l20Part.j1 k x1000 x1001 x200000 x200001 x200002)
def spec_l20Part.j1 : Nat → List Int → Int → Int → Int → List Int → Option (Int × Int × List Int × Int)
  | 0, _, _, _, _, _ => none
  | k + 1, x1000, x1001, x200000, x200001, x200002 => if x200000 = 0 then (if x200000 = 1 then ((spec_l20Rd_pick.f k x1000 x1001 (wrap64 (24 - (x200002.length : Int)))).bind fun bt203 => (some (x200000, wrap64 ((wrap64 ((x200002.length : Int) + 1)) + bt203.1), x200002, bt203.2))) else (some (x200000, (x200002.length : Int), x200002, x1001))) else (if x200000 = 1 then ((spec_l20Rd_pick.f k x1000 x1001 (wrap64 (24 - (x200002.length : Int)))).bind fun bt205 => (some (x200000, wrap64 ((wrap64 ((x200002.length : Int) + 1)) + bt205.1), x200002, bt205.2))) else (some (x200000, x200001, x200002, x1001)))
end
def spec_l20Part.f (k : Nat) (s0_0 : List Int) (s0_1 : Int) : Option (Int × Int × List Int × Int) := (spec_l20Rd_pick.f k s0_0 s0_1 4).bind fun bt193 => ((spec_l20Bytes.f k s0_0 bt193.2 8).bind fun bt195 => (if bt193.1 = 0 then (spec_l20Part.j0 k false s0_0 bt195.2 bt193.1 0 bt195.1) else (spec_l20Part.j0 k ((bt195.1.length : Int) == 0) s0_0 bt195.2 bt193.1 0 bt195.1)))
theorem spec_l20Part.mono_l : ∀ k, (∀ y0 y1 y2 y3 y4 y5, LeO (spec_l20Part.j0 k y0 y1 y2 y3 y4 y5) (spec_l20Part.j0 (k + 1) y0 y1 y2 y3 y4 y5)) ∧ (∀ y0 y1 y2 y3 y4, LeO (spec_l20Part.j1 k y0 y1 y2 y3 y4) (spec_l20Part.j1 (k + 1) y0 y1 y2 y3 y4))
  | 0 => ⟨fun _ _ _ _ _ _ r h => by simp [spec_l20Part.j0] at h, fun _ _ _ _ _ r h => by simp [spec_l20Part.j1] at h⟩
  | k + 1 => by
    obtain ⟨ih0, ih1⟩ := spec_l20Part.mono_l k
    refine ⟨?_, ?_⟩
    · intro y0 y1 y2 y3 y4 y5
      unfold spec_l20Part.j0
      repeat' first
      | (with_reducible exact ih0 _ _ _ _ _ _)
      | (with_reducible exact ih1 _ _ _ _ _)
      | (with_reducible exact spec_l20Bytes.mono _ _ _ _)
      | (with_reducible exact spec_l20Rd_pick.mono _ _ _ _)
      | (with_reducible exact LeO.refl _)
      | (with_reducible exact LeO.none _)
      | (with_reducible refine LeO.ite ?_ ?_)
      | (with_reducible refine LeO.bind ?_ (fun _ => ?_))
      | exact ih0 _ _ _ _ _ _
      | exact ih1 _ _ _ _ _
      | exact spec_l20Bytes.mono _ _ _ _
      | exact spec_l20Rd_pick.mono _ _ _ _
      | exact LeO.none _
      | refine LeO.ite ?_ ?_
      | refine LeO.bind ?_ (fun _ => ?_)
    · intro y0 y1 y2 y3 y4
      unfold spec_l20Part.j1
      repeat' first
      | (with_reducible exact ih0 _ _ _ _ _ _)
      | (with_reducible exact ih1 _ _ _ _ _)
      | (with_reducible exact spec_l20Bytes.mono _ _ _ _)
      | (with_reducible exact spec_l20Rd_pick.mono _ _ _ _)
      | (with_reducible exact LeO.refl _)
      | (with_reducible exact LeO.none _)
      | (with_reducible refine LeO.ite ?_ ?_)
      | (with_reducible refine LeO.bind ?_ (fun _ => ?_))
      | exact ih0 _ _ _ _ _ _
      | exact ih1 _ _ _ _ _
      | exact spec_l20Bytes.mono _ _ _ _
      | exact spec_l20Rd_pick.mono _ _ _ _
      | exact LeO.none _
      | refine LeO.ite ?_ ?_
      | refine LeO.bind ?_ (fun _ => ?_)
theorem spec_l20Part.mono : ∀ a0 a1 k, LeO (spec_l20Part.f k a0 a1) (spec_l20Part.f (k + 1) a0 a1) := by
 intro a0 a1 k
 obtain ⟨ih0, ih1⟩ := spec_l20Part.mono_l k
 unfold spec_l20Part.f
 repeat' first
     | (with_reducible exact ih0 _ _ _ _ _ _)
     | (with_reducible exact ih1 _ _ _ _ _)
     | (with_reducible exact spec_l20Bytes.mono _ _ _ _)
     | (with_reducible exact spec_l20Rd_pick.mono _ _ _ _)
     | (with_reducible exact LeO.refl _)
     | (with_reducible exact LeO.none _)
     | (with_reducible refine LeO.ite ?_ ?_)
     | (with_reducible refine LeO.bind ?_ (fun _ => ?_))
     | exact ih0 _ _ _ _ _ _
     | exact ih1 _ _ _ _ _
     | exact spec_l20Bytes.mono _ _ _ _
     | exact spec_l20Rd_pick.mono _ _ _ _
     | exact LeO.none _
     | refine LeO.ite ?_ ?_
     | refine LeO.bind ?_ (fun _ => ?_)
def spec_l20Part.T7 : Bool × List (List Nat × List Nat) := (true, [([], []), ([0], [0]), ([1], [1]), ([2], [2]), ([], []), ([], []), ([5], [5]), ([6], [6]), ([7], [7]), ([4, 8], [4, 8]), ([3, 9], [3, 9]), ([0, 1, 2, 3, 4, 5, 6, 7, 8, 9, 10], []), ([11, 10, 9, 0, 1, 2, 3, 4, 5, 6, 7, 8, 9, 10], [10, 11])])
def spec_l20Part.B7 : List Nat := [0, 1, 3, 7, 0, 0, 32, 96, 224, 496, 1023, 2047, 4095]
theorem spec_l20Part.tab7 : rtab .any (opsOf Try.f99 7) = spec_l20Part.T7 := by kernel_rfl
theorem spec_l20Part.bits7 : waitsOk spec_l20Part.T7.2 spec_l20Part.B7 = true := by kernel_rfl
set_option maxHeartbeats 60000000 in
set_option maxRecDepth 100000 in
theorem spec_l20Part.calls (k : Nat) (g : Nat) (s0_0 : List Int) (s0_1 : Int) (r1 : Int) (r2 : Int) (r3 : List Int) (r4 : Int) (w0 w : World) (hI : IsS113 w0 w g s0_0 s0_1) (hB : Below w0.heap.size w0 w) (h : spec_l20Part.f k s0_0 s0_1 = some (r1, r2, r3, r4)) :
  Calls Try.prog 99 #[.pointer (some ⟨g,0,none⟩)] w fun e w'=>∃ v2_:Value,e=.returned (.agg #[.int .i64 r1,.int .i64 r2,v2_])∧Kd.R ku 5 w' w.heap.size (fun _=>True) v2_ r3∧IsS113 w0 w' g s0_0 r4∧Below w0.heap.size w0 w'∧KeepBut w w' g none:=by
 have hu39:=Try.underlying39
 have HI0:=mk_ hI
 have HK:=mk_ (KeepBut.refl w g none)
 have HL:=mk_ hB.size
 clear hI
 have HW0:=mk_ hB.size
 have HB:=mk_ hB
 clear hB
 have H:((spec_l20Rd_pick.f k s0_0 s0_1 4).bind fun bt193=>((spec_l20Bytes.f k s0_0 bt193.2 8).bind fun bt195=>(if bt193.1=0 then (spec_l20Part.j0 k false s0_0 bt195.2 bt193.1 0 bt195.1) else (spec_l20Part.j0 k ((bt195.1.length:Int) == 0) s0_0 bt195.2 bt193.1 0 bt195.1))))=some (r1,r2,r3,r4):=h
 clear h
 replace H:=Option.bind_eq_some_iff.mp H
 obtain ⟨⟨t193,t194⟩,Bk,H⟩:=H
 try dsimp only at H
 have A2:=mk_ Bk
 clear Bk
 replace H:=Option.bind_eq_some_iff.mp H
 obtain ⟨⟨t195,t198⟩,A7,H⟩:=H
 try dsimp only at H
 have A3:=mk_ A7
 clear A7
 have Bg:=mk_ H
 clear H
 go_enter Try.func99,Try.ntmps99
 go_upto_region 2 with (first|((with_reducible refine gate_dst (N:=2) rfl ?_);(try (refine gate_guard (by rfl) ?_;dsimp only));refine box_event ?hg (N:=2) ?hd (cs:=#[.int .i64 0,.int .i64 0,.slice none 0 0]) (t:=39) ?hr ?_;(case hd=>rfl);(case hg=>rfl);(case hr=>first|(go_simp;done)|(go_simp;rfl));intro gb192 hg w5 hbox hb;replace HB:=mk_ (zr3 (yu0 HB.out HI0.out) hb);have Ad:=mk_ (hbox);have Dd:=mk_ ((by rw [hg];exact (keep_size (w:=w) (g:=g) (row:=none) (yu1 HK.out)):w.heap.size≤gb192));have De:=mk_ ((Nat.le_trans HW0.out (by rw [hg];exact (keep_size (w:=w) (g:=g) (row:=none) (yu1 HK.out)):w.heap.size≤gb192):w0.heap.size≤gb192));replace HK:=mk_ (KeepBut.trans (yu1 HK.out) (KeepBut.of_below hb g none) (.inl rfl));have Aj:=mk_ ((by rw [hg];exact zm2 (IsS113.lt (show IsS113 w0 _ g s0_0 s0_1 from by exact yu2 HI0.out)):g≠gb192));replace HI0:=mk_ (IsS113.below (yu2 HI0.out) hb);have Ai:=mk_ Aj.out.symm;clear hb hbox hg)|((with_reducible refine gate_callee (f:=70) rfl ?_);refine goesL_ (some 5) rfl rfl Try.func70 (by kernel_rfl) rfl #[.pointer (some ⟨g,0,none⟩),.int .i64 4] rfl am ?_;(with_reducible refine (spec_l20Rd_pick.calls k g s0_0 s0_1 4 t193 t194 w0 _ ?side1 ?side2 A2.out).mono ?_);(case side1=>exact yu3 HI0.out);(case side2=>exact yu4 HB.out HI0.out);rintro e w6 ⟨rfl,hi,hb,hk⟩;refine ⟨_,rfl,?_⟩;replace Ad:=mk_ (KeepBut.blk hk (g':=gb192) (o:=.cells #[.int .i64 0,.int .i64 0,.slice none 0 0] 39 (0,0)) (by exact Ad.out) Ai.out (by simp));replace HK:=mk_ (KeepBut.trans (yu5 HK.out) hk (.inl rfl));replace HB:=mk_ (hb);replace HI0:=mk_ (hi);(try clear hb);(try clear hb2);(try clear hk);(try clear hi))|((with_reducible refine gate_callee (f:=69) rfl ?_);refine goesL_ (some 7) rfl rfl Try.func69 (by kernel_rfl) rfl #[.pointer (some ⟨g,0,none⟩),.int .i64 8] rfl am ?_;(with_reducible refine (spec_l20Bytes.calls k g s0_0 t194 8 t195 t198 w0 _ ?side1 ?side2 A3.out).mono ?_);(case side1=>exact yu3 HI0.out);(case side2=>exact yu4 HB.out HI0.out);rintro e w7 ⟨v196,rfl,ho0,hi,hb,hk⟩;refine ⟨_,rfl,?_⟩;replace Ad:=mk_ (KeepBut.blk hk (g':=gb192) (o:=.cells #[.int .i64 0,.int .i64 0,.slice none 0 0] 39 (0,0)) (by exact Ad.out) Ai.out (by simp));have Ak:=mk_ (Kd.R_lower ho0 (keep_size (w:=w) (g:=g) (row:=none) (yu5 HK.out)));replace HK:=mk_ (KeepBut.trans (yu5 HK.out) hk (.inl rfl));replace HB:=mk_ (hb);replace HI0:=mk_ (hi);(try clear hb);(try clear hb2);(try clear hk);(try clear hi);(try clear ho0);obtain ⟨Ao8,co8,eo8⟩:=Kd.R_slice Ak.out;subst eo8)|((with_reducible refine gate_dst (N:=3) rfl ?_);(try (refine gate_guard (by rfl) ?_;dsimp only));refine box_event ?hg (N:=3) ?hd (cs:=#[.int .i64 0,.int .i64 0,.slice none 0 0]) (t:=39) ?hr ?_;(case hd=>rfl);(case hg=>rfl);(case hr=>first|(go_simp;done)|(go_simp;rfl));intro gb199 hg w9 hbox hb;replace Ak:=mk_ (Kd.R_below (mR Ak.out) hb);replace HB:=mk_ (zr3 (yu4 HB.out HI0.out) hb);have Ab:=mk_ (hbox);have Df:=mk_ ((by rw [hg];exact (keep_size (w:=w) (g:=g) (row:=none) (yu5 HK.out)):w.heap.size≤gb199));have Dg:=mk_ ((Nat.le_trans HW0.out (by rw [hg];exact (keep_size (w:=w) (g:=g) (row:=none) (yu5 HK.out)):w.heap.size≤gb199):w0.heap.size≤gb199));replace HK:=mk_ (KeepBut.trans (yu5 HK.out) (KeepBut.of_below hb g none) (.inl rfl));have Ae:=mk_ ((by rw [hg];exact zm2 (zr6 (by exact Ad.out)):gb192≠gb199));replace Ad:=mk_ (zq6 (by exact Ad.out) hb);have Af:=mk_ Ae.out.symm;have Ah:=mk_ ((by rw [hg];exact zm2 (IsS113.lt (show IsS113 w0 _ g s0_0 t198 from by exact yu3 HI0.out)):g≠gb199));replace HI0:=mk_ (IsS113.below (yu3 HI0.out) hb);have Ag:=mk_ Ah.out.symm;clear hb hbox hg;have Dh:=Af.out;have Di:=Ae.out;have Dj:=Ag.out;have Dk:=Ah.out;obtain ⟨Am,An,Ao⟩:=cz3 Ab.out;obtain ⟨Ap,Aq,Ar⟩:=fz3 Ab.out))
 (try simp only [Act.put,List.setIfInBounds_toArray,List.set_cons_zero,List.set_cons_succ])
 go_cut [17] (fun v17 wc=>∃ (kq:Nat) (Al:Bool),v17=.bool Al∧Aside0 (spec_l20Part.j0 kq Al s0_0 t198 t193 0 t195=some (r1,r2,r3,r4))∧Aside0 (kq≤k)∧Aside0 (Kd.R ku 5 wc w.heap.size (fun _=>True) (.slice Ao8 t195.length co8) t195)∧Aside0 (wc.heap[gb192]? =some (.cells #[.int .i64 0,.int .i64 0,(.slice none 0 0)] 39 (0,0)))∧Aside0 (wc.heap[gb199]? =some (.cells #[.int .i64 t193,.int .i64 0,(.slice Ao8 t195.length co8)] 39 (0,0)))∧Aside0 (IsS113 w0 wc g s0_0 t198)∧Aside0 (KeepBut w wc g none)∧Aside0 (Below w0.heap.size w0 wc))
 case first =>
  have H:=Bg.out
  clear Bg
  by_cases c13:t193=0
  ·rw [if_pos c13] at H
   have c13b0:(t193 == 0)=true:=beq_iff_eq.mpr c13
   have c13b1:(t193 != 0)=false:=bne_eq_false_iff_eq.mpr c13
   clear c13
   (first|rw [c13b0]|(simp only [i64_w,i32_w];rw [c13b0])|skip)
   have H':=mk_ H
   clear H
   have Dl:=Af.out
   have Dm:=Ae.out
   have Dn:=Ag.out
   have Do:=Ah.out
   obtain ⟨As,At,Au⟩:=cz3 Ab.out
   obtain ⟨Av,Aw,Ax⟩:=fz3 Ab.out
   go_wp2
   go_meet
   case rel=>exact ⟨_,(false),(by first|rfl|(simp;done)|(simp [*];done)),H',⟨by first|omega|exact Nat.le_refl _⟩,⟨by (with_reducible repeat (first|apply Kd.R_alloc|apply Kd.R_drewN|apply Kd.R_drew));exact Kd.R_mono (Kd.R_far (p:=⟨gb199,2,none⟩) (Kd.R_far (p:=⟨gb199,1,none⟩) (Kd.R_far (p:=⟨gb199,0,none⟩) (Kd.R_types Ak.out Ab.out (by decide)) (fun _ hk=>hk.2) (.int .i64 t193)) (fun _ hk=>hk.2) (.int .i64 0)) (fun _ hk=>hk.2) (.slice Ao8 t195.length co8)) (fun _ hk=>trivial)⟩,⟨by (with_reducible repeat (first|refine zq1 ?_ _|refine zq2 ?_|refine zq3 ?_ _));refine fa3 ?_ Ae.out;(with_reducible repeat (first|refine zq1 ?_ _|refine zq2 ?_|refine zq3 ?_ _));exact Ad.out⟩,⟨by (with_reducible repeat (first|refine zq1 ?_ _|refine zq2 ?_|refine zq3 ?_ _));apply pu3;(with_reducible repeat (first|refine zq1 ?_ _|refine zq2 ?_|refine zq3 ?_ _));exact Ab.out⟩,⟨by exact yu3 HI0.out⟩,⟨by exact yu5 HK.out⟩,⟨by exact yu4 HB.out HI0.out⟩⟩
  ·rw [if_neg c13] at H
   have c13b0:(t193 == 0)=false:=beq_eq_false_iff_ne.mpr c13
   have c13b1:(t193 != 0)=true:=bne_iff_ne.mpr c13
   (first|rw [c13b0]|(simp only [i64_w,i32_w];rw [c13b0])|skip)
   have H':=mk_ H
   clear H
   have Dp:=Af.out
   have Dq:=Ae.out
   have Dr:=Ag.out
   have Ds:=Ah.out
   obtain ⟨Ay,Az,A0⟩:=cz3 Ab.out
   obtain ⟨A1,A4,A5⟩:=fz3 Ab.out
   go_wp2
   go_meet
   case rel=>exact ⟨_,(((t195.length:Int) == 0)),(by first|rfl|(simp;done)|(simp [*];done)),H',⟨by first|omega|exact Nat.le_refl _⟩,⟨by (with_reducible repeat (first|apply Kd.R_alloc|apply Kd.R_drewN|apply Kd.R_drew));exact Kd.R_mono (Kd.R_far (p:=⟨gb199,2,none⟩) (Kd.R_far (p:=⟨gb199,1,none⟩) (Kd.R_far (p:=⟨gb199,0,none⟩) (Kd.R_types Ak.out Ab.out (by decide)) (fun _ hk=>hk.2) (.int .i64 t193)) (fun _ hk=>hk.2) (.int .i64 0)) (fun _ hk=>hk.2) (.slice Ao8 t195.length co8)) (fun _ hk=>trivial)⟩,⟨by (with_reducible repeat (first|refine zq1 ?_ _|refine zq2 ?_|refine zq3 ?_ _));refine fa3 ?_ Ae.out;(with_reducible repeat (first|refine zq1 ?_ _|refine zq2 ?_|refine zq3 ?_ _));exact Ad.out⟩,⟨by (with_reducible repeat (first|refine zq1 ?_ _|refine zq2 ?_|refine zq3 ?_ _));apply pu3;(with_reducible repeat (first|refine zq1 ?_ _|refine zq2 ?_|refine zq3 ?_ _));exact Ab.out⟩,⟨by exact yu3 HI0.out⟩,⟨by exact yu5 HK.out⟩,⟨by exact yu4 HB.out HI0.out⟩⟩
 case rest =>
  clear Bg
  try clear c1
  try clear p2
  try clear c6
  try clear c7
  try clear c9
  try clear c10
  try clear c11
  try clear c13
  try clear c13b0
  try clear c13b1
  try clear c14
  try clear c15
  try clear c17
  try clear c18
  try clear Am An Ao
  try clear As At Au
  try clear Ay Az A0
  try clear Ap Aq Ar
  try clear Av Aw Ax
  try clear A1 A4 A5
  obtain ⟨kq,Al,rfl,HA,HJ3,Ac,Ad,Ab,HI0,HK,HB⟩:=hcut
  cases kq with
  |zero=>exact absurd HA.out (by simp [spec_l20Part.j0])
  |succ A8 =>
   have H:=HA.out
   clear HA
   simp only [spec_l20Part.j0] at H
   have A6:=mk_ H
   clear H
   go_upto_if 17 with (fail)
   go_cut [] (fun wc=>∃ (kq:Nat) (Aa:List Int) (u200002:Value),Aside0 (spec_l20Part.j1 kq s0_0 t198 t193 0 Aa=some (r1,r2,r3,r4))∧Aside0 (kq≤A8)∧Aside0 (Kd.R ku 5 wc w.heap.size (fun _=>True) u200002 Aa)∧Aside0 (wc.heap[gb192]? =some (.cells #[.int .i64 0,.int .i64 0,(.slice none 0 0)] 39 (0,0)))∧Aside0 (wc.heap[gb199]? =some (.cells #[.int .i64 t193,.int .i64 0,u200002] 39 (0,0)))∧Aside0 (IsS113 w0 wc g s0_0 t198)∧Aside0 (KeepBut w wc g none)∧Aside0 (Below w0.heap.size w0 wc))
   case first =>
    have H:=A6.out
    clear A6
    by_cases c21:Al=true
    ·subst c21
     have H1:(spec_l20Part.j1 A8 s0_0 t198 t193 0 (([7]:List Int)))=some (r1,r2,r3,r4):=by rw [if_pos rfl] at H;exact H
     clear H
     have H:=H1
     clear H1
     obtain ⟨y200,hy200⟩:∃ y_:List Int,y_=(([7]:List Int)):=⟨_,rfl⟩
     replace H:(spec_l20Part.j1 A8 s0_0 t198 t193 0 y200)=some (r1,r2,r3,r4):=by first|(rw [hy200];with_reducible exact H)|(have H2_:=(Option.bind_some _ _).symm.trans H;rw [hy200];with_reducible exact H2_)|(have H2_:=(Option.bind_some _ _).symm.trans H;with_reducible exact H2_)|with_reducible exact H|(rw [hy200];exact H)|exact H
     have Ny200:=mk_ hy200
     clear hy200
     have H':=mk_ H
     clear H
     go_wp2_with (first|((with_reducible refine gate_dst (N:=18) rfl ?_);(try (refine gate_guard (by rfl) ?_;dsimp only));refine Kd.R_lit ku _ 5 ?hg (N:=18) ?hd (xs:=([7]:List Int)) (inner:=[.int .u8 7]) (ok:=fun _=>True) (okp:=fun _=>True) ?hr ?hp (fun _ hk=>hk) trivial (Below.refl _ _) (Nat.le_refl _) (by simp) ?_;(case hd=>rfl);(case hg=>rfl);(case hr=>first|(go_simp;done)|(go_simp;rfl));(case hp=>exact (Reps.one (show Kd.M ku _ _ _ 7 [.int .u8 7] from rfl) (Reps.none _ _)));intro v201 El ho23 hb hg_ hnew_;clear hg_ hnew_;(first|rw [← Ny200.out] at ho23|(simp only [Int.reduceToNat] at ho23;rw [← Ny200.out] at ho23));have A9:=mk_ (Kd.R_lower (Kd.R_new' ho23 (Kd.R_lt (mR Ac.out))) (keep_size (w:=w) (g:=g) (row:=none) (yu5 HK.out)));replace Ac:=mk_ (Kd.R_elder' (mR Ac.out) (Kd.R_base ho23) hb);replace Ad:=mk_ (zq6 (by exact Ad.out) hb);replace Ab:=mk_ (zq6 (by exact Ab.out) hb);replace HK:=mk_ (KeepBut.trans (yu5 HK.out) (KeepBut.of_below hb g none) (.inl rfl));replace HB:=mk_ (zr3 (yu4 HB.out HI0.out) hb);replace HI0:=mk_ (IsS113.below (yu3 HI0.out) hb);clear hb ho23;obtain ⟨Ao24,co24,eo24⟩:=Kd.R_slice A9.out;subst eo24;have Dt:=Af.out;have Du:=Ae.out;have Dv:=Ag.out;have Dw:=Ah.out;obtain ⟨Ba,Bb,Bc⟩:=cz3 Ab.out;obtain ⟨Bd,Be,Bf⟩:=fz3 Ab.out))
     go_meet
     case rel=>exact ⟨_,(y200),(.slice Ao24 y200.length co24),H',⟨by have:=HJ3.out;first|omega|exact Nat.le_refl _⟩,⟨by (with_reducible repeat (first|apply Kd.R_alloc|apply Kd.R_drewN|apply Kd.R_drew));exact Kd.R_mono (Kd.R_far (p:=⟨gb199,2,none⟩) (Kd.R_types A9.out Ab.out (by decide)) (fun _ hk=>hk.2) (.slice Ao24 y200.length co24)) (fun _ hk=>trivial)⟩,⟨by (with_reducible repeat (first|refine zq1 ?_ _|refine zq2 ?_|refine zq3 ?_ _));refine zq5 ?_ Ae.out _;(with_reducible repeat (first|refine zq1 ?_ _|refine zq2 ?_|refine zq3 ?_ _));exact Ad.out⟩,⟨by (with_reducible repeat (first|refine zq1 ?_ _|refine zq2 ?_|refine zq3 ?_ _));refine zq4 (cs:=#[.int .i64 t193,.int .i64 0,.slice Ao8 t195.length co8]) ?_ 2 _ rfl;(with_reducible repeat (first|refine zq1 ?_ _|refine zq2 ?_|refine zq3 ?_ _));exact Ab.out⟩,⟨by exact yu3 HI0.out⟩,⟨by exact yu5 HK.out⟩,⟨by exact yu4 HB.out HI0.out⟩⟩
    ·replace c21:=Bool.eq_false_iff.mpr c21
     subst c21
     have H1:(spec_l20Part.j1 A8 s0_0 t198 t193 0 t195)=some (r1,r2,r3,r4):=by rw [if_neg (show ¬ (false=true) by decide)] at H;exact H
     clear H
     have H:=H1
     clear H1
     have H':=mk_ H
     clear H
     go_wp2
     go_meet
     case rel=>exact ⟨_,(t195),(.slice Ao8 t195.length co8),H',⟨by have:=HJ3.out;first|omega|exact Nat.le_refl _⟩,⟨by (with_reducible repeat (first|apply Kd.R_alloc|apply Kd.R_drewN|apply Kd.R_drew));exact Ac.out⟩,⟨by (with_reducible repeat (first|refine zq1 ?_ _|refine zq2 ?_|refine zq3 ?_ _));exact Ad.out⟩,⟨by (with_reducible repeat (first|refine zq1 ?_ _|refine zq2 ?_|refine zq3 ?_ _));exact Ab.out⟩,⟨by exact yu3 HI0.out⟩,⟨by exact yu5 HK.out⟩,⟨by exact yu4 HB.out HI0.out⟩⟩
   case rest =>
    clear A6
    try clear c1
    try clear c2
    try clear p2
    try clear c6
    try clear c7
    try clear c9
    try clear c10
    try clear c11
    try clear c13
    try clear c13b0
    try clear c13b1
    try clear c14
    try clear c15
    try clear c17
    try clear c18
    try clear c21
    try clear c25
    try clear c26
    try clear Am An Ao
    try clear As At Au
    try clear Ay Az A0
    try clear Ba Bb Bc
    try clear Ap Aq Ar
    try clear Av Aw Ax
    try clear A1 A4 A5
    try clear Bd Be Bf
    try clear p2
    obtain ⟨kq,Aa,u200002,HA,HJ19,Ac,Ad,Ab,HI0,HK,HB⟩:=hcut
    cases kq with
    |zero=>exact absurd HA.out (by simp [spec_l20Part.j1])
    |succ Bh =>
     have H:=HA.out
     clear HA
     simp only [spec_l20Part.j1] at H
     by_cases c28:t193=0
     ·rw [if_pos c28] at H
      have c28b0:(t193 == 0)=true:=beq_iff_eq.mpr c28
      have c28b1:(t193 != 0)=false:=bne_eq_false_iff_eq.mpr c28
      clear c28
      by_cases c29:t193=1
      ·rw [if_pos c29] at H
       have c29b0:(t193 == 1)=true:=beq_iff_eq.mpr c29
       have c29b1:(t193 != 1)=false:=bne_eq_false_iff_eq.mpr c29
       clear c29
       replace H:=Option.bind_eq_some_iff.mp H
       obtain ⟨⟨t203,t204⟩,Bi,H⟩:=H
       try dsimp only at H
       have A7:=mk_ Bi
       clear Bi
       simp only [Option.some.injEq,Prod.mk.injEq] at H
       obtain ⟨rfl,rfl,rfl,rfl⟩:=H
       have Dx:=Af.out
       have Dy:=Ae.out
       have Dz:=Ag.out
       have D0:=Ah.out
       obtain ⟨Bl,Bm,Bn⟩:=cz3 Ab.out
       obtain ⟨Bo,Bp,Bq⟩:=fz3 Ab.out
       obtain ⟨Ao34,co34,eo34⟩:=Kd.R_slice Ac.out
       subst eo34
       try go_wp2
       have n0_:Aside0 (Kd.R ku 5 (wc.setCell ⟨gb199,1,none⟩ (.int .i64 (Aa.length:Int))) w.heap.size (fun _=>True) (.slice Ao34 Aa.length co34) Aa):=⟨by (with_reducible repeat (first|apply Kd.R_alloc|apply Kd.R_drewN|apply Kd.R_drew));exact Kd.R_mono (Kd.R_far (p:=⟨gb199,1,none⟩) (Kd.R_types Ac.out Ab.out (by decide)) (fun _ hk=>hk.2) (.int .i64 (Aa.length:Int))) (fun _ hk=>trivial)⟩
       have n1_:Aside0 ((wc.setCell ⟨gb199,1,none⟩ (.int .i64 (Aa.length:Int))).heap[gb192]? =some (.cells #[.int .i64 0,.int .i64 0,.slice none 0 0] 39 (0,0))):=⟨by (with_reducible repeat (first|refine zq1 ?_ _|refine zq2 ?_|refine zq3 ?_ _));refine zq5 ?_ Ae.out _;(with_reducible repeat (first|refine zq1 ?_ _|refine zq2 ?_|refine zq3 ?_ _));exact Ad.out⟩
       have n2_:Aside0 ((wc.setCell ⟨gb199,1,none⟩ (.int .i64 (Aa.length:Int))).heap[gb199]? =some (.cells #[.int .i64 t193,.int .i64 (Aa.length:Int),.slice Ao34 Aa.length co34] 39 (0,0))):=⟨by (with_reducible repeat (first|refine zq1 ?_ _|refine zq2 ?_|refine zq3 ?_ _));refine zq4 (cs:=#[.int .i64 t193,.int .i64 0,.slice Ao34 Aa.length co34]) ?_ 1 _ rfl;(with_reducible repeat (first|refine zq1 ?_ _|refine zq2 ?_|refine zq3 ?_ _));exact Ab.out⟩
       have n3_:Aside0 (IsS113 w0 (wc.setCell ⟨gb199,1,none⟩ (.int .i64 (Aa.length:Int))) g s0_0 t198):=⟨by exact yu3 HI0.out⟩
       have n4_:Aside0 (KeepBut w (wc.setCell ⟨gb199,1,none⟩ (.int .i64 (Aa.length:Int))) g none):=⟨by exact yu5 HK.out⟩
       have n5_:Aside0 (Below w0.heap.size w0 (wc.setCell ⟨gb199,1,none⟩ (.int .i64 (Aa.length:Int)))):=⟨by exact yu4 HB.out HI0.out⟩
       (try clear Ac)
       (try clear Ad)
       (try clear Ab)
       (try clear HI0)
       (try clear HK)
       (try clear HB)
       generalize (wc.setCell ⟨gb199,1,none⟩ (.int .i64 (Aa.length:Int)))=C9 at n0_ n1_ n2_ n3_ n4_ n5_ ⊢
       have Ac:=n0_
       have Ad:=n1_
       have Ab:=n2_
       have HI0:=n3_
       have HK:=n4_
       have HB:=n5_
       clear n0_ n1_ n2_ n3_ n4_ n5_
       replace Ac:=mk_ (Kd.R_drew Ac.out)
       replace Ad:=mk_ (zq2 Ad.out)
       replace Ab:=mk_ (zq2 Ab.out)
       replace HI0:=mk_ (IsS113.drew HI0.out)
       replace HK:=mk_ (zr8 HK.out)
       replace HB:=mk_ (zq9 HB.out)
       refine start_ (n:=13) (S:=fun w'=>w'.cell? ⟨gb199,0,none⟩=some (.int .i64 t193)∧w'.cell? ⟨gb199,1,none⟩=some (.int .i64 (Aa.length:Int))∧w'.cell? ⟨gb199,2,none⟩=some (.slice Ao34 Aa.length co34)) (ds:=[12]) (bm 13 0) (by kernel_rfl) rfl rfl ⟨(zr4 Ab.out 0).trans rfl,(zr4 Ab.out 1).trans rfl,(zr4 Ab.out 2).trans rfl⟩ (fun hHeld=>?_);refine with_tabW spec_l20Part.tab7 spec_l20Part.bits7 (fun HT_ HW_=>?_)
       generalize C9.drew=Em at Ac Ad Ab HI0 HK HB hHeld ⊢
       refine pA 0 (some 30) (bm 13 1) rfl rfl HT_.out (by kernel_rfl) (fun _ _ _ h=>h) (by rfl) (by intro w';go_simp;with_reducible rfl) (by simp only [Act.put,zs1,zs2,zs3,i64_w,i32_w];rfl) ?_
       refine pA 4 (some 34) (bm 13 17) rfl rfl HT_.out (by kernel_rfl) (fun _ _ _ h=>h) (by rfl) (by intro w';go_simp;with_reducible rfl) (by simp only [Act.put,zs1,zs2,zs3,i64_w,i32_w];rfl) ?_
       refine pA 5 (some 35) (bm 13 49) rfl rfl HT_.out (by kernel_rfl) (fun _ _ _ h=>h) (by rfl) (by intro w';go_simp;with_reducible rfl) (by simp only [Act.put,zs1,zs2,zs3,i64_w,i32_w];rfl) ?_
       refine tA 1 (some 31) (bm 13 51) rfl rfl HT_.out HW_.out (by kernel_rfl) (fun _ _ _ h=>h) (by rfl) hHeld (by rintro w' ⟨s0,s1,s2⟩;go_simp;with_reducible rfl) (by simp only [Act.put,zs1,zs2,zs3,i64_w,i32_w];rfl) ?_
       refine pA 2 (some 32) (bm 13 55) rfl rfl HT_.out (by kernel_rfl) (fun _ _ _ h=>h) (by rfl) (by intro w';go_simp;with_reducible rfl) (by simp only [Act.put,zs1,zs2,zs3,i64_w,i32_w];rfl) ?_
       refine pA 3 (some 33) (bm 13 63) rfl rfl HT_.out (by kernel_rfl) (fun _ _ _ h=>h) (by rfl) (by intro w';go_simp;with_reducible rfl) (by simp only [Act.put,zs1,zs2,zs3,i64_w,i32_w];rfl) ?_
       refine tA 6 (some 36) (bm 13 127) rfl rfl HT_.out HW_.out (by kernel_rfl) (fun _ _ _ h=>h) (by rfl) hHeld (by rintro w' ⟨s0,s1,s2⟩;go_simp;with_reducible rfl) (by simp only [Act.put,zs1,zs2,zs3,i64_w,i32_w];rfl) ?_
       refine pA 7 (some 37) (bm 13 255) rfl rfl HT_.out (by kernel_rfl) (fun _ _ _ h=>h) (by rfl) (by intro w';go_simp;with_reducible rfl) (by simp only [Act.put,zs1,zs2,zs3,i64_w,i32_w];rfl) ?_
       refine pA 8 (some 38) (bm 13 511) rfl rfl HT_.out (by kernel_rfl) (fun _ _ _ h=>h) (by rfl) (by intro w';go_simp;with_reducible rfl) (by simp only [Act.put,zs1,zs2,zs3,i64_w,i32_w];rfl) ?_
       refine one_ (i:=9) (N:=some 39) (bm 13 1023) rfl rfl (one_of HT_.out (by kernel_rfl)) (by decide) (fun K hK=>?_)
       refine goes_ Try.func70 (by kernel_rfl) rfl #[.pointer (some ⟨g,0,none⟩),.int .i64 (wrap64 (24 - (Aa.length:Int)))] (by rfl) rfl rfl am ?_
       with_reducible refine (spec_l20Rd_pick.calls Bh g s0_0 t198 (wrap64 (24 - (Aa.length:Int))) t203 t204 w0 _ ?side1 ?side2 A7.out).mono ?_
       (case side1=>exact yu3 HI0.out)
       (case side2=>exact yu4 HB.out HI0.out)
       rintro e Da ⟨rfl,hi,hb,hk⟩
       refine ⟨_,rfl,?_⟩
       replace Ac:=mk_ (Kd.R_mono (Kd.R_keep (IsS113.apart (show IsS113 w0 _ g s0_0 t198 from by exact yu3 HI0.out) (mR Ac.out) (by decide)) hk (fun _ h=>h.2)) (fun _ h=>h.1))
       replace Ad:=mk_ (KeepBut.blk hk (g':=gb192) (o:=.cells #[.int .i64 0,.int .i64 0,.slice none 0 0] 39 (0,0)) (by exact Ad.out) Ai.out (by simp))
       replace Ab:=mk_ (KeepBut.blk hk (g':=gb199) (o:=.cells #[.int .i64 t193,.int .i64 (Aa.length:Int),.slice Ao34 Aa.length co34] 39 (0,0)) (by exact Ab.out) Ag.out (by simp))
       replace HK:=mk_ (KeepBut.trans (yu5 HK.out) hk (.inl rfl))
       replace HB:=mk_ (hb)
       replace HI0:=mk_ (hi)
       (try clear hb)
       (try clear hb2)
       (try clear hk)
       (try clear hi)
       refine hK.out _ _ ⟨(zr4 Ab.out 0).trans rfl,(zr4 Ab.out 1).trans rfl,(zr4 Ab.out 2).trans rfl⟩ (fun hHeld=>?_)
       clear hK K
       refine norm_ (a':=?_) ?_ ?_
       rotate_left
       ·show Act.put _ (some 39) _=_
        simp only [Act.put,zs1,zs2,zs3,i64_w,i32_w]
        rfl
       refine pA 10 (some 40) (bm 13 2047) rfl rfl HT_.out (by kernel_rfl) (fun _ _ _ h=>h) (by rfl) (by intro w';go_simp;with_reducible rfl) (by simp only [Act.put,zs1,zs2,zs3,i64_w,i32_w];rfl) ?_
       refine pA 11 (some 41) (bm 13 4095) rfl rfl HT_.out (by kernel_rfl) (fun _ _ _ h=>h) (by rfl) (by intro w';go_simp;with_reducible rfl) (by simp only [Act.put,zs1,zs2,zs3,i64_w,i32_w];rfl) ?_
       refine last_ (i:=12) (N:=none) (bm 13 8191) rfl rfl (one_of HT_.out (by kernel_rfl)) (by decide) (fun K hK=>?_)
       have hs38:Da.cell? ⟨gb199,1,none⟩=some (.int .i64 (Aa.length:Int)):=(zr4 Ab.out 1).trans rfl
       have hfs38:=zr5 Ab.out 1
       have hns38_0:=Ae.out
       have hms38_0:=Af.out
       refine skip_ (w1:=?_) (by rfl) rfl ?_ ?_
       rotate_left
       ·go_simp
        rfl
       refine hK.out _ _ ?_
       clear hK K
       refine done_ (done_of HT_.out (by kernel_rfl)) ?_
       obtain ⟨Br,Bs,Bt⟩:=cz3 Ab.out
       obtain ⟨Bu,Bv,Bw⟩:=fz3 Ab.out
       have D1:=Ai.out
       have D2:=Aj.out
       obtain ⟨Bx,By,Bz⟩:=cz3 Ad.out
       obtain ⟨B0,B1,B2⟩:=fz3 Ad.out
       try go_wp2
       refine bodyPost_ret (results_cell_row rfl _ _ gb192 39 #[.int .i64 t193,.int .i64 (wrap64 ((wrap64 ((Aa.length:Int)+1))+t203)),.slice Ao34 Aa.length co34] (0,0) _ rfl (yv2 Ae.out Ad.out) Try.underlying39 rfl (by kernel_rfl)) rfl ?_
       exact ⟨_,by first|rfl|(simp [errW_none,errW_some] <;> rfl)|(simp [*,errW_none,errW_some] <;> rfl),by (with_reducible repeat (first|apply Kd.R_alloc|apply Kd.R_drewN|apply Kd.R_drew));exact Kd.R_mono (Kd.R_far (p:=⟨gb192,2,none⟩) (Kd.R_far (p:=⟨gb192,1,none⟩) (Kd.R_far (p:=⟨gb192,0,none⟩) (Kd.R_far (p:=⟨gb199,1,none⟩) (Kd.R_types (Kd.R_types Ac.out Ab.out (by decide)) Ad.out (by decide)) (fun _ hk=>hk.1.2) (.int .i64 (wrap64 ((wrap64 ((Aa.length:Int)+1))+t203)))) (fun _ hk=>hk.2) (.int .i64 t193)) (fun _ hk=>hk.2) (.int .i64 (wrap64 ((wrap64 ((Aa.length:Int)+1))+t203)))) (fun _ hk=>hk.2) (.slice Ao34 Aa.length co34)) (fun _ hk=>trivial),by exact yu3 HI0.out,by exact yu4 HB.out HI0.out,by exact yu5 HK.out⟩
      ·rw [if_neg c29] at H
       have c29b0:(t193 == 1)=false:=beq_eq_false_iff_ne.mpr c29
       have c29b1:(t193 != 1)=true:=bne_iff_ne.mpr c29
       simp only [Option.some.injEq,Prod.mk.injEq] at H
       obtain ⟨rfl,rfl,rfl,rfl⟩:=H
       have D3:=Af.out
       have D4:=Ae.out
       have D5:=Ag.out
       have D6:=Ah.out
       obtain ⟨B3,B4,B5⟩:=cz3 Ab.out
       obtain ⟨B6,B7,B8⟩:=fz3 Ab.out
       obtain ⟨Ao45,co45,eo45⟩:=Kd.R_slice Ac.out
       subst eo45
       have D7:=Ai.out
       have D8:=Aj.out
       obtain ⟨B9,Ca,Cb⟩:=cz3 Ad.out
       obtain ⟨Cc,Cd,Ce⟩:=fz3 Ad.out
       go_wp2
       refine bodyPost_ret (results_cell_row rfl _ _ gb192 39 #[.int .i64 t193,.int .i64 (Aa.length:Int),.slice Ao45 Aa.length co45] (0,0) _ rfl (yv2 Ae.out Ad.out) Try.underlying39 rfl (by kernel_rfl)) rfl ?_
       exact ⟨_,by first|rfl|(simp [errW_none,errW_some] <;> rfl)|(simp [*,errW_none,errW_some] <;> rfl),by (with_reducible repeat (first|apply Kd.R_alloc|apply Kd.R_drewN|apply Kd.R_drew));exact Kd.R_mono (Kd.R_far (p:=⟨gb192,2,none⟩) (Kd.R_far (p:=⟨gb192,1,none⟩) (Kd.R_far (p:=⟨gb192,0,none⟩) (Kd.R_far (p:=⟨gb199,1,none⟩) (Kd.R_types (Kd.R_types Ac.out Ab.out (by decide)) Ad.out (by decide)) (fun _ hk=>hk.1.2) (.int .i64 (Aa.length:Int))) (fun _ hk=>hk.2) (.int .i64 t193)) (fun _ hk=>hk.2) (.int .i64 (Aa.length:Int))) (fun _ hk=>hk.2) (.slice Ao45 Aa.length co45)) (fun _ hk=>trivial),by exact yu3 HI0.out,by exact yu4 HB.out HI0.out,by exact yu5 HK.out⟩
     ·rw [if_neg c28] at H
      have c28b0:(t193 == 0)=false:=beq_eq_false_iff_ne.mpr c28
      have c28b1:(t193 != 0)=true:=bne_iff_ne.mpr c28
      by_cases c48:t193=1
      ·rw [if_pos c48] at H
       have c48b0:(t193 == 1)=true:=beq_iff_eq.mpr c48
       have c48b1:(t193 != 1)=false:=bne_eq_false_iff_eq.mpr c48
       clear c48
       replace H:=Option.bind_eq_some_iff.mp H
       obtain ⟨⟨t205,t206⟩,Bj,H⟩:=H
       try dsimp only at H
       have Db:=mk_ Bj
       clear Bj
       simp only [Option.some.injEq,Prod.mk.injEq] at H
       obtain ⟨rfl,rfl,rfl,rfl⟩:=H
       have D9:=Af.out
       have Ea:=Ae.out
       have Eb:=Ag.out
       have Ec:=Ah.out
       obtain ⟨Cf,Cg,Ch⟩:=cz3 Ab.out
       obtain ⟨Ci,Cj,Ck⟩:=fz3 Ab.out
       try go_wp2
       replace Ac:=mk_ (Kd.R_drew Ac.out)
       replace Ad:=mk_ (zq2 Ad.out)
       replace Ab:=mk_ (zq2 Ab.out)
       replace HI0:=mk_ (IsS113.drew HI0.out)
       replace HK:=mk_ (zr8 HK.out)
       replace HB:=mk_ (zq9 HB.out)
       obtain ⟨Ao54,co54,eo54⟩:=Kd.R_slice Ac.out
       (first|subst eo54|(injection eo54 with f1_ f2_ f3_;have f4_:=f1_.symm;have f5_:=f3_.symm;clear f1_ f2_ f3_;subst f4_;subst f5_))
       refine start_ (n:=13) (S:=fun w'=>w'.cell? ⟨gb199,0,none⟩=some (.int .i64 t193)∧w'.cell? ⟨gb199,1,none⟩=some (.int .i64 0)∧w'.cell? ⟨gb199,2,none⟩=some (.slice Ao54 Aa.length co54)) (ds:=[12]) (bm 13 0) (by kernel_rfl) rfl rfl ⟨(zr4 Ab.out 0).trans rfl,(zr4 Ab.out 1).trans rfl,(zr4 Ab.out 2).trans rfl⟩ (fun hHeld=>?_);refine with_tabW spec_l20Part.tab7 spec_l20Part.bits7 (fun HT_ HW_=>?_)
       generalize wc.drew=En at Ac Ad Ab HI0 HK HB hHeld ⊢
       refine pA 0 (some 30) (bm 13 1) rfl rfl HT_.out (by kernel_rfl) (fun _ _ _ h=>h) (by rfl) (by intro w';go_simp;with_reducible rfl) (by simp only [Act.put,zs1,zs2,zs3,i64_w,i32_w];rfl) ?_
       refine pA 4 (some 34) (bm 13 17) rfl rfl HT_.out (by kernel_rfl) (fun _ _ _ h=>h) (by rfl) (by intro w';go_simp;with_reducible rfl) (by simp only [Act.put,zs1,zs2,zs3,i64_w,i32_w];rfl) ?_
       refine pA 5 (some 35) (bm 13 49) rfl rfl HT_.out (by kernel_rfl) (fun _ _ _ h=>h) (by rfl) (by intro w';go_simp;with_reducible rfl) (by simp only [Act.put,zs1,zs2,zs3,i64_w,i32_w];rfl) ?_
       refine tA 1 (some 31) (bm 13 51) rfl rfl HT_.out HW_.out (by kernel_rfl) (fun _ _ _ h=>h) (by rfl) hHeld (by rintro w' ⟨s0,s1,s2⟩;go_simp;with_reducible rfl) (by simp only [Act.put,zs1,zs2,zs3,i64_w,i32_w];rfl) ?_
       refine pA 2 (some 32) (bm 13 55) rfl rfl HT_.out (by kernel_rfl) (fun _ _ _ h=>h) (by rfl) (by intro w';go_simp;with_reducible rfl) (by simp only [Act.put,zs1,zs2,zs3,i64_w,i32_w];rfl) ?_
       refine pA 3 (some 33) (bm 13 63) rfl rfl HT_.out (by kernel_rfl) (fun _ _ _ h=>h) (by rfl) (by intro w';go_simp;with_reducible rfl) (by simp only [Act.put,zs1,zs2,zs3,i64_w,i32_w];rfl) ?_
       refine tA 6 (some 36) (bm 13 127) rfl rfl HT_.out HW_.out (by kernel_rfl) (fun _ _ _ h=>h) (by rfl) hHeld (by rintro w' ⟨s0,s1,s2⟩;go_simp;with_reducible rfl) (by simp only [Act.put,zs1,zs2,zs3,i64_w,i32_w];rfl) ?_
       refine pA 7 (some 37) (bm 13 255) rfl rfl HT_.out (by kernel_rfl) (fun _ _ _ h=>h) (by rfl) (by intro w';go_simp;with_reducible rfl) (by simp only [Act.put,zs1,zs2,zs3,i64_w,i32_w];rfl) ?_
       refine pA 8 (some 38) (bm 13 511) rfl rfl HT_.out (by kernel_rfl) (fun _ _ _ h=>h) (by rfl) (by intro w';go_simp;with_reducible rfl) (by simp only [Act.put,zs1,zs2,zs3,i64_w,i32_w];rfl) ?_
       refine one_ (i:=9) (N:=some 39) (bm 13 1023) rfl rfl (one_of HT_.out (by kernel_rfl)) (by decide) (fun K hK=>?_)
       refine goes_ Try.func70 (by kernel_rfl) rfl #[.pointer (some ⟨g,0,none⟩),.int .i64 (wrap64 (24 - (Aa.length:Int)))] (by rfl) rfl rfl am ?_
       with_reducible refine (spec_l20Rd_pick.calls Bh g s0_0 t198 (wrap64 (24 - (Aa.length:Int))) t205 t206 w0 _ ?side1 ?side2 Db.out).mono ?_
       (case side1=>exact yu3 HI0.out)
       (case side2=>exact yu4 HB.out HI0.out)
       rintro e Dc ⟨rfl,hi,hb,hk⟩
       refine ⟨_,rfl,?_⟩
       replace Ac:=mk_ (Kd.R_mono (Kd.R_keep (IsS113.apart (show IsS113 w0 _ g s0_0 t198 from by exact yu3 HI0.out) (mR Ac.out) (by decide)) hk (fun _ h=>h.2)) (fun _ h=>h.1))
       replace Ad:=mk_ (KeepBut.blk hk (g':=gb192) (o:=.cells #[.int .i64 0,.int .i64 0,.slice none 0 0] 39 (0,0)) (by exact Ad.out) Ai.out (by simp))
       replace Ab:=mk_ (KeepBut.blk hk (g':=gb199) (o:=.cells #[.int .i64 t193,.int .i64 0,.slice Ao54 Aa.length co54] 39 (0,0)) (by exact Ab.out) Ag.out (by simp))
       replace HK:=mk_ (KeepBut.trans (yu5 HK.out) hk (.inl rfl))
       replace HB:=mk_ (hb)
       replace HI0:=mk_ (hi)
       (try clear hb)
       (try clear hb2)
       (try clear hk)
       (try clear hi)
       refine hK.out _ _ ⟨(zr4 Ab.out 0).trans rfl,(zr4 Ab.out 1).trans rfl,(zr4 Ab.out 2).trans rfl⟩ (fun hHeld=>?_)
       clear hK K
       refine norm_ (a':=?_) ?_ ?_
       rotate_left
       ·show Act.put _ (some 39) _=_
        simp only [Act.put,zs1,zs2,zs3,i64_w,i32_w]
        rfl
       refine pA 10 (some 40) (bm 13 2047) rfl rfl HT_.out (by kernel_rfl) (fun _ _ _ h=>h) (by rfl) (by intro w';go_simp;with_reducible rfl) (by simp only [Act.put,zs1,zs2,zs3,i64_w,i32_w];rfl) ?_
       refine pA 11 (some 41) (bm 13 4095) rfl rfl HT_.out (by kernel_rfl) (fun _ _ _ h=>h) (by rfl) (by intro w';go_simp;with_reducible rfl) (by simp only [Act.put,zs1,zs2,zs3,i64_w,i32_w];rfl) ?_
       refine last_ (i:=12) (N:=none) (bm 13 8191) rfl rfl (one_of HT_.out (by kernel_rfl)) (by decide) (fun K hK=>?_)
       have hs56:Dc.cell? ⟨gb199,1,none⟩=some (.int .i64 0):=(zr4 Ab.out 1).trans rfl
       have hfs56:=zr5 Ab.out 1
       have hns56_0:=Ae.out
       have hms56_0:=Af.out
       refine skip_ (w1:=?_) (by rfl) rfl ?_ ?_
       rotate_left
       ·go_simp
        rfl
       refine hK.out _ _ ?_
       clear hK K
       refine done_ (done_of HT_.out (by kernel_rfl)) ?_
       obtain ⟨Cl,Cm,Cn⟩:=cz3 Ab.out
       obtain ⟨Co,Cp,Cq⟩:=fz3 Ab.out
       have Ed:=Ai.out
       have Ee:=Aj.out
       obtain ⟨Cr,Cs,Ct⟩:=cz3 Ad.out
       obtain ⟨Cu,Cv,Cw⟩:=fz3 Ad.out
       try go_wp2
       refine bodyPost_ret (results_cell_row rfl _ _ gb192 39 #[.int .i64 t193,.int .i64 (wrap64 ((wrap64 ((Aa.length:Int)+1))+t205)),.slice Ao54 Aa.length co54] (0,0) _ rfl (yv2 Ae.out Ad.out) Try.underlying39 rfl (by kernel_rfl)) rfl ?_
       exact ⟨_,by first|rfl|(simp [errW_none,errW_some] <;> rfl)|(simp [*,errW_none,errW_some] <;> rfl),by (with_reducible repeat (first|apply Kd.R_alloc|apply Kd.R_drewN|apply Kd.R_drew));exact Kd.R_mono (Kd.R_far (p:=⟨gb192,2,none⟩) (Kd.R_far (p:=⟨gb192,1,none⟩) (Kd.R_far (p:=⟨gb192,0,none⟩) (Kd.R_far (p:=⟨gb199,1,none⟩) (Kd.R_types (Kd.R_types Ac.out Ab.out (by decide)) Ad.out (by decide)) (fun _ hk=>hk.1.2) (.int .i64 (wrap64 ((wrap64 ((Aa.length:Int)+1))+t205)))) (fun _ hk=>hk.2) (.int .i64 t193)) (fun _ hk=>hk.2) (.int .i64 (wrap64 ((wrap64 ((Aa.length:Int)+1))+t205)))) (fun _ hk=>hk.2) (.slice Ao54 Aa.length co54)) (fun _ hk=>trivial),by exact yu3 HI0.out,by exact yu4 HB.out HI0.out,by exact yu5 HK.out⟩
      ·rw [if_neg c48] at H
       have c48b0:(t193 == 1)=false:=beq_eq_false_iff_ne.mpr c48
       have c48b1:(t193 != 1)=true:=bne_iff_ne.mpr c48
       simp only [Option.some.injEq,Prod.mk.injEq] at H
       obtain ⟨rfl,rfl,rfl,rfl⟩:=H
       have Ef:=Af.out
       have Eg:=Ae.out
       have Eh:=Ag.out
       have Ei:=Ah.out
       obtain ⟨Cx,Cy,Cz⟩:=cz3 Ab.out
       obtain ⟨C0,C1,C2⟩:=fz3 Ab.out
       have Ej:=Ai.out
       have Ek:=Aj.out
       obtain ⟨C3,C4,C5⟩:=cz3 Ad.out
       obtain ⟨C6,C7,C8⟩:=fz3 Ad.out
       obtain ⟨Ao65,co65,eo65⟩:=Kd.R_slice Ac.out
       subst eo65
       go_wp2
       refine bodyPost_ret (results_cell_row rfl _ _ gb192 39 #[.int .i64 t193,.int .i64 0,.slice Ao65 Aa.length co65] (0,0) _ rfl (yv1 Ad.out) Try.underlying39 rfl (by kernel_rfl)) rfl ?_
       exact ⟨_,by first|rfl|(simp [errW_none,errW_some] <;> rfl)|(simp [*,errW_none,errW_some] <;> rfl),by (with_reducible repeat (first|apply Kd.R_alloc|apply Kd.R_drewN|apply Kd.R_drew));exact Kd.R_mono (Kd.R_far (p:=⟨gb192,2,none⟩) (Kd.R_far (p:=⟨gb192,1,none⟩) (Kd.R_far (p:=⟨gb192,0,none⟩) (Kd.R_types Ac.out Ad.out (by decide)) (fun _ hk=>hk.2) (.int .i64 t193)) (fun _ hk=>hk.2) (.int .i64 0)) (fun _ hk=>hk.2) (.slice Ao65 Aa.length co65)) (fun _ hk=>trivial),by exact yu3 HI0.out,by exact yu4 HB.out HI0.out,by exact yu5 HK.out⟩

end Go.Proofs.Yteknaofnageihaa.QFnTxOk
