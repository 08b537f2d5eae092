-- Written by a program of this session, a turned copy of the print (not by print.sh itself). Lean checks it.
import Derived.Test.YteknaofnageihaaQFnTxOkx0
import Derived.Test.YteknaofnageihaaQFnTxOkx11
namespace Go.Proofs.Yteknaofnageihaa.QFnTxOk
open Go.RowKit Go.Proofs.YteknaofnageihaaW.PrintWords Go.Proofs.YteknaofnageihaaW.PrintLast Go.Proofs.YteknaofnageihaaW.PrintMore Go.Proofs.YteknaofnageihaaLoc
attribute [local go_sem] max2_int min2_int max_two min_two max_three min_three max_four min_four   -- for this text's walks alone
set_option linter.unusedVariables false
set_option linter.unusedSimpArgs false

/-! ### spec_l2Seg: function 79 -/
def spec_l2Seg.j0 : Nat → Bool → Int → Int → Int → Bool → Bool → Int → Int → Int → List Int → Option (Bool)
  | 0, _, _, _, _, _, _, _, _, _, _ => none
  | k + 1, x23, x285000, x285001, x285002, x285003, x285004, x285005, x285006, x285007, x285008 => if x23 = true then (some false) else (if x285006 = 0 then (some (x285007 == (x285008.length : Int))) else (if x285006 = 1 then ((spec_l1In.f x285007 (wrap64 ((x285008.length : Int) + 1)) 24).bind fun t286 => (if t286 = true then (some (decide ((x285008.length : Int) > 0))) else (some false))) else (if x285007 = 0 then (some (decide ((x285008.length : Int) > 0))) else (some false))))
def spec_l2Seg.f (k : Nat) (a0_0 : Int) (a0_1 : Int) (a0_2 : Int) (a0_3 : Bool) (a0_4 : Bool) (a0_5 : Int) (a0_6 : Int) (a0_7 : Int) (l0_8 : List Int) : Option (Bool) := (spec_l1In.f a0_6 0 3).bind fun t285 => (if t285 = true then (if (l0_8.length : Int) = 0 then (if a0_7 = 0 then (spec_l2Seg.j0 k (decide ((l0_8.length : Int) > 8)) a0_0 a0_1 a0_2 a0_3 a0_4 a0_5 a0_6 a0_7 l0_8) else (spec_l2Seg.j0 k true a0_0 a0_1 a0_2 a0_3 a0_4 a0_5 a0_6 a0_7 l0_8)) else (spec_l2Seg.j0 k (decide ((l0_8.length : Int) > 8)) a0_0 a0_1 a0_2 a0_3 a0_4 a0_5 a0_6 a0_7 l0_8)) else (spec_l2Seg.j0 k true a0_0 a0_1 a0_2 a0_3 a0_4 a0_5 a0_6 a0_7 l0_8))
theorem spec_l2Seg.mono_l : ∀ k, (∀ y0 y1 y2 y3 y4 y5 y6 y7 y8 y9, LeO (spec_l2Seg.j0 k y0 y1 y2 y3 y4 y5 y6 y7 y8 y9) (spec_l2Seg.j0 (k + 1) y0 y1 y2 y3 y4 y5 y6 y7 y8 y9))
  | 0 => fun _ _ _ _ _ _ _ _ _ _ r h => by simp [spec_l2Seg.j0] at h
  | k + 1 => by
    have ih0 := spec_l2Seg.mono_l k
    · intro y0 y1 y2 y3 y4 y5 y6 y7 y8 y9
      unfold spec_l2Seg.j0
      repeat' first
      | (with_reducible exact ih0 _ _ _ _ _ _ _ _ _ _)
      | (with_reducible exact LeO.refl _)
      | (with_reducible exact LeO.none _)
      | (with_reducible refine LeO.ite ?_ ?_)
      | (with_reducible refine LeO.bind ?_ (fun _ => ?_))
      | exact ih0 _ _ _ _ _ _ _ _ _ _
      | exact LeO.none _
      | refine LeO.ite ?_ ?_
      | refine LeO.bind ?_ (fun _ => ?_)
theorem spec_l2Seg.mono : ∀ a0 a1 a2 a3 a4 a5 a6 a7 a8 k, LeO (spec_l2Seg.f k a0 a1 a2 a3 a4 a5 a6 a7 a8) (spec_l2Seg.f (k + 1) a0 a1 a2 a3 a4 a5 a6 a7 a8) := by
 intro a0 a1 a2 a3 a4 a5 a6 a7 a8 k
 have ih0 := spec_l2Seg.mono_l k
 unfold spec_l2Seg.f
 repeat' first
     | (with_reducible exact ih0 _ _ _ _ _ _ _ _ _ _)
     | (with_reducible exact LeO.refl _)
     | (with_reducible exact LeO.none _)
     | (with_reducible refine LeO.ite ?_ ?_)
     | (with_reducible refine LeO.bind ?_ (fun _ => ?_))
     | exact ih0 _ _ _ _ _ _ _ _ _ _
     | exact LeO.none _
     | refine LeO.ite ?_ ?_
     | refine LeO.bind ?_ (fun _ => ?_)
set_option maxHeartbeats 60000000 in
set_option maxRecDepth 100000 in
theorem spec_l2Seg.calls (k : Nat) (a0_0 : Int) (a0_1 : Int) (a0_2 : Int) (a0_3 : Bool) (a0_4 : Bool) (a0_5 : Int) (a0_6 : Int) (a0_7 : Int) (A0_8 : Option Addr) (c0_8 : Nat) (l0_8 : List Int) (r : Bool) (w : World) (hr0_8 : Kd.C (Kd.int .u8) w A0_8 l0_8.length l0_8) (hc0_8 : l0_8.length ≤ c0_8) (h : spec_l2Seg.f k a0_0 a0_1 a0_2 a0_3 a0_4 a0_5 a0_6 a0_7 l0_8 = some r) :
  Calls Try.prog 79 #[.agg #[.int .i64 a0_0,.int .i64 a0_1,.int .i64 a0_2,.bool a0_3,.bool a0_4,.int .i64 a0_5,.int .i64 a0_6,.int .i64 a0_7,.slice A0_8 l0_8.length c0_8]] w fun e w'=>e=.returned (.bool r)∧Below w.heap.size w w':=by
 have hu102:=Try.underlying102
 have E0:=mk_ hr0_8
 have E1:=mk_ hc0_8
 clear hr0_8 hc0_8
 have HB:=mk_ (Below.refl w.heap.size w)
 have H:((spec_l1In.f a0_6 0 3).bind fun t285=>(if t285=true then (if (l0_8.length:Int)=0 then (if a0_7=0 then (spec_l2Seg.j0 k (decide ((l0_8.length:Int) > 8)) a0_0 a0_1 a0_2 a0_3 a0_4 a0_5 a0_6 a0_7 l0_8) else (spec_l2Seg.j0 k true a0_0 a0_1 a0_2 a0_3 a0_4 a0_5 a0_6 a0_7 l0_8)) else (spec_l2Seg.j0 k (decide ((l0_8.length:Int) > 8)) a0_0 a0_1 a0_2 a0_3 a0_4 a0_5 a0_6 a0_7 l0_8)) else (spec_l2Seg.j0 k true a0_0 a0_1 a0_2 a0_3 a0_4 a0_5 a0_6 a0_7 l0_8)))=some r:=h
 clear h
 have Bd:=mk_ H
 clear H
 go_enter Try.func79,Try.ntmps79
 go_upto_region 1 with (first|((with_reducible refine gate_dst (N:=1) rfl ?_);(try (refine gate_guard (by rfl) ?_;dsimp only));refine box_event ?hg (N:=1) ?hd (cs:=#[.int .i64 a0_0,.int .i64 a0_1,.int .i64 a0_2,.bool a0_3,.bool a0_4,.int .i64 a0_5,.int .i64 a0_6,.int .i64 a0_7,.slice A0_8 l0_8.length c0_8]) (t:=102) ?hr ?_;(case hd=>rfl);(case hg=>rfl);(case hr=>first|(go_simp;done)|(go_simp;rfl));intro gb284 hg w3 hbox hb;have Aa:=mk_ (hbox);have Cf:=mk_ ((by rw [hg];exact (zr2 (yu6 HB.out)):w.heap.size≤gb284));have E2:=Cf;replace HB:=mk_ (zr3 (yu6 HB.out) hb);clear hb hbox hg))
 (try simp only [Act.put,List.setIfInBounds_toArray,List.set_cons_zero,List.set_cons_succ])
 go_cut [23] (fun v23 wc=>∃ (kq:Nat) (Ab:Bool),v23=.bool Ab∧Aside0 (spec_l2Seg.j0 kq Ab a0_0 a0_1 a0_2 a0_3 a0_4 a0_5 a0_6 a0_7 l0_8=some r)∧Aside0 (kq≤k)∧Aside0 (wc.heap[gb284]? =some (.cells #[.int .i64 a0_0,.int .i64 a0_1,.int .i64 a0_2,.bool a0_3,.bool a0_4,.int .i64 a0_5,.int .i64 a0_6,.int .i64 a0_7,(.slice A0_8 l0_8.length c0_8)] 102 (0,0)))∧Aside0 (Below w.heap.size w wc))
 case first =>
  have H:=Bd.out
  clear Bd
  replace H:=Option.bind_eq_some_iff.mp H
  obtain ⟨t285,Cg,H⟩:=H
  try dsimp only at H
  have A4:=mk_ Cg
  clear Cg
  by_cases c5:t285=true
  ·subst c5
   have H1:(if (l0_8.length:Int)=0 then (if a0_7=0 then (spec_l2Seg.j0 k (decide ((l0_8.length:Int) > 8)) a0_0 a0_1 a0_2 a0_3 a0_4 a0_5 a0_6 a0_7 l0_8) else (spec_l2Seg.j0 k true a0_0 a0_1 a0_2 a0_3 a0_4 a0_5 a0_6 a0_7 l0_8)) else (spec_l2Seg.j0 k (decide ((l0_8.length:Int) > 8)) a0_0 a0_1 a0_2 a0_3 a0_4 a0_5 a0_6 a0_7 l0_8))=some r:=by rw [if_pos rfl] at H;exact H
   clear H
   have H:=H1
   clear H1
   by_cases c6:(l0_8.length:Int)=0
   ·rw [if_pos c6] at H
    have c6b0:((l0_8.length:Int) == 0)=true:=beq_iff_eq.mpr c6
    have c6b1:((l0_8.length:Int) != 0)=false:=bne_eq_false_iff_eq.mpr c6
    clear c6
    (first|rw [c6b0]|(simp only [i64_w,i32_w];rw [c6b0])|skip)
    by_cases c7:a0_7=0
    ·rw [if_pos c7] at H
     have c7b0:(a0_7 == 0)=true:=beq_iff_eq.mpr c7
     have c7b1:(a0_7 != 0)=false:=bne_eq_false_iff_eq.mpr c7
     clear c7
     have H':=mk_ H
     clear H
     obtain ⟨Be,Bf,Bg,Bh,Bi,Bj,Bk,Bl,Bm⟩:=cz9 Aa.out
     obtain ⟨Bn,Bo,Bp,Bq,Br,Bs,Bt,Bu,Bv⟩:=fz9 Aa.out
     go_wp2_with (first|((with_reducible refine gate_callee (f:=64) rfl ?_);refine goesL_ (some 5) rfl rfl Try.func64 (by kernel_rfl) rfl #[.int .i64 a0_6,.int .i64 0,.int .i64 3] rfl am ?_;(with_reducible refine (spec_l1In.calls a0_6 0 3 true _ A4.out).mono ?_);rintro e w' ⟨rfl,⟨nd,rfl⟩⟩;refine ⟨_,rfl,?_⟩))
     go_meet
     case rel=>exact ⟨_,(decide ((l0_8.length:Int) > 8)),(by first|rfl|(simp;done)|(simp [*];done)),H',⟨by first|omega|exact Nat.le_refl _⟩,⟨by (with_reducible repeat (first|refine zq1 ?_ _|refine zq2 ?_|refine zq3 ?_ _));exact Aa.out⟩,⟨by exact yu7 HB.out⟩⟩
    ·rw [if_neg c7] at H
     have c7b0:(a0_7 == 0)=false:=beq_eq_false_iff_ne.mpr c7
     have c7b1:(a0_7 != 0)=true:=bne_iff_ne.mpr c7
     have H':=mk_ H
     clear H
     obtain ⟨Bw,Bx,By,Bz,B0,B1,B2,B3,B4⟩:=cz9 Aa.out
     obtain ⟨B5,B6,B7,B8,B9,Ca,Cb,Cc,Cd⟩:=fz9 Aa.out
     go_wp2_with (first|((with_reducible refine gate_callee (f:=64) rfl ?_);refine goesL_ (some 5) rfl rfl Try.func64 (by kernel_rfl) rfl #[.int .i64 a0_6,.int .i64 0,.int .i64 3] rfl am ?_;(with_reducible refine (spec_l1In.calls a0_6 0 3 true _ A4.out).mono ?_);rintro e w' ⟨rfl,⟨nd,rfl⟩⟩;refine ⟨_,rfl,?_⟩))
     go_meet
     case rel=>exact ⟨_,(true),(by first|rfl|(simp;done)|(simp [*];done)),H',⟨by first|omega|exact Nat.le_refl _⟩,⟨by (with_reducible repeat (first|refine zq1 ?_ _|refine zq2 ?_|refine zq3 ?_ _));exact Aa.out⟩,⟨by exact yu7 HB.out⟩⟩
   ·rw [if_neg c6] at H
    have c6b0:((l0_8.length:Int) == 0)=false:=beq_eq_false_iff_ne.mpr c6
    have c6b1:((l0_8.length:Int) != 0)=true:=bne_iff_ne.mpr c6
    have c6b2:¬ (l0_8=[]):=fun h_=>c6 (by rw [h_];rfl)
    (first|rw [c6b0]|(simp only [i64_w,i32_w];rw [c6b0])|skip)
    have H':=mk_ H
    clear H
    obtain ⟨Ac,Ad,Ae,Af,Ag,Ah,Ai,Aj,Ak⟩:=cz9 Aa.out
    obtain ⟨Al,Am,An,Ao,Ap,Aq,Ar,As,At⟩:=fz9 Aa.out
    go_wp2_with (first|((with_reducible refine gate_callee (f:=64) rfl ?_);refine goesL_ (some 5) rfl rfl Try.func64 (by kernel_rfl) rfl #[.int .i64 a0_6,.int .i64 0,.int .i64 3] rfl am ?_;(with_reducible refine (spec_l1In.calls a0_6 0 3 true _ A4.out).mono ?_);rintro e w' ⟨rfl,⟨nd,rfl⟩⟩;refine ⟨_,rfl,?_⟩))
    go_meet
    case rel=>exact ⟨_,(decide ((l0_8.length:Int) > 8)),(by first|rfl|(simp;done)|(simp [*];done)),H',⟨by first|omega|exact Nat.le_refl _⟩,⟨by (with_reducible repeat (first|refine zq1 ?_ _|refine zq2 ?_|refine zq3 ?_ _));exact Aa.out⟩,⟨by exact yu7 HB.out⟩⟩
  ·replace c5:=Bool.eq_false_iff.mpr c5
   subst c5
   have H1:(spec_l2Seg.j0 k true a0_0 a0_1 a0_2 a0_3 a0_4 a0_5 a0_6 a0_7 l0_8)=some r:=by rw [if_neg (show ¬ (false=true) by decide)] at H;exact H
   clear H
   have H:=H1
   clear H1
   have H':=mk_ H
   clear H
   obtain ⟨Au,Av,Aw,Ax,Ay,Az,A0,A1,A2⟩:=cz9 Aa.out
   obtain ⟨A3,A5,A6,A7,A8,A9,Ba,Bb,Bc⟩:=fz9 Aa.out
   go_wp2_with (first|((with_reducible refine gate_callee (f:=64) rfl ?_);refine goesL_ (some 5) rfl rfl Try.func64 (by kernel_rfl) rfl #[.int .i64 a0_6,.int .i64 0,.int .i64 3] rfl am ?_;(with_reducible refine (spec_l1In.calls a0_6 0 3 false _ A4.out).mono ?_);rintro e w' ⟨rfl,⟨nd,rfl⟩⟩;refine ⟨_,rfl,?_⟩))
   go_meet
   case rel=>exact ⟨_,(true),(by first|rfl|(simp;done)|(simp [*];done)),H',⟨by first|omega|exact Nat.le_refl _⟩,⟨by (with_reducible repeat (first|refine zq1 ?_ _|refine zq2 ?_|refine zq3 ?_ _));exact Aa.out⟩,⟨by exact yu7 HB.out⟩⟩
 case rest =>
  clear Bd
  try clear p2
  try clear c5
  try clear c6
  try clear c6b0
  try clear c6b1
  try clear c6b2
  try clear c7
  try clear c7b0
  try clear c7b1
  try clear Ac Ad Ae Af Ag Ah Ai Aj Ak
  try clear Au Av Aw Ax Ay Az A0 A1 A2
  try clear Be Bf Bg Bh Bi Bj Bk Bl Bm
  try clear Bw Bx By Bz B0 B1 B2 B3 B4
  try clear Al Am An Ao Ap Aq Ar As At
  try clear A3 A5 A6 A7 A8 A9 Ba Bb Bc
  try clear Bn Bo Bp Bq Br Bs Bt Bu Bv
  try clear B5 B6 B7 B8 B9 Ca Cb Cc Cd
  obtain ⟨kq,Ab,rfl,HA,HJ1,Aa,HB⟩:=hcut
  cases kq with
  |zero=>exact absurd HA.out (by simp [spec_l2Seg.j0])
  |succ E3 =>
   have H:=HA.out
   clear HA
   simp only [spec_l2Seg.j0] at H
   by_cases c12:Ab=true
   ·subst c12
    have H1:(some false)=some r:=by rw [if_pos rfl] at H;exact H
    clear H
    have H:=H1
    clear H1
    obtain rfl:=Option.some.inj H
    go_wp2
    go_ret
    exact ⟨by first|rfl|(simp [errW_none,errW_some] <;> rfl)|(simp [*,errW_none,errW_some] <;> rfl),by exact yu7 HB.out⟩
   ·replace c12:=Bool.eq_false_iff.mpr c12
    subst c12
    have H1:(if a0_6=0 then (some (a0_7 == (l0_8.length:Int))) else (if a0_6=1 then ((spec_l1In.f a0_7 (wrap64 ((l0_8.length:Int)+1)) 24).bind fun t286=>(if t286=true then (some (decide ((l0_8.length:Int) > 0))) else (some false))) else (if a0_7=0 then (some (decide ((l0_8.length:Int) > 0))) else (some false))))=some r:=by rw [if_neg (show ¬ (false=true) by decide)] at H;exact H
    clear H
    have H:=H1
    clear H1
    by_cases c13:a0_6=0
    ·rw [if_pos c13] at H
     have c13b0:(a0_6 == 0)=true:=beq_iff_eq.mpr c13
     have c13b1:(a0_6 != 0)=false:=bne_eq_false_iff_eq.mpr c13
     clear c13
     obtain rfl:=Option.some.inj H
     obtain ⟨Ci,Cj,Ck,Cl,Cm,Cn,Co,Cp,Cq⟩:=cz9 Aa.out
     obtain ⟨Cr,Cs,Ct,Cu,Cv,Cw,Cx,Cy,Cz⟩:=fz9 Aa.out
     go_wp2
     go_ret
     exact ⟨by first|rfl|(simp [errW_none,errW_some] <;> rfl)|(simp [*,errW_none,errW_some] <;> rfl),by exact yu7 HB.out⟩
    ·rw [if_neg c13] at H
     have c13b0:(a0_6 == 0)=false:=beq_eq_false_iff_ne.mpr c13
     have c13b1:(a0_6 != 0)=true:=bne_iff_ne.mpr c13
     by_cases c15:a0_6=1
     ·rw [if_pos c15] at H
      have c15b0:(a0_6 == 1)=true:=beq_iff_eq.mpr c15
      have c15b1:(a0_6 != 1)=false:=bne_eq_false_iff_eq.mpr c15
      clear c15
      replace H:=Option.bind_eq_some_iff.mp H
      obtain ⟨t286,Ce,H⟩:=H
      try dsimp only at H
      have Ch:=mk_ Ce
      clear Ce
      by_cases c17:t286=true
      ·subst c17
       have H1:(some (decide ((l0_8.length:Int) > 0)))=some r:=by rw [if_pos rfl] at H;exact H
       clear H
       have H:=H1
       clear H1
       obtain rfl:=Option.some.inj H
       obtain ⟨C0,C1,C2,C3,C4,C5,C6,C7,C8⟩:=cz9 Aa.out
       obtain ⟨C9,Da,Db,Dc,Dd,De,Df,Dg,Dh⟩:=fz9 Aa.out
       go_wp2_with (first|((with_reducible refine gate_callee (f:=64) rfl ?_);refine goesL_ (some 42) rfl rfl Try.func64 (by kernel_rfl) rfl #[.int .i64 a0_7,.int .i64 (wrap64 ((l0_8.length:Int)+1)),.int .i64 24] rfl am ?_;(with_reducible refine (spec_l1In.calls a0_7 (wrap64 ((l0_8.length:Int)+1)) 24 true _ Ch.out).mono ?_);rintro e w' ⟨rfl,⟨nd,rfl⟩⟩;refine ⟨_,rfl,?_⟩))
       go_ret
       exact ⟨by first|rfl|(simp [errW_none,errW_some] <;> rfl)|(simp [*,errW_none,errW_some] <;> rfl),by exact yu7 HB.out⟩
      ·replace c17:=Bool.eq_false_iff.mpr c17
       subst c17
       have H1:(some false)=some r:=by rw [if_neg (show ¬ (false=true) by decide)] at H;exact H
       clear H
       have H:=H1
       clear H1
       obtain rfl:=Option.some.inj H
       obtain ⟨Di,Dj,Dk,Dl,Dm,Dn,Do,Dp,Dq⟩:=cz9 Aa.out
       obtain ⟨Dr,Ds,Dt,Du,Dv,Dw,Dx,Dy,Dz⟩:=fz9 Aa.out
       go_wp2_with (first|((with_reducible refine gate_callee (f:=64) rfl ?_);refine goesL_ (some 42) rfl rfl Try.func64 (by kernel_rfl) rfl #[.int .i64 a0_7,.int .i64 (wrap64 ((l0_8.length:Int)+1)),.int .i64 24] rfl am ?_;(with_reducible refine (spec_l1In.calls a0_7 (wrap64 ((l0_8.length:Int)+1)) 24 false _ Ch.out).mono ?_);rintro e w' ⟨rfl,⟨nd,rfl⟩⟩;refine ⟨_,rfl,?_⟩))
       go_ret
       exact ⟨by first|rfl|(simp [errW_none,errW_some] <;> rfl)|(simp [*,errW_none,errW_some] <;> rfl),by exact yu7 HB.out⟩
     ·rw [if_neg c15] at H
      have c15b0:(a0_6 == 1)=false:=beq_eq_false_iff_ne.mpr c15
      have c15b1:(a0_6 != 1)=true:=bne_iff_ne.mpr c15
      by_cases c20:a0_7=0
      ·rw [if_pos c20] at H
       have c20b0:(a0_7 == 0)=true:=beq_iff_eq.mpr c20
       have c20b1:(a0_7 != 0)=false:=bne_eq_false_iff_eq.mpr c20
       clear c20
       obtain rfl:=Option.some.inj H
       obtain ⟨D0,D1,D2,D3,D4,D5,D6,D7,D8⟩:=cz9 Aa.out
       obtain ⟨D9,Ea,Eb,Ec,Ed,Ee,Ef,Eg,Eh⟩:=fz9 Aa.out
       go_wp2
       go_ret
       exact ⟨by first|rfl|(simp [errW_none,errW_some] <;> rfl)|(simp [*,errW_none,errW_some] <;> rfl),by exact yu7 HB.out⟩
      ·rw [if_neg c20] at H
       have c20b0:(a0_7 == 0)=false:=beq_eq_false_iff_ne.mpr c20
       have c20b1:(a0_7 != 0)=true:=bne_iff_ne.mpr c20
       obtain rfl:=Option.some.inj H
       obtain ⟨Ei,Ej,Ek,El,Em,En,Eo,Ep,Eq⟩:=cz9 Aa.out
       obtain ⟨Er,Es,Et,Eu,Ev,Ew,Ex,Ey,Ez⟩:=fz9 Aa.out
       go_wp2
       go_ret
       exact ⟨by first|rfl|(simp [errW_none,errW_some] <;> rfl)|(simp [*,errW_none,errW_some] <;> rfl),by exact yu7 HB.out⟩

end Go.Proofs.Yteknaofnageihaa.QFnTxOk
