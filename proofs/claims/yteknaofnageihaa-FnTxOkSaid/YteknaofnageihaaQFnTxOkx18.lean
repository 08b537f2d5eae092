-- Written by a program of this session, a turned copy of the print (not by print.sh itself). Lean checks it.
import Derived.Test.YteknaofnageihaaQFnTxOkx0
import Derived.Test.YteknaofnageihaaQFnTxOkx17
namespace Go.Proofs.Yteknaofnageihaa.QFnTxOk
open Go.RowKit Go.Proofs.YteknaofnageihaaW.PrintWords Go.Proofs.YteknaofnageihaaW.PrintLast Go.Proofs.YteknaofnageihaaW.PrintMore Go.Proofs.YteknaofnageihaaLoc
attribute [local go_sem] max2_int min2_int max_two min_two max_three min_three max_four min_four   -- for this text's walks alone
set_option linter.unusedVariables false
set_option linter.unusedSimpArgs false

/-! ### spec_l6Parts: function 84 -/
def spec_l6Parts.l0 : Nat → List (S39) → Int → Int → Option (Bool)
  | 0, _, _, _ => none
  | k + 1, x0, x1, x5 => if x5 < (x0.length : Int) then (if 0 ≤ x5 then ((spec_PartOk.f k ((rd_T39 x0 x5).f0) ((rd_T39 x0 x5).f1) ((rd_T39 x0 x5).f2)).bind fun t290 => (if t290 = true then (if (((rd_T39 x0 x5).f2).length : Int) > x1 then (some false) else (spec_l6Parts.l0 k x0 x1 (wrap64 (x5 + 1)))) else (some false))) else (none)) else (some true)
def spec_l6Parts.f (k : Nat) (l0 : List (S39)) (a1 : Int) : Option (Bool) := spec_l6Parts.l0 k l0 a1 0
theorem spec_l6Parts.mono_l : ∀ k, (∀ y0 y1 y2, LeO (spec_l6Parts.l0 k y0 y1 y2) (spec_l6Parts.l0 (k + 1) y0 y1 y2))
  | 0 => fun _ _ _ r h => by simp [spec_l6Parts.l0] at h
  | k + 1 => by
    have ih0 := spec_l6Parts.mono_l k
    · intro y0 y1 y2
      unfold spec_l6Parts.l0
      repeat' first
      | (with_reducible exact ih0 _ _ _)
      | (with_reducible exact spec_PartOk.mono _ _ _ _)
      | (with_reducible exact LeO.refl _)
      | (with_reducible exact LeO.none _)
      | (with_reducible refine LeO.ite ?_ ?_)
      | (with_reducible refine LeO.bind ?_ (fun _ => ?_))
      | exact ih0 _ _ _
      | exact spec_PartOk.mono _ _ _ _
      | exact LeO.none _
      | refine LeO.ite ?_ ?_
      | refine LeO.bind ?_ (fun _ => ?_)
theorem spec_l6Parts.mono : ∀ a0 a1 k, LeO (spec_l6Parts.f k a0 a1) (spec_l6Parts.f (k + 1) a0 a1) := by
 intro a0 a1 k
 have ih0 := spec_l6Parts.mono_l k
 unfold spec_l6Parts.f
 repeat' first
     | (with_reducible exact ih0 _ _ _)
     | (with_reducible exact spec_PartOk.mono _ _ _ _)
     | (with_reducible exact LeO.refl _)
     | (with_reducible exact LeO.none _)
     | (with_reducible refine LeO.ite ?_ ?_)
     | (with_reducible refine LeO.bind ?_ (fun _ => ?_))
     | exact ih0 _ _ _
     | exact spec_PartOk.mono _ _ _ _
     | exact LeO.none _
     | refine LeO.ite ?_ ?_
     | refine LeO.bind ?_ (fun _ => ?_)
set_option maxHeartbeats 60000000 in
set_option maxRecDepth 100000 in
theorem spec_l6Parts.calls (k : Nat) (A0 : Option Addr) (c0 : Nat) (l0 : List (S39)) (a1 : Int) (r : Bool) (w : World) (hr0 : Kd.C k39 w A0 l0.length l0) (hc0 : l0.length ≤ c0) (h : spec_l6Parts.f k l0 a1 = some r) :
  Calls Try.prog 84 #[.slice A0 l0.length c0,.int .i64 a1] w fun e w'=>e=.returned (.bool r)∧Below w.heap.size w w':=by
 have hu39:=Try.underlying39
 have Ad:=mk_ hr0
 have Ah:=mk_ hc0
 clear hr0 hc0
 have HB:=mk_ (Below.refl w.heap.size w)
 have H:(spec_l6Parts.l0 k l0 a1 0)=some r:=h
 clear h
 have H':=mk_ H
 clear H
 go_enter Try.func84,Try.ntmps84
 go_wp2
 go_loopg [5] k (fun kq v5 w'=>∃ (Aa:Int),v5=.int .i64 Aa∧Aside0 (spec_l6Parts.l0 kq l0 a1 Aa=some r)∧Aside0 (kq≤k)∧Aside0 (Below w.heap.size w w'))
 case atStart=>exact ⟨(0),(by first|rfl|(simp;done)|(simp [*];done)),H',⟨Nat.le_refl _⟩,⟨by exact yu6 HB.out⟩⟩
 case round =>
  clear H'
  try clear p2
  obtain ⟨Aa,rfl,HA,HK1,HB⟩:=hrel
  cases gk with
 |zero=>exact absurd HA.out (by simp [spec_l6Parts.l0])
 |succ k1 =>
   have H:=HA.out
   clear HA
   simp only [spec_l6Parts.l0] at H
   by_cases c3:Aa<(l0.length:Int)
   rotate_left
   ·rw [if_neg c3] at H
    have c3b0:decide (Aa<(l0.length:Int))=false:=decide_eq_false c3
    clear c3
    obtain rfl:=Option.some.inj H
    go_wp2
    go_ret
    exact ⟨by first|rfl|(simp [errW_none,errW_some] <;> rfl)|(simp [*,errW_none,errW_some] <;> rfl),by exact yu6 HB.out⟩
   rw [if_pos c3] at H
   have c3b0:decide (Aa<(l0.length:Int))=true:=decide_eq_true c3
   clear c3
   by_cases c4:0≤Aa
   rotate_left
   ·rw [if_neg c4] at H
    exact absurd H (by simp)
   rw [if_pos c4] at H
   have c4b0:decide (0≤Aa)=true:=decide_eq_true c4
   clear c4
   replace H:=Option.bind_eq_some_iff.mp H
   obtain ⟨t290,Ag,H⟩:=H
   try dsimp only at H
   have A5:=mk_ Ag
   clear Ag
   by_cases c6:t290=true
   rotate_left
   ·replace c6:=Bool.eq_false_iff.mpr c6
    subst c6
    have H1:(some false)=some r:=by rw [if_neg (show ¬ (false=true) by decide)] at H;exact H
    clear H
    have H:=H1
    clear H1
    obtain rfl:=Option.some.inj H
    have p289:0≤(Aa:Int):=of_decide_eq_true (by first|(with_reducible assumption)|assumption)
    have q289:Aa<(l0.length:Int):=of_decide_eq_true (by first|(with_reducible assumption)|assumption)
    obtain ⟨ad289,A289_2,c289_2,e289,hx289_0,hx289_1,hx289_2,hl289_2,hi289_2⟩:=at_T39 Ad.out Aa p289 q289
    cases e289
    replace hx289_0:=(HB.out.cell (World.block_lt_of_cell? w _ hx289_0)).trans hx289_0
    replace hx289_1:=(HB.out.cell (World.block_lt_of_cell? w _ hx289_1)).trans hx289_1
    replace hx289_2:=(HB.out.cell (World.block_lt_of_cell? w _ hx289_2)).trans hx289_2
    have Ab:=mk_ hi289_2
    have Ac:=mk_ hl289_2
    clear hi289_2 hl289_2
    replace p289:=eq_true p289
    replace q289:=eq_true q289
    go_wp2_with (first|((with_reducible refine gate_callee (f:=45) rfl ?_);refine goesL_ (some 16) rfl rfl Try.func45 (by kernel_rfl) rfl #[.agg #[.int .i64 ((rd_T39 l0 Aa).f0),.int .i64 ((rd_T39 l0 Aa).f1),.slice A289_2 ((rd_T39 l0 Aa).f2).length c289_2]] rfl am ?_;(with_reducible refine (spec_PartOk.calls k1 ((rd_T39 l0 Aa).f0) ((rd_T39 l0 Aa).f1) _ _ ((rd_T39 l0 Aa).f2) false _ ?side1 ?side2 A5.out).mono ?_);(case side1=>repeat (first|exact (Kd.C_below Ab.out HB.out)|(with_reducible refine Kd.C_alloc ?_ _)|(with_reducible refine Kd.C_drewN ?_ _)|(with_reducible refine Kd.C_drew ?_)));(case side2=>exact Ac.out);rintro e Ai ⟨rfl,hb⟩;refine ⟨_,rfl,?_⟩;replace HB:=mk_ (zr3 (yu6 HB.out) hb);(try clear hb);(try clear hb2);(try clear hk);(try clear hi)))
    go_ret
    exact ⟨by first|rfl|(simp [errW_none,errW_some] <;> rfl)|(simp [*,errW_none,errW_some] <;> rfl),by exact yu6 HB.out⟩
   subst c6
   have H1:(if (((rd_T39 l0 Aa).f2).length:Int) > a1 then (some false) else (spec_l6Parts.l0 k1 l0 a1 (wrap64 (Aa+1))))=some r:=by rw [if_pos rfl] at H;exact H
   clear H
   have H:=H1
   clear H1
   by_cases c7:(((rd_T39 l0 Aa).f2).length:Int) > a1
   ·rw [if_pos c7] at H
    have c7b0:decide (a1<(((rd_T39 l0 Aa).f2).length:Int))=true:=decide_eq_true c7
    clear c7
    obtain rfl:=Option.some.inj H
    have p289:0≤(Aa:Int):=of_decide_eq_true (by first|(with_reducible assumption)|assumption)
    have q289:Aa<(l0.length:Int):=of_decide_eq_true (by first|(with_reducible assumption)|assumption)
    obtain ⟨ad289,A289_2,c289_2,e289,hx289_0,hx289_1,hx289_2,hl289_2,hi289_2⟩:=at_T39 Ad.out Aa p289 q289
    cases e289
    replace hx289_0:=(HB.out.cell (World.block_lt_of_cell? w _ hx289_0)).trans hx289_0
    replace hx289_1:=(HB.out.cell (World.block_lt_of_cell? w _ hx289_1)).trans hx289_1
    replace hx289_2:=(HB.out.cell (World.block_lt_of_cell? w _ hx289_2)).trans hx289_2
    have Ab:=mk_ hi289_2
    have Ac:=mk_ hl289_2
    clear hi289_2 hl289_2
    replace p289:=eq_true p289
    replace q289:=eq_true q289
    go_wp2_with (first|((with_reducible refine gate_callee (f:=45) rfl ?_);refine goesL_ (some 16) rfl rfl Try.func45 (by kernel_rfl) rfl #[.agg #[.int .i64 ((rd_T39 l0 Aa).f0),.int .i64 ((rd_T39 l0 Aa).f1),.slice A289_2 ((rd_T39 l0 Aa).f2).length c289_2]] rfl am ?_;(with_reducible refine (spec_PartOk.calls k1 ((rd_T39 l0 Aa).f0) ((rd_T39 l0 Aa).f1) _ _ ((rd_T39 l0 Aa).f2) true _ ?side1 ?side2 A5.out).mono ?_);(case side1=>repeat (first|exact (Kd.C_below Ab.out HB.out)|(with_reducible refine Kd.C_alloc ?_ _)|(with_reducible refine Kd.C_drewN ?_ _)|(with_reducible refine Kd.C_drew ?_)));(case side2=>exact Ac.out);rintro e w8 ⟨rfl,hb⟩;refine ⟨_,rfl,?_⟩;replace HB:=mk_ (zr3 (yu6 HB.out) hb);(try clear hb);(try clear hb2);(try clear hk);(try clear hi);have p291:0≤(Aa:Int):=of_decide_eq_true (by first|(with_reducible assumption)|assumption);have q291:Aa<(l0.length:Int):=of_decide_eq_true (by first|(with_reducible assumption)|assumption);obtain ⟨ad291,A291_2,c291_2,e291,hx291_0,hx291_1,hx291_2,hl291_2,hi291_2⟩:=at_T39 Ad.out Aa p291 q291;obtain rfl:ad289=ad291:=(by injection e291);replace hx291_0:=(HB.out.cell (World.block_lt_of_cell? w _ hx291_0)).trans hx291_0;replace hx291_1:=(HB.out.cell (World.block_lt_of_cell? w _ hx291_1)).trans hx291_1;replace hx291_2:=(HB.out.cell (World.block_lt_of_cell? w _ hx291_2)).trans hx291_2;have Ae:=mk_ hi291_2;have Af:=mk_ hl291_2;clear hi291_2 hl291_2;replace p291:=eq_true p291;replace q291:=eq_true q291))
    go_ret
    exact ⟨by first|rfl|(simp [errW_none,errW_some] <;> rfl)|(simp [*,errW_none,errW_some] <;> rfl),by exact yu6 HB.out⟩
   rw [if_neg c7] at H
   have c7b0:decide (a1<(((rd_T39 l0 Aa).f2).length:Int))=false:=decide_eq_false c7
   clear c7
   have H':=mk_ H
   clear H
   have p289:0≤(Aa:Int):=of_decide_eq_true (by first|(with_reducible assumption)|assumption)
   have q289:Aa<(l0.length:Int):=of_decide_eq_true (by first|(with_reducible assumption)|assumption)
   obtain ⟨ad289,A289_2,c289_2,e289,hx289_0,hx289_1,hx289_2,hl289_2,hi289_2⟩:=at_T39 Ad.out Aa p289 q289
   cases e289
   replace hx289_0:=(HB.out.cell (World.block_lt_of_cell? w _ hx289_0)).trans hx289_0
   replace hx289_1:=(HB.out.cell (World.block_lt_of_cell? w _ hx289_1)).trans hx289_1
   replace hx289_2:=(HB.out.cell (World.block_lt_of_cell? w _ hx289_2)).trans hx289_2
   have Ab:=mk_ hi289_2
   have Ac:=mk_ hl289_2
   clear hi289_2 hl289_2
   replace p289:=eq_true p289
   replace q289:=eq_true q289
   go_wp2_with (first|((with_reducible refine gate_callee (f:=45) rfl ?_);refine goesL_ (some 16) rfl rfl Try.func45 (by kernel_rfl) rfl #[.agg #[.int .i64 ((rd_T39 l0 Aa).f0),.int .i64 ((rd_T39 l0 Aa).f1),.slice A289_2 ((rd_T39 l0 Aa).f2).length c289_2]] rfl am ?_;(with_reducible refine (spec_PartOk.calls k1 ((rd_T39 l0 Aa).f0) ((rd_T39 l0 Aa).f1) _ _ ((rd_T39 l0 Aa).f2) true _ ?side1 ?side2 A5.out).mono ?_);(case side1=>repeat (first|exact (Kd.C_below Ab.out HB.out)|(with_reducible refine Kd.C_alloc ?_ _)|(with_reducible refine Kd.C_drewN ?_ _)|(with_reducible refine Kd.C_drew ?_)));(case side2=>exact Ac.out);rintro e w9 ⟨rfl,hb⟩;refine ⟨_,rfl,?_⟩;replace HB:=mk_ (zr3 (yu6 HB.out) hb);(try clear hb);(try clear hb2);(try clear hk);(try clear hi);have p291:0≤(Aa:Int):=of_decide_eq_true (by first|(with_reducible assumption)|assumption);have q291:Aa<(l0.length:Int):=of_decide_eq_true (by first|(with_reducible assumption)|assumption);obtain ⟨ad291,A291_2,c291_2,e291,hx291_0,hx291_1,hx291_2,hl291_2,hi291_2⟩:=at_T39 Ad.out Aa p291 q291;obtain rfl:ad289=ad291:=(by injection e291);replace hx291_0:=(HB.out.cell (World.block_lt_of_cell? w _ hx291_0)).trans hx291_0;replace hx291_1:=(HB.out.cell (World.block_lt_of_cell? w _ hx291_1)).trans hx291_1;replace hx291_2:=(HB.out.cell (World.block_lt_of_cell? w _ hx291_2)).trans hx291_2;have Ae:=mk_ hi291_2;have Af:=mk_ hl291_2;clear hi291_2 hl291_2;replace p291:=eq_true p291;replace q291:=eq_true q291))
   go_roundg k1
   case measure=>have:=HK1.out;omega
   case rel=>exact ⟨(wrap64 (Aa+1)),(by first|rfl|(simp;done)|(simp [*];done)),H',⟨by have:=HK1.out;omega⟩,⟨by exact yu6 HB.out⟩⟩

end Go.Proofs.Yteknaofnageihaa.QFnTxOk
