-- Written by a program of this session, a turned copy of the print (not by print.sh itself). Lean checks it.
import Derived.Test.YteknaofnageihaaQFnTxOkx0
import Derived.Test.YteknaofnageihaaQFnTxOkx11
import Derived.Test.YteknaofnageihaaQFnTxOkx16
namespace Go.Proofs.Yteknaofnageihaa.QFnTxOk
open Go.RowKit Go.Proofs.YteknaofnageihaaW.PrintWords Go.Proofs.YteknaofnageihaaW.PrintLast Go.Proofs.YteknaofnageihaaW.PrintMore Go.Proofs.YteknaofnageihaaLoc
attribute [local go_sem] max2_int min2_int max_two min_two max_three min_three max_four min_four   -- for this text's walks alone
set_option linter.unusedVariables false
set_option linter.unusedSimpArgs false

/-! ### spec_FrmOk: function 114 -/
def spec_FrmOk.f (k : Nat) (a0_0 : Int) (a0_1 : Int) (a0_2 : Int) (a0_3 : Bool) (a0_4 : Bool) (a0_5 : Int) (a0_6 : Int) (a0_7 : Int) (l0_8 : List Int) : Option (Bool) := if a0_0 = 1 then ((spec_l1In.f a0_1 0 7).bind fun t337 => (if t337 = true then ((spec_l1In.f a0_2 0 7).bind fun t338 => (if t338 = true then (if a0_3 = true then (some false) else (if a0_5 = 0 then ((spec_l2Seg.f k a0_0 a0_1 a0_2 a0_3 a0_4 a0_5 a0_6 a0_7 l0_8).bind fun t339 => (some t339)) else (some false))) else (some false))) else (some false))) else (if a0_0 = 2 then (if a0_1 = 0 then ((spec_l1In.f a0_2 0 7).bind fun t340 => (if t340 = true then (if a0_3 = true then (if a0_4 = true then (some false) else ((spec_l1In.f a0_5 0 2).bind fun t341 => (if t341 = true then (if a0_6 = 0 then (if a0_7 = 0 then (some ((l0_8.length : Int) == 0)) else (some false)) else (some false)) else (some false)))) else ((spec_l1In.f a0_5 0 2).bind fun t342 => (if t342 = true then (if a0_6 = 0 then (if a0_7 = 0 then (some ((l0_8.length : Int) == 0)) else (some false)) else (some false)) else (some false)))) else (some false))) else (some false)) else (if a0_0 = 3 then (if a0_1 = 0 then (if a0_2 = 0 then (if a0_3 = true then (some false) else (if a0_4 = true then (some false) else (if a0_5 = 0 then ((spec_l2Seg.f k a0_0 a0_1 a0_2 a0_3 a0_4 a0_5 a0_6 a0_7 l0_8).bind fun t343 => (some t343)) else (some false)))) else (some false)) else (some false)) else (if a0_0 = 4 then (if a0_1 = 0 then (if a0_2 = 0 then (if a0_3 = true then (some false) else (if a0_4 = true then (some false) else (if a0_5 = 0 then (if a0_6 = 0 then ((spec_l1In.f a0_7 1 255).bind fun t344 => (if t344 = true then (some ((l0_8.length : Int) == 0)) else (some false))) else (some false)) else (some false)))) else (some false)) else (some false)) else (some false))))
theorem spec_FrmOk.mono : ∀ a0 a1 a2 a3 a4 a5 a6 a7 a8 k, LeO (spec_FrmOk.f k a0 a1 a2 a3 a4 a5 a6 a7 a8) (spec_FrmOk.f (k + 1) a0 a1 a2 a3 a4 a5 a6 a7 a8) := by
  intro a0 a1 a2 a3 a4 a5 a6 a7 a8 k
  unfold spec_FrmOk.f
  repeat' first
      | (with_reducible exact spec_l2Seg.mono _ _ _ _ _ _ _ _ _ _)
      | (with_reducible exact LeO.refl _)
      | (with_reducible exact LeO.none _)
      | (with_reducible refine LeO.ite ?_ ?_)
      | (with_reducible refine LeO.bind ?_ (fun _ => ?_))
      | exact spec_l2Seg.mono _ _ _ _ _ _ _ _ _ _
      | exact LeO.none _
      | refine LeO.ite ?_ ?_
      | refine LeO.bind ?_ (fun _ => ?_)
set_option maxHeartbeats 60000000 in
set_option maxRecDepth 100000 in
theorem spec_FrmOk.calls (k : Nat) (a0_0 : Int) (a0_1 : Int) (a0_2 : Int) (a0_3 : Bool) (a0_4 : Bool) (a0_5 : Int) (a0_6 : Int) (a0_7 : Int) (A0_8 : Option Addr) (c0_8 : Nat) (l0_8 : List Int) (r : Bool) (w : World) (hr0_8 : Kd.C (Kd.int .u8) w A0_8 l0_8.length l0_8) (hc0_8 : l0_8.length ≤ c0_8) (h : spec_FrmOk.f k a0_0 a0_1 a0_2 a0_3 a0_4 a0_5 a0_6 a0_7 l0_8 = some r) :
  Calls Try.prog 114 #[.agg #[.int .i64 a0_0,.int .i64 a0_1,.int .i64 a0_2,.bool a0_3,.bool a0_4,.int .i64 a0_5,.int .i64 a0_6,.int .i64 a0_7,.slice A0_8 l0_8.length c0_8]] w fun e w'=>e=.returned (.bool r)∧Below w.heap.size w w':=by
 have Ab:=Aside0.mk hr0_8
 have Ac:=Aside0.mk hc0_8
 clear hr0_8 hc0_8
 have H:(if a0_0=1 then ((spec_l1In.f a0_1 0 7).bind fun t337=>(if t337=true then ((spec_l1In.f a0_2 0 7).bind fun t338=>(if t338=true then (if a0_3=true then (some false) else (if a0_5=0 then ((spec_l2Seg.f k a0_0 a0_1 a0_2 a0_3 a0_4 a0_5 a0_6 a0_7 l0_8).bind fun t339=>(some t339)) else (some false))) else (some false))) else (some false))) else (if a0_0=2 then (if a0_1=0 then ((spec_l1In.f a0_2 0 7).bind fun t340=>(if t340=true then (if a0_3=true then (if a0_4=true then (some false) else ((spec_l1In.f a0_5 0 2).bind fun t341=>(if t341=true then (if a0_6=0 then (if a0_7=0 then (some ((l0_8.length:Int) == 0)) else (some false)) else (some false)) else (some false)))) else ((spec_l1In.f a0_5 0 2).bind fun t342=>(if t342=true then (if a0_6=0 then (if a0_7=0 then (some ((l0_8.length:Int) == 0)) else (some false)) else (some false)) else (some false)))) else (some false))) else (some false)) else (if a0_0=3 then (if a0_1=0 then (if a0_2=0 then (if a0_3=true then (some false) else (if a0_4=true then (some false) else (if a0_5=0 then ((spec_l2Seg.f k a0_0 a0_1 a0_2 a0_3 a0_4 a0_5 a0_6 a0_7 l0_8).bind fun t343=>(some t343)) else (some false)))) else (some false)) else (some false)) else (if a0_0=4 then (if a0_1=0 then (if a0_2=0 then (if a0_3=true then (some false) else (if a0_4=true then (some false) else (if a0_5=0 then (if a0_6=0 then ((spec_l1In.f a0_7 1 255).bind fun t344=>(if t344=true then (some ((l0_8.length:Int) == 0)) else (some false))) else (some false)) else (some false)))) else (some false)) else (some false)) else (some false)))))=some r:=h
 clear h
 by_cases c2:a0_0=1
 ·rw [if_pos c2] at H
  have c2b0:(a0_0 == 1)=true:=beq_iff_eq.mpr c2
  have c2b1:(a0_0 != 1)=false:=bne_eq_false_iff_eq.mpr c2
  try dsimp only at H
  clear c2
  replace H:=Option.bind_eq_some_iff.mp H
  obtain ⟨t337,Ad,H⟩:=H
  try dsimp only at H
  have A3:=mk_ Ad
  clear Ad
  by_cases c4:t337=true
  rotate_left
  ·replace c4:=Bool.eq_false_iff.mpr c4
   subst c4
   rw [if_neg Bool.false_ne_true] at H
   try dsimp only at H
   obtain rfl:=Option.some.inj H
   have HL:=mk_ (Lok.start w)
   go_enter Try.func114,Try.ntmps114
   go_wp2_with (first|((with_reducible refine gate_dst (N:=9) rfl ?_);(with_reducible refine gate_callee (f:=64) rfl ?_);refine goesL_ (some 9) rfl rfl Try.func64 (by kernel_rfl) rfl #[.int .i64 a0_1,.int .i64 0,.int .i64 7] rfl (by (try simp only [List.map_toArray,List.map_cons,List.map_nil]);first|done|rfl) ?_;(with_reducible refine (spec_l1In.calls a0_1 0 7 false _ A3.out).mono ?_);rintro e w_ ⟨rfl,hb_⟩;refine ⟨_,rfl,?_⟩;replace HL:=mk_ (HL.out.drawn hb_);clear hb_)|((with_reducible refine gate_gd rfl ?_);first|((with_reducible refine gd_on rfl ?_ ?_);rfl;dsimp only)|((with_reducible refine gd_off rfl ?_ ?_);rfl))|((with_reducible refine gate_dst (N:=1) rfl ?_);refine loc_box rfl rfl (by first|(go_simp;done)|(go_simp;rfl)) HL.out ?_;intro gb1 w_ HL_;replace HL:=mk_ HL_;clear HL_)|((with_reducible refine gate_ld0 (t:=102) rfl ?_);refine loc_load (n:=9) rfl rfl (by kernel_rfl) rfl (by kernel_rfl) HL.out (by with_reducible repeat (first|exact Sel.done|apply Sel.take|apply Sel.skip|apply Get.here|apply Get.next)) ?_)|((with_reducible refine gate_ld0 rfl ?_);refine loc_load1 rfl rfl (by kernel_rfl) rfl HL.out (by with_reducible repeat (first|exact Sel.done|apply Sel.take|apply Sel.skip|apply Get.here|apply Get.next)) ?_)|((with_reducible refine gate_st0 rfl ?_);refine loc_store rfl rfl rfl (by first|(go_simp;done)|(go_simp;rfl)) (by kernel_rfl) (by kernel_rfl) HL.out (by with_reducible repeat (first|exact Spl.done|apply Spl.put|apply Spl.skip|apply Upd.here|apply Upd.next)) ?_;intro w_ HL_;replace HL:=mk_ HL_;clear HL_))
   go_ret
   exact ⟨by first|rfl|(simp [errW_none,errW_some] <;> rfl)|(simp [*,errW_none,errW_some] <;> rfl),HL.out.bel⟩
  subst c4
  rw [if_pos rfl] at H
  try dsimp only at H
  replace H:=Option.bind_eq_some_iff.mp H
  obtain ⟨t338,Al,H⟩:=H
  try dsimp only at H
  have A5:=mk_ Al
  clear Al
  by_cases c6:t338=true
  rotate_left
  ·replace c6:=Bool.eq_false_iff.mpr c6
   subst c6
   rw [if_neg Bool.false_ne_true] at H
   try dsimp only at H
   obtain rfl:=Option.some.inj H
   have HL:=mk_ (Lok.start w)
   go_enter Try.func114,Try.ntmps114
   go_wp2_with (first|((with_reducible refine gate_dst (N:=9) rfl ?_);(with_reducible refine gate_callee (f:=64) rfl ?_);refine goesL_ (some 9) rfl rfl Try.func64 (by kernel_rfl) rfl #[.int .i64 a0_1,.int .i64 0,.int .i64 7] rfl (by (try simp only [List.map_toArray,List.map_cons,List.map_nil]);first|done|rfl) ?_;(with_reducible refine (spec_l1In.calls a0_1 0 7 true _ A3.out).mono ?_);rintro e w_ ⟨rfl,hb_⟩;refine ⟨_,rfl,?_⟩;replace HL:=mk_ (HL.out.drawn hb_);clear hb_)|((with_reducible refine gate_dst (N:=13) rfl ?_);(with_reducible refine gate_callee (f:=64) rfl ?_);refine goesL_ (some 13) rfl rfl Try.func64 (by kernel_rfl) rfl #[.int .i64 a0_2,.int .i64 0,.int .i64 7] rfl (by (try simp only [List.map_toArray,List.map_cons,List.map_nil]);first|done|rfl) ?_;(with_reducible refine (spec_l1In.calls a0_2 0 7 false _ A5.out).mono ?_);rintro e w_ ⟨rfl,hb_⟩;refine ⟨_,rfl,?_⟩;replace HL:=mk_ (HL.out.drawn hb_);clear hb_)|((with_reducible refine gate_gd rfl ?_);first|((with_reducible refine gd_on rfl ?_ ?_);rfl;dsimp only)|((with_reducible refine gd_off rfl ?_ ?_);rfl))|((with_reducible refine gate_dst (N:=1) rfl ?_);refine loc_box rfl rfl (by first|(go_simp;done)|(go_simp;rfl)) HL.out ?_;intro gb1 w_ HL_;replace HL:=mk_ HL_;clear HL_)|((with_reducible refine gate_ld0 (t:=102) rfl ?_);refine loc_load (n:=9) rfl rfl (by kernel_rfl) rfl (by kernel_rfl) HL.out (by with_reducible repeat (first|exact Sel.done|apply Sel.take|apply Sel.skip|apply Get.here|apply Get.next)) ?_)|((with_reducible refine gate_ld0 rfl ?_);refine loc_load1 rfl rfl (by kernel_rfl) rfl HL.out (by with_reducible repeat (first|exact Sel.done|apply Sel.take|apply Sel.skip|apply Get.here|apply Get.next)) ?_)|((with_reducible refine gate_st0 rfl ?_);refine loc_store rfl rfl rfl (by first|(go_simp;done)|(go_simp;rfl)) (by kernel_rfl) (by kernel_rfl) HL.out (by with_reducible repeat (first|exact Spl.done|apply Spl.put|apply Spl.skip|apply Upd.here|apply Upd.next)) ?_;intro w_ HL_;replace HL:=mk_ HL_;clear HL_))
   go_ret
   exact ⟨by first|rfl|(simp [errW_none,errW_some] <;> rfl)|(simp [*,errW_none,errW_some] <;> rfl),HL.out.bel⟩
  subst c6
  rw [if_pos rfl] at H
  try dsimp only at H
  by_cases c7:a0_3=true
  ·subst c7
   rw [if_pos rfl] at H
   try dsimp only at H
   obtain rfl:=Option.some.inj H
   have HL:=mk_ (Lok.start w)
   go_enter Try.func114,Try.ntmps114
   go_wp2_with (first|((with_reducible refine gate_dst (N:=9) rfl ?_);(with_reducible refine gate_callee (f:=64) rfl ?_);refine goesL_ (some 9) rfl rfl Try.func64 (by kernel_rfl) rfl #[.int .i64 a0_1,.int .i64 0,.int .i64 7] rfl (by (try simp only [List.map_toArray,List.map_cons,List.map_nil]);first|done|rfl) ?_;(with_reducible refine (spec_l1In.calls a0_1 0 7 true _ A3.out).mono ?_);rintro e w_ ⟨rfl,hb_⟩;refine ⟨_,rfl,?_⟩;replace HL:=mk_ (HL.out.drawn hb_);clear hb_)|((with_reducible refine gate_dst (N:=13) rfl ?_);(with_reducible refine gate_callee (f:=64) rfl ?_);refine goesL_ (some 13) rfl rfl Try.func64 (by kernel_rfl) rfl #[.int .i64 a0_2,.int .i64 0,.int .i64 7] rfl (by (try simp only [List.map_toArray,List.map_cons,List.map_nil]);first|done|rfl) ?_;(with_reducible refine (spec_l1In.calls a0_2 0 7 true _ A5.out).mono ?_);rintro e w_ ⟨rfl,hb_⟩;refine ⟨_,rfl,?_⟩;replace HL:=mk_ (HL.out.drawn hb_);clear hb_)|((with_reducible refine gate_gd rfl ?_);first|((with_reducible refine gd_on rfl ?_ ?_);rfl;dsimp only)|((with_reducible refine gd_off rfl ?_ ?_);rfl))|((with_reducible refine gate_dst (N:=1) rfl ?_);refine loc_box rfl rfl (by first|(go_simp;done)|(go_simp;rfl)) HL.out ?_;intro gb1 w_ HL_;replace HL:=mk_ HL_;clear HL_)|((with_reducible refine gate_ld0 (t:=102) rfl ?_);refine loc_load (n:=9) rfl rfl (by kernel_rfl) rfl (by kernel_rfl) HL.out (by with_reducible repeat (first|exact Sel.done|apply Sel.take|apply Sel.skip|apply Get.here|apply Get.next)) ?_)|((with_reducible refine gate_ld0 rfl ?_);refine loc_load1 rfl rfl (by kernel_rfl) rfl HL.out (by with_reducible repeat (first|exact Sel.done|apply Sel.take|apply Sel.skip|apply Get.here|apply Get.next)) ?_)|((with_reducible refine gate_st0 rfl ?_);refine loc_store rfl rfl rfl (by first|(go_simp;done)|(go_simp;rfl)) (by kernel_rfl) (by kernel_rfl) HL.out (by with_reducible repeat (first|exact Spl.done|apply Spl.put|apply Spl.skip|apply Upd.here|apply Upd.next)) ?_;intro w_ HL_;replace HL:=mk_ HL_;clear HL_))
   go_ret
   exact ⟨by first|rfl|(simp [errW_none,errW_some] <;> rfl)|(simp [*,errW_none,errW_some] <;> rfl),HL.out.bel⟩
  replace c7:=Bool.eq_false_iff.mpr c7
  subst c7
  rw [if_neg Bool.false_ne_true] at H
  try dsimp only at H
  by_cases c8:a0_5=0
  rotate_left
  ·rw [if_neg c8] at H
   have c8b0:(a0_5 == 0)=false:=beq_eq_false_iff_ne.mpr c8
   have c8b1:(a0_5 != 0)=true:=bne_iff_ne.mpr c8
   try dsimp only at H
   obtain rfl:=Option.some.inj H
   have HL:=mk_ (Lok.start w)
   go_enter Try.func114,Try.ntmps114
   go_wp2_with (first|((with_reducible refine gate_dst (N:=9) rfl ?_);(with_reducible refine gate_callee (f:=64) rfl ?_);refine goesL_ (some 9) rfl rfl Try.func64 (by kernel_rfl) rfl #[.int .i64 a0_1,.int .i64 0,.int .i64 7] rfl (by (try simp only [List.map_toArray,List.map_cons,List.map_nil]);first|done|rfl) ?_;(with_reducible refine (spec_l1In.calls a0_1 0 7 true _ A3.out).mono ?_);rintro e w_ ⟨rfl,hb_⟩;refine ⟨_,rfl,?_⟩;replace HL:=mk_ (HL.out.drawn hb_);clear hb_)|((with_reducible refine gate_dst (N:=13) rfl ?_);(with_reducible refine gate_callee (f:=64) rfl ?_);refine goesL_ (some 13) rfl rfl Try.func64 (by kernel_rfl) rfl #[.int .i64 a0_2,.int .i64 0,.int .i64 7] rfl (by (try simp only [List.map_toArray,List.map_cons,List.map_nil]);first|done|rfl) ?_;(with_reducible refine (spec_l1In.calls a0_2 0 7 true _ A5.out).mono ?_);rintro e w_ ⟨rfl,hb_⟩;refine ⟨_,rfl,?_⟩;replace HL:=mk_ (HL.out.drawn hb_);clear hb_)|((with_reducible refine gate_gd rfl ?_);first|((with_reducible refine gd_on rfl ?_ ?_);rfl;dsimp only)|((with_reducible refine gd_off rfl ?_ ?_);rfl))|((with_reducible refine gate_dst (N:=1) rfl ?_);refine loc_box rfl rfl (by first|(go_simp;done)|(go_simp;rfl)) HL.out ?_;intro gb1 w_ HL_;replace HL:=mk_ HL_;clear HL_)|((with_reducible refine gate_ld0 (t:=102) rfl ?_);refine loc_load (n:=9) rfl rfl (by kernel_rfl) rfl (by kernel_rfl) HL.out (by with_reducible repeat (first|exact Sel.done|apply Sel.take|apply Sel.skip|apply Get.here|apply Get.next)) ?_)|((with_reducible refine gate_ld0 rfl ?_);refine loc_load1 rfl rfl (by kernel_rfl) rfl HL.out (by with_reducible repeat (first|exact Sel.done|apply Sel.take|apply Sel.skip|apply Get.here|apply Get.next)) ?_)|((with_reducible refine gate_st0 rfl ?_);refine loc_store rfl rfl rfl (by first|(go_simp;done)|(go_simp;rfl)) (by kernel_rfl) (by kernel_rfl) HL.out (by with_reducible repeat (first|exact Spl.done|apply Spl.put|apply Spl.skip|apply Upd.here|apply Upd.next)) ?_;intro w_ HL_;replace HL:=mk_ HL_;clear HL_))
   go_ret
   exact ⟨by first|rfl|(simp [errW_none,errW_some] <;> rfl)|(simp [*,errW_none,errW_some] <;> rfl),HL.out.bel⟩
  rw [if_pos c8] at H
  have c8b0:(a0_5 == 0)=true:=beq_iff_eq.mpr c8
  have c8b1:(a0_5 != 0)=false:=bne_eq_false_iff_eq.mpr c8
  try dsimp only at H
  clear c8
  replace H:=Option.bind_eq_some_iff.mp H
  obtain ⟨t339,Am,H⟩:=H
  try dsimp only at H
  have A9:=mk_ Am
  clear Am
  obtain rfl:=Option.some.inj H
  have HL:=mk_ (Lok.start w)
  go_enter Try.func114,Try.ntmps114
  go_wp2_with (first|((with_reducible refine gate_dst (N:=9) rfl ?_);(with_reducible refine gate_callee (f:=64) rfl ?_);refine goesL_ (some 9) rfl rfl Try.func64 (by kernel_rfl) rfl #[.int .i64 a0_1,.int .i64 0,.int .i64 7] rfl (by (try simp only [List.map_toArray,List.map_cons,List.map_nil]);first|done|rfl) ?_;(with_reducible refine (spec_l1In.calls a0_1 0 7 true _ A3.out).mono ?_);rintro e w_ ⟨rfl,hb_⟩;refine ⟨_,rfl,?_⟩;replace HL:=mk_ (HL.out.drawn hb_);clear hb_)|((with_reducible refine gate_dst (N:=13) rfl ?_);(with_reducible refine gate_callee (f:=64) rfl ?_);refine goesL_ (some 13) rfl rfl Try.func64 (by kernel_rfl) rfl #[.int .i64 a0_2,.int .i64 0,.int .i64 7] rfl (by (try simp only [List.map_toArray,List.map_cons,List.map_nil]);first|done|rfl) ?_;(with_reducible refine (spec_l1In.calls a0_2 0 7 true _ A5.out).mono ?_);rintro e w_ ⟨rfl,hb_⟩;refine ⟨_,rfl,?_⟩;replace HL:=mk_ (HL.out.drawn hb_);clear hb_)|((with_reducible refine gate_dst (N:=27) rfl ?_);(with_reducible refine gate_callee (f:=79) rfl ?_);refine goesL_ (some 27) rfl rfl Try.func79 (by kernel_rfl) rfl #[.agg #[.int .i64 a0_0,.int .i64 a0_1,.int .i64 a0_2,.bool false,.bool a0_4,.int .i64 a0_5,.int .i64 a0_6,.int .i64 a0_7,.slice A0_8 l0_8.length c0_8]] rfl (by (try simp only [List.map_toArray,List.map_cons,List.map_nil]);first|done|rfl) ?_;(with_reducible refine (spec_l2Seg.calls k a0_0 a0_1 a0_2 false a0_4 a0_5 a0_6 a0_7 A0_8 c0_8 l0_8 t339 _ (Kd.C_below Ab.out (HL.out.bel)) Ac.out A9.out).mono ?_);rintro e w_ ⟨rfl,hb_⟩;refine ⟨_,rfl,?_⟩;replace HL:=mk_ (HL.out.call hb_);clear hb_)|((with_reducible refine gate_gd rfl ?_);first|((with_reducible refine gd_on rfl ?_ ?_);rfl;dsimp only)|((with_reducible refine gd_off rfl ?_ ?_);rfl))|((with_reducible refine gate_dst (N:=1) rfl ?_);refine loc_box rfl rfl (by first|(go_simp;done)|(go_simp;rfl)) HL.out ?_;intro gb1 w_ HL_;replace HL:=mk_ HL_;clear HL_)|((with_reducible refine gate_ld0 (t:=102) rfl ?_);refine loc_load (n:=9) rfl rfl (by kernel_rfl) rfl (by kernel_rfl) HL.out (by with_reducible repeat (first|exact Sel.done|apply Sel.take|apply Sel.skip|apply Get.here|apply Get.next)) ?_)|((with_reducible refine gate_ld0 rfl ?_);refine loc_load1 rfl rfl (by kernel_rfl) rfl HL.out (by with_reducible repeat (first|exact Sel.done|apply Sel.take|apply Sel.skip|apply Get.here|apply Get.next)) ?_)|((with_reducible refine gate_st0 rfl ?_);refine loc_store rfl rfl rfl (by first|(go_simp;done)|(go_simp;rfl)) (by kernel_rfl) (by kernel_rfl) HL.out (by with_reducible repeat (first|exact Spl.done|apply Spl.put|apply Spl.skip|apply Upd.here|apply Upd.next)) ?_;intro w_ HL_;replace HL:=mk_ HL_;clear HL_))
  go_ret
  exact ⟨by first|rfl|(simp [errW_none,errW_some] <;> rfl)|(simp [*,errW_none,errW_some] <;> rfl),HL.out.bel⟩
 rw [if_neg c2] at H
 have c2b0:(a0_0 == 1)=false:=beq_eq_false_iff_ne.mpr c2
 have c2b1:(a0_0 != 1)=true:=bne_iff_ne.mpr c2
 try dsimp only at H
 by_cases c10:a0_0=2
 rotate_left
 ·rw [if_neg c10] at H
  have c10b0:(a0_0 == 2)=false:=beq_eq_false_iff_ne.mpr c10
  have c10b1:(a0_0 != 2)=true:=bne_iff_ne.mpr c10
  try dsimp only at H
  by_cases c24:a0_0=3
  ·rw [if_pos c24] at H
   have c24b0:(a0_0 == 3)=true:=beq_iff_eq.mpr c24
   have c24b1:(a0_0 != 3)=false:=bne_eq_false_iff_eq.mpr c24
   try dsimp only at H
   clear c24
   by_cases c25:a0_1=0
   rotate_left
   ·rw [if_neg c25] at H
    have c25b0:(a0_1 == 0)=false:=beq_eq_false_iff_ne.mpr c25
    have c25b1:(a0_1 != 0)=true:=bne_iff_ne.mpr c25
    try dsimp only at H
    obtain rfl:=Option.some.inj H
    have HL:=mk_ (Lok.start w)
    go_enter Try.func114,Try.ntmps114
    go_wp2_with (first|((with_reducible refine gate_gd rfl ?_);first|((with_reducible refine gd_on rfl ?_ ?_);rfl;dsimp only)|((with_reducible refine gd_off rfl ?_ ?_);rfl))|((with_reducible refine gate_dst (N:=1) rfl ?_);refine loc_box rfl rfl (by first|(go_simp;done)|(go_simp;rfl)) HL.out ?_;intro gb1 w_ HL_;replace HL:=mk_ HL_;clear HL_)|((with_reducible refine gate_ld0 (t:=102) rfl ?_);refine loc_load (n:=9) rfl rfl (by kernel_rfl) rfl (by kernel_rfl) HL.out (by with_reducible repeat (first|exact Sel.done|apply Sel.take|apply Sel.skip|apply Get.here|apply Get.next)) ?_)|((with_reducible refine gate_ld0 rfl ?_);refine loc_load1 rfl rfl (by kernel_rfl) rfl HL.out (by with_reducible repeat (first|exact Sel.done|apply Sel.take|apply Sel.skip|apply Get.here|apply Get.next)) ?_)|((with_reducible refine gate_st0 rfl ?_);refine loc_store rfl rfl rfl (by first|(go_simp;done)|(go_simp;rfl)) (by kernel_rfl) (by kernel_rfl) HL.out (by with_reducible repeat (first|exact Spl.done|apply Spl.put|apply Spl.skip|apply Upd.here|apply Upd.next)) ?_;intro w_ HL_;replace HL:=mk_ HL_;clear HL_))
    go_ret
    exact ⟨by first|rfl|(simp [errW_none,errW_some] <;> rfl)|(simp [*,errW_none,errW_some] <;> rfl),HL.out.bel⟩
   rw [if_pos c25] at H
   have c25b0:(a0_1 == 0)=true:=beq_iff_eq.mpr c25
   have c25b1:(a0_1 != 0)=false:=bne_eq_false_iff_eq.mpr c25
   try dsimp only at H
   clear c25
   by_cases c26:a0_2=0
   rotate_left
   ·rw [if_neg c26] at H
    have c26b0:(a0_2 == 0)=false:=beq_eq_false_iff_ne.mpr c26
    have c26b1:(a0_2 != 0)=true:=bne_iff_ne.mpr c26
    try dsimp only at H
    obtain rfl:=Option.some.inj H
    have HL:=mk_ (Lok.start w)
    go_enter Try.func114,Try.ntmps114
    go_wp2_with (first|((with_reducible refine gate_gd rfl ?_);first|((with_reducible refine gd_on rfl ?_ ?_);rfl;dsimp only)|((with_reducible refine gd_off rfl ?_ ?_);rfl))|((with_reducible refine gate_dst (N:=1) rfl ?_);refine loc_box rfl rfl (by first|(go_simp;done)|(go_simp;rfl)) HL.out ?_;intro gb1 w_ HL_;replace HL:=mk_ HL_;clear HL_)|((with_reducible refine gate_ld0 (t:=102) rfl ?_);refine loc_load (n:=9) rfl rfl (by kernel_rfl) rfl (by kernel_rfl) HL.out (by with_reducible repeat (first|exact Sel.done|apply Sel.take|apply Sel.skip|apply Get.here|apply Get.next)) ?_)|((with_reducible refine gate_ld0 rfl ?_);refine loc_load1 rfl rfl (by kernel_rfl) rfl HL.out (by with_reducible repeat (first|exact Sel.done|apply Sel.take|apply Sel.skip|apply Get.here|apply Get.next)) ?_)|((with_reducible refine gate_st0 rfl ?_);refine loc_store rfl rfl rfl (by first|(go_simp;done)|(go_simp;rfl)) (by kernel_rfl) (by kernel_rfl) HL.out (by with_reducible repeat (first|exact Spl.done|apply Spl.put|apply Spl.skip|apply Upd.here|apply Upd.next)) ?_;intro w_ HL_;replace HL:=mk_ HL_;clear HL_))
    go_ret
    exact ⟨by first|rfl|(simp [errW_none,errW_some] <;> rfl)|(simp [*,errW_none,errW_some] <;> rfl),HL.out.bel⟩
   rw [if_pos c26] at H
   have c26b0:(a0_2 == 0)=true:=beq_iff_eq.mpr c26
   have c26b1:(a0_2 != 0)=false:=bne_eq_false_iff_eq.mpr c26
   try dsimp only at H
   clear c26
   by_cases c27:a0_3=true
   ·subst c27
    rw [if_pos rfl] at H
    try dsimp only at H
    obtain rfl:=Option.some.inj H
    have HL:=mk_ (Lok.start w)
    go_enter Try.func114,Try.ntmps114
    go_wp2_with (first|((with_reducible refine gate_gd rfl ?_);first|((with_reducible refine gd_on rfl ?_ ?_);rfl;dsimp only)|((with_reducible refine gd_off rfl ?_ ?_);rfl))|((with_reducible refine gate_dst (N:=1) rfl ?_);refine loc_box rfl rfl (by first|(go_simp;done)|(go_simp;rfl)) HL.out ?_;intro gb1 w_ HL_;replace HL:=mk_ HL_;clear HL_)|((with_reducible refine gate_ld0 (t:=102) rfl ?_);refine loc_load (n:=9) rfl rfl (by kernel_rfl) rfl (by kernel_rfl) HL.out (by with_reducible repeat (first|exact Sel.done|apply Sel.take|apply Sel.skip|apply Get.here|apply Get.next)) ?_)|((with_reducible refine gate_ld0 rfl ?_);refine loc_load1 rfl rfl (by kernel_rfl) rfl HL.out (by with_reducible repeat (first|exact Sel.done|apply Sel.take|apply Sel.skip|apply Get.here|apply Get.next)) ?_)|((with_reducible refine gate_st0 rfl ?_);refine loc_store rfl rfl rfl (by first|(go_simp;done)|(go_simp;rfl)) (by kernel_rfl) (by kernel_rfl) HL.out (by with_reducible repeat (first|exact Spl.done|apply Spl.put|apply Spl.skip|apply Upd.here|apply Upd.next)) ?_;intro w_ HL_;replace HL:=mk_ HL_;clear HL_))
    go_ret
    exact ⟨by first|rfl|(simp [errW_none,errW_some] <;> rfl)|(simp [*,errW_none,errW_some] <;> rfl),HL.out.bel⟩
   replace c27:=Bool.eq_false_iff.mpr c27
   subst c27
   rw [if_neg Bool.false_ne_true] at H
   try dsimp only at H
   by_cases c28:a0_4=true
   ·subst c28
    rw [if_pos rfl] at H
    try dsimp only at H
    obtain rfl:=Option.some.inj H
    have HL:=mk_ (Lok.start w)
    go_enter Try.func114,Try.ntmps114
    go_wp2_with (first|((with_reducible refine gate_gd rfl ?_);first|((with_reducible refine gd_on rfl ?_ ?_);rfl;dsimp only)|((with_reducible refine gd_off rfl ?_ ?_);rfl))|((with_reducible refine gate_dst (N:=1) rfl ?_);refine loc_box rfl rfl (by first|(go_simp;done)|(go_simp;rfl)) HL.out ?_;intro gb1 w_ HL_;replace HL:=mk_ HL_;clear HL_)|((with_reducible refine gate_ld0 (t:=102) rfl ?_);refine loc_load (n:=9) rfl rfl (by kernel_rfl) rfl (by kernel_rfl) HL.out (by with_reducible repeat (first|exact Sel.done|apply Sel.take|apply Sel.skip|apply Get.here|apply Get.next)) ?_)|((with_reducible refine gate_ld0 rfl ?_);refine loc_load1 rfl rfl (by kernel_rfl) rfl HL.out (by with_reducible repeat (first|exact Sel.done|apply Sel.take|apply Sel.skip|apply Get.here|apply Get.next)) ?_)|((with_reducible refine gate_st0 rfl ?_);refine loc_store rfl rfl rfl (by first|(go_simp;done)|(go_simp;rfl)) (by kernel_rfl) (by kernel_rfl) HL.out (by with_reducible repeat (first|exact Spl.done|apply Spl.put|apply Spl.skip|apply Upd.here|apply Upd.next)) ?_;intro w_ HL_;replace HL:=mk_ HL_;clear HL_))
    go_ret
    exact ⟨by first|rfl|(simp [errW_none,errW_some] <;> rfl)|(simp [*,errW_none,errW_some] <;> rfl),HL.out.bel⟩
   replace c28:=Bool.eq_false_iff.mpr c28
   subst c28
   rw [if_neg Bool.false_ne_true] at H
   try dsimp only at H
   by_cases c29:a0_5=0
   rotate_left
   ·rw [if_neg c29] at H
    have c29b0:(a0_5 == 0)=false:=beq_eq_false_iff_ne.mpr c29
    have c29b1:(a0_5 != 0)=true:=bne_iff_ne.mpr c29
    try dsimp only at H
    obtain rfl:=Option.some.inj H
    have HL:=mk_ (Lok.start w)
    go_enter Try.func114,Try.ntmps114
    go_wp2_with (first|((with_reducible refine gate_gd rfl ?_);first|((with_reducible refine gd_on rfl ?_ ?_);rfl;dsimp only)|((with_reducible refine gd_off rfl ?_ ?_);rfl))|((with_reducible refine gate_dst (N:=1) rfl ?_);refine loc_box rfl rfl (by first|(go_simp;done)|(go_simp;rfl)) HL.out ?_;intro gb1 w_ HL_;replace HL:=mk_ HL_;clear HL_)|((with_reducible refine gate_ld0 (t:=102) rfl ?_);refine loc_load (n:=9) rfl rfl (by kernel_rfl) rfl (by kernel_rfl) HL.out (by with_reducible repeat (first|exact Sel.done|apply Sel.take|apply Sel.skip|apply Get.here|apply Get.next)) ?_)|((with_reducible refine gate_ld0 rfl ?_);refine loc_load1 rfl rfl (by kernel_rfl) rfl HL.out (by with_reducible repeat (first|exact Sel.done|apply Sel.take|apply Sel.skip|apply Get.here|apply Get.next)) ?_)|((with_reducible refine gate_st0 rfl ?_);refine loc_store rfl rfl rfl (by first|(go_simp;done)|(go_simp;rfl)) (by kernel_rfl) (by kernel_rfl) HL.out (by with_reducible repeat (first|exact Spl.done|apply Spl.put|apply Spl.skip|apply Upd.here|apply Upd.next)) ?_;intro w_ HL_;replace HL:=mk_ HL_;clear HL_))
    go_ret
    exact ⟨by first|rfl|(simp [errW_none,errW_some] <;> rfl)|(simp [*,errW_none,errW_some] <;> rfl),HL.out.bel⟩
   rw [if_pos c29] at H
   have c29b0:(a0_5 == 0)=true:=beq_iff_eq.mpr c29
   have c29b1:(a0_5 != 0)=false:=bne_eq_false_iff_eq.mpr c29
   try dsimp only at H
   clear c29
   replace H:=Option.bind_eq_some_iff.mp H
   obtain ⟨t343,Ag,H⟩:=H
   try dsimp only at H
   have Ad:=mk_ Ag
   clear Ag
   obtain rfl:=Option.some.inj H
   have HL:=mk_ (Lok.start w)
   go_enter Try.func114,Try.ntmps114
   go_wp2_with (first|((with_reducible refine gate_dst (N:=96) rfl ?_);(with_reducible refine gate_callee (f:=79) rfl ?_);refine goesL_ (some 96) rfl rfl Try.func79 (by kernel_rfl) rfl #[.agg #[.int .i64 a0_0,.int .i64 a0_1,.int .i64 a0_2,.bool false,.bool false,.int .i64 a0_5,.int .i64 a0_6,.int .i64 a0_7,.slice A0_8 l0_8.length c0_8]] rfl (by (try simp only [List.map_toArray,List.map_cons,List.map_nil]);first|done|rfl) ?_;(with_reducible refine (spec_l2Seg.calls k a0_0 a0_1 a0_2 false false a0_5 a0_6 a0_7 A0_8 c0_8 l0_8 t343 _ (Kd.C_below Ab.out (HL.out.bel)) Ac.out Ad.out).mono ?_);rintro e w_ ⟨rfl,hb_⟩;refine ⟨_,rfl,?_⟩;replace HL:=mk_ (HL.out.call hb_);clear hb_)|((with_reducible refine gate_gd rfl ?_);first|((with_reducible refine gd_on rfl ?_ ?_);rfl;dsimp only)|((with_reducible refine gd_off rfl ?_ ?_);rfl))|((with_reducible refine gate_dst (N:=1) rfl ?_);refine loc_box rfl rfl (by first|(go_simp;done)|(go_simp;rfl)) HL.out ?_;intro gb1 w_ HL_;replace HL:=mk_ HL_;clear HL_)|((with_reducible refine gate_ld0 (t:=102) rfl ?_);refine loc_load (n:=9) rfl rfl (by kernel_rfl) rfl (by kernel_rfl) HL.out (by with_reducible repeat (first|exact Sel.done|apply Sel.take|apply Sel.skip|apply Get.here|apply Get.next)) ?_)|((with_reducible refine gate_ld0 rfl ?_);refine loc_load1 rfl rfl (by kernel_rfl) rfl HL.out (by with_reducible repeat (first|exact Sel.done|apply Sel.take|apply Sel.skip|apply Get.here|apply Get.next)) ?_)|((with_reducible refine gate_st0 rfl ?_);refine loc_store rfl rfl rfl (by first|(go_simp;done)|(go_simp;rfl)) (by kernel_rfl) (by kernel_rfl) HL.out (by with_reducible repeat (first|exact Spl.done|apply Spl.put|apply Spl.skip|apply Upd.here|apply Upd.next)) ?_;intro w_ HL_;replace HL:=mk_ HL_;clear HL_))
   go_ret
   exact ⟨by first|rfl|(simp [errW_none,errW_some] <;> rfl)|(simp [*,errW_none,errW_some] <;> rfl),HL.out.bel⟩
  rw [if_neg c24] at H
  have c24b0:(a0_0 == 3)=false:=beq_eq_false_iff_ne.mpr c24
  have c24b1:(a0_0 != 3)=true:=bne_iff_ne.mpr c24
  try dsimp only at H
  by_cases c31:a0_0=4
  rotate_left
  ·rw [if_neg c31] at H
   have c31b0:(a0_0 == 4)=false:=beq_eq_false_iff_ne.mpr c31
   have c31b1:(a0_0 != 4)=true:=bne_iff_ne.mpr c31
   try dsimp only at H
   obtain rfl:=Option.some.inj H
   have HL:=mk_ (Lok.start w)
   go_enter Try.func114,Try.ntmps114
   go_wp2_with (first|((with_reducible refine gate_gd rfl ?_);first|((with_reducible refine gd_on rfl ?_ ?_);rfl;dsimp only)|((with_reducible refine gd_off rfl ?_ ?_);rfl))|((with_reducible refine gate_dst (N:=1) rfl ?_);refine loc_box rfl rfl (by first|(go_simp;done)|(go_simp;rfl)) HL.out ?_;intro gb1 w_ HL_;replace HL:=mk_ HL_;clear HL_)|((with_reducible refine gate_ld0 (t:=102) rfl ?_);refine loc_load (n:=9) rfl rfl (by kernel_rfl) rfl (by kernel_rfl) HL.out (by with_reducible repeat (first|exact Sel.done|apply Sel.take|apply Sel.skip|apply Get.here|apply Get.next)) ?_)|((with_reducible refine gate_ld0 rfl ?_);refine loc_load1 rfl rfl (by kernel_rfl) rfl HL.out (by with_reducible repeat (first|exact Sel.done|apply Sel.take|apply Sel.skip|apply Get.here|apply Get.next)) ?_)|((with_reducible refine gate_st0 rfl ?_);refine loc_store rfl rfl rfl (by first|(go_simp;done)|(go_simp;rfl)) (by kernel_rfl) (by kernel_rfl) HL.out (by with_reducible repeat (first|exact Spl.done|apply Spl.put|apply Spl.skip|apply Upd.here|apply Upd.next)) ?_;intro w_ HL_;replace HL:=mk_ HL_;clear HL_))
   go_ret
   exact ⟨by first|rfl|(simp [errW_none,errW_some] <;> rfl)|(simp [*,errW_none,errW_some] <;> rfl),HL.out.bel⟩
  rw [if_pos c31] at H
  have c31b0:(a0_0 == 4)=true:=beq_iff_eq.mpr c31
  have c31b1:(a0_0 != 4)=false:=bne_eq_false_iff_eq.mpr c31
  try dsimp only at H
  clear c31
  by_cases c32:a0_1=0
  rotate_left
  ·rw [if_neg c32] at H
   have c32b0:(a0_1 == 0)=false:=beq_eq_false_iff_ne.mpr c32
   have c32b1:(a0_1 != 0)=true:=bne_iff_ne.mpr c32
   try dsimp only at H
   obtain rfl:=Option.some.inj H
   have HL:=mk_ (Lok.start w)
   go_enter Try.func114,Try.ntmps114
   go_wp2_with (first|((with_reducible refine gate_gd rfl ?_);first|((with_reducible refine gd_on rfl ?_ ?_);rfl;dsimp only)|((with_reducible refine gd_off rfl ?_ ?_);rfl))|((with_reducible refine gate_dst (N:=1) rfl ?_);refine loc_box rfl rfl (by first|(go_simp;done)|(go_simp;rfl)) HL.out ?_;intro gb1 w_ HL_;replace HL:=mk_ HL_;clear HL_)|((with_reducible refine gate_ld0 (t:=102) rfl ?_);refine loc_load (n:=9) rfl rfl (by kernel_rfl) rfl (by kernel_rfl) HL.out (by with_reducible repeat (first|exact Sel.done|apply Sel.take|apply Sel.skip|apply Get.here|apply Get.next)) ?_)|((with_reducible refine gate_ld0 rfl ?_);refine loc_load1 rfl rfl (by kernel_rfl) rfl HL.out (by with_reducible repeat (first|exact Sel.done|apply Sel.take|apply Sel.skip|apply Get.here|apply Get.next)) ?_)|((with_reducible refine gate_st0 rfl ?_);refine loc_store rfl rfl rfl (by first|(go_simp;done)|(go_simp;rfl)) (by kernel_rfl) (by kernel_rfl) HL.out (by with_reducible repeat (first|exact Spl.done|apply Spl.put|apply Spl.skip|apply Upd.here|apply Upd.next)) ?_;intro w_ HL_;replace HL:=mk_ HL_;clear HL_))
   go_ret
   exact ⟨by first|rfl|(simp [errW_none,errW_some] <;> rfl)|(simp [*,errW_none,errW_some] <;> rfl),HL.out.bel⟩
  rw [if_pos c32] at H
  have c32b0:(a0_1 == 0)=true:=beq_iff_eq.mpr c32
  have c32b1:(a0_1 != 0)=false:=bne_eq_false_iff_eq.mpr c32
  try dsimp only at H
  clear c32
  by_cases c33:a0_2=0
  rotate_left
  ·rw [if_neg c33] at H
   have c33b0:(a0_2 == 0)=false:=beq_eq_false_iff_ne.mpr c33
   have c33b1:(a0_2 != 0)=true:=bne_iff_ne.mpr c33
   try dsimp only at H
   obtain rfl:=Option.some.inj H
   have HL:=mk_ (Lok.start w)
   go_enter Try.func114,Try.ntmps114
   go_wp2_with (first|((with_reducible refine gate_gd rfl ?_);first|((with_reducible refine gd_on rfl ?_ ?_);rfl;dsimp only)|((with_reducible refine gd_off rfl ?_ ?_);rfl))|((with_reducible refine gate_dst (N:=1) rfl ?_);refine loc_box rfl rfl (by first|(go_simp;done)|(go_simp;rfl)) HL.out ?_;intro gb1 w_ HL_;replace HL:=mk_ HL_;clear HL_)|((with_reducible refine gate_ld0 (t:=102) rfl ?_);refine loc_load (n:=9) rfl rfl (by kernel_rfl) rfl (by kernel_rfl) HL.out (by with_reducible repeat (first|exact Sel.done|apply Sel.take|apply Sel.skip|apply Get.here|apply Get.next)) ?_)|((with_reducible refine gate_ld0 rfl ?_);refine loc_load1 rfl rfl (by kernel_rfl) rfl HL.out (by with_reducible repeat (first|exact Sel.done|apply Sel.take|apply Sel.skip|apply Get.here|apply Get.next)) ?_)|((with_reducible refine gate_st0 rfl ?_);refine loc_store rfl rfl rfl (by first|(go_simp;done)|(go_simp;rfl)) (by kernel_rfl) (by kernel_rfl) HL.out (by with_reducible repeat (first|exact Spl.done|apply Spl.put|apply Spl.skip|apply Upd.here|apply Upd.next)) ?_;intro w_ HL_;replace HL:=mk_ HL_;clear HL_))
   go_ret
   exact ⟨by first|rfl|(simp [errW_none,errW_some] <;> rfl)|(simp [*,errW_none,errW_some] <;> rfl),HL.out.bel⟩
  rw [if_pos c33] at H
  have c33b0:(a0_2 == 0)=true:=beq_iff_eq.mpr c33
  have c33b1:(a0_2 != 0)=false:=bne_eq_false_iff_eq.mpr c33
  try dsimp only at H
  clear c33
  by_cases c34:a0_3=true
  ·subst c34
   rw [if_pos rfl] at H
   try dsimp only at H
   obtain rfl:=Option.some.inj H
   have HL:=mk_ (Lok.start w)
   go_enter Try.func114,Try.ntmps114
   go_wp2_with (first|((with_reducible refine gate_gd rfl ?_);first|((with_reducible refine gd_on rfl ?_ ?_);rfl;dsimp only)|((with_reducible refine gd_off rfl ?_ ?_);rfl))|((with_reducible refine gate_dst (N:=1) rfl ?_);refine loc_box rfl rfl (by first|(go_simp;done)|(go_simp;rfl)) HL.out ?_;intro gb1 w_ HL_;replace HL:=mk_ HL_;clear HL_)|((with_reducible refine gate_ld0 (t:=102) rfl ?_);refine loc_load (n:=9) rfl rfl (by kernel_rfl) rfl (by kernel_rfl) HL.out (by with_reducible repeat (first|exact Sel.done|apply Sel.take|apply Sel.skip|apply Get.here|apply Get.next)) ?_)|((with_reducible refine gate_ld0 rfl ?_);refine loc_load1 rfl rfl (by kernel_rfl) rfl HL.out (by with_reducible repeat (first|exact Sel.done|apply Sel.take|apply Sel.skip|apply Get.here|apply Get.next)) ?_)|((with_reducible refine gate_st0 rfl ?_);refine loc_store rfl rfl rfl (by first|(go_simp;done)|(go_simp;rfl)) (by kernel_rfl) (by kernel_rfl) HL.out (by with_reducible repeat (first|exact Spl.done|apply Spl.put|apply Spl.skip|apply Upd.here|apply Upd.next)) ?_;intro w_ HL_;replace HL:=mk_ HL_;clear HL_))
   go_ret
   exact ⟨by first|rfl|(simp [errW_none,errW_some] <;> rfl)|(simp [*,errW_none,errW_some] <;> rfl),HL.out.bel⟩
  replace c34:=Bool.eq_false_iff.mpr c34
  subst c34
  rw [if_neg Bool.false_ne_true] at H
  try dsimp only at H
  by_cases c35:a0_4=true
  ·subst c35
   rw [if_pos rfl] at H
   try dsimp only at H
   obtain rfl:=Option.some.inj H
   have HL:=mk_ (Lok.start w)
   go_enter Try.func114,Try.ntmps114
   go_wp2_with (first|((with_reducible refine gate_gd rfl ?_);first|((with_reducible refine gd_on rfl ?_ ?_);rfl;dsimp only)|((with_reducible refine gd_off rfl ?_ ?_);rfl))|((with_reducible refine gate_dst (N:=1) rfl ?_);refine loc_box rfl rfl (by first|(go_simp;done)|(go_simp;rfl)) HL.out ?_;intro gb1 w_ HL_;replace HL:=mk_ HL_;clear HL_)|((with_reducible refine gate_ld0 (t:=102) rfl ?_);refine loc_load (n:=9) rfl rfl (by kernel_rfl) rfl (by kernel_rfl) HL.out (by with_reducible repeat (first|exact Sel.done|apply Sel.take|apply Sel.skip|apply Get.here|apply Get.next)) ?_)|((with_reducible refine gate_ld0 rfl ?_);refine loc_load1 rfl rfl (by kernel_rfl) rfl HL.out (by with_reducible repeat (first|exact Sel.done|apply Sel.take|apply Sel.skip|apply Get.here|apply Get.next)) ?_)|((with_reducible refine gate_st0 rfl ?_);refine loc_store rfl rfl rfl (by first|(go_simp;done)|(go_simp;rfl)) (by kernel_rfl) (by kernel_rfl) HL.out (by with_reducible repeat (first|exact Spl.done|apply Spl.put|apply Spl.skip|apply Upd.here|apply Upd.next)) ?_;intro w_ HL_;replace HL:=mk_ HL_;clear HL_))
   go_ret
   exact ⟨by first|rfl|(simp [errW_none,errW_some] <;> rfl)|(simp [*,errW_none,errW_some] <;> rfl),HL.out.bel⟩
  replace c35:=Bool.eq_false_iff.mpr c35
  subst c35
  rw [if_neg Bool.false_ne_true] at H
  try dsimp only at H
  by_cases c36:a0_5=0
  rotate_left
  ·rw [if_neg c36] at H
   have c36b0:(a0_5 == 0)=false:=beq_eq_false_iff_ne.mpr c36
   have c36b1:(a0_5 != 0)=true:=bne_iff_ne.mpr c36
   try dsimp only at H
   obtain rfl:=Option.some.inj H
   have HL:=mk_ (Lok.start w)
   go_enter Try.func114,Try.ntmps114
   go_wp2_with (first|((with_reducible refine gate_gd rfl ?_);first|((with_reducible refine gd_on rfl ?_ ?_);rfl;dsimp only)|((with_reducible refine gd_off rfl ?_ ?_);rfl))|((with_reducible refine gate_dst (N:=1) rfl ?_);refine loc_box rfl rfl (by first|(go_simp;done)|(go_simp;rfl)) HL.out ?_;intro gb1 w_ HL_;replace HL:=mk_ HL_;clear HL_)|((with_reducible refine gate_ld0 (t:=102) rfl ?_);refine loc_load (n:=9) rfl rfl (by kernel_rfl) rfl (by kernel_rfl) HL.out (by with_reducible repeat (first|exact Sel.done|apply Sel.take|apply Sel.skip|apply Get.here|apply Get.next)) ?_)|((with_reducible refine gate_ld0 rfl ?_);refine loc_load1 rfl rfl (by kernel_rfl) rfl HL.out (by with_reducible repeat (first|exact Sel.done|apply Sel.take|apply Sel.skip|apply Get.here|apply Get.next)) ?_)|((with_reducible refine gate_st0 rfl ?_);refine loc_store rfl rfl rfl (by first|(go_simp;done)|(go_simp;rfl)) (by kernel_rfl) (by kernel_rfl) HL.out (by with_reducible repeat (first|exact Spl.done|apply Spl.put|apply Spl.skip|apply Upd.here|apply Upd.next)) ?_;intro w_ HL_;replace HL:=mk_ HL_;clear HL_))
   go_ret
   exact ⟨by first|rfl|(simp [errW_none,errW_some] <;> rfl)|(simp [*,errW_none,errW_some] <;> rfl),HL.out.bel⟩
  rw [if_pos c36] at H
  have c36b0:(a0_5 == 0)=true:=beq_iff_eq.mpr c36
  have c36b1:(a0_5 != 0)=false:=bne_eq_false_iff_eq.mpr c36
  try dsimp only at H
  clear c36
  by_cases c37:a0_6=0
  rotate_left
  ·rw [if_neg c37] at H
   have c37b0:(a0_6 == 0)=false:=beq_eq_false_iff_ne.mpr c37
   have c37b1:(a0_6 != 0)=true:=bne_iff_ne.mpr c37
   try dsimp only at H
   obtain rfl:=Option.some.inj H
   have HL:=mk_ (Lok.start w)
   go_enter Try.func114,Try.ntmps114
   go_wp2_with (first|((with_reducible refine gate_gd rfl ?_);first|((with_reducible refine gd_on rfl ?_ ?_);rfl;dsimp only)|((with_reducible refine gd_off rfl ?_ ?_);rfl))|((with_reducible refine gate_dst (N:=1) rfl ?_);refine loc_box rfl rfl (by first|(go_simp;done)|(go_simp;rfl)) HL.out ?_;intro gb1 w_ HL_;replace HL:=mk_ HL_;clear HL_)|((with_reducible refine gate_ld0 (t:=102) rfl ?_);refine loc_load (n:=9) rfl rfl (by kernel_rfl) rfl (by kernel_rfl) HL.out (by with_reducible repeat (first|exact Sel.done|apply Sel.take|apply Sel.skip|apply Get.here|apply Get.next)) ?_)|((with_reducible refine gate_ld0 rfl ?_);refine loc_load1 rfl rfl (by kernel_rfl) rfl HL.out (by with_reducible repeat (first|exact Sel.done|apply Sel.take|apply Sel.skip|apply Get.here|apply Get.next)) ?_)|((with_reducible refine gate_st0 rfl ?_);refine loc_store rfl rfl rfl (by first|(go_simp;done)|(go_simp;rfl)) (by kernel_rfl) (by kernel_rfl) HL.out (by with_reducible repeat (first|exact Spl.done|apply Spl.put|apply Spl.skip|apply Upd.here|apply Upd.next)) ?_;intro w_ HL_;replace HL:=mk_ HL_;clear HL_))
   go_ret
   exact ⟨by first|rfl|(simp [errW_none,errW_some] <;> rfl)|(simp [*,errW_none,errW_some] <;> rfl),HL.out.bel⟩
  rw [if_pos c37] at H
  have c37b0:(a0_6 == 0)=true:=beq_iff_eq.mpr c37
  have c37b1:(a0_6 != 0)=false:=bne_eq_false_iff_eq.mpr c37
  try dsimp only at H
  clear c37
  replace H:=Option.bind_eq_some_iff.mp H
  obtain ⟨t344,Ah,H⟩:=H
  try dsimp only at H
  have An:=mk_ Ah
  clear Ah
  by_cases c39:t344=true
  ·subst c39
   rw [if_pos rfl] at H
   try dsimp only at H
   obtain rfl:=Option.some.inj H
   have HL:=mk_ (Lok.start w)
   go_enter Try.func114,Try.ntmps114
   go_wp2_with (first|((with_reducible refine gate_dst (N:=134) rfl ?_);(with_reducible refine gate_callee (f:=64) rfl ?_);refine goesL_ (some 134) rfl rfl Try.func64 (by kernel_rfl) rfl #[.int .i64 a0_7,.int .i64 1,.int .i64 255] rfl (by (try simp only [List.map_toArray,List.map_cons,List.map_nil]);first|done|rfl) ?_;(with_reducible refine (spec_l1In.calls a0_7 1 255 true _ An.out).mono ?_);rintro e w_ ⟨rfl,hb_⟩;refine ⟨_,rfl,?_⟩;replace HL:=mk_ (HL.out.drawn hb_);clear hb_)|((with_reducible refine gate_gd rfl ?_);first|((with_reducible refine gd_on rfl ?_ ?_);rfl;dsimp only)|((with_reducible refine gd_off rfl ?_ ?_);rfl))|((with_reducible refine gate_dst (N:=1) rfl ?_);refine loc_box rfl rfl (by first|(go_simp;done)|(go_simp;rfl)) HL.out ?_;intro gb1 w_ HL_;replace HL:=mk_ HL_;clear HL_)|((with_reducible refine gate_ld0 (t:=102) rfl ?_);refine loc_load (n:=9) rfl rfl (by kernel_rfl) rfl (by kernel_rfl) HL.out (by with_reducible repeat (first|exact Sel.done|apply Sel.take|apply Sel.skip|apply Get.here|apply Get.next)) ?_)|((with_reducible refine gate_ld0 rfl ?_);refine loc_load1 rfl rfl (by kernel_rfl) rfl HL.out (by with_reducible repeat (first|exact Sel.done|apply Sel.take|apply Sel.skip|apply Get.here|apply Get.next)) ?_)|((with_reducible refine gate_st0 rfl ?_);refine loc_store rfl rfl rfl (by first|(go_simp;done)|(go_simp;rfl)) (by kernel_rfl) (by kernel_rfl) HL.out (by with_reducible repeat (first|exact Spl.done|apply Spl.put|apply Spl.skip|apply Upd.here|apply Upd.next)) ?_;intro w_ HL_;replace HL:=mk_ HL_;clear HL_))
   go_ret
   exact ⟨by first|rfl|(simp [errW_none,errW_some] <;> rfl)|(simp [*,errW_none,errW_some] <;> rfl),HL.out.bel⟩
  replace c39:=Bool.eq_false_iff.mpr c39
  subst c39
  rw [if_neg Bool.false_ne_true] at H
  try dsimp only at H
  obtain rfl:=Option.some.inj H
  have HL:=mk_ (Lok.start w)
  go_enter Try.func114,Try.ntmps114
  go_wp2_with (first|((with_reducible refine gate_dst (N:=134) rfl ?_);(with_reducible refine gate_callee (f:=64) rfl ?_);refine goesL_ (some 134) rfl rfl Try.func64 (by kernel_rfl) rfl #[.int .i64 a0_7,.int .i64 1,.int .i64 255] rfl (by (try simp only [List.map_toArray,List.map_cons,List.map_nil]);first|done|rfl) ?_;(with_reducible refine (spec_l1In.calls a0_7 1 255 false _ An.out).mono ?_);rintro e w_ ⟨rfl,hb_⟩;refine ⟨_,rfl,?_⟩;replace HL:=mk_ (HL.out.drawn hb_);clear hb_)|((with_reducible refine gate_gd rfl ?_);first|((with_reducible refine gd_on rfl ?_ ?_);rfl;dsimp only)|((with_reducible refine gd_off rfl ?_ ?_);rfl))|((with_reducible refine gate_dst (N:=1) rfl ?_);refine loc_box rfl rfl (by first|(go_simp;done)|(go_simp;rfl)) HL.out ?_;intro gb1 w_ HL_;replace HL:=mk_ HL_;clear HL_)|((with_reducible refine gate_ld0 (t:=102) rfl ?_);refine loc_load (n:=9) rfl rfl (by kernel_rfl) rfl (by kernel_rfl) HL.out (by with_reducible repeat (first|exact Sel.done|apply Sel.take|apply Sel.skip|apply Get.here|apply Get.next)) ?_)|((with_reducible refine gate_ld0 rfl ?_);refine loc_load1 rfl rfl (by kernel_rfl) rfl HL.out (by with_reducible repeat (first|exact Sel.done|apply Sel.take|apply Sel.skip|apply Get.here|apply Get.next)) ?_)|((with_reducible refine gate_st0 rfl ?_);refine loc_store rfl rfl rfl (by first|(go_simp;done)|(go_simp;rfl)) (by kernel_rfl) (by kernel_rfl) HL.out (by with_reducible repeat (first|exact Spl.done|apply Spl.put|apply Spl.skip|apply Upd.here|apply Upd.next)) ?_;intro w_ HL_;replace HL:=mk_ HL_;clear HL_))
  go_ret
  exact ⟨by first|rfl|(simp [errW_none,errW_some] <;> rfl)|(simp [*,errW_none,errW_some] <;> rfl),HL.out.bel⟩
 rw [if_pos c10] at H
 have c10b0:(a0_0 == 2)=true:=beq_iff_eq.mpr c10
 have c10b1:(a0_0 != 2)=false:=bne_eq_false_iff_eq.mpr c10
 try dsimp only at H
 clear c10
 by_cases c11:a0_1=0
 rotate_left
 ·rw [if_neg c11] at H
  have c11b0:(a0_1 == 0)=false:=beq_eq_false_iff_ne.mpr c11
  have c11b1:(a0_1 != 0)=true:=bne_iff_ne.mpr c11
  try dsimp only at H
  obtain rfl:=Option.some.inj H
  have HL:=mk_ (Lok.start w)
  go_enter Try.func114,Try.ntmps114
  go_wp2_with (first|((with_reducible refine gate_gd rfl ?_);first|((with_reducible refine gd_on rfl ?_ ?_);rfl;dsimp only)|((with_reducible refine gd_off rfl ?_ ?_);rfl))|((with_reducible refine gate_dst (N:=1) rfl ?_);refine loc_box rfl rfl (by first|(go_simp;done)|(go_simp;rfl)) HL.out ?_;intro gb1 w_ HL_;replace HL:=mk_ HL_;clear HL_)|((with_reducible refine gate_ld0 (t:=102) rfl ?_);refine loc_load (n:=9) rfl rfl (by kernel_rfl) rfl (by kernel_rfl) HL.out (by with_reducible repeat (first|exact Sel.done|apply Sel.take|apply Sel.skip|apply Get.here|apply Get.next)) ?_)|((with_reducible refine gate_ld0 rfl ?_);refine loc_load1 rfl rfl (by kernel_rfl) rfl HL.out (by with_reducible repeat (first|exact Sel.done|apply Sel.take|apply Sel.skip|apply Get.here|apply Get.next)) ?_)|((with_reducible refine gate_st0 rfl ?_);refine loc_store rfl rfl rfl (by first|(go_simp;done)|(go_simp;rfl)) (by kernel_rfl) (by kernel_rfl) HL.out (by with_reducible repeat (first|exact Spl.done|apply Spl.put|apply Spl.skip|apply Upd.here|apply Upd.next)) ?_;intro w_ HL_;replace HL:=mk_ HL_;clear HL_))
  go_ret
  exact ⟨by first|rfl|(simp [errW_none,errW_some] <;> rfl)|(simp [*,errW_none,errW_some] <;> rfl),HL.out.bel⟩
 rw [if_pos c11] at H
 have c11b0:(a0_1 == 0)=true:=beq_iff_eq.mpr c11
 have c11b1:(a0_1 != 0)=false:=bne_eq_false_iff_eq.mpr c11
 try dsimp only at H
 clear c11
 replace H:=Option.bind_eq_some_iff.mp H
 obtain ⟨t340,Ai,H⟩:=H
 try dsimp only at H
 have Aa:=mk_ Ai
 clear Ai
 by_cases c13:t340=true
 rotate_left
 ·replace c13:=Bool.eq_false_iff.mpr c13
  subst c13
  rw [if_neg Bool.false_ne_true] at H
  try dsimp only at H
  obtain rfl:=Option.some.inj H
  have HL:=mk_ (Lok.start w)
  go_enter Try.func114,Try.ntmps114
  go_wp2_with (first|((with_reducible refine gate_dst (N:=37) rfl ?_);(with_reducible refine gate_callee (f:=64) rfl ?_);refine goesL_ (some 37) rfl rfl Try.func64 (by kernel_rfl) rfl #[.int .i64 a0_2,.int .i64 0,.int .i64 7] rfl (by (try simp only [List.map_toArray,List.map_cons,List.map_nil]);first|done|rfl) ?_;(with_reducible refine (spec_l1In.calls a0_2 0 7 false _ Aa.out).mono ?_);rintro e w_ ⟨rfl,hb_⟩;refine ⟨_,rfl,?_⟩;replace HL:=mk_ (HL.out.drawn hb_);clear hb_)|((with_reducible refine gate_gd rfl ?_);first|((with_reducible refine gd_on rfl ?_ ?_);rfl;dsimp only)|((with_reducible refine gd_off rfl ?_ ?_);rfl))|((with_reducible refine gate_dst (N:=1) rfl ?_);refine loc_box rfl rfl (by first|(go_simp;done)|(go_simp;rfl)) HL.out ?_;intro gb1 w_ HL_;replace HL:=mk_ HL_;clear HL_)|((with_reducible refine gate_ld0 (t:=102) rfl ?_);refine loc_load (n:=9) rfl rfl (by kernel_rfl) rfl (by kernel_rfl) HL.out (by with_reducible repeat (first|exact Sel.done|apply Sel.take|apply Sel.skip|apply Get.here|apply Get.next)) ?_)|((with_reducible refine gate_ld0 rfl ?_);refine loc_load1 rfl rfl (by kernel_rfl) rfl HL.out (by with_reducible repeat (first|exact Sel.done|apply Sel.take|apply Sel.skip|apply Get.here|apply Get.next)) ?_)|((with_reducible refine gate_st0 rfl ?_);refine loc_store rfl rfl rfl (by first|(go_simp;done)|(go_simp;rfl)) (by kernel_rfl) (by kernel_rfl) HL.out (by with_reducible repeat (first|exact Spl.done|apply Spl.put|apply Spl.skip|apply Upd.here|apply Upd.next)) ?_;intro w_ HL_;replace HL:=mk_ HL_;clear HL_))
  go_ret
  exact ⟨by first|rfl|(simp [errW_none,errW_some] <;> rfl)|(simp [*,errW_none,errW_some] <;> rfl),HL.out.bel⟩
 subst c13
 rw [if_pos rfl] at H
 try dsimp only at H
 by_cases c14:a0_3=true
 rotate_left
 ·replace c14:=Bool.eq_false_iff.mpr c14
  subst c14
  rw [if_neg Bool.false_ne_true] at H
  try dsimp only at H
  replace H:=Option.bind_eq_some_iff.mp H
  obtain ⟨t342,Aj,H⟩:=H
  try dsimp only at H
  have Ae:=mk_ Aj
  clear Aj
  by_cases c21:t342=true
  rotate_left
  ·replace c21:=Bool.eq_false_iff.mpr c21
   subst c21
   rw [if_neg Bool.false_ne_true] at H
   try dsimp only at H
   obtain rfl:=Option.some.inj H
   have HL:=mk_ (Lok.start w)
   go_enter Try.func114,Try.ntmps114
   go_wp2_with (first|((with_reducible refine gate_dst (N:=37) rfl ?_);(with_reducible refine gate_callee (f:=64) rfl ?_);refine goesL_ (some 37) rfl rfl Try.func64 (by kernel_rfl) rfl #[.int .i64 a0_2,.int .i64 0,.int .i64 7] rfl (by (try simp only [List.map_toArray,List.map_cons,List.map_nil]);first|done|rfl) ?_;(with_reducible refine (spec_l1In.calls a0_2 0 7 true _ Aa.out).mono ?_);rintro e w_ ⟨rfl,hb_⟩;refine ⟨_,rfl,?_⟩;replace HL:=mk_ (HL.out.drawn hb_);clear hb_)|((with_reducible refine gate_dst (N:=51) rfl ?_);(with_reducible refine gate_callee (f:=64) rfl ?_);refine goesL_ (some 51) rfl rfl Try.func64 (by kernel_rfl) rfl #[.int .i64 a0_5,.int .i64 0,.int .i64 2] rfl (by (try simp only [List.map_toArray,List.map_cons,List.map_nil]);first|done|rfl) ?_;(with_reducible refine (spec_l1In.calls a0_5 0 2 false _ Ae.out).mono ?_);rintro e w_ ⟨rfl,hb_⟩;refine ⟨_,rfl,?_⟩;replace HL:=mk_ (HL.out.drawn hb_);clear hb_)|((with_reducible refine gate_gd rfl ?_);first|((with_reducible refine gd_on rfl ?_ ?_);rfl;dsimp only)|((with_reducible refine gd_off rfl ?_ ?_);rfl))|((with_reducible refine gate_dst (N:=1) rfl ?_);refine loc_box rfl rfl (by first|(go_simp;done)|(go_simp;rfl)) HL.out ?_;intro gb1 w_ HL_;replace HL:=mk_ HL_;clear HL_)|((with_reducible refine gate_ld0 (t:=102) rfl ?_);refine loc_load (n:=9) rfl rfl (by kernel_rfl) rfl (by kernel_rfl) HL.out (by with_reducible repeat (first|exact Sel.done|apply Sel.take|apply Sel.skip|apply Get.here|apply Get.next)) ?_)|((with_reducible refine gate_ld0 rfl ?_);refine loc_load1 rfl rfl (by kernel_rfl) rfl HL.out (by with_reducible repeat (first|exact Sel.done|apply Sel.take|apply Sel.skip|apply Get.here|apply Get.next)) ?_)|((with_reducible refine gate_st0 rfl ?_);refine loc_store rfl rfl rfl (by first|(go_simp;done)|(go_simp;rfl)) (by kernel_rfl) (by kernel_rfl) HL.out (by with_reducible repeat (first|exact Spl.done|apply Spl.put|apply Spl.skip|apply Upd.here|apply Upd.next)) ?_;intro w_ HL_;replace HL:=mk_ HL_;clear HL_))
   go_ret
   exact ⟨by first|rfl|(simp [errW_none,errW_some] <;> rfl)|(simp [*,errW_none,errW_some] <;> rfl),HL.out.bel⟩
  subst c21
  rw [if_pos rfl] at H
  try dsimp only at H
  by_cases c22:a0_6=0
  rotate_left
  ·rw [if_neg c22] at H
   have c22b0:(a0_6 == 0)=false:=beq_eq_false_iff_ne.mpr c22
   have c22b1:(a0_6 != 0)=true:=bne_iff_ne.mpr c22
   try dsimp only at H
   obtain rfl:=Option.some.inj H
   have HL:=mk_ (Lok.start w)
   go_enter Try.func114,Try.ntmps114
   go_wp2_with (first|((with_reducible refine gate_dst (N:=37) rfl ?_);(with_reducible refine gate_callee (f:=64) rfl ?_);refine goesL_ (some 37) rfl rfl Try.func64 (by kernel_rfl) rfl #[.int .i64 a0_2,.int .i64 0,.int .i64 7] rfl (by (try simp only [List.map_toArray,List.map_cons,List.map_nil]);first|done|rfl) ?_;(with_reducible refine (spec_l1In.calls a0_2 0 7 true _ Aa.out).mono ?_);rintro e w_ ⟨rfl,hb_⟩;refine ⟨_,rfl,?_⟩;replace HL:=mk_ (HL.out.drawn hb_);clear hb_)|((with_reducible refine gate_dst (N:=51) rfl ?_);(with_reducible refine gate_callee (f:=64) rfl ?_);refine goesL_ (some 51) rfl rfl Try.func64 (by kernel_rfl) rfl #[.int .i64 a0_5,.int .i64 0,.int .i64 2] rfl (by (try simp only [List.map_toArray,List.map_cons,List.map_nil]);first|done|rfl) ?_;(with_reducible refine (spec_l1In.calls a0_5 0 2 true _ Ae.out).mono ?_);rintro e w_ ⟨rfl,hb_⟩;refine ⟨_,rfl,?_⟩;replace HL:=mk_ (HL.out.drawn hb_);clear hb_)|((with_reducible refine gate_gd rfl ?_);first|((with_reducible refine gd_on rfl ?_ ?_);rfl;dsimp only)|((with_reducible refine gd_off rfl ?_ ?_);rfl))|((with_reducible refine gate_dst (N:=1) rfl ?_);refine loc_box rfl rfl (by first|(go_simp;done)|(go_simp;rfl)) HL.out ?_;intro gb1 w_ HL_;replace HL:=mk_ HL_;clear HL_)|((with_reducible refine gate_ld0 (t:=102) rfl ?_);refine loc_load (n:=9) rfl rfl (by kernel_rfl) rfl (by kernel_rfl) HL.out (by with_reducible repeat (first|exact Sel.done|apply Sel.take|apply Sel.skip|apply Get.here|apply Get.next)) ?_)|((with_reducible refine gate_ld0 rfl ?_);refine loc_load1 rfl rfl (by kernel_rfl) rfl HL.out (by with_reducible repeat (first|exact Sel.done|apply Sel.take|apply Sel.skip|apply Get.here|apply Get.next)) ?_)|((with_reducible refine gate_st0 rfl ?_);refine loc_store rfl rfl rfl (by first|(go_simp;done)|(go_simp;rfl)) (by kernel_rfl) (by kernel_rfl) HL.out (by with_reducible repeat (first|exact Spl.done|apply Spl.put|apply Spl.skip|apply Upd.here|apply Upd.next)) ?_;intro w_ HL_;replace HL:=mk_ HL_;clear HL_))
   go_ret
   exact ⟨by first|rfl|(simp [errW_none,errW_some] <;> rfl)|(simp [*,errW_none,errW_some] <;> rfl),HL.out.bel⟩
  rw [if_pos c22] at H
  have c22b0:(a0_6 == 0)=true:=beq_iff_eq.mpr c22
  have c22b1:(a0_6 != 0)=false:=bne_eq_false_iff_eq.mpr c22
  try dsimp only at H
  clear c22
  by_cases c23:a0_7=0
  rotate_left
  ·rw [if_neg c23] at H
   have c23b0:(a0_7 == 0)=false:=beq_eq_false_iff_ne.mpr c23
   have c23b1:(a0_7 != 0)=true:=bne_iff_ne.mpr c23
   try dsimp only at H
   obtain rfl:=Option.some.inj H
   have HL:=mk_ (Lok.start w)
   go_enter Try.func114,Try.ntmps114
   go_wp2_with (first|((with_reducible refine gate_dst (N:=37) rfl ?_);(with_reducible refine gate_callee (f:=64) rfl ?_);refine goesL_ (some 37) rfl rfl Try.func64 (by kernel_rfl) rfl #[.int .i64 a0_2,.int .i64 0,.int .i64 7] rfl (by (try simp only [List.map_toArray,List.map_cons,List.map_nil]);first|done|rfl) ?_;(with_reducible refine (spec_l1In.calls a0_2 0 7 true _ Aa.out).mono ?_);rintro e w_ ⟨rfl,hb_⟩;refine ⟨_,rfl,?_⟩;replace HL:=mk_ (HL.out.drawn hb_);clear hb_)|((with_reducible refine gate_dst (N:=51) rfl ?_);(with_reducible refine gate_callee (f:=64) rfl ?_);refine goesL_ (some 51) rfl rfl Try.func64 (by kernel_rfl) rfl #[.int .i64 a0_5,.int .i64 0,.int .i64 2] rfl (by (try simp only [List.map_toArray,List.map_cons,List.map_nil]);first|done|rfl) ?_;(with_reducible refine (spec_l1In.calls a0_5 0 2 true _ Ae.out).mono ?_);rintro e w_ ⟨rfl,hb_⟩;refine ⟨_,rfl,?_⟩;replace HL:=mk_ (HL.out.drawn hb_);clear hb_)|((with_reducible refine gate_gd rfl ?_);first|((with_reducible refine gd_on rfl ?_ ?_);rfl;dsimp only)|((with_reducible refine gd_off rfl ?_ ?_);rfl))|((with_reducible refine gate_dst (N:=1) rfl ?_);refine loc_box rfl rfl (by first|(go_simp;done)|(go_simp;rfl)) HL.out ?_;intro gb1 w_ HL_;replace HL:=mk_ HL_;clear HL_)|((with_reducible refine gate_ld0 (t:=102) rfl ?_);refine loc_load (n:=9) rfl rfl (by kernel_rfl) rfl (by kernel_rfl) HL.out (by with_reducible repeat (first|exact Sel.done|apply Sel.take|apply Sel.skip|apply Get.here|apply Get.next)) ?_)|((with_reducible refine gate_ld0 rfl ?_);refine loc_load1 rfl rfl (by kernel_rfl) rfl HL.out (by with_reducible repeat (first|exact Sel.done|apply Sel.take|apply Sel.skip|apply Get.here|apply Get.next)) ?_)|((with_reducible refine gate_st0 rfl ?_);refine loc_store rfl rfl rfl (by first|(go_simp;done)|(go_simp;rfl)) (by kernel_rfl) (by kernel_rfl) HL.out (by with_reducible repeat (first|exact Spl.done|apply Spl.put|apply Spl.skip|apply Upd.here|apply Upd.next)) ?_;intro w_ HL_;replace HL:=mk_ HL_;clear HL_))
   go_ret
   exact ⟨by first|rfl|(simp [errW_none,errW_some] <;> rfl)|(simp [*,errW_none,errW_some] <;> rfl),HL.out.bel⟩
  rw [if_pos c23] at H
  have c23b0:(a0_7 == 0)=true:=beq_iff_eq.mpr c23
  have c23b1:(a0_7 != 0)=false:=bne_eq_false_iff_eq.mpr c23
  try dsimp only at H
  clear c23
  obtain rfl:=Option.some.inj H
  have HL:=mk_ (Lok.start w)
  go_enter Try.func114,Try.ntmps114
  go_wp2_with (first|((with_reducible refine gate_dst (N:=37) rfl ?_);(with_reducible refine gate_callee (f:=64) rfl ?_);refine goesL_ (some 37) rfl rfl Try.func64 (by kernel_rfl) rfl #[.int .i64 a0_2,.int .i64 0,.int .i64 7] rfl (by (try simp only [List.map_toArray,List.map_cons,List.map_nil]);first|done|rfl) ?_;(with_reducible refine (spec_l1In.calls a0_2 0 7 true _ Aa.out).mono ?_);rintro e w_ ⟨rfl,hb_⟩;refine ⟨_,rfl,?_⟩;replace HL:=mk_ (HL.out.drawn hb_);clear hb_)|((with_reducible refine gate_dst (N:=51) rfl ?_);(with_reducible refine gate_callee (f:=64) rfl ?_);refine goesL_ (some 51) rfl rfl Try.func64 (by kernel_rfl) rfl #[.int .i64 a0_5,.int .i64 0,.int .i64 2] rfl (by (try simp only [List.map_toArray,List.map_cons,List.map_nil]);first|done|rfl) ?_;(with_reducible refine (spec_l1In.calls a0_5 0 2 true _ Ae.out).mono ?_);rintro e w_ ⟨rfl,hb_⟩;refine ⟨_,rfl,?_⟩;replace HL:=mk_ (HL.out.drawn hb_);clear hb_)|((with_reducible refine gate_gd rfl ?_);first|((with_reducible refine gd_on rfl ?_ ?_);rfl;dsimp only)|((with_reducible refine gd_off rfl ?_ ?_);rfl))|((with_reducible refine gate_dst (N:=1) rfl ?_);refine loc_box rfl rfl (by first|(go_simp;done)|(go_simp;rfl)) HL.out ?_;intro gb1 w_ HL_;replace HL:=mk_ HL_;clear HL_)|((with_reducible refine gate_ld0 (t:=102) rfl ?_);refine loc_load (n:=9) rfl rfl (by kernel_rfl) rfl (by kernel_rfl) HL.out (by with_reducible repeat (first|exact Sel.done|apply Sel.take|apply Sel.skip|apply Get.here|apply Get.next)) ?_)|((with_reducible refine gate_ld0 rfl ?_);refine loc_load1 rfl rfl (by kernel_rfl) rfl HL.out (by with_reducible repeat (first|exact Sel.done|apply Sel.take|apply Sel.skip|apply Get.here|apply Get.next)) ?_)|((with_reducible refine gate_st0 rfl ?_);refine loc_store rfl rfl rfl (by first|(go_simp;done)|(go_simp;rfl)) (by kernel_rfl) (by kernel_rfl) HL.out (by with_reducible repeat (first|exact Spl.done|apply Spl.put|apply Spl.skip|apply Upd.here|apply Upd.next)) ?_;intro w_ HL_;replace HL:=mk_ HL_;clear HL_))
  go_ret
  exact ⟨by first|rfl|(simp [errW_none,errW_some] <;> rfl)|(simp [*,errW_none,errW_some] <;> rfl),HL.out.bel⟩
 subst c14
 rw [if_pos rfl] at H
 try dsimp only at H
 by_cases c15:a0_4=true
 ·subst c15
  rw [if_pos rfl] at H
  try dsimp only at H
  obtain rfl:=Option.some.inj H
  have HL:=mk_ (Lok.start w)
  go_enter Try.func114,Try.ntmps114
  go_wp2_with (first|((with_reducible refine gate_dst (N:=37) rfl ?_);(with_reducible refine gate_callee (f:=64) rfl ?_);refine goesL_ (some 37) rfl rfl Try.func64 (by kernel_rfl) rfl #[.int .i64 a0_2,.int .i64 0,.int .i64 7] rfl (by (try simp only [List.map_toArray,List.map_cons,List.map_nil]);first|done|rfl) ?_;(with_reducible refine (spec_l1In.calls a0_2 0 7 true _ Aa.out).mono ?_);rintro e w_ ⟨rfl,hb_⟩;refine ⟨_,rfl,?_⟩;replace HL:=mk_ (HL.out.drawn hb_);clear hb_)|((with_reducible refine gate_gd rfl ?_);first|((with_reducible refine gd_on rfl ?_ ?_);rfl;dsimp only)|((with_reducible refine gd_off rfl ?_ ?_);rfl))|((with_reducible refine gate_dst (N:=1) rfl ?_);refine loc_box rfl rfl (by first|(go_simp;done)|(go_simp;rfl)) HL.out ?_;intro gb1 w_ HL_;replace HL:=mk_ HL_;clear HL_)|((with_reducible refine gate_ld0 (t:=102) rfl ?_);refine loc_load (n:=9) rfl rfl (by kernel_rfl) rfl (by kernel_rfl) HL.out (by with_reducible repeat (first|exact Sel.done|apply Sel.take|apply Sel.skip|apply Get.here|apply Get.next)) ?_)|((with_reducible refine gate_ld0 rfl ?_);refine loc_load1 rfl rfl (by kernel_rfl) rfl HL.out (by with_reducible repeat (first|exact Sel.done|apply Sel.take|apply Sel.skip|apply Get.here|apply Get.next)) ?_)|((with_reducible refine gate_st0 rfl ?_);refine loc_store rfl rfl rfl (by first|(go_simp;done)|(go_simp;rfl)) (by kernel_rfl) (by kernel_rfl) HL.out (by with_reducible repeat (first|exact Spl.done|apply Spl.put|apply Spl.skip|apply Upd.here|apply Upd.next)) ?_;intro w_ HL_;replace HL:=mk_ HL_;clear HL_))
  go_ret
  exact ⟨by first|rfl|(simp [errW_none,errW_some] <;> rfl)|(simp [*,errW_none,errW_some] <;> rfl),HL.out.bel⟩
 replace c15:=Bool.eq_false_iff.mpr c15
 subst c15
 rw [if_neg Bool.false_ne_true] at H
 try dsimp only at H
 replace H:=Option.bind_eq_some_iff.mp H
 obtain ⟨t341,Ak,H⟩:=H
 try dsimp only at H
 have Af:=mk_ Ak
 clear Ak
 by_cases c17:t341=true
 rotate_left
 ·replace c17:=Bool.eq_false_iff.mpr c17
  subst c17
  rw [if_neg Bool.false_ne_true] at H
  try dsimp only at H
  obtain rfl:=Option.some.inj H
  have HL:=mk_ (Lok.start w)
  go_enter Try.func114,Try.ntmps114
  go_wp2_with (first|((with_reducible refine gate_dst (N:=37) rfl ?_);(with_reducible refine gate_callee (f:=64) rfl ?_);refine goesL_ (some 37) rfl rfl Try.func64 (by kernel_rfl) rfl #[.int .i64 a0_2,.int .i64 0,.int .i64 7] rfl (by (try simp only [List.map_toArray,List.map_cons,List.map_nil]);first|done|rfl) ?_;(with_reducible refine (spec_l1In.calls a0_2 0 7 true _ Aa.out).mono ?_);rintro e w_ ⟨rfl,hb_⟩;refine ⟨_,rfl,?_⟩;replace HL:=mk_ (HL.out.drawn hb_);clear hb_)|((with_reducible refine gate_dst (N:=51) rfl ?_);(with_reducible refine gate_callee (f:=64) rfl ?_);refine goesL_ (some 51) rfl rfl Try.func64 (by kernel_rfl) rfl #[.int .i64 a0_5,.int .i64 0,.int .i64 2] rfl (by (try simp only [List.map_toArray,List.map_cons,List.map_nil]);first|done|rfl) ?_;(with_reducible refine (spec_l1In.calls a0_5 0 2 false _ Af.out).mono ?_);rintro e w_ ⟨rfl,hb_⟩;refine ⟨_,rfl,?_⟩;replace HL:=mk_ (HL.out.drawn hb_);clear hb_)|((with_reducible refine gate_gd rfl ?_);first|((with_reducible refine gd_on rfl ?_ ?_);rfl;dsimp only)|((with_reducible refine gd_off rfl ?_ ?_);rfl))|((with_reducible refine gate_dst (N:=1) rfl ?_);refine loc_box rfl rfl (by first|(go_simp;done)|(go_simp;rfl)) HL.out ?_;intro gb1 w_ HL_;replace HL:=mk_ HL_;clear HL_)|((with_reducible refine gate_ld0 (t:=102) rfl ?_);refine loc_load (n:=9) rfl rfl (by kernel_rfl) rfl (by kernel_rfl) HL.out (by with_reducible repeat (first|exact Sel.done|apply Sel.take|apply Sel.skip|apply Get.here|apply Get.next)) ?_)|((with_reducible refine gate_ld0 rfl ?_);refine loc_load1 rfl rfl (by kernel_rfl) rfl HL.out (by with_reducible repeat (first|exact Sel.done|apply Sel.take|apply Sel.skip|apply Get.here|apply Get.next)) ?_)|((with_reducible refine gate_st0 rfl ?_);refine loc_store rfl rfl rfl (by first|(go_simp;done)|(go_simp;rfl)) (by kernel_rfl) (by kernel_rfl) HL.out (by with_reducible repeat (first|exact Spl.done|apply Spl.put|apply Spl.skip|apply Upd.here|apply Upd.next)) ?_;intro w_ HL_;replace HL:=mk_ HL_;clear HL_))
  go_ret
  exact ⟨by first|rfl|(simp [errW_none,errW_some] <;> rfl)|(simp [*,errW_none,errW_some] <;> rfl),HL.out.bel⟩
 subst c17
 rw [if_pos rfl] at H
 try dsimp only at H
 by_cases c18:a0_6=0
 rotate_left
 ·rw [if_neg c18] at H
  have c18b0:(a0_6 == 0)=false:=beq_eq_false_iff_ne.mpr c18
  have c18b1:(a0_6 != 0)=true:=bne_iff_ne.mpr c18
  try dsimp only at H
  obtain rfl:=Option.some.inj H
  have HL:=mk_ (Lok.start w)
  go_enter Try.func114,Try.ntmps114
  go_wp2_with (first|((with_reducible refine gate_dst (N:=37) rfl ?_);(with_reducible refine gate_callee (f:=64) rfl ?_);refine goesL_ (some 37) rfl rfl Try.func64 (by kernel_rfl) rfl #[.int .i64 a0_2,.int .i64 0,.int .i64 7] rfl (by (try simp only [List.map_toArray,List.map_cons,List.map_nil]);first|done|rfl) ?_;(with_reducible refine (spec_l1In.calls a0_2 0 7 true _ Aa.out).mono ?_);rintro e w_ ⟨rfl,hb_⟩;refine ⟨_,rfl,?_⟩;replace HL:=mk_ (HL.out.drawn hb_);clear hb_)|((with_reducible refine gate_dst (N:=51) rfl ?_);(with_reducible refine gate_callee (f:=64) rfl ?_);refine goesL_ (some 51) rfl rfl Try.func64 (by kernel_rfl) rfl #[.int .i64 a0_5,.int .i64 0,.int .i64 2] rfl (by (try simp only [List.map_toArray,List.map_cons,List.map_nil]);first|done|rfl) ?_;(with_reducible refine (spec_l1In.calls a0_5 0 2 true _ Af.out).mono ?_);rintro e w_ ⟨rfl,hb_⟩;refine ⟨_,rfl,?_⟩;replace HL:=mk_ (HL.out.drawn hb_);clear hb_)|((with_reducible refine gate_gd rfl ?_);first|((with_reducible refine gd_on rfl ?_ ?_);rfl;dsimp only)|((with_reducible refine gd_off rfl ?_ ?_);rfl))|((with_reducible refine gate_dst (N:=1) rfl ?_);refine loc_box rfl rfl (by first|(go_simp;done)|(go_simp;rfl)) HL.out ?_;intro gb1 w_ HL_;replace HL:=mk_ HL_;clear HL_)|((with_reducible refine gate_ld0 (t:=102) rfl ?_);refine loc_load (n:=9) rfl rfl (by kernel_rfl) rfl (by kernel_rfl) HL.out (by with_reducible repeat (first|exact Sel.done|apply Sel.take|apply Sel.skip|apply Get.here|apply Get.next)) ?_)|((with_reducible refine gate_ld0 rfl ?_);refine loc_load1 rfl rfl (by kernel_rfl) rfl HL.out (by with_reducible repeat (first|exact Sel.done|apply Sel.take|apply Sel.skip|apply Get.here|apply Get.next)) ?_)|((with_reducible refine gate_st0 rfl ?_);refine loc_store rfl rfl rfl (by first|(go_simp;done)|(go_simp;rfl)) (by kernel_rfl) (by kernel_rfl) HL.out (by with_reducible repeat (first|exact Spl.done|apply Spl.put|apply Spl.skip|apply Upd.here|apply Upd.next)) ?_;intro w_ HL_;replace HL:=mk_ HL_;clear HL_))
  go_ret
  exact ⟨by first|rfl|(simp [errW_none,errW_some] <;> rfl)|(simp [*,errW_none,errW_some] <;> rfl),HL.out.bel⟩
 rw [if_pos c18] at H
 have c18b0:(a0_6 == 0)=true:=beq_iff_eq.mpr c18
 have c18b1:(a0_6 != 0)=false:=bne_eq_false_iff_eq.mpr c18
 try dsimp only at H
 clear c18
 by_cases c19:a0_7=0
 rotate_left
 ·rw [if_neg c19] at H
  have c19b0:(a0_7 == 0)=false:=beq_eq_false_iff_ne.mpr c19
  have c19b1:(a0_7 != 0)=true:=bne_iff_ne.mpr c19
  try dsimp only at H
  obtain rfl:=Option.some.inj H
  have HL:=mk_ (Lok.start w)
  go_enter Try.func114,Try.ntmps114
  go_wp2_with (first|((with_reducible refine gate_dst (N:=37) rfl ?_);(with_reducible refine gate_callee (f:=64) rfl ?_);refine goesL_ (some 37) rfl rfl Try.func64 (by kernel_rfl) rfl #[.int .i64 a0_2,.int .i64 0,.int .i64 7] rfl (by (try simp only [List.map_toArray,List.map_cons,List.map_nil]);first|done|rfl) ?_;(with_reducible refine (spec_l1In.calls a0_2 0 7 true _ Aa.out).mono ?_);rintro e w_ ⟨rfl,hb_⟩;refine ⟨_,rfl,?_⟩;replace HL:=mk_ (HL.out.drawn hb_);clear hb_)|((with_reducible refine gate_dst (N:=51) rfl ?_);(with_reducible refine gate_callee (f:=64) rfl ?_);refine goesL_ (some 51) rfl rfl Try.func64 (by kernel_rfl) rfl #[.int .i64 a0_5,.int .i64 0,.int .i64 2] rfl (by (try simp only [List.map_toArray,List.map_cons,List.map_nil]);first|done|rfl) ?_;(with_reducible refine (spec_l1In.calls a0_5 0 2 true _ Af.out).mono ?_);rintro e w_ ⟨rfl,hb_⟩;refine ⟨_,rfl,?_⟩;replace HL:=mk_ (HL.out.drawn hb_);clear hb_)|((with_reducible refine gate_gd rfl ?_);first|((with_reducible refine gd_on rfl ?_ ?_);rfl;dsimp only)|((with_reducible refine gd_off rfl ?_ ?_);rfl))|((with_reducible refine gate_dst (N:=1) rfl ?_);refine loc_box rfl rfl (by first|(go_simp;done)|(go_simp;rfl)) HL.out ?_;intro gb1 w_ HL_;replace HL:=mk_ HL_;clear HL_)|((with_reducible refine gate_ld0 (t:=102) rfl ?_);refine loc_load (n:=9) rfl rfl (by kernel_rfl) rfl (by kernel_rfl) HL.out (by with_reducible repeat (first|exact Sel.done|apply Sel.take|apply Sel.skip|apply Get.here|apply Get.next)) ?_)|((with_reducible refine gate_ld0 rfl ?_);refine loc_load1 rfl rfl (by kernel_rfl) rfl HL.out (by with_reducible repeat (first|exact Sel.done|apply Sel.take|apply Sel.skip|apply Get.here|apply Get.next)) ?_)|((with_reducible refine gate_st0 rfl ?_);refine loc_store rfl rfl rfl (by first|(go_simp;done)|(go_simp;rfl)) (by kernel_rfl) (by kernel_rfl) HL.out (by with_reducible repeat (first|exact Spl.done|apply Spl.put|apply Spl.skip|apply Upd.here|apply Upd.next)) ?_;intro w_ HL_;replace HL:=mk_ HL_;clear HL_))
  go_ret
  exact ⟨by first|rfl|(simp [errW_none,errW_some] <;> rfl)|(simp [*,errW_none,errW_some] <;> rfl),HL.out.bel⟩
 rw [if_pos c19] at H
 have c19b0:(a0_7 == 0)=true:=beq_iff_eq.mpr c19
 have c19b1:(a0_7 != 0)=false:=bne_eq_false_iff_eq.mpr c19
 try dsimp only at H
 clear c19
 obtain rfl:=Option.some.inj H
 have HL:=mk_ (Lok.start w)
 go_enter Try.func114,Try.ntmps114
 go_wp2_with (first|((with_reducible refine gate_dst (N:=37) rfl ?_);(with_reducible refine gate_callee (f:=64) rfl ?_);refine goesL_ (some 37) rfl rfl Try.func64 (by kernel_rfl) rfl #[.int .i64 a0_2,.int .i64 0,.int .i64 7] rfl (by (try simp only [List.map_toArray,List.map_cons,List.map_nil]);first|done|rfl) ?_;(with_reducible refine (spec_l1In.calls a0_2 0 7 true _ Aa.out).mono ?_);rintro e w_ ⟨rfl,hb_⟩;refine ⟨_,rfl,?_⟩;replace HL:=mk_ (HL.out.drawn hb_);clear hb_)|((with_reducible refine gate_dst (N:=51) rfl ?_);(with_reducible refine gate_callee (f:=64) rfl ?_);refine goesL_ (some 51) rfl rfl Try.func64 (by kernel_rfl) rfl #[.int .i64 a0_5,.int .i64 0,.int .i64 2] rfl (by (try simp only [List.map_toArray,List.map_cons,List.map_nil]);first|done|rfl) ?_;(with_reducible refine (spec_l1In.calls a0_5 0 2 true _ Af.out).mono ?_);rintro e w_ ⟨rfl,hb_⟩;refine ⟨_,rfl,?_⟩;replace HL:=mk_ (HL.out.drawn hb_);clear hb_)|((with_reducible refine gate_gd rfl ?_);first|((with_reducible refine gd_on rfl ?_ ?_);rfl;dsimp only)|((with_reducible refine gd_off rfl ?_ ?_);rfl))|((with_reducible refine gate_dst (N:=1) rfl ?_);refine loc_box rfl rfl (by first|(go_simp;done)|(go_simp;rfl)) HL.out ?_;intro gb1 w_ HL_;replace HL:=mk_ HL_;clear HL_)|((with_reducible refine gate_ld0 (t:=102) rfl ?_);refine loc_load (n:=9) rfl rfl (by kernel_rfl) rfl (by kernel_rfl) HL.out (by with_reducible repeat (first|exact Sel.done|apply Sel.take|apply Sel.skip|apply Get.here|apply Get.next)) ?_)|((with_reducible refine gate_ld0 rfl ?_);refine loc_load1 rfl rfl (by kernel_rfl) rfl HL.out (by with_reducible repeat (first|exact Sel.done|apply Sel.take|apply Sel.skip|apply Get.here|apply Get.next)) ?_)|((with_reducible refine gate_st0 rfl ?_);refine loc_store rfl rfl rfl (by first|(go_simp;done)|(go_simp;rfl)) (by kernel_rfl) (by kernel_rfl) HL.out (by with_reducible repeat (first|exact Spl.done|apply Spl.put|apply Spl.skip|apply Upd.here|apply Upd.next)) ?_;intro w_ HL_;replace HL:=mk_ HL_;clear HL_))
 go_ret
 exact ⟨by first|rfl|(simp [errW_none,errW_some] <;> rfl)|(simp [*,errW_none,errW_some] <;> rfl),HL.out.bel⟩

end Go.Proofs.Yteknaofnageihaa.QFnTxOk
