-- Written by a program of this session, a turned copy of the print (not by print.sh itself). Lean checks it.
import Derived.Test.YteknaofnageihaaQFnExactSegPutx0
import Derived.Test.YteknaofnageihaaQFnExactSegPutx1
import Derived.Test.YteknaofnageihaaQFnExactSegPutx2
import Derived.Test.YteknaofnageihaaQFnExactSegPutx9
import Derived.Test.YteknaofnageihaaQFnExactSegPutx11
import Derived.Test.YteknaofnageihaaQFnExactSegPutx12
import Derived.Test.YteknaofnageihaaQFnExactSegPutx19
import Derived.Test.YteknaofnageihaaQFnExactSegPutx21
import Derived.Test.YteknaofnageihaaQFnExactSegPutx22
import Derived.Test.YteknaofnageihaaQFnExactSegPutx23
import Derived.Test.YteknaofnageihaaQFnExactSegPutx24
import Derived.Test.YteknaofnageihaaQFnExactSegPutx25
import Derived.Test.YteknaofnageihaaQFnExactSegPutx26
import Derived.Test.YteknaofnageihaaQFnExactSegPutx27
import Derived.Test.YteknaofnageihaaQFnExactSegPutx28
namespace Go.Proofs.Yteknaofnageihaa.QFnExactSegPut
open Go.RowKit Go.Proofs.YteknaofnageihaaW.PrintWords Go.Proofs.YteknaofnageihaaW.PrintLast Go.Proofs.YteknaofnageihaaW.PrintMore Go.Proofs.YteknaofnageihaaLoc
attribute [local go_sem] max2_int min2_int max_two min_two max_three min_three max_four min_four   -- for this text's walks alone
set_option linter.unusedVariables false
set_option linter.unusedSimpArgs false

/-! ### laws_FnExactSegPut: function 8 -/
theorem laws_toSegJoin.callsR (k : Nat) (a0_0 : Int) (A0_1 : Option Addr) (c0_1 : Nat) (l0_1 : List Int) (r1 : Int) (r2 : List Int) (w : World) (hr0_1 : Kd.C (Kd.int .u8) w A0_1 l0_1.length l0_1) (hc0_1 : l0_1.length ≤ c0_1) (h : laws_toSegJoin.f k a0_0 l0_1 = some (r1, r2)) :
    Calls Try.prog 35 #[.agg #[.int .i64 a0_0,.slice A0_1 l0_1.length c0_1]] w fun e w' => ∃ v1_ : Value, e=.returned (.agg #[.int .i64 r1,v1_]) ∧ RR ku 5 w' w.heap.size (fun _=>True) v1_ r2 ∧ Below w.heap.size w w' := by
  refine (laws_toSegJoin.calls k a0_0 A0_1 c0_1 l0_1 r1 r2 w hr0_1 hc0_1 h).mono ?_
  rintro e w' ⟨v1_, h0_, h1_, h2_⟩
  exact ⟨v1_, h0_, R_RR h1_, h2_⟩
theorem laws_toSegPart.callsR (k : Nat) (a0_0 : Int) (a0_1 : Int) (A0_2 : Option Addr) (c0_2 : Nat) (l0_2 : List Int) (r1 : Int) (r2 : Int) (r3 : List Int) (w : World) (hr0_2 : Kd.C (Kd.int .u8) w A0_2 l0_2.length l0_2) (hc0_2 : l0_2.length ≤ c0_2) (h : laws_toSegPart.f k a0_0 a0_1 l0_2 = some (r1, r2, r3)) :
    Calls Try.prog 36 #[.agg #[.int .i64 a0_0,.int .i64 a0_1,.slice A0_2 l0_2.length c0_2]] w fun e w' => ∃ v2_ : Value, e=.returned (.agg #[.int .i64 r1,.int .i64 r2,v2_]) ∧ RR ku 5 w' w.heap.size (fun _=>True) v2_ r3 ∧ Below w.heap.size w w' := by
  refine (laws_toSegPart.calls k a0_0 a0_1 A0_2 c0_2 l0_2 r1 r2 r3 w hr0_2 hc0_2 h).mono ?_
  rintro e w' ⟨v2_, h0_, h1_, h2_⟩
  exact ⟨v2_, h0_, R_RR h1_, h2_⟩
theorem spec_SegPut.callsR (k : Nat) (a0_0 : Int) (A0_1 : Option Addr) (c0_1 : Nat) (l0_1 : List Int) (a1_0 : Int) (a1_1 : Int) (A1_2 : Option Addr) (c1_2 : Nat) (l1_2 : List Int) (r1 : Int) (r2 : List Int) (r3 : List Int) (r4 : Int) (w : World) (hr0_1 : Kd.C (Kd.int .u8) w A0_1 l0_1.length l0_1) (hc0_1 : l0_1.length ≤ c0_1) (hr1_2 : Kd.C (Kd.int .u8) w A1_2 l1_2.length l1_2) (hc1_2 : l1_2.length ≤ c1_2) (h : spec_SegPut.f k a0_0 l0_1 a1_0 a1_1 l1_2 = some (r1, r2, r3, r4)) :
    Calls Try.prog 34 #[.agg #[.int .i64 a0_0,.slice A0_1 l0_1.length c0_1],.agg #[.int .i64 a1_0,.int .i64 a1_1,.slice A1_2 l1_2.length c1_2]] w fun e w' => ∃ v1_ v2_ : Value, e=.returned (.tuple #[.agg #[.int .i64 r1,v1_],v2_,.int .i64 r4]) ∧ RR ku 5 w' w.heap.size (fun k_=>some k_≠(v2_:Value).ownBlock) v1_ r2 ∧ RR ku 5 w' w.heap.size (fun k_=>some k_≠(v1_:Value).ownBlock) v2_ r3 ∧ Below w.heap.size w w' := by
  refine (spec_SegPut.calls k a0_0 A0_1 c0_1 l0_1 a1_0 a1_1 A1_2 c1_2 l1_2 r1 r2 r3 r4 w hr0_1 hc0_1 hr1_2 hc1_2 h).mono ?_
  rintro e w' ⟨v1_, v2_, h0_, h1_, h2_, h3_⟩
  exact ⟨v1_, v2_, h0_, R_RR h1_, R_RR h2_, h3_⟩
mutual
def laws_FnExactSegPut.j0 : Nat → List Int → Int → List Int → Int → Bool → Int → List Int → Int → Int → List Int → Int → List Int → Int → List Int → Int → Int → List Int → Int → List Int → Option (Bool)
  | 0, _, _, _, _, _, _, _, _, _, _, _, _, _, _, _, _, _, _, _ => none
  | k + 1, x7, x8, x12, x13, x64, x256000, x256001, x257000, x257001, x257002, x277000, x277001, x282000, x282001, x288000, x288001, x288002, x297000, x297001 => if x64 = true then (some false) else ((laws_toSegJoin.f k x256000 x256001).bind fun bt299 => ((laws_eqSegJoin.f k x282000 x282001 bt299.1 bt299.2).bind fun t303 => (if t303 = true then ((laws_toSegPart.f k x257000 x257001 x257002).bind fun bt304 => ((laws_eqSegPart.f k x288000 x288001 x288002 bt304.1 bt304.2.1 bt304.2.2).bind fun t309 => (if t309 = true then ((laws_markSegJoin.f k x282000 x282001 1).bind fun bt310 => ((laws_markSegPart.f k x288000 x288001 x288002 bt310.1).bind fun bt312 => (if bt312.1 < 0 then (laws_FnExactSegPut.j1 k x7 x8 x12 true x256000 x256001 x257000 x257001 x257002 x277000 x277001 x297000 x297001) else ((laws_eqSegJoin.f k x297000 x297001 x277000 x277001).bind fun t314 => (if t314 = true then ((laws_eqByteS.f k x12 x7).bind fun t315 => (if t315 = true then (laws_FnExactSegPut.j1 k x7 x8 x12 (x13 != x8) x256000 x256001 x257000 x257001 x257002 x277000 x277001 x297000 x297001) else (laws_FnExactSegPut.j1 k x7 x8 x12 true x256000 x256001 x257000 x257001 x257002 x277000 x277001 x297000 x297001))) else (laws_FnExactSegPut.j1 k x7 x8 x12 true x256000 x256001 x257000 x257001 x257002 x277000 x277001 x297000 x297001)))))) else (some false)))) else (some false))))
def laws_FnExactSegPut.j1 : Nat → List Int → Int → List Int → Bool → Int → List Int → Int → Int → List Int → Int → List Int → Int → List Int → Option (Bool)
  | 0, _, _, _, _, _, _, _, _, _, _, _, _, _ => none
  | k + 1, x7, x8, x12, x99, x256000, x256001, x257000, x257001, x257002, x277000, x277001, x297000, x297001 => if x99 = true then (some false) else ((laws_markSegJoin.f k x297000 x297001 1).bind fun bt316 => ((laws_markByteS.f k x12 bt316.1).bind fun bt318 => ((laws_heldSegJoin.f k x297000 bt316.2 1).bind fun t320 => (if t320 < 0 then (some false) else ((laws_heldByteS.f k bt318.2 t320).bind fun t321 => (if t321 < 0 then (some false) else (if t321 = bt318.1 then ((laws_toSegJoin.f k x256000 x256001).bind fun bt322 => ((laws_toSegPart.f k x257000 x257001 x257002).bind fun bt326 => ((impl_SegPut.f k bt322.1 bt322.2 bt326.1 bt326.2.1 bt326.2.2).bind fun bt331 => ((laws_eqSegJoin.f k bt331.1 bt331.2.1 x277000 x277001).bind fun t340 => (if t340 = true then ((laws_eqByteS.f k bt331.2.2.1 x7).bind fun t341 => (if t341 = true then (laws_FnExactSegPut.j2 k bt318.2 bt318.1 (bt331.2.2.2 != x8) x297000 bt316.2) else (laws_FnExactSegPut.j2 k bt318.2 bt318.1 true x297000 bt316.2))) else (laws_FnExactSegPut.j2 k bt318.2 bt318.1 true x297000 bt316.2)))))) else (some false))))))))
def laws_FnExactSegPut.j2 : Nat → List Int → Int → Bool → Int → List Int → Option (Bool)
  | 0, _, _, _, _, _ => none
  | k + 1, x12, x15, x142, x297000, x297001 => if x142 = true then (some false) else ((laws_heldSegJoin.f k x297000 x297001 1).bind fun t342 => (if t342 < 0 then (some false) else ((laws_heldByteS.f k x12 t342).bind fun t343 => (if t343 < 0 then (some false) else (if t343 = x15 then (some true) else (some false))))))
end
def laws_FnExactSegPut.f (k : Nat) (a0_0 : Int) (l0_1 : List Int) (a1_0 : Int) (a1_1 : Int) (l1_2 : List Int) : Option (Bool) := (laws_szSegJoin.f a0_0 l0_1 1048576).bind fun t257 => (if t257 < 0 then (some true) else ((laws_szSegPart.f a1_0 a1_1 l1_2 t257).bind fun t258 => (if t258 < 0 then (some true) else ((laws_toSegJoin.f k a0_0 l0_1).bind fun bt259 => ((laws_toSegPart.f k a1_0 a1_1 l1_2).bind fun bt263 => ((spec_SegPut.f k bt259.1 bt259.2 bt263.1 bt263.2.1 bt263.2.2).bind fun bt268 => ((laws_toSegJoin.f k a0_0 l0_1).bind fun bt277 => ((laws_toSegPart.f k a1_0 a1_1 l1_2).bind fun bt282 => ((impl_SegPut.f k bt277.1 bt277.2 bt282.1 bt282.2.1 bt282.2.2).bind fun bt288 => ((laws_eqSegJoin.f k bt288.1 bt288.2.1 bt268.1 bt268.2.1).bind fun t297 => (if t297 = true then ((laws_eqByteS.f k bt288.2.2.1 bt268.2.2.1).bind fun t298 => (if t298 = true then (laws_FnExactSegPut.j0 k bt268.2.2.1 bt268.2.2.2 bt288.2.2.1 bt288.2.2.2 (bt288.2.2.2 != bt268.2.2.2) a0_0 l0_1 a1_0 a1_1 l1_2 bt268.1 bt268.2.1 bt277.1 bt277.2 bt282.1 bt282.2.1 bt282.2.2 bt288.1 bt288.2.1) else (laws_FnExactSegPut.j0 k bt268.2.2.1 bt268.2.2.2 bt288.2.2.1 bt288.2.2.2 true a0_0 l0_1 a1_0 a1_1 l1_2 bt268.1 bt268.2.1 bt277.1 bt277.2 bt282.1 bt282.2.1 bt282.2.2 bt288.1 bt288.2.1))) else (laws_FnExactSegPut.j0 k bt268.2.2.1 bt268.2.2.2 bt288.2.2.1 bt288.2.2.2 true a0_0 l0_1 a1_0 a1_1 l1_2 bt268.1 bt268.2.1 bt277.1 bt277.2 bt282.1 bt282.2.1 bt282.2.2 bt288.1 bt288.2.1))))))))))))
theorem laws_FnExactSegPut.mono_l : ∀ k, (∀ y0 y1 y2 y3 y4 y5 y6 y7 y8 y9 y10 y11 y12 y13 y14 y15 y16 y17 y18, LeO (laws_FnExactSegPut.j0 k y0 y1 y2 y3 y4 y5 y6 y7 y8 y9 y10 y11 y12 y13 y14 y15 y16 y17 y18) (laws_FnExactSegPut.j0 (k + 1) y0 y1 y2 y3 y4 y5 y6 y7 y8 y9 y10 y11 y12 y13 y14 y15 y16 y17 y18)) ∧ (∀ y0 y1 y2 y3 y4 y5 y6 y7 y8 y9 y10 y11 y12, LeO (laws_FnExactSegPut.j1 k y0 y1 y2 y3 y4 y5 y6 y7 y8 y9 y10 y11 y12) (laws_FnExactSegPut.j1 (k + 1) y0 y1 y2 y3 y4 y5 y6 y7 y8 y9 y10 y11 y12)) ∧ (∀ y0 y1 y2 y3 y4, LeO (laws_FnExactSegPut.j2 k y0 y1 y2 y3 y4) (laws_FnExactSegPut.j2 (k + 1) y0 y1 y2 y3 y4))
  | 0 => ⟨fun _ _ _ _ _ _ _ _ _ _ _ _ _ _ _ _ _ _ _ r h => by simp [laws_FnExactSegPut.j0] at h, fun _ _ _ _ _ _ _ _ _ _ _ _ _ r h => by simp [laws_FnExactSegPut.j1] at h, fun _ _ _ _ _ r h => by simp [laws_FnExactSegPut.j2] at h⟩
  | k + 1 => by
    obtain ⟨ih0, ih1, ih2⟩ := laws_FnExactSegPut.mono_l k
    refine ⟨?_, ?_, ?_⟩
    · intro y0 y1 y2 y3 y4 y5 y6 y7 y8 y9 y10 y11 y12 y13 y14 y15 y16 y17 y18
      unfold laws_FnExactSegPut.j0
      repeat' first
      | (with_reducible exact ih0 _ _ _ _ _ _ _ _ _ _ _ _ _ _ _ _ _ _ _)
      | (with_reducible exact ih1 _ _ _ _ _ _ _ _ _ _ _ _ _)
      | (with_reducible exact ih2 _ _ _ _ _)
      | (with_reducible exact impl_SegPut.mono _ _ _ _ _ _)
      | (with_reducible exact laws_eqByteS.mono _ _ _)
      | (with_reducible exact laws_eqSegJoin.mono _ _ _ _ _)
      | (with_reducible exact laws_eqSegPart.mono _ _ _ _ _ _ _)
      | (with_reducible exact laws_heldByteS.mono _ _ _)
      | (with_reducible exact laws_heldSegJoin.mono _ _ _ _)
      | (with_reducible exact laws_markByteS.mono _ _ _)
      | (with_reducible exact laws_markSegJoin.mono _ _ _ _)
      | (with_reducible exact laws_markSegPart.mono _ _ _ _ _)
      | (with_reducible exact laws_toSegJoin.mono _ _ _)
      | (with_reducible exact laws_toSegPart.mono _ _ _ _)
      | (with_reducible exact spec_SegPut.mono _ _ _ _ _ _)
      | (with_reducible exact LeO.refl _)
      | (with_reducible exact LeO.none _)
      | (with_reducible refine LeO.ite ?_ ?_)
      | (with_reducible refine LeO.bind ?_ (fun _ => ?_))
      | exact ih0 _ _ _ _ _ _ _ _ _ _ _ _ _ _ _ _ _ _ _
      | exact ih1 _ _ _ _ _ _ _ _ _ _ _ _ _
      | exact ih2 _ _ _ _ _
      | exact impl_SegPut.mono _ _ _ _ _ _
      | exact laws_eqByteS.mono _ _ _
      | exact laws_eqSegJoin.mono _ _ _ _ _
      | exact laws_eqSegPart.mono _ _ _ _ _ _ _
      | exact laws_heldByteS.mono _ _ _
      | exact laws_heldSegJoin.mono _ _ _ _
      | exact laws_markByteS.mono _ _ _
      | exact laws_markSegJoin.mono _ _ _ _
      | exact laws_markSegPart.mono _ _ _ _ _
      | exact laws_toSegJoin.mono _ _ _
      | exact laws_toSegPart.mono _ _ _ _
      | exact spec_SegPut.mono _ _ _ _ _ _
      | exact LeO.none _
      | refine LeO.ite ?_ ?_
      | refine LeO.bind ?_ (fun _ => ?_)
    · intro y0 y1 y2 y3 y4 y5 y6 y7 y8 y9 y10 y11 y12
      unfold laws_FnExactSegPut.j1
      repeat' first
      | (with_reducible exact ih0 _ _ _ _ _ _ _ _ _ _ _ _ _ _ _ _ _ _ _)
      | (with_reducible exact ih1 _ _ _ _ _ _ _ _ _ _ _ _ _)
      | (with_reducible exact ih2 _ _ _ _ _)
      | (with_reducible exact impl_SegPut.mono _ _ _ _ _ _)
      | (with_reducible exact laws_eqByteS.mono _ _ _)
      | (with_reducible exact laws_eqSegJoin.mono _ _ _ _ _)
      | (with_reducible exact laws_eqSegPart.mono _ _ _ _ _ _ _)
      | (with_reducible exact laws_heldByteS.mono _ _ _)
      | (with_reducible exact laws_heldSegJoin.mono _ _ _ _)
      | (with_reducible exact laws_markByteS.mono _ _ _)
      | (with_reducible exact laws_markSegJoin.mono _ _ _ _)
      | (with_reducible exact laws_markSegPart.mono _ _ _ _ _)
      | (with_reducible exact laws_toSegJoin.mono _ _ _)
      | (with_reducible exact laws_toSegPart.mono _ _ _ _)
      | (with_reducible exact spec_SegPut.mono _ _ _ _ _ _)
      | (with_reducible exact LeO.refl _)
      | (with_reducible exact LeO.none _)
      | (with_reducible refine LeO.ite ?_ ?_)
      | (with_reducible refine LeO.bind ?_ (fun _ => ?_))
      | exact ih0 _ _ _ _ _ _ _ _ _ _ _ _ _ _ _ _ _ _ _
      | exact ih1 _ _ _ _ _ _ _ _ _ _ _ _ _
      | exact ih2 _ _ _ _ _
      | exact impl_SegPut.mono _ _ _ _ _ _
      | exact laws_eqByteS.mono _ _ _
      | exact laws_eqSegJoin.mono _ _ _ _ _
      | exact laws_eqSegPart.mono _ _ _ _ _ _ _
      | exact laws_heldByteS.mono _ _ _
      | exact laws_heldSegJoin.mono _ _ _ _
      | exact laws_markByteS.mono _ _ _
      | exact laws_markSegJoin.mono _ _ _ _
      | exact laws_markSegPart.mono _ _ _ _ _
      | exact laws_toSegJoin.mono _ _ _
      | exact laws_toSegPart.mono _ _ _ _
      | exact spec_SegPut.mono _ _ _ _ _ _
      | exact LeO.none _
      | refine LeO.ite ?_ ?_
      | refine LeO.bind ?_ (fun _ => ?_)
    · intro y0 y1 y2 y3 y4
      unfold laws_FnExactSegPut.j2
      repeat' first
      | (with_reducible exact ih0 _ _ _ _ _ _ _ _ _ _ _ _ _ _ _ _ _ _ _)
      | (with_reducible exact ih1 _ _ _ _ _ _ _ _ _ _ _ _ _)
      | (with_reducible exact ih2 _ _ _ _ _)
      | (with_reducible exact impl_SegPut.mono _ _ _ _ _ _)
      | (with_reducible exact laws_eqByteS.mono _ _ _)
      | (with_reducible exact laws_eqSegJoin.mono _ _ _ _ _)
      | (with_reducible exact laws_eqSegPart.mono _ _ _ _ _ _ _)
      | (with_reducible exact laws_heldByteS.mono _ _ _)
      | (with_reducible exact laws_heldSegJoin.mono _ _ _ _)
      | (with_reducible exact laws_markByteS.mono _ _ _)
      | (with_reducible exact laws_markSegJoin.mono _ _ _ _)
      | (with_reducible exact laws_markSegPart.mono _ _ _ _ _)
      | (with_reducible exact laws_toSegJoin.mono _ _ _)
      | (with_reducible exact laws_toSegPart.mono _ _ _ _)
      | (with_reducible exact spec_SegPut.mono _ _ _ _ _ _)
      | (with_reducible exact LeO.refl _)
      | (with_reducible exact LeO.none _)
      | (with_reducible refine LeO.ite ?_ ?_)
      | (with_reducible refine LeO.bind ?_ (fun _ => ?_))
      | exact ih0 _ _ _ _ _ _ _ _ _ _ _ _ _ _ _ _ _ _ _
      | exact ih1 _ _ _ _ _ _ _ _ _ _ _ _ _
      | exact ih2 _ _ _ _ _
      | exact impl_SegPut.mono _ _ _ _ _ _
      | exact laws_eqByteS.mono _ _ _
      | exact laws_eqSegJoin.mono _ _ _ _ _
      | exact laws_eqSegPart.mono _ _ _ _ _ _ _
      | exact laws_heldByteS.mono _ _ _
      | exact laws_heldSegJoin.mono _ _ _ _
      | exact laws_markByteS.mono _ _ _
      | exact laws_markSegJoin.mono _ _ _ _
      | exact laws_markSegPart.mono _ _ _ _ _
      | exact laws_toSegJoin.mono _ _ _
      | exact laws_toSegPart.mono _ _ _ _
      | exact spec_SegPut.mono _ _ _ _ _ _
      | exact LeO.none _
      | refine LeO.ite ?_ ?_
      | refine LeO.bind ?_ (fun _ => ?_)
theorem laws_FnExactSegPut.mono : ∀ a0 a1 a2 a3 a4 k, LeO (laws_FnExactSegPut.f k a0 a1 a2 a3 a4) (laws_FnExactSegPut.f (k + 1) a0 a1 a2 a3 a4) := by
 intro a0 a1 a2 a3 a4 k
 obtain ⟨ih0, ih1, ih2⟩ := laws_FnExactSegPut.mono_l k
 unfold laws_FnExactSegPut.f
 repeat' first
     | (with_reducible exact ih0 _ _ _ _ _ _ _ _ _ _ _ _ _ _ _ _ _ _ _)
     | (with_reducible exact ih1 _ _ _ _ _ _ _ _ _ _ _ _ _)
     | (with_reducible exact ih2 _ _ _ _ _)
     | (with_reducible exact impl_SegPut.mono _ _ _ _ _ _)
     | (with_reducible exact laws_eqByteS.mono _ _ _)
     | (with_reducible exact laws_eqSegJoin.mono _ _ _ _ _)
     | (with_reducible exact laws_eqSegPart.mono _ _ _ _ _ _ _)
     | (with_reducible exact laws_heldByteS.mono _ _ _)
     | (with_reducible exact laws_heldSegJoin.mono _ _ _ _)
     | (with_reducible exact laws_markByteS.mono _ _ _)
     | (with_reducible exact laws_markSegJoin.mono _ _ _ _)
     | (with_reducible exact laws_markSegPart.mono _ _ _ _ _)
     | (with_reducible exact laws_toSegJoin.mono _ _ _)
     | (with_reducible exact laws_toSegPart.mono _ _ _ _)
     | (with_reducible exact spec_SegPut.mono _ _ _ _ _ _)
     | (with_reducible exact LeO.refl _)
     | (with_reducible exact LeO.none _)
     | (with_reducible refine LeO.ite ?_ ?_)
     | (with_reducible refine LeO.bind ?_ (fun _ => ?_))
     | exact ih0 _ _ _ _ _ _ _ _ _ _ _ _ _ _ _ _ _ _ _
     | exact ih1 _ _ _ _ _ _ _ _ _ _ _ _ _
     | exact ih2 _ _ _ _ _
     | exact impl_SegPut.mono _ _ _ _ _ _
     | exact laws_eqByteS.mono _ _ _
     | exact laws_eqSegJoin.mono _ _ _ _ _
     | exact laws_eqSegPart.mono _ _ _ _ _ _ _
     | exact laws_heldByteS.mono _ _ _
     | exact laws_heldSegJoin.mono _ _ _ _
     | exact laws_markByteS.mono _ _ _
     | exact laws_markSegJoin.mono _ _ _ _
     | exact laws_markSegPart.mono _ _ _ _ _
     | exact laws_toSegJoin.mono _ _ _
     | exact laws_toSegPart.mono _ _ _ _
     | exact spec_SegPut.mono _ _ _ _ _ _
     | exact LeO.none _
     | refine LeO.ite ?_ ?_
     | refine LeO.bind ?_ (fun _ => ?_)
def laws_FnExactSegPut.T8 : Bool × List (List Nat × List Nat) := (true, [([], []), ([0], [0]), ([], []), ([2, 1], [2]), ([1, 3, 3], [1, 3]), ([4], [4]), ([5], [5]), ([5], [5]), ([5], [5]), ([], []), ([9, 6, 4, 0, 1, 2, 3, 4, 5, 6, 9], [6, 9]), ([7, 10, 0, 1, 2, 3, 4, 5, 6, 7, 9, 10], [7]), ([8, 11, 0, 1, 2, 3, 4, 5, 6, 7, 8, 9, 10, 11], [8])])
def laws_FnExactSegPut.B8 : List Nat := [0, 1, 0, 7, 15, 31, 63, 63, 63, 0, 639, 1791, 4095]
theorem laws_FnExactSegPut.tab8 : rtab .any (opsOf Try.f8 8) = laws_FnExactSegPut.T8 := by kernel_rfl
theorem laws_FnExactSegPut.bits8 : waitsOk laws_FnExactSegPut.T8.2 laws_FnExactSegPut.B8 = true := by kernel_rfl
def laws_FnExactSegPut.T35 : Bool × List (List Nat × List Nat) := (true, [([], []), ([0], [0]), ([], []), ([2, 1], [2]), ([1, 3, 3], [1, 3]), ([4], [4]), ([5], [5]), ([5], [5]), ([5], [5]), ([], []), ([9, 6, 4, 0, 1, 2, 3, 4, 5, 6, 9], [6, 9]), ([7, 10, 0, 1, 2, 3, 4, 5, 6, 7, 9, 10], [7]), ([8, 11, 0, 1, 2, 3, 4, 5, 6, 7, 8, 9, 10, 11], [8])])
def laws_FnExactSegPut.B35 : List Nat := [0, 1, 0, 7, 15, 31, 63, 63, 63, 0, 639, 1791, 4095]
theorem laws_FnExactSegPut.tab35 : rtab .any (opsOf Try.f8 35) = laws_FnExactSegPut.T35 := by kernel_rfl
theorem laws_FnExactSegPut.bits35 : waitsOk laws_FnExactSegPut.T35.2 laws_FnExactSegPut.B35 = true := by kernel_rfl
set_option maxHeartbeats 60000000 in
set_option maxRecDepth 100000 in
theorem laws_FnExactSegPut.calls (k : Nat) (a0_0 : Int) (A0_1 : Option Addr) (c0_1 : Nat) (l0_1 : List Int) (a1_0 : Int) (a1_1 : Int) (A1_2 : Option Addr) (c1_2 : Nat) (l1_2 : List Int) (r : Bool) (w : World) (hr0_1 : Kd.C (Kd.int .u8) w A0_1 l0_1.length l0_1) (hc0_1 : l0_1.length ≤ c0_1) (hr1_2 : Kd.C (Kd.int .u8) w A1_2 l1_2.length l1_2) (hc1_2 : l1_2.length ≤ c1_2) (h : laws_FnExactSegPut.f k a0_0 l0_1 a1_0 a1_1 l1_2 = some r) :
  Calls Try.prog 8 #[.agg #[.int .i64 a0_0,.slice A0_1 l0_1.length c0_1],.agg #[.int .i64 a1_0,.int .i64 a1_1,.slice A1_2 l1_2.length c1_2]] w fun e w'=>e=.returned (.bool r)∧Below w.heap.size w w':=by
 have hu46:=Try.underlying46
 have hu47:=Try.underlying47
 have hu35:=Try.underlying35
 have hu39:=Try.underlying39
 have Di:=mk_ hr0_1
 have Dj:=mk_ hc0_1
 clear hr0_1 hc0_1
 have Ds:=mk_ hr1_2
 have Dt:=mk_ hc1_2
 clear hr1_2 hc1_2
 have HB:=mk_ (Below.refl w.heap.size w)
 have H:((laws_szSegJoin.f a0_0 l0_1 1048576).bind fun t257=>(if t257<0 then (some true) else ((laws_szSegPart.f a1_0 a1_1 l1_2 t257).bind fun t258=>(if t258<0 then (some true) else ((laws_toSegJoin.f k a0_0 l0_1).bind fun bt259=>((laws_toSegPart.f k a1_0 a1_1 l1_2).bind fun bt263=>((spec_SegPut.f k bt259.1 bt259.2 bt263.1 bt263.2.1 bt263.2.2).bind fun bt268=>((laws_toSegJoin.f k a0_0 l0_1).bind fun bt277=>((laws_toSegPart.f k a1_0 a1_1 l1_2).bind fun bt282=>((impl_SegPut.f k bt277.1 bt277.2 bt282.1 bt282.2.1 bt282.2.2).bind fun bt288=>((laws_eqSegJoin.f k bt288.1 bt288.2.1 bt268.1 bt268.2.1).bind fun t297=>(if t297=true then ((laws_eqByteS.f k bt288.2.2.1 bt268.2.2.1).bind fun t298=>(if t298=true then (laws_FnExactSegPut.j0 k bt268.2.2.1 bt268.2.2.2 bt288.2.2.1 bt288.2.2.2 (bt288.2.2.2 != bt268.2.2.2) a0_0 l0_1 a1_0 a1_1 l1_2 bt268.1 bt268.2.1 bt277.1 bt277.2 bt282.1 bt282.2.1 bt282.2.2 bt288.1 bt288.2.1) else (laws_FnExactSegPut.j0 k bt268.2.2.1 bt268.2.2.2 bt288.2.2.1 bt288.2.2.2 true a0_0 l0_1 a1_0 a1_1 l1_2 bt268.1 bt268.2.1 bt277.1 bt277.2 bt282.1 bt282.2.1 bt282.2.2 bt288.1 bt288.2.1))) else (laws_FnExactSegPut.j0 k bt268.2.2.1 bt268.2.2.2 bt288.2.2.1 bt288.2.2.2 true a0_0 l0_1 a1_0 a1_1 l1_2 bt268.1 bt268.2.1 bt277.1 bt277.2 bt282.1 bt282.2.1 bt282.2.2 bt288.1 bt288.2.1)))))))))))))=some r:=h
 clear h
 replace H:=Option.bind_eq_some_iff.mp H
 obtain ⟨t257,Ja,H⟩:=H
 try dsimp only at H
 have A3:=mk_ Ja
 clear Ja
 by_cases c4:t257<0
 ·rw [if_pos c4] at H
  have c4b0:decide (t257<0)=true:=decide_eq_true c4
  clear c4
  obtain rfl:=Option.some.inj H
  go_enter Try.func8,Try.ntmps8
  go_wp2_with (first|((with_reducible refine gate_dst (N:=2) rfl ?_);refine box_event ?hg (N:=2) ?hd (cs:=#[.int .i64 a0_0,.slice A0_1 l0_1.length c0_1]) (t:=46) ?hr ?_;(case hd=>rfl);(case hg=>rfl);(case hr=>first|(go_simp;done)|(go_simp;rfl));intro gb255 hg w5 hbox hb;have Ae:=mk_ (hbox);have D1:=mk_ ((by rw [hg];exact (zr2 (yu0 HB.out)):w.heap.size≤gb255));have Gm:=D1;replace HB:=mk_ (zr3 (yu0 HB.out) hb);clear hb hbox hg)|((with_reducible refine gate_dst (N:=3) rfl ?_);refine box_event ?hg (N:=3) ?hd (cs:=#[.int .i64 a1_0,.int .i64 a1_1,.slice A1_2 l1_2.length c1_2]) (t:=47) ?hr ?_;(case hd=>rfl);(case hg=>rfl);(case hr=>first|(go_simp;done)|(go_simp;rfl));intro gb256 hg w6 hbox hb;have Af:=mk_ (hbox);have D2:=mk_ ((by rw [hg];exact (zr2 (yu1 HB.out)):w.heap.size≤gb256));have Gn:=D2;replace HB:=mk_ (zr3 (yu1 HB.out) hb);have Df:=mk_ ((by rw [hg];exact zm2 (zr6 (by exact Ae.out)):gb255≠gb256));replace Ae:=mk_ (zq6 (by exact Ae.out) hb);have Dh:=mk_ Df.out.symm;clear hb hbox hg;have Ue:=Df.out;have Uf:=Dh.out;obtain ⟨K8,K9⟩:=cz2 Ae.out;obtain ⟨La,Lb⟩:=fz2 Ae.out)|((with_reducible refine gate_callee (f:=32) rfl ?_);refine goesL_ (some 22) rfl rfl Try.func32 (by kernel_rfl) rfl #[.agg #[.int .i64 a0_0,.slice A0_1 l0_1.length c0_1],.int .i64 1048576] rfl am ?_;(with_reducible refine (laws_szSegJoin.calls a0_0 _ _ l0_1 1048576 t257 _ ?side1 ?side2 A3.out).mono ?_);(case side1=>repeat (first|exact (Kd.C_below Di.out HB.out)|(with_reducible refine Kd.C_alloc ?_ _)|(with_reducible refine Kd.C_drewN ?_ _)|(with_reducible refine Kd.C_drew ?_)));(case side2=>exact Dj.out);rintro e w9 ⟨rfl,hb⟩;refine ⟨_,rfl,?_⟩;replace Ae:=mk_ (zq6 (by exact Ae.out) hb);replace Af:=mk_ (zq6 (by exact Af.out) hb);replace HB:=mk_ (zr3 (yu1 HB.out) hb);(try clear hb);(try clear hb2);(try clear hk);(try clear hi)))
  go_ret
  exact ⟨by first|rfl|(simp [errW_none,errW_some] <;> rfl)|(simp [*,errW_none,errW_some] <;> rfl),by exact yu1 HB.out⟩
 ·rw [if_neg c4] at H
  have c4b0:decide (t257<0)=false:=decide_eq_false c4
  clear c4
  replace H:=Option.bind_eq_some_iff.mp H
  obtain ⟨t258,Iv,H⟩:=H
  try dsimp only at H
  have Jb:=mk_ Iv
  clear Iv
  by_cases c11:t258<0
  ·rw [if_pos c11] at H
   have c11b0:decide (t258<0)=true:=decide_eq_true c11
   clear c11
   obtain rfl:=Option.some.inj H
   go_enter Try.func8,Try.ntmps8
   go_wp2_with (first|((with_reducible refine gate_dst (N:=2) rfl ?_);refine box_event ?hg (N:=2) ?hd (cs:=#[.int .i64 a0_0,.slice A0_1 l0_1.length c0_1]) (t:=46) ?hr ?_;(case hd=>rfl);(case hg=>rfl);(case hr=>first|(go_simp;done)|(go_simp;rfl));intro gb255 hg Vk hbox hb;have Ae:=mk_ (hbox);have D1:=mk_ ((by rw [hg];exact (zr2 (yu0 HB.out)):w.heap.size≤gb255));have Gm:=D1;replace HB:=mk_ (zr3 (yu0 HB.out) hb);clear hb hbox hg)|((with_reducible refine gate_dst (N:=3) rfl ?_);refine box_event ?hg (N:=3) ?hd (cs:=#[.int .i64 a1_0,.int .i64 a1_1,.slice A1_2 l1_2.length c1_2]) (t:=47) ?hr ?_;(case hd=>rfl);(case hg=>rfl);(case hr=>first|(go_simp;done)|(go_simp;rfl));intro gb256 hg Vl hbox hb;have Af:=mk_ (hbox);have D2:=mk_ ((by rw [hg];exact (zr2 (yu1 HB.out)):w.heap.size≤gb256));have Gn:=D2;replace HB:=mk_ (zr3 (yu1 HB.out) hb);have Df:=mk_ ((by rw [hg];exact zm2 (zr6 (by exact Ae.out)):gb255≠gb256));replace Ae:=mk_ (zq6 (by exact Ae.out) hb);have Dh:=mk_ Df.out.symm;clear hb hbox hg;have Sj:=Df.out;have Sk:=Dh.out;obtain ⟨Ky,Kz⟩:=cz2 Ae.out;obtain ⟨K0,K1⟩:=fz2 Ae.out)|((with_reducible refine gate_callee (f:=32) rfl ?_);refine goesL_ (some 22) rfl rfl Try.func32 (by kernel_rfl) rfl #[.agg #[.int .i64 a0_0,.slice A0_1 l0_1.length c0_1],.int .i64 1048576] rfl am ?_;(with_reducible refine (laws_szSegJoin.calls a0_0 _ _ l0_1 1048576 t257 _ ?side1 ?side2 A3.out).mono ?_);(case side1=>repeat (first|exact (Kd.C_below Di.out HB.out)|(with_reducible refine Kd.C_alloc ?_ _)|(with_reducible refine Kd.C_drewN ?_ _)|(with_reducible refine Kd.C_drew ?_)));(case side2=>exact Dj.out);rintro e Vm ⟨rfl,hb⟩;refine ⟨_,rfl,?_⟩;replace Ae:=mk_ (zq6 (by exact Ae.out) hb);replace Af:=mk_ (zq6 (by exact Af.out) hb);replace HB:=mk_ (zr3 (yu1 HB.out) hb);(try clear hb);(try clear hb2);(try clear hk);(try clear hi);obtain ⟨K2,K3,K4⟩:=cz3 Af.out;obtain ⟨K5,K6,K7⟩:=fz3 Af.out)|((with_reducible refine gate_callee (f:=33) rfl ?_);refine goesL_ (some 27) rfl rfl Try.func33 (by kernel_rfl) rfl #[.agg #[.int .i64 a1_0,.int .i64 a1_1,.slice A1_2 l1_2.length c1_2],.int .i64 t257] rfl am ?_;(with_reducible refine (laws_szSegPart.calls a1_0 a1_1 _ _ l1_2 t257 t258 _ ?side1 ?side2 Jb.out).mono ?_);(case side1=>repeat (first|exact (Kd.C_below Ds.out HB.out)|(with_reducible refine Kd.C_alloc ?_ _)|(with_reducible refine Kd.C_drewN ?_ _)|(with_reducible refine Kd.C_drew ?_)));(case side2=>exact Dt.out);rintro e Vn ⟨rfl,hb⟩;refine ⟨_,rfl,?_⟩;replace Ae:=mk_ (zq6 (by exact Ae.out) hb);replace Af:=mk_ (zq6 (by exact Af.out) hb);replace HB:=mk_ (zr3 (yu1 HB.out) hb);(try clear hb);(try clear hb2);(try clear hk);(try clear hi)))
   go_ret
   exact ⟨by first|rfl|(simp [errW_none,errW_some] <;> rfl)|(simp [*,errW_none,errW_some] <;> rfl),by exact yu1 HB.out⟩
  ·rw [if_neg c11] at H
   have c11b0:decide (t258<0)=false:=decide_eq_false c11
   clear c11
   replace H:=Option.bind_eq_some_iff.mp H
   obtain ⟨⟨t259,t260⟩,Iw,H⟩:=H
   try dsimp only at H
   have Lc:=mk_ Iw
   clear Iw
   replace H:=Option.bind_eq_some_iff.mp H
   obtain ⟨⟨t263,t264,t265⟩,D0,H⟩:=H
   try dsimp only at H
   have Ld:=mk_ D0
   clear D0
   replace H:=Option.bind_eq_some_iff.mp H
   obtain ⟨⟨t268,t269,t272,t275⟩,Ix,H⟩:=H
   try dsimp only at H
   have Le:=mk_ Ix
   clear Ix
   replace H:=Option.bind_eq_some_iff.mp H
   obtain ⟨⟨t277,t278⟩,Iy,H⟩:=H
   try dsimp only at H
   have Lf:=mk_ Iy
   clear Iy
   replace H:=Option.bind_eq_some_iff.mp H
   obtain ⟨⟨t282,t283,t284⟩,Eb,H⟩:=H
   try dsimp only at H
   have Lg:=mk_ Eb
   clear Eb
   replace H:=Option.bind_eq_some_iff.mp H
   obtain ⟨⟨t288,t289,t292,t295⟩,Iz,H⟩:=H
   try dsimp only at H
   have Lh:=mk_ Iz
   clear Iz
   have Eh:=mk_ H
   clear H
   go_enter Try.func8,Try.ntmps8
   try go_wp2_with (first|((with_reducible refine gate_dst (N:=2) rfl ?_);refine box_event ?hg (N:=2) ?hd (cs:=#[.int .i64 a0_0,.slice A0_1 l0_1.length c0_1]) (t:=46) ?hr ?_;(case hd=>rfl);(case hg=>rfl);(case hr=>first|(go_simp;done)|(go_simp;rfl));intro gb255 hg Vo hbox hb;have Ae:=mk_ (hbox);have D1:=mk_ ((by rw [hg];exact (zr2 (yu0 HB.out)):w.heap.size≤gb255));have Gm:=D1;replace HB:=mk_ (zr3 (yu0 HB.out) hb);clear hb hbox hg)|((with_reducible refine gate_dst (N:=3) rfl ?_);refine box_event ?hg (N:=3) ?hd (cs:=#[.int .i64 a1_0,.int .i64 a1_1,.slice A1_2 l1_2.length c1_2]) (t:=47) ?hr ?_;(case hd=>rfl);(case hg=>rfl);(case hr=>first|(go_simp;done)|(go_simp;rfl));intro gb256 hg Vp hbox hb;have Af:=mk_ (hbox);have D2:=mk_ ((by rw [hg];exact (zr2 (yu1 HB.out)):w.heap.size≤gb256));have Gn:=D2;replace HB:=mk_ (zr3 (yu1 HB.out) hb);have Df:=mk_ ((by rw [hg];exact zm2 (zr6 (by exact Ae.out)):gb255≠gb256));replace Ae:=mk_ (zq6 (by exact Ae.out) hb);have Dh:=mk_ Df.out.symm;clear hb hbox hg;have Sl:=Df.out;have Sm:=Dh.out;obtain ⟨G8,G9⟩:=cz2 Ae.out;obtain ⟨Ha,Hb⟩:=fz2 Ae.out)|((with_reducible refine gate_callee (f:=32) rfl ?_);refine goesL_ (some 22) rfl rfl Try.func32 (by kernel_rfl) rfl #[.agg #[.int .i64 a0_0,.slice A0_1 l0_1.length c0_1],.int .i64 1048576] rfl am ?_;(with_reducible refine (laws_szSegJoin.calls a0_0 _ _ l0_1 1048576 t257 _ ?side1 ?side2 A3.out).mono ?_);(case side1=>repeat (first|exact (Kd.C_below Di.out HB.out)|(with_reducible refine Kd.C_alloc ?_ _)|(with_reducible refine Kd.C_drewN ?_ _)|(with_reducible refine Kd.C_drew ?_)));(case side2=>exact Dj.out);rintro e Vq ⟨rfl,hb⟩;refine ⟨_,rfl,?_⟩;replace Ae:=mk_ (zq6 (by exact Ae.out) hb);replace Af:=mk_ (zq6 (by exact Af.out) hb);replace HB:=mk_ (zr3 (yu1 HB.out) hb);(try clear hb);(try clear hb2);(try clear hk);(try clear hi);obtain ⟨Hc,Hd,He⟩:=cz3 Af.out;obtain ⟨Hf,Hg,Hh⟩:=fz3 Af.out)|((with_reducible refine gate_callee (f:=33) rfl ?_);refine goesL_ (some 27) rfl rfl Try.func33 (by kernel_rfl) rfl #[.agg #[.int .i64 a1_0,.int .i64 a1_1,.slice A1_2 l1_2.length c1_2],.int .i64 t257] rfl am ?_;(with_reducible refine (laws_szSegPart.calls a1_0 a1_1 _ _ l1_2 t257 t258 _ ?side1 ?side2 Jb.out).mono ?_);(case side1=>repeat (first|exact (Kd.C_below Ds.out HB.out)|(with_reducible refine Kd.C_alloc ?_ _)|(with_reducible refine Kd.C_drewN ?_ _)|(with_reducible refine Kd.C_drew ?_)));(case side2=>exact Dt.out);rintro e Li ⟨rfl,hb⟩;refine ⟨_,rfl,?_⟩;replace Ae:=mk_ (zq6 (by exact Ae.out) hb);replace Af:=mk_ (zq6 (by exact Af.out) hb);replace HB:=mk_ (zr3 (yu1 HB.out) hb);(try clear hb);(try clear hb2);(try clear hk);(try clear hi)))
   replace Ae:=mk_ (zq2 Ae.out)
   replace Af:=mk_ (zq2 Af.out)
   replace HB:=mk_ (zq9 HB.out)
   refine start_ (n:=13) (S:=fun w'=>True) (ds:=[]) (bm 13 0) (by kernel_rfl) rfl rfl trivial (fun hHeld=>?_);refine with_tabW laws_FnExactSegPut.tab8 laws_FnExactSegPut.bits8 (fun HT_ HW_=>?_)
   generalize Li.drew=Vr at Ae Af HB hHeld ⊢
   refine inv_at [0,1,2,3,4,5,6,7,8,9,10,11,12] (fun a0_ b a w'=>∃ (v261:Value) (v266:Value) (v270:Value) (v273:Value) (gb276:Nat) (m1_:Value) (m3_:Value) (m4_:Value) (m5_:Value) (m6_:Value) (m7_:Value) (m9_:Value) (m11_:Value),a=putSel a0_ b [(0,31,.agg #[.int .i64 a0_0,.slice A0_1 l0_1.length c0_1]),(1,32,m1_),(2,33,.agg #[.int .i64 a1_0,.int .i64 a1_1,.slice A1_2 l1_2.length c1_2]),(3,34,m3_),(4,35,m4_),(5,30,m5_),(6,36,m6_),(7,37,m7_),(8,38,.int .i64 t275),(9,6,m9_),(11,7,m11_),(12,8,.int .i64 t275)]∧(w'.heap[gb255]? =some (.cells #[.int .i64 a0_0,.slice A0_1 l0_1.length c0_1] 46 (0,0)))∧(w'.heap[gb256]? =some (.cells #[.int .i64 a1_0,.int .i64 a1_1,.slice A1_2 l1_2.length c1_2] 47 (0,0)))∧(Below w.heap.size w w')∧(b 1=true→RR ku 5 w' w.heap.size (fun k_=>(b 3=true→some k_≠(v266:Value).ownBlock)∧(b 4=true→some k_≠(v270:Value).ownBlock)∧(b 4=true→some k_≠(v273:Value).ownBlock)) v261 t260)∧(b 3=true→RR ku 5 w' w.heap.size (fun k_=>some k_≠(v261:Value).ownBlock∧(b 4=true→some k_≠(v270:Value).ownBlock)∧(b 4=true→some k_≠(v273:Value).ownBlock)) v266 t265)∧(b 4=true→RR ku 5 w' w.heap.size (fun k_=>some k_≠(v261:Value).ownBlock∧some k_≠(v266:Value).ownBlock∧some k_≠(v273:Value).ownBlock) v270 t269)∧(b 4=true→RR ku 5 w' w.heap.size (fun k_=>some k_≠(v261:Value).ownBlock∧some k_≠(v266:Value).ownBlock∧some k_≠(v270:Value).ownBlock) v273 t272)∧(b 9=true→b 10=false→w'.heap[gb276]? =some (.cells #[.int .i64 0,.slice none 0 0] 35 (0,0)))∧(b 9=true→w.heap.size≤gb276)∧(b 9=true→w.heap.size≤gb276)∧(b 9=true→gb255≠gb276)∧(b 9=true→gb276≠gb255)∧(b 9=true→gb256≠gb276)∧(b 9=true→gb276≠gb256)∧(b 10=true→w'.heap[gb276]? =some (.cells #[.int .i64 t268,v270] 35 (0,0)))∧(b 1=true→(m1_:Value)=.agg #[.int .i64 t259,v261])∧(b 3=true→(m3_:Value)=.agg #[.int .i64 t263,.int .i64 t264,v266])∧(b 4=true→(m4_:Value)=.tuple #[.agg #[.int .i64 t268,v270],v273,.int .i64 t275])∧(b 5=true→(m5_:Value)=.tuple #[.agg #[.int .i64 t268,v270],v273,.int .i64 t275])∧(b 6=true→(m6_:Value)=.agg #[.int .i64 t268,v270])∧(b 7=true→(m7_:Value)=v273)∧(b 9=true→(m9_:Value)=.pointer (some ⟨gb276,0,none⟩))∧(b 11=true→(m11_:Value)=v273)) HT_.out HW_.out (by kernel_rfl) (by kernel_rfl) ?_ ?_ ?_
   ·exact ⟨.bool false,.bool false,.bool false,.bool false,0,.bool false,.bool false,.bool false,.bool false,.bool false,.bool false,.bool false,.bool false,by simp only [putSel,Bool.false_eq_true,if_false],Ae.out,Af.out,HB.out,fun h_=>absurd h_ (by decide),fun h_=>absurd h_ (by decide),fun h_=>absurd h_ (by decide),fun h_=>absurd h_ (by decide),fun h_=>absurd h_ (by decide),fun h_=>absurd h_ (by decide),fun h_=>absurd h_ (by decide),fun h_=>absurd h_ (by decide),fun h_=>absurd h_ (by decide),fun h_=>absurd h_ (by decide),fun h_=>absurd h_ (by decide),fun h_=>absurd h_ (by decide),fun h_=>absurd h_ (by decide),fun h_=>absurd h_ (by decide),fun h_=>absurd h_ (by decide),fun h_=>absurd h_ (by decide),fun h_=>absurd h_ (by decide),fun h_=>absurd h_ (by decide),fun h_=>absurd h_ (by decide),fun h_=>absurd h_ (by decide)⟩
   ·skip
    clear Ae Af HB
    refine steps_cons ?_ ?_
    ·rintro b a w' ⟨v261,v266,v270,v273,gb276,m1_,m3_,m4_,m5_,m6_,m7_,m9_,m11_,ha,Am,An,Ba,Bn,Bs,Bz,B0,Ao,B5,B6,At,Au,Av,Aw,Bk,Bc,Bh,Bm,Bi,Bv,Bw,Bb,Ca⟩ hb_ hon hoff
     refine ⟨_,rfl,fun K hK=>?_⟩
     have e2:a.tmps[2]? =some (.pointer (some ⟨gb255,0,none⟩)):=by rw [ha];exact (putSel_off rfl).trans rfl
     replace ha:=mk_ ha
     have Ae:=mk_ Am
     have Af:=mk_ An
     have HB:=mk_ Ba
     have hc0_:w'.cell? ⟨gb255,0,none⟩=some (.int .i64 a0_0):=(zr4 Ae.out 0).trans rfl
     have hc1_:w'.cell? ⟨gb255,1,none⟩=some (.slice A0_1 l0_1.length c0_1):=(zr4 Ae.out 1).trans rfl
     refine value_ (w1:=w') (v:=.agg #[.int .i64 a0_0,.slice A0_1 l0_1.length c0_1]) (by rfl) rfl ?_ ?_
     ·go_simp
      (try simp only [i64_w])
      try rfl
     refine hK.out _ _ ⟨v261,v266,v270,v273,gb276,m1_,m3_,m4_,m5_,m6_,m7_,m9_,m11_,(by rw [ha.out];exact putSel_upk 0 hb_ rfl rfl rfl),Am,An,Ba,fun h0_=>nh (hoff 1 (by kernel_rfl)) h0_,fun h0_=>nh (hoff 3 (by kernel_rfl)) h0_,fun h0_=>nh (hoff 4 (by kernel_rfl)) h0_,fun h0_=>nh (hoff 4 (by kernel_rfl)) h0_,Ao,B5,B6,At,Au,Av,Aw,fun h0_=>nh (hoff 10 (by kernel_rfl)) h0_,fun h0_=>nh (hoff 1 (by kernel_rfl)) h0_,fun h0_=>nh (hoff 3 (by kernel_rfl)) h0_,fun h0_=>nh (hoff 4 (by kernel_rfl)) h0_,fun h0_=>nh (hoff 5 (by kernel_rfl)) h0_,fun h0_=>nh (hoff 6 (by kernel_rfl)) h0_,fun h0_=>nh (hoff 7 (by kernel_rfl)) h0_,Bb,fun h0_=>nh (hoff 11 (by kernel_rfl)) h0_⟩
    refine steps_cons ?_ ?_
    ·rintro b a w' ⟨v261,v266,v270,v273,gb276,m1_,m3_,m4_,m5_,m6_,m7_,m9_,m11_,ha,Am,An,Ba,Bn,Bs,Bz,B0,Ao,B5,B6,At,Au,Av,Aw,Bk,Bc,Bh,Bm,Bi,Bv,Bw,Bb,Ca⟩ hb_ hon hoff
     refine ⟨_,rfl,fun K hK=>?_⟩
     have e31:a.tmps[31]? =some (.agg #[.int .i64 a0_0,.slice A0_1 l0_1.length c0_1]):=by rw [ha];exact putSel_on (e:=(0,31,.agg #[.int .i64 a0_0,.slice A0_1 l0_1.length c0_1])) 0 rfl rfl (hon 0 (by kernel_rfl)) rfl
     replace ha:=mk_ ha
     have Ae:=mk_ Am
     have Af:=mk_ An
     have HB:=mk_ Ba
     refine goes_ Try.func35 (by kernel_rfl) rfl #[.agg #[.int .i64 a0_0,.slice A0_1 l0_1.length c0_1]] (by rfl) rfl rfl (by first|(simp only [List.map_toArray,List.map_cons,List.map_nil,Act.eval,Array.getD_eq_getD_getElem?,Option.getD_some,e31];done)|(simp only [List.map_toArray,List.map_cons,List.map_nil,Act.eval,Array.getD_eq_getD_getElem?,Option.getD_some,e31];rfl)) ?_
     with_reducible refine (laws_toSegJoin.callsR k a0_0 _ _ l0_1 t259 t260 _ ?side1 ?side2 Lc.out).mono ?_
     (case side1=>repeat (first|exact (Kd.C_below Di.out HB.out)|(with_reducible refine Kd.C_alloc ?_ _)|(with_reducible refine Kd.C_drewN ?_ _)|(with_reducible refine Kd.C_drew ?_)))
     (case side2=>exact Dj.out)
     rintro e Ea ⟨v261,rfl,ho0,hb⟩
     refine ⟨_,rfl,?_⟩
     have n0_:=mk_ (RR_lower ho0 (zr2 (yu1 HB.out)))
     have n1_:=mk_ (zq6 (by exact Ae.out) hb)
     have n2_:=mk_ (zq6 (by exact Af.out) hb)
     have n3_:=mk_ (zr3 (yu1 HB.out) hb)
     have Dq:=fun (h0_:b 9=true) (h1_:b 10=false)=>(show Ea.heap[gb276]? =some (.cells #[.int .i64 0,.slice none 0 0] 35 (0,0)) from by first|exact (zq6 (g:=gb276) (o:=.cells #[.int .i64 0,.slice none 0 0] 35 (0,0)) (by (with_reducible repeat (first|refine zq1 ?_ _|refine zq2 ?_|refine zq3 ?_ _));exact (Ao h0_ h1_)) hb))
     clear Ae
     clear Af
     clear HB
     have Bj:=n0_
     have Ae:=n1_
     have Af:=n2_
     have HB:=n3_
     clear n0_ n1_ n2_ n3_
     (try clear hb)
     (try clear hb2)
     (try clear hk)
     (try clear hi)
     (try clear ho0)
     refine hK.out _ _ ⟨v261,v266,v270,v273,gb276,(.agg #[.int .i64 t259,v261]),m3_,m4_,m5_,m6_,m7_,m9_,m11_,(by rw [ha.out];exact putSel_upk 1 hb_ rfl rfl rfl),(by exact Ae.out),(by exact Af.out),(yu1 HB.out),fun _=>(by (with_reducible repeat (first|apply RR_alloc|apply RR_drewN|apply RR_drew));exact RR_mono Bj.out (fun _ hk=>⟨fun h0_=>nh (hoff 3 (by kernel_rfl)) h0_,⟨fun h0_=>nh (hoff 4 (by kernel_rfl)) h0_,fun h0_=>nh (hoff 4 (by kernel_rfl)) h0_⟩⟩)),fun h0_=>nh (hoff 3 (by kernel_rfl)) h0_,fun h0_=>nh (hoff 4 (by kernel_rfl)) h0_,fun h0_=>nh (hoff 4 (by kernel_rfl)) h0_,Dq,B5,B6,At,Au,Av,Aw,fun h0_=>nh (hoff 10 (by kernel_rfl)) h0_,fun _=>rfl,fun h0_=>nh (hoff 3 (by kernel_rfl)) h0_,fun h0_=>nh (hoff 4 (by kernel_rfl)) h0_,fun h0_=>nh (hoff 5 (by kernel_rfl)) h0_,fun h0_=>nh (hoff 6 (by kernel_rfl)) h0_,fun h0_=>nh (hoff 7 (by kernel_rfl)) h0_,Bb,fun h0_=>nh (hoff 11 (by kernel_rfl)) h0_⟩
    refine steps_cons ?_ ?_
    ·rintro b a w' ⟨v261,v266,v270,v273,gb276,m1_,m3_,m4_,m5_,m6_,m7_,m9_,m11_,ha,Am,An,Ba,Bn,Bs,Bz,B0,Ao,B5,B6,At,Au,Av,Aw,Bk,Bc,Bh,Bm,Bi,Bv,Bw,Bb,Ca⟩ hb_ hon hoff
     refine ⟨_,rfl,fun K hK=>?_⟩
     have e3:a.tmps[3]? =some (.pointer (some ⟨gb256,0,none⟩)):=by rw [ha];exact (putSel_off rfl).trans rfl
     replace ha:=mk_ ha
     have Ae:=mk_ Am
     have Af:=mk_ An
     have HB:=mk_ Ba
     have hc0_:w'.cell? ⟨gb256,0,none⟩=some (.int .i64 a1_0):=(zr4 Af.out 0).trans rfl
     have hc1_:w'.cell? ⟨gb256,1,none⟩=some (.int .i64 a1_1):=(zr4 Af.out 1).trans rfl
     have hc2_:w'.cell? ⟨gb256,2,none⟩=some (.slice A1_2 l1_2.length c1_2):=(zr4 Af.out 2).trans rfl
     refine value_ (w1:=w') (v:=.agg #[.int .i64 a1_0,.int .i64 a1_1,.slice A1_2 l1_2.length c1_2]) (by rfl) rfl ?_ ?_
     ·go_simp
      (try simp only [i64_w])
      try rfl
     refine hK.out _ _ ⟨v261,v266,v270,v273,gb276,m1_,m3_,m4_,m5_,m6_,m7_,m9_,m11_,(by rw [ha.out];exact putSel_upk 2 hb_ rfl rfl rfl),Am,An,Ba,Bn,fun h0_=>nh (hoff 3 (by kernel_rfl)) h0_,fun h0_=>nh (hoff 4 (by kernel_rfl)) h0_,fun h0_=>nh (hoff 4 (by kernel_rfl)) h0_,Ao,B5,B6,At,Au,Av,Aw,fun h0_=>nh (hoff 10 (by kernel_rfl)) h0_,Bc,fun h0_=>nh (hoff 3 (by kernel_rfl)) h0_,fun h0_=>nh (hoff 4 (by kernel_rfl)) h0_,fun h0_=>nh (hoff 5 (by kernel_rfl)) h0_,fun h0_=>nh (hoff 6 (by kernel_rfl)) h0_,fun h0_=>nh (hoff 7 (by kernel_rfl)) h0_,Bb,fun h0_=>nh (hoff 11 (by kernel_rfl)) h0_⟩
    refine steps_cons ?_ ?_
    ·rintro b a w' ⟨v261,v266,v270,v273,gb276,m1_,m3_,m4_,m5_,m6_,m7_,m9_,m11_,ha,Am,An,Ba,Bn,Bs,Bz,B0,Ao,B5,B6,At,Au,Av,Aw,Bk,Bc,Bh,Bm,Bi,Bv,Bw,Bb,Ca⟩ hb_ hon hoff
     refine ⟨_,rfl,fun K hK=>?_⟩
     have e33:a.tmps[33]? =some (.agg #[.int .i64 a1_0,.int .i64 a1_1,.slice A1_2 l1_2.length c1_2]):=by rw [ha];exact putSel_on (e:=(2,33,.agg #[.int .i64 a1_0,.int .i64 a1_1,.slice A1_2 l1_2.length c1_2])) 2 rfl rfl (hon 2 (by kernel_rfl)) rfl
     replace ha:=mk_ ha
     have Ae:=mk_ Am
     have Af:=mk_ An
     have HB:=mk_ Ba
     have Bj:=mk_ (Bn (hon 1 (by kernel_rfl)))
     refine goes_ Try.func36 (by kernel_rfl) rfl #[.agg #[.int .i64 a1_0,.int .i64 a1_1,.slice A1_2 l1_2.length c1_2]] (by rfl) rfl rfl (by first|(simp only [List.map_toArray,List.map_cons,List.map_nil,Act.eval,Array.getD_eq_getD_getElem?,Option.getD_some,e33];done)|(simp only [List.map_toArray,List.map_cons,List.map_nil,Act.eval,Array.getD_eq_getD_getElem?,Option.getD_some,e33];rfl)) ?_
     with_reducible refine (laws_toSegPart.callsR k a1_0 a1_1 _ _ l1_2 t263 t264 t265 _ ?side1 ?side2 Ld.out).mono ?_
     (case side1=>repeat (first|exact (Kd.C_below Ds.out HB.out)|(with_reducible refine Kd.C_alloc ?_ _)|(with_reducible refine Kd.C_drewN ?_ _)|(with_reducible refine Kd.C_drew ?_)))
     (case side2=>exact Dt.out)
     rintro e Lj ⟨v266,rfl,ho0,hb⟩
     refine ⟨_,rfl,?_⟩
     have n0_:=mk_ (RR_elder' (mRR Bj.out) (RR_base ho0) hb)
     have n1_:=mk_ (RR_lower (RR_new' ho0 (RR_lt (mRR Bj.out))) (zr2 (yu1 HB.out)))
     have n2_:=mk_ (zq6 (by exact Ae.out) hb)
     have n3_:=mk_ (zq6 (by exact Af.out) hb)
     have n4_:=mk_ (zr3 (yu1 HB.out) hb)
     have Dq:=fun (h0_:b 9=true) (h1_:b 10=false)=>(show Lj.heap[gb276]? =some (.cells #[.int .i64 0,.slice none 0 0] 35 (0,0)) from by first|exact (zq6 (g:=gb276) (o:=.cells #[.int .i64 0,.slice none 0 0] 35 (0,0)) (by (with_reducible repeat (first|refine zq1 ?_ _|refine zq2 ?_|refine zq3 ?_ _));exact (Ao h0_ h1_)) hb))
     clear Bj
     clear Ae
     clear Af
     clear HB
     have Bj:=n0_
     have B3:=n1_
     have Ae:=n2_
     have Af:=n3_
     have HB:=n4_
     clear n0_ n1_ n2_ n3_ n4_
     (try clear hb)
     (try clear hb2)
     (try clear hk)
     (try clear hi)
     (try clear ho0)
     refine hK.out _ _ ⟨v261,v266,v270,v273,gb276,m1_,(.agg #[.int .i64 t263,.int .i64 t264,v266]),m4_,m5_,m6_,m7_,m9_,m11_,(by rw [ha.out];exact putSel_upk 3 hb_ rfl rfl rfl),(by exact Ae.out),(by exact Af.out),(yu1 HB.out),fun _=>(by (with_reducible repeat (first|apply RR_alloc|apply RR_drewN|apply RR_drew));exact RR_mono Bj.out (fun _ hk=>⟨fun _=>hk.2,⟨hk.1.2.1,hk.1.2.2⟩⟩)),fun _=>(by (with_reducible repeat (first|apply RR_alloc|apply RR_drewN|apply RR_drew));exact RR_mono B3.out (fun _ hk=>⟨hk.2,⟨fun h0_=>nh (hoff 4 (by kernel_rfl)) h0_,fun h0_=>nh (hoff 4 (by kernel_rfl)) h0_⟩⟩)),fun h0_=>nh (hoff 4 (by kernel_rfl)) h0_,fun h0_=>nh (hoff 4 (by kernel_rfl)) h0_,Dq,B5,B6,At,Au,Av,Aw,fun h0_=>nh (hoff 10 (by kernel_rfl)) h0_,Bc,fun _=>rfl,fun h0_=>nh (hoff 4 (by kernel_rfl)) h0_,fun h0_=>nh (hoff 5 (by kernel_rfl)) h0_,fun h0_=>nh (hoff 6 (by kernel_rfl)) h0_,fun h0_=>nh (hoff 7 (by kernel_rfl)) h0_,Bb,fun h0_=>nh (hoff 11 (by kernel_rfl)) h0_⟩
    refine steps_cons ?_ ?_
    ·rintro b a w' ⟨v261,v266,v270,v273,gb276,m1_,m3_,m4_,m5_,m6_,m7_,m9_,m11_,ha,Am,An,Ba,Bn,Bs,Bz,B0,Ao,B5,B6,At,Au,Av,Aw,Bk,Bc,Bh,Bm,Bi,Bv,Bw,Bb,Ca⟩ hb_ hon hoff
     refine ⟨_,rfl,fun K hK=>?_⟩
     have e32:a.tmps[32]? =some (m1_):=by rw [ha];exact putSel_on (e:=(1,32,m1_)) 1 rfl rfl (hon 1 (by kernel_rfl)) rfl
     rw [Bc (hon 1 (by kernel_rfl))] at e32
     have e34:a.tmps[34]? =some (m3_):=by rw [ha];exact putSel_on (e:=(3,34,m3_)) 3 rfl rfl (hon 3 (by kernel_rfl)) rfl
     rw [Bh (hon 3 (by kernel_rfl))] at e34
     replace ha:=mk_ ha
     have Ae:=mk_ Am
     have Af:=mk_ An
     have HB:=mk_ Ba
     have Bj:=mk_ (Bn (hon 1 (by kernel_rfl)))
     have B3:=mk_ (Bs (hon 3 (by kernel_rfl)))
     obtain ⟨Ao37,co37,eo37⟩:=RR_slice Bj.out
     (first|subst eo37|(injection eo37 with f1_ f2_ f3_;have f4_:=f1_.symm;have f5_:=f3_.symm;clear f1_ f2_ f3_;subst f4_;subst f5_))
     obtain ⟨Ao38,co38,eo38⟩:=RR_slice B3.out
     (first|subst eo38|(injection eo38 with f1_ f2_ f3_;have f4_:=f1_.symm;have f5_:=f3_.symm;clear f1_ f2_ f3_;subst f4_;subst f5_))
     refine goes_ Try.func34 (by kernel_rfl) rfl #[.agg #[.int .i64 t259,.slice Ao37 t260.length co37],.agg #[.int .i64 t263,.int .i64 t264,.slice Ao38 t265.length co38]] (by rfl) rfl rfl (by first|(simp only [List.map_toArray,List.map_cons,List.map_nil,Act.eval,Array.getD_eq_getD_getElem?,Option.getD_some,e32,e34];done)|(simp only [List.map_toArray,List.map_cons,List.map_nil,Act.eval,Array.getD_eq_getD_getElem?,Option.getD_some,e32,e34];rfl)) ?_
     with_reducible refine (spec_SegPut.callsR k t259 _ _ t260 t263 t264 _ _ t265 t268 t269 t272 t275 _ ?side1 ?side2 ?side3 ?side4 Le.out).mono ?_
     (case side1=>exact mC (RR_reads' Bj.out).2.2)
     (case side2=>exact (RR_reads' Bj.out).2.1)
     (case side3=>exact mC (RR_reads' B3.out).2.2)
     (case side4=>exact (RR_reads' B3.out).2.1)
     rintro e Lk ⟨v270,v273,rfl,ho0,ho1,hb⟩
     refine ⟨_,rfl,?_⟩
     have n0_:=mk_ (RR_mono (RR_told (RR_told (RR_old (mRR Bj.out) hb) (RR_base ho0)) (RR_base ho1)) (fun _ h_=>h_.1))
     have n1_:=mk_ (RR_mono (RR_told (RR_told (RR_old (mRR B3.out) hb) (RR_base ho0)) (RR_base ho1)) (fun _ h_=>h_.1))
     have n2_:=mk_ (RR_lower (RR_new' (RR_new' ho0 (RR_lt (mRR Bj.out))) (RR_lt (mRR B3.out))) (zr2 (yu1 HB.out)))
     have n3_:=mk_ (RR_lower (RR_new' (RR_new' ho1 (RR_lt (mRR Bj.out))) (RR_lt (mRR B3.out))) (zr2 (yu1 HB.out)))
     have n4_:=mk_ (zq6 (by exact Ae.out) hb)
     have n5_:=mk_ (zq6 (by exact Af.out) hb)
     have n6_:=mk_ (zr3 (yu1 HB.out) hb)
     have Dq:=fun (h0_:b 9=true) (h1_:b 10=false)=>(show Lk.heap[gb276]? =some (.cells #[.int .i64 0,.slice none 0 0] 35 (0,0)) from by first|exact (zq6 (g:=gb276) (o:=.cells #[.int .i64 0,.slice none 0 0] 35 (0,0)) (by (with_reducible repeat (first|refine zq1 ?_ _|refine zq2 ?_|refine zq3 ?_ _));exact (Ao h0_ h1_)) hb))
     clear Bj
     clear B3
     clear Ae
     clear Af
     clear HB
     have Bj:=n0_
     have B3:=n1_
     have Bq:=n2_
     have Br:=n3_
     have Ae:=n4_
     have Af:=n5_
     have HB:=n6_
     clear n0_ n1_ n2_ n3_ n4_ n5_ n6_
     (try clear hb)
     (try clear hb2)
     (try clear hk)
     (try clear hi)
     (try clear ho0)
     (try clear ho1)
     refine hK.out _ _ ⟨.slice Ao37 t260.length co37,.slice Ao38 t265.length co38,v270,v273,gb276,m1_,m3_,(.tuple #[.agg #[.int .i64 t268,v270],v273,.int .i64 t275]),m5_,m6_,m7_,m9_,m11_,(by rw [ha.out];exact putSel_upk 4 hb_ rfl rfl rfl),(by exact Ae.out),(by exact Af.out),(yu1 HB.out),fun _=>(by (with_reducible repeat (first|apply RR_alloc|apply RR_drewN|apply RR_drew));exact RR_mono Bj.out (fun _ hk=>⟨hk.1.1.1,⟨fun _=>hk.1.2,fun _=>hk.2⟩⟩)),fun _=>(by (with_reducible repeat (first|apply RR_alloc|apply RR_drewN|apply RR_drew));exact RR_mono B3.out (fun _ hk=>⟨hk.1.1.1,⟨fun _=>hk.1.2,fun _=>hk.2⟩⟩)),fun _=>(by (with_reducible repeat (first|apply RR_alloc|apply RR_drewN|apply RR_drew));exact RR_mono Bq.out (fun _ hk=>⟨hk.1.2,⟨hk.2,hk.1.1⟩⟩)),fun _=>(by (with_reducible repeat (first|apply RR_alloc|apply RR_drewN|apply RR_drew));exact RR_mono Br.out (fun _ hk=>⟨hk.1.2,⟨hk.2,hk.1.1⟩⟩)),Dq,B5,B6,At,Au,Av,Aw,fun h0_=>nh (hoff 10 (by kernel_rfl)) h0_,Bc,Bh,fun _=>rfl,fun h0_=>nh (hoff 5 (by kernel_rfl)) h0_,fun h0_=>nh (hoff 6 (by kernel_rfl)) h0_,fun h0_=>nh (hoff 7 (by kernel_rfl)) h0_,Bb,fun h0_=>nh (hoff 11 (by kernel_rfl)) h0_⟩
    refine steps_cons ?_ ?_
    ·rintro b a w' ⟨v261,v266,v270,v273,gb276,m1_,m3_,m4_,m5_,m6_,m7_,m9_,m11_,ha,Am,An,Ba,Bn,Bs,Bz,B0,Ao,B5,B6,At,Au,Av,Aw,Bk,Bc,Bh,Bm,Bi,Bv,Bw,Bb,Ca⟩ hb_ hon hoff
     refine ⟨_,rfl,fun K hK=>?_⟩
     have e35:a.tmps[35]? =some (m4_):=by rw [ha];exact putSel_on (e:=(4,35,m4_)) 4 rfl rfl (hon 4 (by kernel_rfl)) rfl
     rw [Bm (hon 4 (by kernel_rfl))] at e35
     replace ha:=mk_ ha
     have Ae:=mk_ Am
     have Af:=mk_ An
     have HB:=mk_ Ba
     have Bj:=mk_ (Bn (hon 1 (by kernel_rfl)))
     have B3:=mk_ (Bs (hon 3 (by kernel_rfl)))
     have Bq:=mk_ (Bz (hon 4 (by kernel_rfl)))
     have Br:=mk_ (B0 (hon 4 (by kernel_rfl)))
     refine value_ (w1:=w') (v:=.tuple #[.agg #[.int .i64 t268,v270],v273,.int .i64 t275]) (by rfl) rfl ?_ ?_
     ·go_simp
      (try simp only [i64_w])
      try rfl
     refine hK.out _ _ ⟨v261,v266,v270,v273,gb276,m1_,m3_,m4_,(.tuple #[.agg #[.int .i64 t268,v270],v273,.int .i64 t275]),m6_,m7_,m9_,m11_,(by rw [ha.out];exact putSel_upk 5 hb_ rfl rfl rfl),Am,An,Ba,Bn,Bs,Bz,B0,Ao,B5,B6,At,Au,Av,Aw,fun h0_=>nh (hoff 10 (by kernel_rfl)) h0_,Bc,Bh,Bm,fun _=>rfl,fun h0_=>nh (hoff 6 (by kernel_rfl)) h0_,fun h0_=>nh (hoff 7 (by kernel_rfl)) h0_,Bb,fun h0_=>nh (hoff 11 (by kernel_rfl)) h0_⟩
    refine steps_cons ?_ ?_
    ·rintro b a w' ⟨v261,v266,v270,v273,gb276,m1_,m3_,m4_,m5_,m6_,m7_,m9_,m11_,ha,Am,An,Ba,Bn,Bs,Bz,B0,Ao,B5,B6,At,Au,Av,Aw,Bk,Bc,Bh,Bm,Bi,Bv,Bw,Bb,Ca⟩ hb_ hon hoff
     refine ⟨_,rfl,fun K hK=>?_⟩
     have e30:a.tmps[30]? =some (m5_):=by rw [ha];exact putSel_on (e:=(5,30,m5_)) 5 rfl rfl (hon 5 (by kernel_rfl)) rfl
     rw [Bi (hon 5 (by kernel_rfl))] at e30
     replace ha:=mk_ ha
     have Ae:=mk_ Am
     have Af:=mk_ An
     have HB:=mk_ Ba
     have Bj:=mk_ (Bn (hon 1 (by kernel_rfl)))
     have B3:=mk_ (Bs (hon 3 (by kernel_rfl)))
     have Bq:=mk_ (Bz (hon 4 (by kernel_rfl)))
     have Br:=mk_ (B0 (hon 4 (by kernel_rfl)))
     obtain ⟨Ao6_0,co6_0,eo_⟩:=RR_slice Br.out
     subst eo_
     refine value_ (w1:=w') (v:=.agg #[.int .i64 t268,v270]) (by rfl) rfl ?_ ?_
     ·go_simp
      (try simp only [i64_w])
      try rfl
     refine hK.out _ _ ⟨v261,v266,v270,.slice Ao6_0 t272.length co6_0,gb276,m1_,m3_,m4_,m5_,(.agg #[.int .i64 t268,v270]),m7_,m9_,m11_,(by rw [ha.out];exact putSel_upk 6 hb_ rfl rfl rfl),Am,An,Ba,Bn,Bs,Bz,B0,Ao,B5,B6,At,Au,Av,Aw,fun h0_=>nh (hoff 10 (by kernel_rfl)) h0_,Bc,Bh,Bm,Bi,fun _=>rfl,Bw,Bb,fun h0_=>nh (hoff 11 (by kernel_rfl)) h0_⟩
    refine steps_cons ?_ ?_
    ·rintro b a w' ⟨v261,v266,v270,v273,gb276,m1_,m3_,m4_,m5_,m6_,m7_,m9_,m11_,ha,Am,An,Ba,Bn,Bs,Bz,B0,Ao,B5,B6,At,Au,Av,Aw,Bk,Bc,Bh,Bm,Bi,Bv,Bw,Bb,Ca⟩ hb_ hon hoff
     refine ⟨_,rfl,fun K hK=>?_⟩
     have e30:a.tmps[30]? =some (m5_):=by rw [ha];exact putSel_on (e:=(5,30,m5_)) 5 rfl rfl (hon 5 (by kernel_rfl)) rfl
     rw [Bi (hon 5 (by kernel_rfl))] at e30
     replace ha:=mk_ ha
     have Ae:=mk_ Am
     have Af:=mk_ An
     have HB:=mk_ Ba
     have Bj:=mk_ (Bn (hon 1 (by kernel_rfl)))
     have B3:=mk_ (Bs (hon 3 (by kernel_rfl)))
     have Bq:=mk_ (Bz (hon 4 (by kernel_rfl)))
     have Br:=mk_ (B0 (hon 4 (by kernel_rfl)))
     obtain ⟨Ao7_0,co7_0,eo_⟩:=RR_slice Br.out
     subst eo_
     refine value_ (w1:=w') (v:=.slice Ao7_0 t272.length co7_0) (by rfl) rfl ?_ ?_
     ·go_simp
      (try simp only [i64_w])
      try rfl
     refine hK.out _ _ ⟨v261,v266,v270,.slice Ao7_0 t272.length co7_0,gb276,m1_,m3_,m4_,m5_,m6_,(.slice Ao7_0 t272.length co7_0),m9_,m11_,(by rw [ha.out];exact putSel_upk 7 hb_ rfl rfl rfl),Am,An,Ba,Bn,Bs,Bz,B0,Ao,B5,B6,At,Au,Av,Aw,Bk,Bc,Bh,Bm,Bi,Bv,fun _=>rfl,Bb,fun h0_=>nh (hoff 11 (by kernel_rfl)) h0_⟩
    refine steps_cons ?_ ?_
    ·rintro b a w' ⟨v261,v266,v270,v273,gb276,m1_,m3_,m4_,m5_,m6_,m7_,m9_,m11_,ha,Am,An,Ba,Bn,Bs,Bz,B0,Ao,B5,B6,At,Au,Av,Aw,Bk,Bc,Bh,Bm,Bi,Bv,Bw,Bb,Ca⟩ hb_ hon hoff
     refine ⟨_,rfl,fun K hK=>?_⟩
     have e30:a.tmps[30]? =some (m5_):=by rw [ha];exact putSel_on (e:=(5,30,m5_)) 5 rfl rfl (hon 5 (by kernel_rfl)) rfl
     rw [Bi (hon 5 (by kernel_rfl))] at e30
     replace ha:=mk_ ha
     have Ae:=mk_ Am
     have Af:=mk_ An
     have HB:=mk_ Ba
     have Bj:=mk_ (Bn (hon 1 (by kernel_rfl)))
     have B3:=mk_ (Bs (hon 3 (by kernel_rfl)))
     have Bq:=mk_ (Bz (hon 4 (by kernel_rfl)))
     have Br:=mk_ (B0 (hon 4 (by kernel_rfl)))
     obtain ⟨Ao8_0,co8_0,eo_⟩:=RR_slice Br.out
     subst eo_
     refine value_ (w1:=w') (v:=.int .i64 t275) (by rfl) rfl ?_ ?_
     ·go_simp
      (try simp only [i64_w])
      try rfl
     refine hK.out _ _ ⟨v261,v266,v270,.slice Ao8_0 t272.length co8_0,gb276,m1_,m3_,m4_,m5_,m6_,m7_,m9_,m11_,(by rw [ha.out];exact putSel_upk 8 hb_ rfl rfl rfl),Am,An,Ba,Bn,Bs,Bz,B0,Ao,B5,B6,At,Au,Av,Aw,Bk,Bc,Bh,Bm,Bi,Bv,Bw,Bb,Ca⟩
    refine steps_cons ?_ ?_
    ·rintro b a w' ⟨v261,v266,v270,v273,gb276,m1_,m3_,m4_,m5_,m6_,m7_,m9_,m11_,ha,Am,An,Ba,Bn,Bs,Bz,B0,Ao,B5,B6,At,Au,Av,Aw,Bk,Bc,Bh,Bm,Bi,Bv,Bw,Bb,Ca⟩ hb_ hon hoff
     refine ⟨_,rfl,fun K hK=>?_⟩
     replace ha:=mk_ ha
     have Ae:=mk_ Am
     have Af:=mk_ An
     have HB:=mk_ Ba
     refine box_step ?hg (N:=6) ?hd (cs:=#[.int .i64 0,.slice none 0 0]) (t:=35) ?hr ?_;(case hd=>rfl);(case hg=>rfl);(case hr=>first|(go_simp;done)|(go_simp;rfl))
     intro gb276 hg Ea hbox hb
     have n0_:=mk_ (zq6 (by exact Ae.out) hb)
     have n1_:=mk_ (zq6 (by exact Af.out) hb)
     have n2_:=mk_ (zr3 (yu1 HB.out) hb)
     have n3_:=mk_ (hbox)
     have n4_:=mk_ ((by rw [hg];exact (zr2 (yu1 HB.out)):w.heap.size≤gb276))
     have n5_:=mk_ ((by rw [hg];exact (zr2 (yu1 HB.out)):w.heap.size≤gb276))
     have n6_:=mk_ ((by rw [hg];exact zm2 (zr6 (by exact Ae.out)):gb255≠gb276))
     have n7_:=mk_ ((by rw [hg];exact zm3 (zr6 (by exact Ae.out)):gb276≠gb255))
     have n8_:=mk_ ((by rw [hg];exact zm2 (zr6 (by exact Af.out)):gb256≠gb276))
     have n9_:=mk_ ((by rw [hg];exact zm3 (zr6 (by exact Af.out)):gb276≠gb256))
     have Hi:=fun (h0_:b 1=true)=>(show RR ku 5 Ea w.heap.size (fun k_=>(b 3=true→some k_≠(v266:Value).ownBlock)∧(b 4=true→some k_≠(v270:Value).ownBlock)∧(b 4=true→some k_≠(v273:Value).ownBlock)) v261 t260 from by first|exact (RR_below (mRR (Bn h0_)) hb)|exact RR_mono (RR_below (mRR (Bn h0_)) hb) (fun _ h_=>by first|trivial|exact h_|exact h_.1))
     have Hj:=fun (h0_:b 3=true)=>(show RR ku 5 Ea w.heap.size (fun k_=>some k_≠(v261:Value).ownBlock∧(b 4=true→some k_≠(v270:Value).ownBlock)∧(b 4=true→some k_≠(v273:Value).ownBlock)) v266 t265 from by first|exact (RR_below (mRR (Bs h0_)) hb)|exact RR_mono (RR_below (mRR (Bs h0_)) hb) (fun _ h_=>by first|trivial|exact h_|exact h_.1))
     have Hk:=fun (h0_:b 4=true)=>(show RR ku 5 Ea w.heap.size (fun k_=>some k_≠(v261:Value).ownBlock∧some k_≠(v266:Value).ownBlock∧some k_≠(v273:Value).ownBlock) v270 t269 from by first|exact (RR_below (mRR (Bz h0_)) hb)|exact RR_mono (RR_below (mRR (Bz h0_)) hb) (fun _ h_=>by first|trivial|exact h_|exact h_.1))
     have Hl:=fun (h0_:b 4=true)=>(show RR ku 5 Ea w.heap.size (fun k_=>some k_≠(v261:Value).ownBlock∧some k_≠(v266:Value).ownBlock∧some k_≠(v270:Value).ownBlock) v273 t272 from by first|exact (RR_below (mRR (B0 h0_)) hb)|exact RR_mono (RR_below (mRR (B0 h0_)) hb) (fun _ h_=>by first|trivial|exact h_|exact h_.1))
     clear Ae
     clear Af
     clear HB
     have Ae:=n0_
     have Af:=n1_
     have HB:=n2_
     have Ah:=n3_
     have Dv:=n4_
     have Dw:=n5_
     have Cd:=n6_
     have Ci:=n7_
     have Ce:=n8_
     have Cj:=n9_
     clear n0_ n1_ n2_ n3_ n4_ n5_ n6_ n7_ n8_ n9_
     clear hb hbox hg
     refine hK.out _ _ ⟨v261,v266,v270,v273,gb276,m1_,m3_,m4_,m5_,m6_,m7_,(.pointer (some ⟨gb276,0,none⟩)),m11_,(by rw [ha.out];exact putSel_upk 9 hb_ rfl rfl rfl),(by exact Ae.out),(by exact Af.out),(yu1 HB.out),Hi,Hj,Hk,Hl,fun _ _=>(by exact Ah.out),fun _=>Dv.out,fun _=>Dw.out,fun _=>Cd.out,fun _=>Ci.out,fun _=>Ce.out,fun _=>Cj.out,fun h0_=>nh (hoff 10 (by kernel_rfl)) h0_,Bc,Bh,Bm,Bi,Bv,Bw,fun _=>rfl,fun h0_=>nh (hoff 11 (by kernel_rfl)) h0_⟩
    refine steps_cons ?_ ?_
    ·rintro b a w' ⟨v261,v266,v270,v273,gb276,m1_,m3_,m4_,m5_,m6_,m7_,m9_,m11_,ha,Am,An,Ba,Bn,Bs,Bz,B0,Ao,B5,B6,At,Au,Av,Aw,Bk,Bc,Bh,Bm,Bi,Bv,Bw,Bb,Ca⟩ hb_ hon hoff
     refine ⟨_,rfl,fun K hK=>?_⟩
     have e6:a.tmps[6]? =some (m9_):=by rw [ha];exact putSel_on (e:=(9,6,m9_)) 9 rfl rfl (hon 9 (by kernel_rfl)) rfl
     rw [Bb (hon 9 (by kernel_rfl))] at e6
     have e36:a.tmps[36]? =some (m6_):=by rw [ha];exact putSel_on (e:=(6,36,m6_)) 6 rfl rfl (hon 6 (by kernel_rfl)) rfl
     rw [Bv (hon 6 (by kernel_rfl))] at e36
     replace ha:=mk_ ha
     have Ae:=mk_ Am
     have Af:=mk_ An
     have HB:=mk_ Ba
     have Bj:=mk_ (Bn (hon 1 (by kernel_rfl)))
     have B3:=mk_ (Bs (hon 3 (by kernel_rfl)))
     have Bq:=mk_ (Bz (hon 4 (by kernel_rfl)))
     have Br:=mk_ (B0 (hon 4 (by kernel_rfl)))
     have Ah:=mk_ (Ao (hon 9 (by kernel_rfl)) hb_)
     have Dv:=mk_ (B5 (hon 9 (by kernel_rfl)))
     have Dw:=mk_ (B6 (hon 9 (by kernel_rfl)))
     have Cd:=mk_ (At (hon 9 (by kernel_rfl)))
     have Ci:=mk_ (Au (hon 9 (by kernel_rfl)))
     have Ce:=mk_ (Av (hon 9 (by kernel_rfl)))
     have Cj:=mk_ (Aw (hon 9 (by kernel_rfl)))
     obtain ⟨Ao42,co42,eo42⟩:=RR_slice Bq.out
     (first|subst eo42|(injection eo42 with f1_ f2_ f3_;have f4_:=f1_.symm;have f5_:=f3_.symm;clear f1_ f2_ f3_;subst f4_;subst f5_))
     have hs41:w'.cell? ⟨gb276,0,none⟩=some (.int .i64 0):=(zr4 Ah.out 0).trans rfl
     have hfs41:=zr5 Ah.out 0
     have hns41_0:=Cd.out
     have hns41_1:=Ce.out
     have hms41_0:=Ci.out
     have hms41_1:=Cj.out
     have hs43:w'.cell? ⟨gb276,1,none⟩=some (.slice none 0 0):=(zr4 Ah.out 1).trans rfl
     have hfs43:=zr5 Ah.out 1
     have hns43_0:=Cd.out
     have hns43_1:=Ce.out
     have hms43_0:=Ci.out
     have hms43_1:=Cj.out
     refine skip_ (w1:=?_) (by rfl) rfl ?_ ?_
     rotate_left
     ·go_simp
      rfl
     refine hK.out _ _ ⟨v261,v266,.slice Ao42 t269.length co42,v273,gb276,m1_,m3_,m4_,m5_,m6_,m7_,m9_,m11_,(by rw [ha.out];exact putSel_none (v:=undef) rfl),(yv3 Cd.out Ae.out),(yv3 Ce.out Af.out),(yu1 HB.out),fun _=>(mG2 Bj.out Ah.out),fun _=>(mG2 B3.out Ah.out),fun _=>(mG2 Bq.out Ah.out),fun _=>(mG2 Br.out Ah.out),fun _ h1_=>absurd ((up_self b 10).symm.trans h1_) (by decide),fun _=>Dv.out,fun _=>Dw.out,fun _=>Cd.out,fun _=>Ci.out,fun _=>Ce.out,fun _=>Cj.out,fun _=>(yv0 Ah.out),Bc,Bh,Bm,Bi,Bv,Bw,Bb,fun h0_=>nh (hoff 11 (by kernel_rfl)) h0_⟩
    refine steps_cons ?_ ?_
    ·rintro b a w' ⟨v261,v266,v270,v273,gb276,m1_,m3_,m4_,m5_,m6_,m7_,m9_,m11_,ha,Am,An,Ba,Bn,Bs,Bz,B0,Ao,B5,B6,At,Au,Av,Aw,Bk,Bc,Bh,Bm,Bi,Bv,Bw,Bb,Ca⟩ hb_ hon hoff
     refine ⟨_,rfl,fun K hK=>?_⟩
     have e37:a.tmps[37]? =some (m7_):=by rw [ha];exact putSel_on (e:=(7,37,m7_)) 7 rfl rfl (hon 7 (by kernel_rfl)) rfl
     rw [Bw (hon 7 (by kernel_rfl))] at e37
     replace ha:=mk_ ha
     have Ae:=mk_ Am
     have Af:=mk_ An
     have HB:=mk_ Ba
     have Bj:=mk_ (Bn (hon 1 (by kernel_rfl)))
     have B3:=mk_ (Bs (hon 3 (by kernel_rfl)))
     have Bq:=mk_ (Bz (hon 4 (by kernel_rfl)))
     have Br:=mk_ (B0 (hon 4 (by kernel_rfl)))
     have Dv:=mk_ (B5 (hon 9 (by kernel_rfl)))
     have Dw:=mk_ (B6 (hon 9 (by kernel_rfl)))
     have Cd:=mk_ (At (hon 9 (by kernel_rfl)))
     have Ci:=mk_ (Au (hon 9 (by kernel_rfl)))
     have Ce:=mk_ (Av (hon 9 (by kernel_rfl)))
     have Cj:=mk_ (Aw (hon 9 (by kernel_rfl)))
     have Ah:=mk_ (Bk (hon 10 (by kernel_rfl)))
     refine value_ (w1:=w') (v:=v273) (by rfl) rfl ?_ ?_
     ·go_simp
      (try simp only [i64_w])
      try rfl
     refine hK.out _ _ ⟨v261,v266,v270,v273,gb276,m1_,m3_,m4_,m5_,m6_,m7_,m9_,(v273),(by rw [ha.out];exact putSel_upk 10 hb_ rfl rfl rfl),Am,An,Ba,Bn,Bs,Bz,B0,fun _ h1_=>absurd ((hon 10 (by kernel_rfl)).symm.trans h1_) (by decide),B5,B6,At,Au,Av,Aw,Bk,Bc,Bh,Bm,Bi,Bv,Bw,Bb,fun _=>rfl⟩
    refine steps_cons ?_ ?_
    ·rintro b a w' ⟨v261,v266,v270,v273,gb276,m1_,m3_,m4_,m5_,m6_,m7_,m9_,m11_,ha,Am,An,Ba,Bn,Bs,Bz,B0,Ao,B5,B6,At,Au,Av,Aw,Bk,Bc,Bh,Bm,Bi,Bv,Bw,Bb,Ca⟩ hb_ hon hoff
     refine ⟨_,rfl,fun K hK=>?_⟩
     have e38:a.tmps[38]? =some (.int .i64 t275):=by rw [ha];exact putSel_on (e:=(8,38,.int .i64 t275)) 8 rfl rfl (hon 8 (by kernel_rfl)) rfl
     replace ha:=mk_ ha
     have Ae:=mk_ Am
     have Af:=mk_ An
     have HB:=mk_ Ba
     have Bj:=mk_ (Bn (hon 1 (by kernel_rfl)))
     have B3:=mk_ (Bs (hon 3 (by kernel_rfl)))
     have Bq:=mk_ (Bz (hon 4 (by kernel_rfl)))
     have Br:=mk_ (B0 (hon 4 (by kernel_rfl)))
     have Dv:=mk_ (B5 (hon 9 (by kernel_rfl)))
     have Dw:=mk_ (B6 (hon 9 (by kernel_rfl)))
     have Cd:=mk_ (At (hon 9 (by kernel_rfl)))
     have Ci:=mk_ (Au (hon 9 (by kernel_rfl)))
     have Ce:=mk_ (Av (hon 9 (by kernel_rfl)))
     have Cj:=mk_ (Aw (hon 9 (by kernel_rfl)))
     have Ah:=mk_ (Bk (hon 10 (by kernel_rfl)))
     refine value_ (w1:=w') (v:=.int .i64 t275) (by rfl) rfl ?_ ?_
     ·go_simp
      (try simp only [i64_w])
      try rfl
     refine hK.out _ _ ⟨v261,v266,v270,v273,gb276,m1_,m3_,m4_,m5_,m6_,m7_,m9_,m11_,(by rw [ha.out];exact putSel_upk 11 hb_ rfl rfl rfl),Am,An,Ba,Bn,Bs,Bz,B0,fun _ h1_=>absurd ((hon 10 (by kernel_rfl)).symm.trans h1_) (by decide),B5,B6,At,Au,Av,Aw,Bk,Bc,Bh,Bm,Bi,Bv,Bw,Bb,Ca⟩
    exact steps_nil
   rintro b a Vs hall ⟨v261,v266,v270,v273,gb276,m1_,m3_,m4_,m5_,m6_,m7_,m9_,m11_,ha,Am,An,Ba,Bn,Bs,Bz,B0,Ao,B5,B6,At,Au,Av,Aw,Bk,Bc,Bh,Bm,Bi,Bv,Bw,Bb,Ca⟩
   clear Ae Af HB
   have hb0_:=hall 0 (by kernel_rfl)
   have hb1_:=hall 1 (by kernel_rfl)
   have hb2_:=hall 2 (by kernel_rfl)
   have hb3_:=hall 3 (by kernel_rfl)
   have hb4_:=hall 4 (by kernel_rfl)
   have hb5_:=hall 5 (by kernel_rfl)
   have hb6_:=hall 6 (by kernel_rfl)
   have hb7_:=hall 7 (by kernel_rfl)
   have hb8_:=hall 8 (by kernel_rfl)
   have hb9_:=hall 9 (by kernel_rfl)
   have hb10_:=hall 10 (by kernel_rfl)
   have hb11_:=hall 11 (by kernel_rfl)
   have hb12_:=hall 12 (by kernel_rfl)
   subst ha
   obtain rfl:=Bc hb1_
   obtain rfl:=Bh hb3_
   obtain rfl:=Bm hb4_
   obtain rfl:=Bi hb5_
   obtain rfl:=Bv hb6_
   obtain rfl:=(Bw hb7_).symm
   obtain rfl:=Bb hb9_
   obtain rfl:=(Ca hb11_).symm
   simp only [putSel,hb0_,hb1_,hb2_,hb3_,hb4_,hb5_,hb6_,hb7_,hb8_,hb9_,hb10_,hb11_,hb12_,if_true,Act.put,List.setIfInBounds_toArray,List.set_cons_zero,List.set_cons_succ]
   have Ae:=mk_ Am
   clear Am
   have Af:=mk_ An
   clear An
   have HB:=mk_ Ba
   clear Ba
   have Bj:=mk_ (RR_mono (Bn hb1_) (fun _ h=>ai (h.1 hb3_) (ai (h.2.1 hb4_) (h.2.2 hb4_))))
   clear Bn
   have B3:=mk_ (RR_mono (Bs hb3_) (fun _ h=>ai (h.1) (ai (h.2.1 hb4_) (h.2.2 hb4_))))
   clear Bs
   have Bq:=mk_ (RR_mono (Bz hb4_) (fun _ h=>ai (h.1) (ai (h.2.1) (h.2.2))))
   clear Bz
   have Br:=mk_ (RR_mono (B0 hb4_) (fun _ h=>ai (h.1) (ai (h.2.1) (h.2.2))))
   clear B0
   clear Ao
   have Dv:=mk_ (B5 hb9_)
   clear B5
   have Dw:=mk_ (B6 hb9_)
   clear B6
   have Cd:=mk_ (At hb9_)
   clear At
   have Ci:=mk_ (Au hb9_)
   clear Au
   have Ce:=mk_ (Av hb9_)
   clear Av
   have Cj:=mk_ (Aw hb9_)
   clear Aw
   have Ah:=mk_ (Bk hb10_)
   clear Bk
   clear hall hb0_ hb1_ hb2_ hb3_ hb4_ hb5_ hb6_ hb7_ hb8_ hb9_ hb10_ hb11_ hb12_
   have Sn:=Cd.out
   have So:=Ci.out
   obtain ⟨Hm,Hn⟩:=cz2 Ae.out
   obtain ⟨Ho,Hp⟩:=fz2 Ae.out
   go_upto_region 12 with (first|((with_reducible refine gate_callee (f:=35) rfl ?_);refine goesL_ (some 40) rfl rfl Try.func35 (by kernel_rfl) rfl #[.agg #[.int .i64 a0_0,.slice A0_1 l0_1.length c0_1]] rfl am ?_;(with_reducible refine (laws_toSegJoin.callsR k a0_0 _ _ l0_1 t277 t278 _ ?side1 ?side2 Lf.out).mono ?_);(case side1=>repeat (first|exact (Kd.C_below Di.out HB.out)|(with_reducible refine Kd.C_alloc ?_ _)|(with_reducible refine Kd.C_drewN ?_ _)|(with_reducible refine Kd.C_drew ?_)));(case side2=>exact Dj.out);rintro e Vt ⟨v279,rfl,ho0,hb⟩;refine ⟨_,rfl,?_⟩;have Cu:=mk_ (RR_lower (RR_new' (RR_new' (RR_new' (RR_new' ho0 (RR_lt (mRR Bj.out))) (RR_lt (mRR B3.out))) (RR_lt (mRR Bq.out))) (RR_lt (mRR Br.out))) (zr2 (yu1 HB.out)));replace Bj:=mk_ (RR_elder' (mRR Bj.out) (RR_base ho0) hb);replace B3:=mk_ (RR_elder' (mRR B3.out) (RR_base ho0) hb);replace Bq:=mk_ (RR_elder' (mRR Bq.out) (RR_base ho0) hb);replace Br:=mk_ (RR_elder' (mRR Br.out) (RR_base ho0) hb);replace Ae:=mk_ (zq6 (by exact Ae.out) hb);replace Af:=mk_ (zq6 (by exact Af.out) hb);replace Ah:=mk_ (zq6 (by exact Ah.out) hb);replace HB:=mk_ (zr3 (yu1 HB.out) hb);(try clear hb);(try clear hb2);(try clear hk);(try clear hi);(try clear ho0))|((with_reducible refine gate_dst (N:=9) rfl ?_);refine box_event ?hg (N:=9) ?hd (cs:=#[.int .i64 0,.slice none 0 0]) (t:=35) ?hr ?_;(case hd=>rfl);(case hg=>rfl);(case hr=>first|(go_simp;done)|(go_simp;rfl));intro gb281 hg Vu hbox hb;replace Bj:=mk_ (RR_below (mRR Bj.out) hb);replace B3:=mk_ (RR_below (mRR B3.out) hb);replace Bq:=mk_ (RR_below (mRR Bq.out) hb);replace Br:=mk_ (RR_below (mRR Br.out) hb);replace Cu:=mk_ (RR_below (mRR Cu.out) hb);have Aj:=mk_ (hbox);have I7:=mk_ ((by rw [hg];exact (zr2 (yu1 HB.out)):w.heap.size≤gb281));have Sp:=I7;replace HB:=mk_ (zr3 (yu1 HB.out) hb);have Dl:=mk_ ((by rw [hg];exact zm2 (zr6 (by exact Ae.out)):gb255≠gb281));replace Ae:=mk_ (zq6 (by exact Ae.out) hb);have D5:=mk_ Dl.out.symm;have Dm:=mk_ ((by rw [hg];exact zm2 (zr6 (by exact Af.out)):gb256≠gb281));replace Af:=mk_ (zq6 (by exact Af.out) hb);have D6:=mk_ Dm.out.symm;have Cw:=mk_ ((by rw [hg];exact zm2 (zr6 (by exact Ah.out)):gb276≠gb281));replace Ah:=mk_ (zq6 (by exact Ah.out) hb);have C4:=mk_ Cw.out.symm;clear hb hbox hg;have Sq:=D5.out;have Sr:=Dl.out;have Ss:=D6.out;have St:=Dm.out;have Su:=C4.out;have Sv:=Cw.out;obtain ⟨Hq,Hr⟩:=cz2 Aj.out;obtain ⟨Hs,Ht⟩:=fz2 Aj.out;obtain ⟨Ao52,co52,eo52⟩:=RR_slice Cu.out;subst eo52;have Sw:=Ce.out;have Sx:=Cj.out;obtain ⟨Hu,Hv,Hw⟩:=cz3 Af.out;obtain ⟨Hx,Hy,Hz⟩:=fz3 Af.out)|((with_reducible refine gate_callee (f:=36) rfl ?_);refine goesL_ (some 42) rfl rfl Try.func36 (by kernel_rfl) rfl #[.agg #[.int .i64 a1_0,.int .i64 a1_1,.slice A1_2 l1_2.length c1_2]] rfl am ?_;(with_reducible refine (laws_toSegPart.callsR k a1_0 a1_1 _ _ l1_2 t282 t283 t284 _ ?side1 ?side2 Lg.out).mono ?_);(case side1=>exact Kd.C_below Ds.out (yu1 HB.out));(case side2=>exact Dt.out);rintro e Vv ⟨v285,rfl,ho0,hb⟩;refine ⟨_,rfl,?_⟩;have Db:=mk_ (RR_lower (RR_new' (RR_new' (RR_new' (RR_new' (RR_new' ho0 (RR_lt (mG2 Bj.out Aj.out))) (RR_lt (mG2 B3.out Aj.out))) (RR_lt (mG2 Bq.out Aj.out))) (RR_lt (mG2 Br.out Aj.out))) (RR_lt (mG2 Cu.out Aj.out))) (zr2 (yu1 HB.out)));replace Bj:=mk_ (RR_elder' (mG2 Bj.out Aj.out) (RR_base ho0) hb);replace B3:=mk_ (RR_elder' (mG2 B3.out Aj.out) (RR_base ho0) hb);replace Bq:=mk_ (RR_elder' (mG2 Bq.out Aj.out) (RR_base ho0) hb);replace Br:=mk_ (RR_elder' (mG2 Br.out Aj.out) (RR_base ho0) hb);replace Cu:=mk_ (RR_elder' (mG2 Cu.out Aj.out) (RR_base ho0) hb);replace Ae:=mk_ (zq6 (g:=gb255) (o:=.cells #[.int .i64 a0_0,.slice A0_1 l0_1.length c0_1] 46 (0,0)) (yv3 Dl.out Ae.out) hb);replace Af:=mk_ (zq6 (g:=gb256) (o:=.cells #[.int .i64 a1_0,.int .i64 a1_1,.slice A1_2 l1_2.length c1_2] 47 (0,0)) (yv3 Dm.out Af.out) hb);replace Ah:=mk_ (zq6 (g:=gb276) (o:=.cells #[.int .i64 t268,v270] 35 (0,0)) (yv3 Cw.out Ah.out) hb);replace Aj:=mk_ (zq6 (g:=gb281) (o:=.cells #[.int .i64 t277,.slice Ao52 t278.length co52] 35 (0,0)) (yv0 Aj.out) hb);replace HB:=mk_ (zr3 (yu1 HB.out) hb);(try clear hb);(try clear hb2);(try clear hk);(try clear hi);(try clear ho0))|((with_reducible refine gate_dst (N:=10) rfl ?_);refine box_event ?hg (N:=10) ?hd (cs:=#[.int .i64 0,.int .i64 0,.slice none 0 0]) (t:=39) ?hr ?_;(case hd=>rfl);(case hg=>rfl);(case hr=>first|(go_simp;done)|(go_simp;rfl));intro gb287 hg Vw hbox hb;replace Bj:=mk_ (RR_below (mRR Bj.out) hb);replace B3:=mk_ (RR_below (mRR B3.out) hb);replace Bq:=mk_ (RR_below (mRR Bq.out) hb);replace Br:=mk_ (RR_below (mRR Br.out) hb);replace Cu:=mk_ (RR_below (mRR Cu.out) hb);replace Db:=mk_ (RR_below (mRR Db.out) hb);have Ai:=mk_ (hbox);have I8:=mk_ ((by rw [hg];exact (zr2 (yu1 HB.out)):w.heap.size≤gb287));have Sy:=I8;replace HB:=mk_ (zr3 (yu1 HB.out) hb);have Dn:=mk_ ((by rw [hg];exact zm2 (zr6 (by exact Ae.out)):gb255≠gb287));replace Ae:=mk_ (zq6 (by exact Ae.out) hb);have D7:=mk_ Dn.out.symm;have Do:=mk_ ((by rw [hg];exact zm2 (zr6 (by exact Af.out)):gb256≠gb287));replace Af:=mk_ (zq6 (by exact Af.out) hb);have D8:=mk_ Do.out.symm;have Cx:=mk_ ((by rw [hg];exact zm2 (zr6 (by exact Ah.out)):gb276≠gb287));replace Ah:=mk_ (zq6 (by exact Ah.out) hb);have C5:=mk_ Cx.out.symm;have Dp:=mk_ ((by rw [hg];exact zm2 (zr6 (by exact Aj.out)):gb281≠gb287));replace Aj:=mk_ (zq6 (by exact Aj.out) hb);have D9:=mk_ Dp.out.symm;clear hb hbox hg;have Sz:=D7.out;have S0:=Dn.out;have S1:=D8.out;have S2:=Do.out;have S3:=C5.out;have S4:=Cx.out;have S5:=D9.out;have S6:=Dp.out;obtain ⟨H0,H2,H3⟩:=cz3 Ai.out;obtain ⟨H4,H5,H6⟩:=fz3 Ai.out;obtain ⟨Ao62,co62,eo62⟩:=RR_slice Db.out;subst eo62;obtain ⟨H7,H8⟩:=cz2 Aj.out;obtain ⟨H9,Ia⟩:=fz2 Aj.out)|((with_reducible refine gate_callee (f:=26) rfl ?_);refine goesL_ (some 46) rfl rfl Try.func26 (by kernel_rfl) rfl #[.agg #[.int .i64 t277,.slice Ao52 t278.length co52],.agg #[.int .i64 t282,.int .i64 t283,.slice Ao62 t284.length co62]] rfl am ?_;(with_reducible refine (impl_SegPut.calls k t277 _ _ t278 t282 t283 _ _ t284 t288 t289 t292 t295 _ ?side1 ?side2 ?side3 ?side4 Lh.out).mono ?_);(case side1=>refine (RR_reads' (e:=5) (base:=w.heap.size) (ok:=fun k_=>(((((True∧some k_≠(v261:Value).ownBlock)∧some k_≠(v266:Value).ownBlock)∧some k_≠(v270:Value).ownBlock)∧some k_≠(v273:Value).ownBlock)∧some k_≠(.slice Ao62 t284.length co62:Value).ownBlock)) (n:=t278.length) (c:=co52) ?_).2.2;exact (mG3 Cu.out Ai.out));(case side2=>exact (RR_reads' Cu.out).2.1);(case side3=>refine (RR_reads' (e:=5) (base:=w.heap.size) (ok:=fun k_=>(((((True∧some k_≠(v261:Value).ownBlock)∧some k_≠(v266:Value).ownBlock)∧some k_≠(v270:Value).ownBlock)∧some k_≠(v273:Value).ownBlock)∧some k_≠(.slice Ao52 t278.length co52:Value).ownBlock)) (n:=t284.length) (c:=co62) ?_).2.2;exact (mG3 Db.out Ai.out));(case side4=>exact (RR_reads' Db.out).2.1);rintro e Vx ⟨v290,v293,rfl,ho0,ho1,hb⟩;refine ⟨_,rfl,?_⟩;have Dd:=mk_ (RR_lower (RR_new' (RR_new' (RR_new' (RR_new' (RR_new' (RR_new' ho0 (RR_lt (mG3 Bj.out Ai.out))) (RR_lt (mG3 B3.out Ai.out))) (RR_lt (mG3 Bq.out Ai.out))) (RR_lt (mG3 Br.out Ai.out))) (RR_lt (mG3 Cu.out Ai.out))) (RR_lt (mG3 Db.out Ai.out))) (zr2 (yu1 HB.out)));have De:=mk_ (RR_lower (RR_new' (RR_new' (RR_new' (RR_new' (RR_new' (RR_new' ho1 (RR_lt (mG3 Bj.out Ai.out))) (RR_lt (mG3 B3.out Ai.out))) (RR_lt (mG3 Bq.out Ai.out))) (RR_lt (mG3 Br.out Ai.out))) (RR_lt (mG3 Cu.out Ai.out))) (RR_lt (mG3 Db.out Ai.out))) (zr2 (yu1 HB.out)));replace Bj:=mk_ (RR_mono (RR_told (RR_told (RR_old (mG3 Bj.out Ai.out) hb) (RR_base ho0)) (RR_base ho1)) (fun _ h_=>h_.1));replace B3:=mk_ (RR_mono (RR_told (RR_told (RR_old (mG3 B3.out Ai.out) hb) (RR_base ho0)) (RR_base ho1)) (fun _ h_=>h_.1));replace Bq:=mk_ (RR_mono (RR_told (RR_told (RR_old (mG3 Bq.out Ai.out) hb) (RR_base ho0)) (RR_base ho1)) (fun _ h_=>h_.1));replace Br:=mk_ (RR_mono (RR_told (RR_told (RR_old (mG3 Br.out Ai.out) hb) (RR_base ho0)) (RR_base ho1)) (fun _ h_=>h_.1));replace Cu:=mk_ (RR_mono (RR_told (RR_told (RR_old (mG3 Cu.out Ai.out) hb) (RR_base ho0)) (RR_base ho1)) (fun _ h_=>h_.1));replace Db:=mk_ (RR_mono (RR_told (RR_told (RR_old (mG3 Db.out Ai.out) hb) (RR_base ho0)) (RR_base ho1)) (fun _ h_=>h_.1));replace Ae:=mk_ (zq6 (g:=gb255) (o:=.cells #[.int .i64 a0_0,.slice A0_1 l0_1.length c0_1] 46 (0,0)) (yv5 Dn.out Ae.out) hb);replace Af:=mk_ (zq6 (g:=gb256) (o:=.cells #[.int .i64 a1_0,.int .i64 a1_1,.slice A1_2 l1_2.length c1_2] 47 (0,0)) (yv5 Do.out Af.out) hb);replace Ah:=mk_ (zq6 (g:=gb276) (o:=.cells #[.int .i64 t268,v270] 35 (0,0)) (yv5 Cx.out Ah.out) hb);replace Aj:=mk_ (zq6 (g:=gb281) (o:=.cells #[.int .i64 t277,.slice Ao52 t278.length co52] 35 (0,0)) (yv5 Dp.out Aj.out) hb);replace Ai:=mk_ (zq6 (g:=gb287) (o:=.cells #[.int .i64 t282,.int .i64 t283,.slice Ao62 t284.length co62] 39 (0,0)) (yv6 Ai.out) hb);replace HB:=mk_ (zr3 (yu1 HB.out) hb);(try clear hb);(try clear hb2);(try clear hk);(try clear hi);(try clear ho0);(try clear ho1))|((with_reducible refine gate_dst (N:=11) rfl ?_);refine box_event ?hg (N:=11) ?hd (cs:=#[.int .i64 0,.slice none 0 0]) (t:=35) ?hr ?_;(case hd=>rfl);(case hg=>rfl);(case hr=>first|(go_simp;done)|(go_simp;rfl));intro gb296 hg Vy hbox hb;replace Bj:=mk_ (RR_below (mRR Bj.out) hb);replace B3:=mk_ (RR_below (mRR B3.out) hb);replace Bq:=mk_ (RR_below (mRR Bq.out) hb);replace Br:=mk_ (RR_below (mRR Br.out) hb);replace Cu:=mk_ (RR_below (mRR Cu.out) hb);replace Db:=mk_ (RR_below (mRR Db.out) hb);replace Dd:=mk_ (RR_below (mRR Dd.out) hb);replace De:=mk_ (RR_below (mRR De.out) hb);have Ag:=mk_ (hbox);have I9:=mk_ ((by rw [hg];exact (zr2 (yu1 HB.out)):w.heap.size≤gb296));have S7:=I9;replace HB:=mk_ (zr3 (yu1 HB.out) hb);have Cf:=mk_ ((by rw [hg];exact zm2 (zr6 (by exact Ae.out)):gb255≠gb296));replace Ae:=mk_ (zq6 (by exact Ae.out) hb);have Cq:=mk_ Cf.out.symm;have Cg:=mk_ ((by rw [hg];exact zm2 (zr6 (by exact Af.out)):gb256≠gb296));replace Af:=mk_ (zq6 (by exact Af.out) hb);have Cr:=mk_ Cg.out.symm;have B9:=mk_ ((by rw [hg];exact zm2 (zr6 (by exact Ah.out)):gb276≠gb296));replace Ah:=mk_ (zq6 (by exact Ah.out) hb);have Ck:=mk_ B9.out.symm;have Cb:=mk_ ((by rw [hg];exact zm2 (zr6 (by exact Aj.out)):gb281≠gb296));replace Aj:=mk_ (zq6 (by exact Aj.out) hb);have Cm:=mk_ Cb.out.symm;have Cc:=mk_ ((by rw [hg];exact zm2 (zr6 (by exact Ai.out)):gb287≠gb296));replace Ai:=mk_ (zq6 (by exact Ai.out) hb);have Cn:=mk_ Cc.out.symm;clear hb hbox hg;have S8:=Cq.out;have S9:=Cf.out;have Ta:=Cr.out;have Tb:=Cg.out;have Tc:=Ck.out;have Td:=B9.out;have Te:=Cm.out;have Tf:=Cb.out;have Tg:=Cn.out;have Th:=Cc.out;obtain ⟨Ib,Ic⟩:=cz2 Ag.out;obtain ⟨Id,Ie⟩:=fz2 Ag.out;obtain ⟨Ao72,co72,eo72⟩:=RR_slice Dd.out;subst eo72))
   (try simp only [Act.put,List.setIfInBounds_toArray,List.set_cons_zero,List.set_cons_succ])
   go_cut [64] (fun v64 wc=>∃ (kq:Nat) (D3:Bool),v64=.bool D3∧Aside0 (laws_FnExactSegPut.j0 kq t272 t275 t292 t295 D3 a0_0 l0_1 a1_0 a1_1 l1_2 t268 t269 t277 t278 t282 t283 t284 t288 t289=some r)∧Aside0 (kq≤k)∧Aside0 (RR ku 5 wc w.heap.size (fun k_=>some k_≠(v293:Value).ownBlock∧some k_≠(v270:Value).ownBlock∧some k_≠((.slice Ao52 t278.length co52):Value).ownBlock∧some k_≠((.slice Ao62 t284.length co62):Value).ownBlock∧some k_≠((.slice Ao72 t289.length co72):Value).ownBlock) v273 t272)∧Aside0 (RR ku 5 wc w.heap.size (fun k_=>some k_≠(v273:Value).ownBlock∧some k_≠(v270:Value).ownBlock∧some k_≠((.slice Ao52 t278.length co52):Value).ownBlock∧some k_≠((.slice Ao62 t284.length co62):Value).ownBlock∧some k_≠((.slice Ao72 t289.length co72):Value).ownBlock) v293 t292)∧Aside0 (RR ku 5 wc w.heap.size (fun k_=>some k_≠(v273:Value).ownBlock∧some k_≠(v293:Value).ownBlock∧some k_≠((.slice Ao52 t278.length co52):Value).ownBlock∧some k_≠((.slice Ao62 t284.length co62):Value).ownBlock∧some k_≠((.slice Ao72 t289.length co72):Value).ownBlock) v270 t269)∧Aside0 (RR ku 5 wc w.heap.size (fun k_=>some k_≠(v273:Value).ownBlock∧some k_≠(v293:Value).ownBlock∧some k_≠(v270:Value).ownBlock∧some k_≠((.slice Ao62 t284.length co62):Value).ownBlock∧some k_≠((.slice Ao72 t289.length co72):Value).ownBlock) (.slice Ao52 t278.length co52) t278)∧Aside0 (RR ku 5 wc w.heap.size (fun k_=>some k_≠(v273:Value).ownBlock∧some k_≠(v293:Value).ownBlock∧some k_≠(v270:Value).ownBlock∧some k_≠((.slice Ao52 t278.length co52):Value).ownBlock∧some k_≠((.slice Ao72 t289.length co72):Value).ownBlock) (.slice Ao62 t284.length co62) t284)∧Aside0 (RR ku 5 wc w.heap.size (fun k_=>some k_≠(v273:Value).ownBlock∧some k_≠(v293:Value).ownBlock∧some k_≠(v270:Value).ownBlock∧some k_≠((.slice Ao52 t278.length co52):Value).ownBlock∧some k_≠((.slice Ao62 t284.length co62):Value).ownBlock) (.slice Ao72 t289.length co72) t289)∧Aside0 (wc.heap[gb255]? =some (.cells #[.int .i64 a0_0,(.slice A0_1 l0_1.length c0_1)] 46 (0,0)))∧Aside0 (wc.heap[gb256]? =some (.cells #[.int .i64 a1_0,.int .i64 a1_1,(.slice A1_2 l1_2.length c1_2)] 47 (0,0)))∧Aside0 (wc.heap[gb276]? =some (.cells #[.int .i64 t268,v270] 35 (0,0)))∧Aside0 (wc.heap[gb281]? =some (.cells #[.int .i64 t277,(.slice Ao52 t278.length co52)] 35 (0,0)))∧Aside0 (wc.heap[gb287]? =some (.cells #[.int .i64 t282,.int .i64 t283,(.slice Ao62 t284.length co62)] 39 (0,0)))∧Aside0 (wc.heap[gb296]? =some (.cells #[.int .i64 t288,(.slice Ao72 t289.length co72)] 35 (0,0)))∧Aside0 (Below w.heap.size w wc))
   case first =>
    have H:=Eh.out
    clear Eh
    replace H:=Option.bind_eq_some_iff.mp H
    obtain ⟨t297,I0,H⟩:=H
    try dsimp only at H
    have I1:=mk_ I0
    clear I0
    by_cases c74:t297=true
    ·subst c74
     have H1:((laws_eqByteS.f k t292 t272).bind fun t298=>(if t298=true then (laws_FnExactSegPut.j0 k t272 t275 t292 t295 (t295 != t275) a0_0 l0_1 a1_0 a1_1 l1_2 t268 t269 t277 t278 t282 t283 t284 t288 t289) else (laws_FnExactSegPut.j0 k t272 t275 t292 t295 true a0_0 l0_1 a1_0 a1_1 l1_2 t268 t269 t277 t278 t282 t283 t284 t288 t289)))=some r:=by rw [if_pos rfl] at H;exact H
     clear H
     have H:=H1
     clear H1
     replace H:=Option.bind_eq_some_iff.mp H
     obtain ⟨t298,I2,H⟩:=H
     try dsimp only at H
     have Jc:=mk_ I2
     clear I2
     by_cases c76:t298=true
     ·subst c76
      have H1:(laws_FnExactSegPut.j0 k t272 t275 t292 t295 (t295 != t275) a0_0 l0_1 a1_0 a1_1 l1_2 t268 t269 t277 t278 t282 t283 t284 t288 t289)=some r:=by rw [if_pos rfl] at H;exact H
      clear H
      have H:=H1
      clear H1
      have H':=mk_ H
      clear H
      have Ti:=Cq.out
      have Tj:=Cf.out
      have Tk:=Cr.out
      have Tl:=Cg.out
      have Tm:=Ck.out
      have Tn:=B9.out
      have To:=Cm.out
      have Tp:=Cb.out
      have Tq:=Cn.out
      have Tr:=Cc.out
      obtain ⟨If,Ig⟩:=cz2 Ag.out
      obtain ⟨Ih,Ii⟩:=fz2 Ag.out
      have Ts:=Ci.out
      have Tt:=Cd.out
      have Tu:=Cj.out
      have Tv:=Ce.out
      have Tw:=Cw.out
      have Tx:=C4.out
      have Ty:=Cx.out
      have Tz:=C5.out
      obtain ⟨Ij,Ik⟩:=cz2 Ah.out
      obtain ⟨Il,Im⟩:=fz2 Ah.out
      obtain ⟨Ao88,co88,eo88⟩:=RR_slice Bq.out
      subst eo88
      go_wp2_with (first|((with_reducible refine gate_callee (f:=37) rfl ?_);refine goesL_ (some 52) rfl rfl Try.func37 (by kernel_rfl) rfl #[.agg #[.int .i64 t288,.slice Ao72 t289.length co72],.agg #[.int .i64 t268,.slice Ao88 t269.length co88]] rfl am ?_;(with_reducible refine (laws_eqSegJoin.calls k t288 _ _ t289 t268 _ _ t269 true _ ?side1 ?side2 ?side3 ?side4 I1.out).mono ?_);(case side1=>refine (RR_reads' (e:=5) (base:=w.heap.size) (ok:=fun k_=>((((((some k_≠(v293:Value).ownBlock∧some k_≠(v261:Value).ownBlock)∧some k_≠(v266:Value).ownBlock)∧some k_≠(.slice Ao88 t269.length co88:Value).ownBlock)∧some k_≠(v273:Value).ownBlock)∧some k_≠(.slice Ao52 t278.length co52:Value).ownBlock)∧some k_≠(.slice Ao62 t284.length co62:Value).ownBlock)) (n:=t289.length) (c:=co72) ?_).2.2;exact (mG2 Dd.out Ag.out));(case side2=>exact (RR_reads' Dd.out).2.1);(case side3=>refine (RR_reads' (e:=5) (base:=w.heap.size) (ok:=fun k_=>(((((some k_≠(v261:Value).ownBlock∧(some k_≠(v266:Value).ownBlock∧some k_≠(v273:Value).ownBlock))∧some k_≠(.slice Ao52 t278.length co52:Value).ownBlock)∧some k_≠(.slice Ao62 t284.length co62:Value).ownBlock)∧some k_≠(.slice Ao72 t289.length co72:Value).ownBlock)∧some k_≠(v293:Value).ownBlock)) (n:=t269.length) (c:=co88) ?_).2.2;exact (mG2 Bq.out Ag.out));(case side4=>exact (RR_reads' Bq.out).2.1);rintro e Vz ⟨rfl,hb⟩;refine ⟨_,rfl,?_⟩;replace Bj:=mk_ (RR_below (mG2 Bj.out Ag.out) hb);replace B3:=mk_ (RR_below (mG2 B3.out Ag.out) hb);replace Bq:=mk_ (RR_below (mG2 Bq.out Ag.out) hb);replace Br:=mk_ (RR_below (mG2 Br.out Ag.out) hb);replace Cu:=mk_ (RR_below (mG2 Cu.out Ag.out) hb);replace Db:=mk_ (RR_below (mG2 Db.out Ag.out) hb);replace Dd:=mk_ (RR_below (mG2 Dd.out Ag.out) hb);replace De:=mk_ (RR_below (mG2 De.out Ag.out) hb);replace Ae:=mk_ (zq6 (g:=gb255) (o:=.cells #[.int .i64 a0_0,.slice A0_1 l0_1.length c0_1] 46 (0,0)) (yv3 Cf.out Ae.out) hb);replace Af:=mk_ (zq6 (g:=gb256) (o:=.cells #[.int .i64 a1_0,.int .i64 a1_1,.slice A1_2 l1_2.length c1_2] 47 (0,0)) (yv3 Cg.out Af.out) hb);replace Ah:=mk_ (zq6 (g:=gb276) (o:=.cells #[.int .i64 t268,.slice Ao88 t269.length co88] 35 (0,0)) (yv3 B9.out Ah.out) hb);replace Aj:=mk_ (zq6 (g:=gb281) (o:=.cells #[.int .i64 t277,.slice Ao52 t278.length co52] 35 (0,0)) (yv3 Cb.out Aj.out) hb);replace Ai:=mk_ (zq6 (g:=gb287) (o:=.cells #[.int .i64 t282,.int .i64 t283,.slice Ao62 t284.length co62] 39 (0,0)) (yv3 Cc.out Ai.out) hb);replace Ag:=mk_ (zq6 (g:=gb296) (o:=.cells #[.int .i64 t288,.slice Ao72 t289.length co72] 35 (0,0)) (yv0 Ag.out) hb);replace HB:=mk_ (zr3 (yu1 HB.out) hb);(try clear hb);(try clear hb2);(try clear hk);(try clear hi);obtain ⟨Ao90,co90,eo90⟩:=RR_slice De.out;subst eo90;obtain ⟨Ao91,co91,eo91⟩:=RR_slice Br.out;subst eo91)|(go_at_call 19;(with_reducible refine (laws_eqByteS.calls k _ _ t292 _ _ t272 true _ ?side1 ?side2 ?side3 ?side4 Jc.out).mono ?_);(case side1=>exact mC (RR_reads' De.out).2.2);(case side2=>exact (RR_reads' De.out).2.1);(case side3=>exact mC (RR_reads' Br.out).2.2);(case side4=>exact (RR_reads' Br.out).2.1);rintro e w' ⟨rfl,⟨nd,rfl⟩⟩))
      go_meet
      case rel=>exact ⟨_,((t295 != t275)),(by first|rfl|(simp;done)|(simp [*];done)),H',⟨by first|omega|exact Nat.le_refl _⟩,⟨by (with_reducible repeat (first|apply RR_alloc|apply RR_drewN|apply RR_drew));exact RR_mono Br.out (fun _ hk=>⟨hk.2,⟨hk.1.1.1.1.2.2,⟨hk.1.1.1.2,⟨hk.1.1.2,hk.1.2⟩⟩⟩⟩)⟩,⟨by (with_reducible repeat (first|apply RR_alloc|apply RR_drewN|apply RR_drew));exact RR_mono De.out (fun _ hk=>⟨hk.1.1.2,⟨hk.1.1.1.2,⟨hk.1.2,⟨hk.2,hk.1.1.1.1.1.1⟩⟩⟩⟩)⟩,⟨by (with_reducible repeat (first|apply RR_alloc|apply RR_drewN|apply RR_drew));exact RR_mono Bq.out (fun _ hk=>⟨hk.1.1.1.1.2.2,⟨hk.2,⟨hk.1.1.1.2,⟨hk.1.1.2,hk.1.2⟩⟩⟩⟩)⟩,⟨by (with_reducible repeat (first|apply RR_alloc|apply RR_drewN|apply RR_drew));exact RR_mono Cu.out (fun _ hk=>⟨hk.1.1.1.2,⟨hk.2,⟨hk.1.1.1.1.2,⟨hk.1.1.2,hk.1.2⟩⟩⟩⟩)⟩,⟨by (with_reducible repeat (first|apply RR_alloc|apply RR_drewN|apply RR_drew));exact RR_mono Db.out (fun _ hk=>⟨hk.1.1.1.2,⟨hk.2,⟨hk.1.1.1.1.2,⟨hk.1.1.2,hk.1.2⟩⟩⟩⟩)⟩,⟨by (with_reducible repeat (first|apply RR_alloc|apply RR_drewN|apply RR_drew));exact RR_mono Dd.out (fun _ hk=>⟨hk.1.1.2,⟨hk.1.1.1.1.1.1,⟨hk.1.1.1.2,⟨hk.1.2,hk.2⟩⟩⟩⟩)⟩,⟨by (with_reducible repeat (first|refine zq1 ?_ _|refine zq2 ?_|refine zq3 ?_ _));exact Ae.out⟩,⟨by (with_reducible repeat (first|refine zq1 ?_ _|refine zq2 ?_|refine zq3 ?_ _));exact Af.out⟩,⟨by (with_reducible repeat (first|refine zq1 ?_ _|refine zq2 ?_|refine zq3 ?_ _));exact Ah.out⟩,⟨by (with_reducible repeat (first|refine zq1 ?_ _|refine zq2 ?_|refine zq3 ?_ _));exact Aj.out⟩,⟨by (with_reducible repeat (first|refine zq1 ?_ _|refine zq2 ?_|refine zq3 ?_ _));exact Ai.out⟩,⟨by (with_reducible repeat (first|refine zq1 ?_ _|refine zq2 ?_|refine zq3 ?_ _));exact Ag.out⟩,⟨by exact yu1 HB.out⟩⟩
     ·replace c76:=Bool.eq_false_iff.mpr c76
      subst c76
      have H1:(laws_FnExactSegPut.j0 k t272 t275 t292 t295 true a0_0 l0_1 a1_0 a1_1 l1_2 t268 t269 t277 t278 t282 t283 t284 t288 t289)=some r:=by rw [if_neg (show ¬ (false=true) by decide)] at H;exact H
      clear H
      have H:=H1
      clear H1
      have H':=mk_ H
      clear H
      have T0:=Cq.out
      have T1:=Cf.out
      have T2:=Cr.out
      have T3:=Cg.out
      have T4:=Ck.out
      have T5:=B9.out
      have T6:=Cm.out
      have T7:=Cb.out
      have T8:=Cn.out
      have T9:=Cc.out
      obtain ⟨In,Io⟩:=cz2 Ag.out
      obtain ⟨Ip,Iq⟩:=fz2 Ag.out
      have Ua:=Ci.out
      have Ub:=Cd.out
      have Uc:=Cj.out
      have Ud:=Ce.out
      have Ll:=Cw.out
      have Lm:=C4.out
      have Ln:=Cx.out
      have Lo:=C5.out
      obtain ⟨Ei,Ej⟩:=cz2 Ah.out
      obtain ⟨Ek,El⟩:=fz2 Ah.out
      obtain ⟨Ao103,co103,eo103⟩:=RR_slice Bq.out
      subst eo103
      go_wp2_with (first|((with_reducible refine gate_callee (f:=37) rfl ?_);refine goesL_ (some 52) rfl rfl Try.func37 (by kernel_rfl) rfl #[.agg #[.int .i64 t288,.slice Ao72 t289.length co72],.agg #[.int .i64 t268,.slice Ao103 t269.length co103]] rfl am ?_;(with_reducible refine (laws_eqSegJoin.calls k t288 _ _ t289 t268 _ _ t269 true _ ?side1 ?side2 ?side3 ?side4 I1.out).mono ?_);(case side1=>refine (RR_reads' (e:=5) (base:=w.heap.size) (ok:=fun k_=>((((((some k_≠(v293:Value).ownBlock∧some k_≠(v261:Value).ownBlock)∧some k_≠(v266:Value).ownBlock)∧some k_≠(.slice Ao103 t269.length co103:Value).ownBlock)∧some k_≠(v273:Value).ownBlock)∧some k_≠(.slice Ao52 t278.length co52:Value).ownBlock)∧some k_≠(.slice Ao62 t284.length co62:Value).ownBlock)) (n:=t289.length) (c:=co72) ?_).2.2;exact (mG2 Dd.out Ag.out));(case side2=>exact (RR_reads' Dd.out).2.1);(case side3=>refine (RR_reads' (e:=5) (base:=w.heap.size) (ok:=fun k_=>(((((some k_≠(v261:Value).ownBlock∧(some k_≠(v266:Value).ownBlock∧some k_≠(v273:Value).ownBlock))∧some k_≠(.slice Ao52 t278.length co52:Value).ownBlock)∧some k_≠(.slice Ao62 t284.length co62:Value).ownBlock)∧some k_≠(.slice Ao72 t289.length co72:Value).ownBlock)∧some k_≠(v293:Value).ownBlock)) (n:=t269.length) (c:=co103) ?_).2.2;exact (mG2 Bq.out Ag.out));(case side4=>exact (RR_reads' Bq.out).2.1);rintro e Ug ⟨rfl,hb⟩;refine ⟨_,rfl,?_⟩;replace Bj:=mk_ (RR_below (mG2 Bj.out Ag.out) hb);replace B3:=mk_ (RR_below (mG2 B3.out Ag.out) hb);replace Bq:=mk_ (RR_below (mG2 Bq.out Ag.out) hb);replace Br:=mk_ (RR_below (mG2 Br.out Ag.out) hb);replace Cu:=mk_ (RR_below (mG2 Cu.out Ag.out) hb);replace Db:=mk_ (RR_below (mG2 Db.out Ag.out) hb);replace Dd:=mk_ (RR_below (mG2 Dd.out Ag.out) hb);replace De:=mk_ (RR_below (mG2 De.out Ag.out) hb);replace Ae:=mk_ (zq6 (g:=gb255) (o:=.cells #[.int .i64 a0_0,.slice A0_1 l0_1.length c0_1] 46 (0,0)) (yv3 Cf.out Ae.out) hb);replace Af:=mk_ (zq6 (g:=gb256) (o:=.cells #[.int .i64 a1_0,.int .i64 a1_1,.slice A1_2 l1_2.length c1_2] 47 (0,0)) (yv3 Cg.out Af.out) hb);replace Ah:=mk_ (zq6 (g:=gb276) (o:=.cells #[.int .i64 t268,.slice Ao103 t269.length co103] 35 (0,0)) (yv3 B9.out Ah.out) hb);replace Aj:=mk_ (zq6 (g:=gb281) (o:=.cells #[.int .i64 t277,.slice Ao52 t278.length co52] 35 (0,0)) (yv3 Cb.out Aj.out) hb);replace Ai:=mk_ (zq6 (g:=gb287) (o:=.cells #[.int .i64 t282,.int .i64 t283,.slice Ao62 t284.length co62] 39 (0,0)) (yv3 Cc.out Ai.out) hb);replace Ag:=mk_ (zq6 (g:=gb296) (o:=.cells #[.int .i64 t288,.slice Ao72 t289.length co72] 35 (0,0)) (yv0 Ag.out) hb);replace HB:=mk_ (zr3 (yu1 HB.out) hb);(try clear hb);(try clear hb2);(try clear hk);(try clear hi);obtain ⟨Ao105,co105,eo105⟩:=RR_slice De.out;subst eo105;obtain ⟨Ao106,co106,eo106⟩:=RR_slice Br.out;subst eo106)|(go_at_call 19;(with_reducible refine (laws_eqByteS.calls k _ _ t292 _ _ t272 false _ ?side1 ?side2 ?side3 ?side4 Jc.out).mono ?_);(case side1=>exact mC (RR_reads' De.out).2.2);(case side2=>exact (RR_reads' De.out).2.1);(case side3=>exact mC (RR_reads' Br.out).2.2);(case side4=>exact (RR_reads' Br.out).2.1);rintro e w' ⟨rfl,⟨nd,rfl⟩⟩))
      go_meet
      case rel=>exact ⟨_,(true),(by first|rfl|(simp;done)|(simp [*];done)),H',⟨by first|omega|exact Nat.le_refl _⟩,⟨by (with_reducible repeat (first|apply RR_alloc|apply RR_drewN|apply RR_drew));exact RR_mono Br.out (fun _ hk=>⟨hk.2,⟨hk.1.1.1.1.2.2,⟨hk.1.1.1.2,⟨hk.1.1.2,hk.1.2⟩⟩⟩⟩)⟩,⟨by (with_reducible repeat (first|apply RR_alloc|apply RR_drewN|apply RR_drew));exact RR_mono De.out (fun _ hk=>⟨hk.1.1.2,⟨hk.1.1.1.2,⟨hk.1.2,⟨hk.2,hk.1.1.1.1.1.1⟩⟩⟩⟩)⟩,⟨by (with_reducible repeat (first|apply RR_alloc|apply RR_drewN|apply RR_drew));exact RR_mono Bq.out (fun _ hk=>⟨hk.1.1.1.1.2.2,⟨hk.2,⟨hk.1.1.1.2,⟨hk.1.1.2,hk.1.2⟩⟩⟩⟩)⟩,⟨by (with_reducible repeat (first|apply RR_alloc|apply RR_drewN|apply RR_drew));exact RR_mono Cu.out (fun _ hk=>⟨hk.1.1.1.2,⟨hk.2,⟨hk.1.1.1.1.2,⟨hk.1.1.2,hk.1.2⟩⟩⟩⟩)⟩,⟨by (with_reducible repeat (first|apply RR_alloc|apply RR_drewN|apply RR_drew));exact RR_mono Db.out (fun _ hk=>⟨hk.1.1.1.2,⟨hk.2,⟨hk.1.1.1.1.2,⟨hk.1.1.2,hk.1.2⟩⟩⟩⟩)⟩,⟨by (with_reducible repeat (first|apply RR_alloc|apply RR_drewN|apply RR_drew));exact RR_mono Dd.out (fun _ hk=>⟨hk.1.1.2,⟨hk.1.1.1.1.1.1,⟨hk.1.1.1.2,⟨hk.1.2,hk.2⟩⟩⟩⟩)⟩,⟨by (with_reducible repeat (first|refine zq1 ?_ _|refine zq2 ?_|refine zq3 ?_ _));exact Ae.out⟩,⟨by (with_reducible repeat (first|refine zq1 ?_ _|refine zq2 ?_|refine zq3 ?_ _));exact Af.out⟩,⟨by (with_reducible repeat (first|refine zq1 ?_ _|refine zq2 ?_|refine zq3 ?_ _));exact Ah.out⟩,⟨by (with_reducible repeat (first|refine zq1 ?_ _|refine zq2 ?_|refine zq3 ?_ _));exact Aj.out⟩,⟨by (with_reducible repeat (first|refine zq1 ?_ _|refine zq2 ?_|refine zq3 ?_ _));exact Ai.out⟩,⟨by (with_reducible repeat (first|refine zq1 ?_ _|refine zq2 ?_|refine zq3 ?_ _));exact Ag.out⟩,⟨by exact yu1 HB.out⟩⟩
    ·replace c74:=Bool.eq_false_iff.mpr c74
     subst c74
     have H1:(laws_FnExactSegPut.j0 k t272 t275 t292 t295 true a0_0 l0_1 a1_0 a1_1 l1_2 t268 t269 t277 t278 t282 t283 t284 t288 t289)=some r:=by rw [if_neg (show ¬ (false=true) by decide)] at H;exact H
     clear H
     have H:=H1
     clear H1
     have H':=mk_ H
     clear H
     have Lp:=Cq.out
     have Lq:=Cf.out
     have Lr:=Cr.out
     have Ls:=Cg.out
     have Lt:=Ck.out
     have Lu:=B9.out
     have Lv:=Cm.out
     have Lw:=Cb.out
     have Lx:=Cn.out
     have Ly:=Cc.out
     obtain ⟨Em,En⟩:=cz2 Ag.out
     obtain ⟨Eo,Ep⟩:=fz2 Ag.out
     have Lz:=Ci.out
     have L0:=Cd.out
     have L1:=Cj.out
     have L2:=Ce.out
     have L3:=Cw.out
     have L4:=C4.out
     have L5:=Cx.out
     have L6:=C5.out
     obtain ⟨Eq,Er⟩:=cz2 Ah.out
     obtain ⟨Es,Et⟩:=fz2 Ah.out
     obtain ⟨Ao118,co118,eo118⟩:=RR_slice Bq.out
     subst eo118
     go_wp2_with (first|((with_reducible refine gate_callee (f:=37) rfl ?_);refine goesL_ (some 52) rfl rfl Try.func37 (by kernel_rfl) rfl #[.agg #[.int .i64 t288,.slice Ao72 t289.length co72],.agg #[.int .i64 t268,.slice Ao118 t269.length co118]] rfl am ?_;(with_reducible refine (laws_eqSegJoin.calls k t288 _ _ t289 t268 _ _ t269 false _ ?side1 ?side2 ?side3 ?side4 I1.out).mono ?_);(case side1=>refine (RR_reads' (e:=5) (base:=w.heap.size) (ok:=fun k_=>((((((some k_≠(v293:Value).ownBlock∧some k_≠(v261:Value).ownBlock)∧some k_≠(v266:Value).ownBlock)∧some k_≠(.slice Ao118 t269.length co118:Value).ownBlock)∧some k_≠(v273:Value).ownBlock)∧some k_≠(.slice Ao52 t278.length co52:Value).ownBlock)∧some k_≠(.slice Ao62 t284.length co62:Value).ownBlock)) (n:=t289.length) (c:=co72) ?_).2.2;exact (mG2 Dd.out Ag.out));(case side2=>exact (RR_reads' Dd.out).2.1);(case side3=>refine (RR_reads' (e:=5) (base:=w.heap.size) (ok:=fun k_=>(((((some k_≠(v261:Value).ownBlock∧(some k_≠(v266:Value).ownBlock∧some k_≠(v273:Value).ownBlock))∧some k_≠(.slice Ao52 t278.length co52:Value).ownBlock)∧some k_≠(.slice Ao62 t284.length co62:Value).ownBlock)∧some k_≠(.slice Ao72 t289.length co72:Value).ownBlock)∧some k_≠(v293:Value).ownBlock)) (n:=t269.length) (c:=co118) ?_).2.2;exact (mG2 Bq.out Ag.out));(case side4=>exact (RR_reads' Bq.out).2.1);rintro e Uh ⟨rfl,hb⟩;refine ⟨_,rfl,?_⟩;replace Bj:=mk_ (RR_below (mG2 Bj.out Ag.out) hb);replace B3:=mk_ (RR_below (mG2 B3.out Ag.out) hb);replace Bq:=mk_ (RR_below (mG2 Bq.out Ag.out) hb);replace Br:=mk_ (RR_below (mG2 Br.out Ag.out) hb);replace Cu:=mk_ (RR_below (mG2 Cu.out Ag.out) hb);replace Db:=mk_ (RR_below (mG2 Db.out Ag.out) hb);replace Dd:=mk_ (RR_below (mG2 Dd.out Ag.out) hb);replace De:=mk_ (RR_below (mG2 De.out Ag.out) hb);replace Ae:=mk_ (zq6 (g:=gb255) (o:=.cells #[.int .i64 a0_0,.slice A0_1 l0_1.length c0_1] 46 (0,0)) (yv3 Cf.out Ae.out) hb);replace Af:=mk_ (zq6 (g:=gb256) (o:=.cells #[.int .i64 a1_0,.int .i64 a1_1,.slice A1_2 l1_2.length c1_2] 47 (0,0)) (yv3 Cg.out Af.out) hb);replace Ah:=mk_ (zq6 (g:=gb276) (o:=.cells #[.int .i64 t268,.slice Ao118 t269.length co118] 35 (0,0)) (yv3 B9.out Ah.out) hb);replace Aj:=mk_ (zq6 (g:=gb281) (o:=.cells #[.int .i64 t277,.slice Ao52 t278.length co52] 35 (0,0)) (yv3 Cb.out Aj.out) hb);replace Ai:=mk_ (zq6 (g:=gb287) (o:=.cells #[.int .i64 t282,.int .i64 t283,.slice Ao62 t284.length co62] 39 (0,0)) (yv3 Cc.out Ai.out) hb);replace Ag:=mk_ (zq6 (g:=gb296) (o:=.cells #[.int .i64 t288,.slice Ao72 t289.length co72] 35 (0,0)) (yv0 Ag.out) hb);replace HB:=mk_ (zr3 (yu1 HB.out) hb);(try clear hb);(try clear hb2);(try clear hk);(try clear hi)))
     go_meet
     case rel=>exact ⟨_,(true),(by first|rfl|(simp;done)|(simp [*];done)),H',⟨by first|omega|exact Nat.le_refl _⟩,⟨by (with_reducible repeat (first|apply RR_alloc|apply RR_drewN|apply RR_drew));exact RR_mono Br.out (fun _ hk=>⟨hk.2,⟨hk.1.1.1.1.2.2,⟨hk.1.1.1.2,⟨hk.1.1.2,hk.1.2⟩⟩⟩⟩)⟩,⟨by (with_reducible repeat (first|apply RR_alloc|apply RR_drewN|apply RR_drew));exact RR_mono De.out (fun _ hk=>⟨hk.1.1.2,⟨hk.1.1.1.2,⟨hk.1.2,⟨hk.2,hk.1.1.1.1.1.1⟩⟩⟩⟩)⟩,⟨by (with_reducible repeat (first|apply RR_alloc|apply RR_drewN|apply RR_drew));exact RR_mono Bq.out (fun _ hk=>⟨hk.1.1.1.1.2.2,⟨hk.2,⟨hk.1.1.1.2,⟨hk.1.1.2,hk.1.2⟩⟩⟩⟩)⟩,⟨by (with_reducible repeat (first|apply RR_alloc|apply RR_drewN|apply RR_drew));exact RR_mono Cu.out (fun _ hk=>⟨hk.1.1.1.2,⟨hk.2,⟨hk.1.1.1.1.2,⟨hk.1.1.2,hk.1.2⟩⟩⟩⟩)⟩,⟨by (with_reducible repeat (first|apply RR_alloc|apply RR_drewN|apply RR_drew));exact RR_mono Db.out (fun _ hk=>⟨hk.1.1.1.2,⟨hk.2,⟨hk.1.1.1.1.2,⟨hk.1.1.2,hk.1.2⟩⟩⟩⟩)⟩,⟨by (with_reducible repeat (first|apply RR_alloc|apply RR_drewN|apply RR_drew));exact RR_mono Dd.out (fun _ hk=>⟨hk.1.1.2,⟨hk.1.1.1.1.1.1,⟨hk.1.1.1.2,⟨hk.1.2,hk.2⟩⟩⟩⟩)⟩,⟨by (with_reducible repeat (first|refine zq1 ?_ _|refine zq2 ?_|refine zq3 ?_ _));exact Ae.out⟩,⟨by (with_reducible repeat (first|refine zq1 ?_ _|refine zq2 ?_|refine zq3 ?_ _));exact Af.out⟩,⟨by (with_reducible repeat (first|refine zq1 ?_ _|refine zq2 ?_|refine zq3 ?_ _));exact Ah.out⟩,⟨by (with_reducible repeat (first|refine zq1 ?_ _|refine zq2 ?_|refine zq3 ?_ _));exact Aj.out⟩,⟨by (with_reducible repeat (first|refine zq1 ?_ _|refine zq2 ?_|refine zq3 ?_ _));exact Ai.out⟩,⟨by (with_reducible repeat (first|refine zq1 ?_ _|refine zq2 ?_|refine zq3 ?_ _));exact Ag.out⟩,⟨by exact yu1 HB.out⟩⟩
   case rest =>
    clear Eh
    try clear c1
    try clear c2
    try clear p2
    try clear c3
    try clear c4
    try clear c5
    try clear c6
    try clear c7
    try clear c8
    try clear c9
    try clear c10
    try clear c11
    try clear c26
    try clear c28
    try clear c32
    try clear c33
    try clear c34
    try clear c35
    try clear c36
    try clear c37
    try clear c44
    try clear c48
    try clear c49
    try clear c50
    try clear c53
    try clear c57
    try clear c58
    try clear c59
    try clear c60
    try clear c66
    try clear c67
    try clear c68
    try clear c69
    try clear c70
    try clear c74
    try clear c76
    try clear c77
    try clear c78
    try clear c79
    try clear c80
    try clear c81
    try clear c83
    try clear c84
    try clear c85
    try clear c86
    try clear c92
    try clear c93
    try clear c94
    try clear c95
    try clear c96
    try clear c98
    try clear c99
    try clear c100
    try clear c101
    try clear c107
    try clear c108
    try clear c109
    try clear c110
    try clear c111
    try clear c113
    try clear c114
    try clear c115
    try clear c116
    try clear Ei Ej
    try clear Em En
    try clear Eq Er
    try clear G8 G9
    try clear Hc Hd He
    try clear Hm Hn
    try clear Hq Hr
    try clear Hu Hv Hw
    try clear H0 H2 H3
    try clear H7 H8
    try clear Ib Ic
    try clear If Ig
    try clear Ij Ik
    try clear In Io
    try clear Ek El
    try clear Eo Ep
    try clear Es Et
    try clear Ha Hb
    try clear Hf Hg Hh
    try clear Ho Hp
    try clear Hs Ht
    try clear Hx Hy Hz
    try clear H4 H5 H6
    try clear H9 Ia
    try clear Id Ie
    try clear Ih Ii
    try clear Il Im
    try clear Ip Iq
    obtain ⟨kq,D3,rfl,HA,HJ24,Al,Ak,Ab,Ac,Ad,Aa,Ae,Af,Ah,Aj,Ai,Ag,HB⟩:=hcut
    cases kq with
    |zero=>exact absurd HA.out (by simp [laws_FnExactSegPut.j0])
    |succ Bx =>
     have H:=HA.out
     clear HA
     simp only [laws_FnExactSegPut.j0] at H
     by_cases c120:D3=true
     ·subst c120
      have H1:(some false)=some r:=by rw [if_pos rfl] at H;exact H
      clear H
      have H:=H1
      clear H1
      obtain rfl:=Option.some.inj H
      go_wp2
      go_ret
      exact ⟨by first|rfl|(simp [errW_none,errW_some] <;> rfl)|(simp [*,errW_none,errW_some] <;> rfl),by exact yu1 HB.out⟩
     ·replace c120:=Bool.eq_false_iff.mpr c120
      subst c120
      have H1:((laws_toSegJoin.f Bx a0_0 l0_1).bind fun bt299=>((laws_eqSegJoin.f Bx t277 t278 bt299.1 bt299.2).bind fun t303=>(if t303=true then ((laws_toSegPart.f Bx a1_0 a1_1 l1_2).bind fun bt304=>((laws_eqSegPart.f Bx t282 t283 t284 bt304.1 bt304.2.1 bt304.2.2).bind fun t309=>(if t309=true then ((laws_markSegJoin.f Bx t277 t278 1).bind fun bt310=>((laws_markSegPart.f Bx t282 t283 t284 bt310.1).bind fun bt312=>(if bt312.1<0 then (laws_FnExactSegPut.j1 Bx t272 t275 t292 true a0_0 l0_1 a1_0 a1_1 l1_2 t268 t269 t288 t289) else ((laws_eqSegJoin.f Bx t288 t289 t268 t269).bind fun t314=>(if t314=true then ((laws_eqByteS.f Bx t292 t272).bind fun t315=>(if t315=true then (laws_FnExactSegPut.j1 Bx t272 t275 t292 (t295 != t275) a0_0 l0_1 a1_0 a1_1 l1_2 t268 t269 t288 t289) else (laws_FnExactSegPut.j1 Bx t272 t275 t292 true a0_0 l0_1 a1_0 a1_1 l1_2 t268 t269 t288 t289))) else (laws_FnExactSegPut.j1 Bx t272 t275 t292 true a0_0 l0_1 a1_0 a1_1 l1_2 t268 t269 t288 t289)))))) else (some false)))) else (some false))))=some r:=by rw [if_neg (show ¬ (false=true) by decide)] at H;exact H
      clear H
      have H:=H1
      clear H1
      replace H:=Option.bind_eq_some_iff.mp H
      obtain ⟨⟨t299,t300⟩,Gp,H⟩:=H
      try dsimp only at H
      have Eu:=mk_ Gp
      clear Gp
      replace H:=Option.bind_eq_some_iff.mp H
      obtain ⟨t303,Gq,H⟩:=H
      try dsimp only at H
      have Ev:=mk_ Gq
      clear Gq
      by_cases c123:t303=true
      ·subst c123
       have H1:((laws_toSegPart.f Bx a1_0 a1_1 l1_2).bind fun bt304=>((laws_eqSegPart.f Bx t282 t283 t284 bt304.1 bt304.2.1 bt304.2.2).bind fun t309=>(if t309=true then ((laws_markSegJoin.f Bx t277 t278 1).bind fun bt310=>((laws_markSegPart.f Bx t282 t283 t284 bt310.1).bind fun bt312=>(if bt312.1<0 then (laws_FnExactSegPut.j1 Bx t272 t275 t292 true a0_0 l0_1 a1_0 a1_1 l1_2 t268 t269 t288 t289) else ((laws_eqSegJoin.f Bx t288 t289 t268 t269).bind fun t314=>(if t314=true then ((laws_eqByteS.f Bx t292 t272).bind fun t315=>(if t315=true then (laws_FnExactSegPut.j1 Bx t272 t275 t292 (t295 != t275) a0_0 l0_1 a1_0 a1_1 l1_2 t268 t269 t288 t289) else (laws_FnExactSegPut.j1 Bx t272 t275 t292 true a0_0 l0_1 a1_0 a1_1 l1_2 t268 t269 t288 t289))) else (laws_FnExactSegPut.j1 Bx t272 t275 t292 true a0_0 l0_1 a1_0 a1_1 l1_2 t268 t269 t288 t289)))))) else (some false))))=some r:=by rw [if_pos rfl] at H;exact H
       clear H
       have H:=H1
       clear H1
       replace H:=Option.bind_eq_some_iff.mp H
       obtain ⟨⟨t304,t305,t306⟩,Gr,H⟩:=H
       try dsimp only at H
       have I3:=mk_ Gr
       clear Gr
       replace H:=Option.bind_eq_some_iff.mp H
       obtain ⟨t309,Gs,H⟩:=H
       try dsimp only at H
       have I4:=mk_ Gs
       clear Gs
       by_cases c126:t309=true
       ·subst c126
        have H1:((laws_markSegJoin.f Bx t277 t278 1).bind fun bt310=>((laws_markSegPart.f Bx t282 t283 t284 bt310.1).bind fun bt312=>(if bt312.1<0 then (laws_FnExactSegPut.j1 Bx t272 t275 t292 true a0_0 l0_1 a1_0 a1_1 l1_2 t268 t269 t288 t289) else ((laws_eqSegJoin.f Bx t288 t289 t268 t269).bind fun t314=>(if t314=true then ((laws_eqByteS.f Bx t292 t272).bind fun t315=>(if t315=true then (laws_FnExactSegPut.j1 Bx t272 t275 t292 (t295 != t275) a0_0 l0_1 a1_0 a1_1 l1_2 t268 t269 t288 t289) else (laws_FnExactSegPut.j1 Bx t272 t275 t292 true a0_0 l0_1 a1_0 a1_1 l1_2 t268 t269 t288 t289))) else (laws_FnExactSegPut.j1 Bx t272 t275 t292 true a0_0 l0_1 a1_0 a1_1 l1_2 t268 t269 t288 t289))))))=some r:=by rw [if_pos rfl] at H;exact H
        clear H
        have H:=H1
        clear H1
        replace H:=Option.bind_eq_some_iff.mp H
        obtain ⟨⟨t310,t311⟩,Gt,H⟩:=H
        try dsimp only at H
        have Jd:=mk_ Gt
        clear Gt
        replace H:=Option.bind_eq_some_iff.mp H
        obtain ⟨⟨t312,t313⟩,Gu,H⟩:=H
        try dsimp only at H
        have Je:=mk_ Gu
        clear Gu
        have Ec:=mk_ H
        clear H
        try go_wp2
        replace Al:=mk_ (RR_drew Al.out)
        replace Ak:=mk_ (RR_drew Ak.out)
        replace Ab:=mk_ (RR_drew Ab.out)
        replace Ac:=mk_ (RR_drew Ac.out)
        replace Ad:=mk_ (RR_drew Ad.out)
        replace Aa:=mk_ (RR_drew Aa.out)
        replace Ae:=mk_ (zq2 Ae.out)
        replace Af:=mk_ (zq2 Af.out)
        replace Ah:=mk_ (zq2 Ah.out)
        replace Aj:=mk_ (zq2 Aj.out)
        replace Ai:=mk_ (zq2 Ai.out)
        replace Ag:=mk_ (zq2 Ag.out)
        replace HB:=mk_ (zq9 HB.out)
        refine start_ (n:=5) (S:=fun w'=>w'.cell? ⟨gb281,0,none⟩=some (.int .i64 t277)∧w'.cell? ⟨gb281,1,none⟩=some (.slice Ao52 t278.length co52)∧w'.cell? ⟨gb255,0,none⟩=some (.int .i64 a0_0)∧w'.cell? ⟨gb255,1,none⟩=some (.slice A0_1 l0_1.length c0_1)) (ds:=[]) #[false,false,false,false,false] (by kernel_rfl) rfl rfl ⟨(zr4 Aj.out 0).trans rfl,(zr4 Aj.out 1).trans rfl,(zr4 Ae.out 0).trans rfl,(zr4 Ae.out 1).trans rfl⟩ (fun hHeld=>?_)
        generalize wc.drew=Ui at Al Ak Ab Ac Ad Aa Ae Af Ah Aj Ai Ag HB hHeld ⊢
        refine take_ (i:=0) (N:=some 65) (v:=?_) (a':=?_) #[true,false,false,false,false] rfl rfl (by kernel_rfl) (fun _ _ _ h=>h) (Or.inl ⟨by rfl,?_⟩) hHeld ?_ ?_
        rotate_left
        ·rintro w' ⟨s0,s1,s2,s3⟩
         go_simp
         with_reducible rfl
        rotate_left
        ·simp only [Act.put,zs1,zs2,zs3,i64_w,i32_w]
         rfl
        refine take_ (i:=1) (N:=some 66) (v:=?_) (a':=?_) #[true,true,false,false,false] rfl rfl (by kernel_rfl) (fun _ _ _ h=>h) (Or.inl ⟨by rfl,?_⟩) hHeld ?_ ?_
        rotate_left
        ·rintro w' ⟨s0,s1,s2,s3⟩
         go_simp
         with_reducible rfl
        rotate_left
        ·simp only [Act.put,zs1,zs2,zs3,i64_w,i32_w]
         rfl
        refine one_ (i:=2) (N:=some 67) #[true,true,true,false,false] rfl rfl (by kernel_rfl) (by decide) (fun K hK=>?_)
        refine goes_ Try.func35 (by kernel_rfl) rfl #[.agg #[.int .i64 a0_0,.slice A0_1 l0_1.length c0_1]] (by rfl) rfl rfl am ?_
        with_reducible refine (laws_toSegJoin.callsR Bx a0_0 _ _ l0_1 t299 t300 _ ?side1 ?side2 Eu.out).mono ?_
        (case side1=>repeat (first|exact (Kd.C_below Di.out HB.out)|(with_reducible refine Kd.C_alloc ?_ _)|(with_reducible refine Kd.C_drewN ?_ _)|(with_reducible refine Kd.C_drew ?_)))
        (case side2=>exact Dj.out)
        rintro e Uj ⟨v301,rfl,ho0,hb⟩
        refine ⟨_,rfl,?_⟩
        have By:=mk_ (RR_lower (RR_new' (RR_new' (RR_new' (RR_new' (RR_new' (RR_new' ho0 (RR_lt (mRR Al.out))) (RR_lt (mRR Ak.out))) (RR_lt (mRR Ab.out))) (RR_lt (mRR Ac.out))) (RR_lt (mRR Ad.out))) (RR_lt (mRR Aa.out))) (zr2 (yu1 HB.out)))
        replace Al:=mk_ (RR_elder' (mRR Al.out) (RR_base ho0) hb)
        replace Ak:=mk_ (RR_elder' (mRR Ak.out) (RR_base ho0) hb)
        replace Ab:=mk_ (RR_elder' (mRR Ab.out) (RR_base ho0) hb)
        replace Ac:=mk_ (RR_elder' (mRR Ac.out) (RR_base ho0) hb)
        replace Ad:=mk_ (RR_elder' (mRR Ad.out) (RR_base ho0) hb)
        replace Aa:=mk_ (RR_elder' (mRR Aa.out) (RR_base ho0) hb)
        replace Ae:=mk_ (zq6 (by exact Ae.out) hb)
        replace Af:=mk_ (zq6 (by exact Af.out) hb)
        replace Ah:=mk_ (zq6 (by exact Ah.out) hb)
        replace Aj:=mk_ (zq6 (by exact Aj.out) hb)
        replace Ai:=mk_ (zq6 (by exact Ai.out) hb)
        replace Ag:=mk_ (zq6 (by exact Ag.out) hb)
        replace HB:=mk_ (zr3 (yu1 HB.out) hb)
        (try clear hb)
        (try clear hb2)
        (try clear hk)
        (try clear hi)
        (try clear ho0)
        obtain ⟨Ao132,co132,eo132⟩:=RR_slice By.out
        (first|subst eo132|(injection eo132 with f1_ f2_ f3_;have f4_:=f1_.symm;have f5_:=f3_.symm;clear f1_ f2_ f3_;subst f4_;subst f5_))
        refine hK.out _ _ ⟨(zr4 Aj.out 0).trans rfl,(zr4 Aj.out 1).trans rfl,(zr4 Ae.out 0).trans rfl,(zr4 Ae.out 1).trans rfl⟩ (fun hHeld=>?_)
        clear hK K
        refine norm_ (a':=?_) ?_ ?_
        rotate_left
        ·show Act.put _ (some 67) _=_
         simp only [Act.put,zs1,zs2,zs3,i64_w,i32_w]
         rfl
        refine one_ (i:=3) (N:=some 68) #[true,true,true,true,false] rfl rfl (by kernel_rfl) (by decide) (fun K hK=>?_)
        refine goes_ Try.func37 (by kernel_rfl) rfl #[.agg #[.int .i64 t277,.slice Ao52 t278.length co52],.agg #[.int .i64 t299,.slice Ao132 t300.length co132]] (by rfl) rfl rfl am ?_
        with_reducible refine (laws_eqSegJoin.calls Bx t277 _ _ t278 t299 _ _ t300 true _ ?side1 ?side2 ?side3 ?side4 Ev.out).mono ?_
        (case side1=>exact mC (RR_reads' Ac.out).2.2)
        (case side2=>exact (RR_reads' Ac.out).2.1)
        (case side3=>exact mC (RR_reads' By.out).2.2)
        (case side4=>exact (RR_reads' By.out).2.1)
        rintro e Jf ⟨rfl,hb⟩
        refine ⟨_,rfl,?_⟩
        replace Al:=mk_ (RR_below (mRR Al.out) hb)
        replace Ak:=mk_ (RR_below (mRR Ak.out) hb)
        replace Ab:=mk_ (RR_below (mRR Ab.out) hb)
        replace Ac:=mk_ (RR_below (mRR Ac.out) hb)
        replace Ad:=mk_ (RR_below (mRR Ad.out) hb)
        replace Aa:=mk_ (RR_below (mRR Aa.out) hb)
        replace By:=mk_ (RR_below (mRR By.out) hb)
        replace Ae:=mk_ (zq6 (by exact Ae.out) hb)
        replace Af:=mk_ (zq6 (by exact Af.out) hb)
        replace Ah:=mk_ (zq6 (by exact Ah.out) hb)
        replace Aj:=mk_ (zq6 (by exact Aj.out) hb)
        replace Ai:=mk_ (zq6 (by exact Ai.out) hb)
        replace Ag:=mk_ (zq6 (by exact Ag.out) hb)
        replace HB:=mk_ (zr3 (yu1 HB.out) hb)
        (try clear hb)
        (try clear hb2)
        (try clear hk)
        (try clear hi)
        refine hK.out _ _ ⟨(zr4 Aj.out 0).trans rfl,(zr4 Aj.out 1).trans rfl,(zr4 Ae.out 0).trans rfl,(zr4 Ae.out 1).trans rfl⟩ (fun hHeld=>?_)
        clear hK K
        refine norm_ (a':=?_) ?_ ?_
        rotate_left
        ·show Act.put _ (some 68) _=_
         simp only [Act.put,zs1,zs2,zs3,i64_w,i32_w]
         rfl
        refine pure_ (i:=4) (N:=some 69) (v:=?_) (a':=?_) #[true,true,true,true,true] rfl rfl (by kernel_rfl) (fun _ _ _ h=>h) (Or.inl ⟨by rfl,?_⟩) ?_ ?_
        rotate_left
        ·intro w'
         go_simp
         with_reducible rfl
        rotate_left
        ·simp only [Act.put,zs1,zs2,zs3,i64_w,i32_w]
         rfl
        refine done_ (by kernel_rfl) ?_
        try go_wp2
        replace Al:=mk_ (RR_drew Al.out)
        replace Ak:=mk_ (RR_drew Ak.out)
        replace Ab:=mk_ (RR_drew Ab.out)
        replace Ac:=mk_ (RR_drew Ac.out)
        replace Ad:=mk_ (RR_drew Ad.out)
        replace Aa:=mk_ (RR_drew Aa.out)
        replace By:=mk_ (RR_drew By.out)
        replace Ae:=mk_ (zq2 Ae.out)
        replace Af:=mk_ (zq2 Af.out)
        replace Ah:=mk_ (zq2 Ah.out)
        replace Aj:=mk_ (zq2 Aj.out)
        replace Ai:=mk_ (zq2 Ai.out)
        replace Ag:=mk_ (zq2 Ag.out)
        replace HB:=mk_ (zq9 HB.out)
        refine start_ (n:=5) (S:=fun w'=>w'.cell? ⟨gb287,0,none⟩=some (.int .i64 t282)∧w'.cell? ⟨gb287,1,none⟩=some (.int .i64 t283)∧w'.cell? ⟨gb287,2,none⟩=some (.slice Ao62 t284.length co62)∧w'.cell? ⟨gb256,0,none⟩=some (.int .i64 a1_0)∧w'.cell? ⟨gb256,1,none⟩=some (.int .i64 a1_1)∧w'.cell? ⟨gb256,2,none⟩=some (.slice A1_2 l1_2.length c1_2)) (ds:=[]) #[false,false,false,false,false] (by kernel_rfl) rfl rfl ⟨(zr4 Ai.out 0).trans rfl,(zr4 Ai.out 1).trans rfl,(zr4 Ai.out 2).trans rfl,(zr4 Af.out 0).trans rfl,(zr4 Af.out 1).trans rfl,(zr4 Af.out 2).trans rfl⟩ (fun hHeld=>?_)
        generalize Jf.drew=Uk at Al Ak Ab Ac Ad Aa By Ae Af Ah Aj Ai Ag HB hHeld ⊢
        refine take_ (i:=0) (N:=some 70) (v:=?_) (a':=?_) #[true,false,false,false,false] rfl rfl (by kernel_rfl) (fun _ _ _ h=>h) (Or.inl ⟨by rfl,?_⟩) hHeld ?_ ?_
        rotate_left
        ·rintro w' ⟨s0,s1,s2,s3,s4,s5⟩
         go_simp
         with_reducible rfl
        rotate_left
        ·simp only [Act.put,zs1,zs2,zs3,i64_w,i32_w]
         rfl
        refine take_ (i:=1) (N:=some 71) (v:=?_) (a':=?_) #[true,true,false,false,false] rfl rfl (by kernel_rfl) (fun _ _ _ h=>h) (Or.inl ⟨by rfl,?_⟩) hHeld ?_ ?_
        rotate_left
        ·rintro w' ⟨s0,s1,s2,s3,s4,s5⟩
         go_simp
         with_reducible rfl
        rotate_left
        ·simp only [Act.put,zs1,zs2,zs3,i64_w,i32_w]
         rfl
        refine one_ (i:=2) (N:=some 72) #[true,true,true,false,false] rfl rfl (by kernel_rfl) (by decide) (fun K hK=>?_)
        refine goes_ Try.func36 (by kernel_rfl) rfl #[.agg #[.int .i64 a1_0,.int .i64 a1_1,.slice A1_2 l1_2.length c1_2]] (by rfl) rfl rfl am ?_
        with_reducible refine (laws_toSegPart.callsR Bx a1_0 a1_1 _ _ l1_2 t304 t305 t306 _ ?side1 ?side2 I3.out).mono ?_
        (case side1=>repeat (first|exact (Kd.C_below Ds.out HB.out)|(with_reducible refine Kd.C_alloc ?_ _)|(with_reducible refine Kd.C_drewN ?_ _)|(with_reducible refine Kd.C_drew ?_)))
        (case side2=>exact Dt.out)
        rintro e Ul ⟨v307,rfl,ho0,hb⟩
        refine ⟨_,rfl,?_⟩
        have C3:=mk_ (RR_lower (RR_new' (RR_new' (RR_new' (RR_new' (RR_new' (RR_new' (RR_new' ho0 (RR_lt (mRR Al.out))) (RR_lt (mRR Ak.out))) (RR_lt (mRR Ab.out))) (RR_lt (mRR Ac.out))) (RR_lt (mRR Ad.out))) (RR_lt (mRR Aa.out))) (RR_lt (mRR By.out))) (zr2 (yu1 HB.out)))
        replace Al:=mk_ (RR_elder' (mRR Al.out) (RR_base ho0) hb)
        replace Ak:=mk_ (RR_elder' (mRR Ak.out) (RR_base ho0) hb)
        replace Ab:=mk_ (RR_elder' (mRR Ab.out) (RR_base ho0) hb)
        replace Ac:=mk_ (RR_elder' (mRR Ac.out) (RR_base ho0) hb)
        replace Ad:=mk_ (RR_elder' (mRR Ad.out) (RR_base ho0) hb)
        replace Aa:=mk_ (RR_elder' (mRR Aa.out) (RR_base ho0) hb)
        replace By:=mk_ (RR_elder' (mRR By.out) (RR_base ho0) hb)
        replace Ae:=mk_ (zq6 (by exact Ae.out) hb)
        replace Af:=mk_ (zq6 (by exact Af.out) hb)
        replace Ah:=mk_ (zq6 (by exact Ah.out) hb)
        replace Aj:=mk_ (zq6 (by exact Aj.out) hb)
        replace Ai:=mk_ (zq6 (by exact Ai.out) hb)
        replace Ag:=mk_ (zq6 (by exact Ag.out) hb)
        replace HB:=mk_ (zr3 (yu1 HB.out) hb)
        (try clear hb)
        (try clear hb2)
        (try clear hk)
        (try clear hi)
        (try clear ho0)
        obtain ⟨Ao136,co136,eo136⟩:=RR_slice C3.out
        (first|subst eo136|(injection eo136 with f1_ f2_ f3_;have f4_:=f1_.symm;have f5_:=f3_.symm;clear f1_ f2_ f3_;subst f4_;subst f5_))
        refine hK.out _ _ ⟨(zr4 Ai.out 0).trans rfl,(zr4 Ai.out 1).trans rfl,(zr4 Ai.out 2).trans rfl,(zr4 Af.out 0).trans rfl,(zr4 Af.out 1).trans rfl,(zr4 Af.out 2).trans rfl⟩ (fun hHeld=>?_)
        clear hK K
        refine norm_ (a':=?_) ?_ ?_
        rotate_left
        ·show Act.put _ (some 72) _=_
         simp only [Act.put,zs1,zs2,zs3,i64_w,i32_w]
         rfl
        refine one_ (i:=3) (N:=some 73) #[true,true,true,true,false] rfl rfl (by kernel_rfl) (by decide) (fun K hK=>?_)
        refine goes_ Try.func38 (by kernel_rfl) rfl #[.agg #[.int .i64 t282,.int .i64 t283,.slice Ao62 t284.length co62],.agg #[.int .i64 t304,.int .i64 t305,.slice Ao136 t306.length co136]] (by rfl) rfl rfl am ?_
        with_reducible refine (laws_eqSegPart.calls Bx t282 t283 _ _ t284 t304 t305 _ _ t306 true _ ?side1 ?side2 ?side3 ?side4 I4.out).mono ?_
        (case side1=>exact mC (RR_reads' Ad.out).2.2)
        (case side2=>exact (RR_reads' Ad.out).2.1)
        (case side3=>exact mC (RR_reads' C3.out).2.2)
        (case side4=>exact (RR_reads' C3.out).2.1)
        rintro e Um ⟨rfl,hb⟩
        refine ⟨_,rfl,?_⟩
        replace Al:=mk_ (RR_below (mRR Al.out) hb)
        replace Ak:=mk_ (RR_below (mRR Ak.out) hb)
        replace Ab:=mk_ (RR_below (mRR Ab.out) hb)
        replace Ac:=mk_ (RR_below (mRR Ac.out) hb)
        replace Ad:=mk_ (RR_below (mRR Ad.out) hb)
        replace Aa:=mk_ (RR_below (mRR Aa.out) hb)
        replace By:=mk_ (RR_below (mRR By.out) hb)
        replace C3:=mk_ (RR_below (mRR C3.out) hb)
        replace Ae:=mk_ (zq6 (by exact Ae.out) hb)
        replace Af:=mk_ (zq6 (by exact Af.out) hb)
        replace Ah:=mk_ (zq6 (by exact Ah.out) hb)
        replace Aj:=mk_ (zq6 (by exact Aj.out) hb)
        replace Ai:=mk_ (zq6 (by exact Ai.out) hb)
        replace Ag:=mk_ (zq6 (by exact Ag.out) hb)
        replace HB:=mk_ (zr3 (yu1 HB.out) hb)
        (try clear hb)
        (try clear hb2)
        (try clear hk)
        (try clear hi)
        refine hK.out _ _ ⟨(zr4 Ai.out 0).trans rfl,(zr4 Ai.out 1).trans rfl,(zr4 Ai.out 2).trans rfl,(zr4 Af.out 0).trans rfl,(zr4 Af.out 1).trans rfl,(zr4 Af.out 2).trans rfl⟩ (fun hHeld=>?_)
        clear hK K
        refine norm_ (a':=?_) ?_ ?_
        rotate_left
        ·show Act.put _ (some 73) _=_
         simp only [Act.put,zs1,zs2,zs3,i64_w,i32_w]
         rfl
        refine pure_ (i:=4) (N:=some 74) (v:=?_) (a':=?_) #[true,true,true,true,true] rfl rfl (by kernel_rfl) (fun _ _ _ h=>h) (Or.inl ⟨by rfl,?_⟩) ?_ ?_
        rotate_left
        ·intro w'
         go_simp
         with_reducible rfl
        rotate_left
        ·simp only [Act.put,zs1,zs2,zs3,i64_w,i32_w]
         rfl
        refine done_ (by kernel_rfl) ?_
        have L7:=D5.out
        have L8:=Dl.out
        have L9:=D6.out
        have Ma:=Dm.out
        have Mb:=C4.out
        have Mc:=Cw.out
        have Md:=Dp.out
        have Me:=D9.out
        have Mf:=Cb.out
        have Mg:=Cm.out
        obtain ⟨Ew,Ex⟩:=cz2 Aj.out
        obtain ⟨Ey,Ez⟩:=fz2 Aj.out
        go_upto_region 21 with (first|((with_reducible refine gate_callee (f:=39) rfl ?_);refine goesL_ (some 77) rfl rfl Try.func39 (by kernel_rfl) rfl #[.agg #[.int .i64 t277,.slice Ao52 t278.length co52],.int .i64 1] rfl am ?_;(with_reducible refine (laws_markSegJoin.calls Bx t277 (fun k_=>some k_=(.slice Ao52 t278.length co52:Value).ownBlock) (.slice Ao52 t278.length co52) t278 1 t310 t311 w _ ?side1 ?side2 Jd.out).mono ?_);(case side1=>exact yu1 HB.out);(case side2=>exact RR_tight rfl Ac.out);rintro e Un ⟨rfl,hy0,hb,hkp⟩;refine ⟨_,rfl,?_⟩;replace Al:=mk_ (RR_mono (ok':=fun k_=>some k_≠(v293:Value).ownBlock∧some k_≠(v270:Value).ownBlock∧some k_≠(.slice Ao52 t278.length co52:Value).ownBlock∧some k_≠(.slice Ao62 t284.length co62:Value).ownBlock∧some k_≠(.slice Ao72 t289.length co72:Value).ownBlock∧some k_≠(.slice Ao132 t300.length co132:Value).ownBlock∧some k_≠(.slice Ao136 t306.length co136:Value).ownBlock) (RR_keptB (Al.out) hkp (fun k_ hk_ hs_=>(hk_.1.1.2.2.1) hs_)) (fun k_ hk_=>⟨hk_.1.1.1.1,hk_.1.1.1.2.1,hk_.1.1.1.2.2.1,hk_.1.1.1.2.2.2.1,hk_.1.1.1.2.2.2.2,hk_.1.1.2,hk_.1.2⟩));replace Ak:=mk_ (RR_mono (ok':=fun k_=>some k_≠(v273:Value).ownBlock∧some k_≠(v270:Value).ownBlock∧some k_≠(.slice Ao52 t278.length co52:Value).ownBlock∧some k_≠(.slice Ao62 t284.length co62:Value).ownBlock∧some k_≠(.slice Ao72 t289.length co72:Value).ownBlock∧some k_≠(.slice Ao132 t300.length co132:Value).ownBlock∧some k_≠(.slice Ao136 t306.length co136:Value).ownBlock) (RR_keptB (Ak.out) hkp (fun k_ hk_ hs_=>(hk_.1.1.2.2.1) hs_)) (fun k_ hk_=>⟨hk_.1.1.1.1,hk_.1.1.1.2.1,hk_.1.1.1.2.2.1,hk_.1.1.1.2.2.2.1,hk_.1.1.1.2.2.2.2,hk_.1.1.2,hk_.1.2⟩));replace Ab:=mk_ (RR_mono (ok':=fun k_=>some k_≠(v273:Value).ownBlock∧some k_≠(v293:Value).ownBlock∧some k_≠(.slice Ao52 t278.length co52:Value).ownBlock∧some k_≠(.slice Ao62 t284.length co62:Value).ownBlock∧some k_≠(.slice Ao72 t289.length co72:Value).ownBlock∧some k_≠(.slice Ao132 t300.length co132:Value).ownBlock∧some k_≠(.slice Ao136 t306.length co136:Value).ownBlock) (RR_keptB (Ab.out) hkp (fun k_ hk_ hs_=>(hk_.1.1.2.2.1) hs_)) (fun k_ hk_=>⟨hk_.1.1.1.1,hk_.1.1.1.2.1,hk_.1.1.1.2.2.1,hk_.1.1.1.2.2.2.1,hk_.1.1.1.2.2.2.2,hk_.1.1.2,hk_.1.2⟩));replace Ad:=mk_ (RR_mono (ok':=fun k_=>some k_≠(v273:Value).ownBlock∧some k_≠(v293:Value).ownBlock∧some k_≠(v270:Value).ownBlock∧some k_≠(.slice Ao52 t278.length co52:Value).ownBlock∧some k_≠(.slice Ao72 t289.length co72:Value).ownBlock∧some k_≠(.slice Ao132 t300.length co132:Value).ownBlock∧some k_≠(.slice Ao136 t306.length co136:Value).ownBlock) (RR_keptB (Ad.out) hkp (fun k_ hk_ hs_=>(hk_.1.1.2.2.2.1) hs_)) (fun k_ hk_=>⟨hk_.1.1.1.1,hk_.1.1.1.2.1,hk_.1.1.1.2.2.1,hk_.1.1.1.2.2.2.1,hk_.1.1.1.2.2.2.2,hk_.1.1.2,hk_.1.2⟩));replace Aa:=mk_ (RR_mono (ok':=fun k_=>some k_≠(v273:Value).ownBlock∧some k_≠(v293:Value).ownBlock∧some k_≠(v270:Value).ownBlock∧some k_≠(.slice Ao52 t278.length co52:Value).ownBlock∧some k_≠(.slice Ao62 t284.length co62:Value).ownBlock∧some k_≠(.slice Ao132 t300.length co132:Value).ownBlock∧some k_≠(.slice Ao136 t306.length co136:Value).ownBlock) (RR_keptB (Aa.out) hkp (fun k_ hk_ hs_=>(hk_.1.1.2.2.2.1) hs_)) (fun k_ hk_=>⟨hk_.1.1.1.1,hk_.1.1.1.2.1,hk_.1.1.1.2.2.1,hk_.1.1.1.2.2.2.1,hk_.1.1.1.2.2.2.2,hk_.1.1.2,hk_.1.2⟩));replace Ae:=mk_ (bk Ae.out hkp (fun e_=>RR_ne Ac.out Ae.out (by decide) e_));replace Af:=mk_ (bk Af.out hkp (fun e_=>RR_ne Ac.out Af.out (by decide) e_));replace Ah:=mk_ (bk Ah.out hkp (fun e_=>RR_ne Ac.out Ah.out (by decide) e_));replace Aj:=mk_ (bk Aj.out hkp (fun e_=>RR_ne Ac.out Aj.out (by decide) e_));replace Ai:=mk_ (bk Ai.out hkp (fun e_=>RR_ne Ac.out Ai.out (by decide) e_));replace Ag:=mk_ (bk Ag.out hkp (fun e_=>RR_ne Ac.out Ag.out (by decide) e_));replace Ac:=mk_ (RR_reok rfl hy0 (fun k_ e_=>RR_ok Ac.out k_ e_));replace By:=mk_ (RR_mono (ok':=fun k_=>some k_≠(v273:Value).ownBlock∧some k_≠(v293:Value).ownBlock∧some k_≠(v270:Value).ownBlock∧some k_≠(.slice Ao52 t278.length co52:Value).ownBlock∧some k_≠(.slice Ao62 t284.length co62:Value).ownBlock∧some k_≠(.slice Ao72 t289.length co72:Value).ownBlock∧some k_≠(.slice Ao136 t306.length co136:Value).ownBlock) (RR_keptB (By.out) hkp (fun k_ hk_ hs_=>(hk_.1.1.1.2) hs_)) (fun k_ hk_=>⟨hk_.1.1.1.1.1.1.1.2,hk_.1.1.1.1.1.1.2,hk_.1.1.1.1.1.2,hk_.1.1.1.1.2,hk_.1.1.1.2,hk_.1.1.2,hk_.1.2⟩));replace C3:=mk_ (RR_mono (ok':=fun k_=>some k_≠(v273:Value).ownBlock∧some k_≠(v293:Value).ownBlock∧some k_≠(v270:Value).ownBlock∧some k_≠(.slice Ao52 t278.length co52:Value).ownBlock∧some k_≠(.slice Ao62 t284.length co62:Value).ownBlock∧some k_≠(.slice Ao72 t289.length co72:Value).ownBlock∧some k_≠(.slice Ao132 t300.length co132:Value).ownBlock) (RR_keptB (C3.out) hkp (fun k_ hk_ hs_=>(hk_.1.1.1.2) hs_)) (fun k_ hk_=>⟨hk_.1.1.1.1.1.1.1.2,hk_.1.1.1.1.1.1.2,hk_.1.1.1.1.1.2,hk_.1.1.1.1.2,hk_.1.1.1.2,hk_.1.1.2,hk_.1.2⟩));replace HB:=mk_ (hb);(try clear hb);(try clear hkp);(try clear hy0);have Mh:=D7.out;have Mi:=Dn.out;have Mj:=D8.out;have Mk:=Do.out;have Ml:=C5.out;have Mm:=Cx.out;have Mn:=Cc.out;have Mo:=Cn.out;obtain ⟨E0,E1,E2⟩:=cz3 Ai.out;obtain ⟨E3,E4,E5⟩:=fz3 Ai.out)|((with_reducible refine gate_callee (f:=40) rfl ?_);refine goesL_ (some 80) rfl rfl Try.func40 (by kernel_rfl) rfl #[.agg #[.int .i64 t282,.int .i64 t283,.slice Ao62 t284.length co62],.int .i64 t310] rfl am ?_;(with_reducible refine (laws_markSegPart.calls Bx t282 t283 (fun k_=>some k_=(.slice Ao62 t284.length co62:Value).ownBlock) (.slice Ao62 t284.length co62) t284 t310 t312 t313 w _ ?side1 ?side2 Je.out).mono ?_);(case side1=>exact yu1 HB.out);(case side2=>exact RR_tight rfl Ad.out);rintro e Uo ⟨rfl,hy0,hb,hkp⟩;refine ⟨_,rfl,?_⟩;replace Al:=mk_ (kRR (Al.out) hkp (fun k_ hk_ hs_=>(hk_.2.2.2.1) hs_));replace Ak:=mk_ (kRR (Ak.out) hkp (fun k_ hk_ hs_=>(hk_.2.2.2.1) hs_));replace Ab:=mk_ (kRR (Ab.out) hkp (fun k_ hk_ hs_=>(hk_.2.2.2.1) hs_));replace Ac:=mk_ (RR_mono (ok':=fun k_=>some k_≠(v273:Value).ownBlock∧some k_≠(v293:Value).ownBlock∧some k_≠(v270:Value).ownBlock∧some k_≠(.slice Ao62 t284.length co62:Value).ownBlock∧some k_≠(.slice Ao72 t289.length co72:Value).ownBlock∧some k_≠(.slice Ao132 t300.length co132:Value).ownBlock∧some k_≠(.slice Ao136 t306.length co136:Value).ownBlock) (RR_keptB (Ac.out) hkp (fun k_ hk_ hs_=>(hk_.1.1.2.2.2.1) hs_)) (fun k_ hk_=>⟨hk_.1.1.1.1,hk_.1.1.1.2.1,hk_.1.1.1.2.2.1,hk_.1.1.1.2.2.2.1,hk_.1.1.1.2.2.2.2,hk_.1.1.2,hk_.1.2⟩));replace Aa:=mk_ (kRR (Aa.out) hkp (fun k_ hk_ hs_=>(hk_.2.2.2.2.1) hs_));replace Ae:=mk_ (bk Ae.out hkp (fun e_=>RR_ne Ad.out Ae.out (by decide) e_));replace Af:=mk_ (bk Af.out hkp (fun e_=>RR_ne Ad.out Af.out (by decide) e_));replace Ah:=mk_ (bk Ah.out hkp (fun e_=>RR_ne Ad.out Ah.out (by decide) e_));replace Aj:=mk_ (bk Aj.out hkp (fun e_=>RR_ne Ad.out Aj.out (by decide) e_));replace Ai:=mk_ (bk Ai.out hkp (fun e_=>RR_ne Ad.out Ai.out (by decide) e_));replace Ag:=mk_ (bk Ag.out hkp (fun e_=>RR_ne Ad.out Ag.out (by decide) e_));replace Ad:=mk_ (RR_reok rfl hy0 (fun k_ e_=>RR_ok Ad.out k_ e_));replace By:=mk_ (kRR (By.out) hkp (fun k_ hk_ hs_=>(hk_.2.2.2.2.1) hs_));replace C3:=mk_ (kRR (C3.out) hkp (fun k_ hk_ hs_=>(hk_.2.2.2.2.1) hs_));replace HB:=mk_ (hb);(try clear hb);(try clear hkp);(try clear hy0)))
        (try simp only [Act.put,List.setIfInBounds_toArray,List.set_cons_zero,List.set_cons_succ])
        go_cut [99] (fun v99 wc=>∃ (kq:Nat) (Dx:Bool),v99=.bool Dx∧Aside0 (laws_FnExactSegPut.j1 kq t272 t275 t292 Dx a0_0 l0_1 a1_0 a1_1 l1_2 t268 t269 t288 t289=some r)∧Aside0 (kq≤Bx)∧Aside0 (RR ku 5 wc w.heap.size (fun k_=>some k_≠(v293:Value).ownBlock∧some k_≠(v270:Value).ownBlock∧some k_≠((.slice Ao52 t278.length co52):Value).ownBlock∧some k_≠((.slice Ao62 t284.length co62):Value).ownBlock∧some k_≠((.slice Ao72 t289.length co72):Value).ownBlock) v273 t272)∧Aside0 (RR ku 5 wc w.heap.size (fun k_=>some k_≠(v273:Value).ownBlock∧some k_≠(v270:Value).ownBlock∧some k_≠((.slice Ao52 t278.length co52):Value).ownBlock∧some k_≠((.slice Ao62 t284.length co62):Value).ownBlock∧some k_≠((.slice Ao72 t289.length co72):Value).ownBlock) v293 t292)∧Aside0 (RR ku 5 wc w.heap.size (fun k_=>some k_≠(v273:Value).ownBlock∧some k_≠(v293:Value).ownBlock∧some k_≠((.slice Ao52 t278.length co52):Value).ownBlock∧some k_≠((.slice Ao62 t284.length co62):Value).ownBlock∧some k_≠((.slice Ao72 t289.length co72):Value).ownBlock) v270 t269)∧Aside0 (RR ku 5 wc w.heap.size (fun k_=>some k_≠(v273:Value).ownBlock∧some k_≠(v293:Value).ownBlock∧some k_≠(v270:Value).ownBlock∧some k_≠((.slice Ao62 t284.length co62):Value).ownBlock∧some k_≠((.slice Ao72 t289.length co72):Value).ownBlock) (.slice Ao52 t278.length co52) t311)∧Aside0 (RR ku 5 wc w.heap.size (fun k_=>some k_≠(v273:Value).ownBlock∧some k_≠(v293:Value).ownBlock∧some k_≠(v270:Value).ownBlock∧some k_≠((.slice Ao52 t278.length co52):Value).ownBlock∧some k_≠((.slice Ao72 t289.length co72):Value).ownBlock) (.slice Ao62 t284.length co62) t313)∧Aside0 (RR ku 5 wc w.heap.size (fun k_=>some k_≠(v273:Value).ownBlock∧some k_≠(v293:Value).ownBlock∧some k_≠(v270:Value).ownBlock∧some k_≠((.slice Ao52 t278.length co52):Value).ownBlock∧some k_≠((.slice Ao62 t284.length co62):Value).ownBlock) (.slice Ao72 t289.length co72) t289)∧Aside0 (wc.heap[gb255]? =some (.cells #[.int .i64 a0_0,(.slice A0_1 l0_1.length c0_1)] 46 (0,0)))∧Aside0 (wc.heap[gb256]? =some (.cells #[.int .i64 a1_0,.int .i64 a1_1,(.slice A1_2 l1_2.length c1_2)] 47 (0,0)))∧Aside0 (wc.heap[gb276]? =some (.cells #[.int .i64 t268,v270] 35 (0,0)))∧Aside0 (wc.heap[gb281]? =some (.cells #[.int .i64 t277,(.slice Ao52 t278.length co52)] 35 (0,0)))∧Aside0 (wc.heap[gb287]? =some (.cells #[.int .i64 t282,.int .i64 t283,(.slice Ao62 t284.length co62)] 39 (0,0)))∧Aside0 (wc.heap[gb296]? =some (.cells #[.int .i64 t288,(.slice Ao72 t289.length co72)] 35 (0,0)))∧Aside0 (Below w.heap.size w wc))
        case first =>
         have H:=Ec.out
         clear Ec
         by_cases c151:t312<0
         ·rw [if_pos c151] at H
          have c151b0:decide (t312<0)=true:=decide_eq_true c151
          clear c151
          (first|rw [c151b0]|(simp only [i64_w,i32_w];rw [c151b0])|skip)
          have H':=mk_ H
          clear H
          go_wp2
          go_meet
          case rel=>exact ⟨_,(true),(by first|rfl|(simp;done)|(simp [*];done)),H',⟨by have:=HJ24.out;first|omega|exact Nat.le_refl _⟩,⟨by (with_reducible repeat (first|apply RR_alloc|apply RR_drewN|apply RR_drew));exact RR_mono Al.out (fun _ hk=>⟨hk.1,⟨hk.2.1,⟨hk.2.2.1,⟨hk.2.2.2.1,hk.2.2.2.2.1⟩⟩⟩⟩)⟩,⟨by (with_reducible repeat (first|apply RR_alloc|apply RR_drewN|apply RR_drew));exact RR_mono Ak.out (fun _ hk=>⟨hk.1,⟨hk.2.1,⟨hk.2.2.1,⟨hk.2.2.2.1,hk.2.2.2.2.1⟩⟩⟩⟩)⟩,⟨by (with_reducible repeat (first|apply RR_alloc|apply RR_drewN|apply RR_drew));exact RR_mono Ab.out (fun _ hk=>⟨hk.1,⟨hk.2.1,⟨hk.2.2.1,⟨hk.2.2.2.1,hk.2.2.2.2.1⟩⟩⟩⟩)⟩,⟨by (with_reducible repeat (first|apply RR_alloc|apply RR_drewN|apply RR_drew));exact RR_mono Ac.out (fun _ hk=>⟨hk.1,⟨hk.2.1,⟨hk.2.2.1,⟨hk.2.2.2.1,hk.2.2.2.2.1⟩⟩⟩⟩)⟩,⟨by (with_reducible repeat (first|apply RR_alloc|apply RR_drewN|apply RR_drew));exact RR_mono Ad.out (fun _ hk=>⟨hk.1,⟨hk.2.1,⟨hk.2.2.1,⟨hk.2.2.2.1,hk.2.2.2.2.1⟩⟩⟩⟩)⟩,⟨by (with_reducible repeat (first|apply RR_alloc|apply RR_drewN|apply RR_drew));exact RR_mono Aa.out (fun _ hk=>⟨hk.1,⟨hk.2.1,⟨hk.2.2.1,⟨hk.2.2.2.1,hk.2.2.2.2.1⟩⟩⟩⟩)⟩,⟨by (with_reducible repeat (first|refine zq1 ?_ _|refine zq2 ?_|refine zq3 ?_ _));exact Ae.out⟩,⟨by (with_reducible repeat (first|refine zq1 ?_ _|refine zq2 ?_|refine zq3 ?_ _));exact Af.out⟩,⟨by (with_reducible repeat (first|refine zq1 ?_ _|refine zq2 ?_|refine zq3 ?_ _));exact Ah.out⟩,⟨by (with_reducible repeat (first|refine zq1 ?_ _|refine zq2 ?_|refine zq3 ?_ _));exact Aj.out⟩,⟨by (with_reducible repeat (first|refine zq1 ?_ _|refine zq2 ?_|refine zq3 ?_ _));exact Ai.out⟩,⟨by (with_reducible repeat (first|refine zq1 ?_ _|refine zq2 ?_|refine zq3 ?_ _));exact Ag.out⟩,⟨by exact yu1 HB.out⟩⟩
         ·rw [if_neg c151] at H
          have c151b0:decide (t312<0)=false:=decide_eq_false c151
          clear c151
          (first|rw [c151b0]|(simp only [i64_w,i32_w];rw [c151b0])|skip)
          replace H:=Option.bind_eq_some_iff.mp H
          obtain ⟨t314,Gv,H⟩:=H
          try dsimp only at H
          have E6:=mk_ Gv
          clear Gv
          by_cases c153:t314=true
          ·subst c153
           have H1:((laws_eqByteS.f Bx t292 t272).bind fun t315=>(if t315=true then (laws_FnExactSegPut.j1 Bx t272 t275 t292 (t295 != t275) a0_0 l0_1 a1_0 a1_1 l1_2 t268 t269 t288 t289) else (laws_FnExactSegPut.j1 Bx t272 t275 t292 true a0_0 l0_1 a1_0 a1_1 l1_2 t268 t269 t288 t289)))=some r:=by rw [if_pos rfl] at H;exact H
           clear H
           have H:=H1
           clear H1
           replace H:=Option.bind_eq_some_iff.mp H
           obtain ⟨t315,Gw,H⟩:=H
           try dsimp only at H
           have I5:=mk_ Gw
           clear Gw
           by_cases c155:t315=true
           ·subst c155
            have H1:(laws_FnExactSegPut.j1 Bx t272 t275 t292 (t295 != t275) a0_0 l0_1 a1_0 a1_1 l1_2 t268 t269 t288 t289)=some r:=by rw [if_pos rfl] at H;exact H
            clear H
            have H:=H1
            clear H1
            have H':=mk_ H
            clear H
            have Mp:=Cq.out
            have Mq:=Cf.out
            have Mr:=Cr.out
            have Ms:=Cg.out
            have Mt:=Ck.out
            have Mu:=B9.out
            have Mv:=Cm.out
            have Mw:=Cb.out
            have Mx:=Cn.out
            have My:=Cc.out
            obtain ⟨E7,E8⟩:=cz2 Ag.out
            obtain ⟨E9,Fa⟩:=fz2 Ag.out
            have Mz:=Ci.out
            have M0:=Cd.out
            have M1:=Cj.out
            have M2:=Ce.out
            have M3:=Cw.out
            have M4:=C4.out
            have M5:=Cx.out
            have M6:=C5.out
            obtain ⟨Fb,Fc⟩:=cz2 Ah.out
            obtain ⟨Fd,Fe⟩:=fz2 Ah.out
            obtain ⟨Ao167,co167,eo167⟩:=RR_slice Ab.out
            subst eo167
            go_wp2_with (first|(go_at_call 37;(with_reducible refine (laws_eqSegJoin.calls Bx t288 _ _ t289 t268 _ _ t269 true _ ?side1 ?side2 ?side3 ?side4 E6.out).mono ?_);(case side1=>exact mC (RR_reads' Aa.out).2.2);(case side2=>exact (RR_reads' Aa.out).2.1);(case side3=>exact mC (RR_reads' Ab.out).2.2);(case side4=>exact (RR_reads' Ab.out).2.1);rintro e Up ⟨rfl,hb⟩;replace Al:=mk_ (RR_below (mRR Al.out) hb);replace Ak:=mk_ (RR_below (mRR Ak.out) hb);replace Ab:=mk_ (RR_below (mRR Ab.out) hb);replace Ac:=mk_ (RR_below (mRR Ac.out) hb);replace Ad:=mk_ (RR_below (mRR Ad.out) hb);replace Aa:=mk_ (RR_below (mRR Aa.out) hb);replace By:=mk_ (RR_below (mRR By.out) hb);replace C3:=mk_ (RR_below (mRR C3.out) hb);replace Ae:=mk_ (zq6 (by exact Ae.out) hb);replace Af:=mk_ (zq6 (by exact Af.out) hb);replace Ah:=mk_ (zq6 (by exact Ah.out) hb);replace Aj:=mk_ (zq6 (by exact Aj.out) hb);replace Ai:=mk_ (zq6 (by exact Ai.out) hb);replace Ag:=mk_ (zq6 (by exact Ag.out) hb);replace HB:=mk_ (zr3 (yu1 HB.out) hb);(try clear hb);(try clear hb2);(try clear hk);(try clear hi);obtain ⟨Ao169,co169,eo169⟩:=RR_slice Ak.out;subst eo169;obtain ⟨Ao170,co170,eo170⟩:=RR_slice Al.out;subst eo170)|(go_at_call 19;(with_reducible refine (laws_eqByteS.calls Bx _ _ t292 _ _ t272 true _ ?side1 ?side2 ?side3 ?side4 I5.out).mono ?_);(case side1=>exact mC (RR_reads' Ak.out).2.2);(case side2=>exact (RR_reads' Ak.out).2.1);(case side3=>exact mC (RR_reads' Al.out).2.2);(case side4=>exact (RR_reads' Al.out).2.1);rintro e w' ⟨rfl,⟨nd,rfl⟩⟩))
            go_meet
            case rel=>exact ⟨_,((t295 != t275)),(by first|rfl|(simp;done)|(simp [*];done)),H',⟨by have:=HJ24.out;first|omega|exact Nat.le_refl _⟩,⟨by (with_reducible repeat (first|apply RR_alloc|apply RR_drewN|apply RR_drew));exact RR_mono Al.out (fun _ hk=>⟨hk.1,⟨hk.2.1,⟨hk.2.2.1,⟨hk.2.2.2.1,hk.2.2.2.2.1⟩⟩⟩⟩)⟩,⟨by (with_reducible repeat (first|apply RR_alloc|apply RR_drewN|apply RR_drew));exact RR_mono Ak.out (fun _ hk=>⟨hk.1,⟨hk.2.1,⟨hk.2.2.1,⟨hk.2.2.2.1,hk.2.2.2.2.1⟩⟩⟩⟩)⟩,⟨by (with_reducible repeat (first|apply RR_alloc|apply RR_drewN|apply RR_drew));exact RR_mono Ab.out (fun _ hk=>⟨hk.1,⟨hk.2.1,⟨hk.2.2.1,⟨hk.2.2.2.1,hk.2.2.2.2.1⟩⟩⟩⟩)⟩,⟨by (with_reducible repeat (first|apply RR_alloc|apply RR_drewN|apply RR_drew));exact RR_mono Ac.out (fun _ hk=>⟨hk.1,⟨hk.2.1,⟨hk.2.2.1,⟨hk.2.2.2.1,hk.2.2.2.2.1⟩⟩⟩⟩)⟩,⟨by (with_reducible repeat (first|apply RR_alloc|apply RR_drewN|apply RR_drew));exact RR_mono Ad.out (fun _ hk=>⟨hk.1,⟨hk.2.1,⟨hk.2.2.1,⟨hk.2.2.2.1,hk.2.2.2.2.1⟩⟩⟩⟩)⟩,⟨by (with_reducible repeat (first|apply RR_alloc|apply RR_drewN|apply RR_drew));exact RR_mono Aa.out (fun _ hk=>⟨hk.1,⟨hk.2.1,⟨hk.2.2.1,⟨hk.2.2.2.1,hk.2.2.2.2.1⟩⟩⟩⟩)⟩,⟨by (with_reducible repeat (first|refine zq1 ?_ _|refine zq2 ?_|refine zq3 ?_ _));exact Ae.out⟩,⟨by (with_reducible repeat (first|refine zq1 ?_ _|refine zq2 ?_|refine zq3 ?_ _));exact Af.out⟩,⟨by (with_reducible repeat (first|refine zq1 ?_ _|refine zq2 ?_|refine zq3 ?_ _));exact Ah.out⟩,⟨by (with_reducible repeat (first|refine zq1 ?_ _|refine zq2 ?_|refine zq3 ?_ _));exact Aj.out⟩,⟨by (with_reducible repeat (first|refine zq1 ?_ _|refine zq2 ?_|refine zq3 ?_ _));exact Ai.out⟩,⟨by (with_reducible repeat (first|refine zq1 ?_ _|refine zq2 ?_|refine zq3 ?_ _));exact Ag.out⟩,⟨by exact yu1 HB.out⟩⟩
           ·replace c155:=Bool.eq_false_iff.mpr c155
            subst c155
            have H1:(laws_FnExactSegPut.j1 Bx t272 t275 t292 true a0_0 l0_1 a1_0 a1_1 l1_2 t268 t269 t288 t289)=some r:=by rw [if_neg (show ¬ (false=true) by decide)] at H;exact H
            clear H
            have H:=H1
            clear H1
            have H':=mk_ H
            clear H
            have M7:=Cq.out
            have M8:=Cf.out
            have M9:=Cr.out
            have Na:=Cg.out
            have Nb:=Ck.out
            have Nc:=B9.out
            have Nd:=Cm.out
            have Ne:=Cb.out
            have Nf:=Cn.out
            have Ng:=Cc.out
            obtain ⟨Ff,Fg⟩:=cz2 Ag.out
            obtain ⟨Fh,Fi⟩:=fz2 Ag.out
            have Nh:=Ci.out
            have Ni:=Cd.out
            have Nj:=Cj.out
            have Nk:=Ce.out
            have Nl:=Cw.out
            have Nm:=C4.out
            have Nn:=Cx.out
            have Np:=C5.out
            obtain ⟨Fj,Fk⟩:=cz2 Ah.out
            obtain ⟨Fl,Fm⟩:=fz2 Ah.out
            obtain ⟨Ao182,co182,eo182⟩:=RR_slice Ab.out
            subst eo182
            go_wp2_with (first|(go_at_call 37;(with_reducible refine (laws_eqSegJoin.calls Bx t288 _ _ t289 t268 _ _ t269 true _ ?side1 ?side2 ?side3 ?side4 E6.out).mono ?_);(case side1=>exact mC (RR_reads' Aa.out).2.2);(case side2=>exact (RR_reads' Aa.out).2.1);(case side3=>exact mC (RR_reads' Ab.out).2.2);(case side4=>exact (RR_reads' Ab.out).2.1);rintro e Uq ⟨rfl,hb⟩;replace Al:=mk_ (RR_below (mRR Al.out) hb);replace Ak:=mk_ (RR_below (mRR Ak.out) hb);replace Ab:=mk_ (RR_below (mRR Ab.out) hb);replace Ac:=mk_ (RR_below (mRR Ac.out) hb);replace Ad:=mk_ (RR_below (mRR Ad.out) hb);replace Aa:=mk_ (RR_below (mRR Aa.out) hb);replace By:=mk_ (RR_below (mRR By.out) hb);replace C3:=mk_ (RR_below (mRR C3.out) hb);replace Ae:=mk_ (zq6 (by exact Ae.out) hb);replace Af:=mk_ (zq6 (by exact Af.out) hb);replace Ah:=mk_ (zq6 (by exact Ah.out) hb);replace Aj:=mk_ (zq6 (by exact Aj.out) hb);replace Ai:=mk_ (zq6 (by exact Ai.out) hb);replace Ag:=mk_ (zq6 (by exact Ag.out) hb);replace HB:=mk_ (zr3 (yu1 HB.out) hb);(try clear hb);(try clear hb2);(try clear hk);(try clear hi);obtain ⟨Ao184,co184,eo184⟩:=RR_slice Ak.out;subst eo184;obtain ⟨Ao185,co185,eo185⟩:=RR_slice Al.out;subst eo185)|(go_at_call 19;(with_reducible refine (laws_eqByteS.calls Bx _ _ t292 _ _ t272 false _ ?side1 ?side2 ?side3 ?side4 I5.out).mono ?_);(case side1=>exact mC (RR_reads' Ak.out).2.2);(case side2=>exact (RR_reads' Ak.out).2.1);(case side3=>exact mC (RR_reads' Al.out).2.2);(case side4=>exact (RR_reads' Al.out).2.1);rintro e w' ⟨rfl,⟨nd,rfl⟩⟩))
            go_meet
            case rel=>exact ⟨_,(true),(by first|rfl|(simp;done)|(simp [*];done)),H',⟨by have:=HJ24.out;first|omega|exact Nat.le_refl _⟩,⟨by (with_reducible repeat (first|apply RR_alloc|apply RR_drewN|apply RR_drew));exact RR_mono Al.out (fun _ hk=>⟨hk.1,⟨hk.2.1,⟨hk.2.2.1,⟨hk.2.2.2.1,hk.2.2.2.2.1⟩⟩⟩⟩)⟩,⟨by (with_reducible repeat (first|apply RR_alloc|apply RR_drewN|apply RR_drew));exact RR_mono Ak.out (fun _ hk=>⟨hk.1,⟨hk.2.1,⟨hk.2.2.1,⟨hk.2.2.2.1,hk.2.2.2.2.1⟩⟩⟩⟩)⟩,⟨by (with_reducible repeat (first|apply RR_alloc|apply RR_drewN|apply RR_drew));exact RR_mono Ab.out (fun _ hk=>⟨hk.1,⟨hk.2.1,⟨hk.2.2.1,⟨hk.2.2.2.1,hk.2.2.2.2.1⟩⟩⟩⟩)⟩,⟨by (with_reducible repeat (first|apply RR_alloc|apply RR_drewN|apply RR_drew));exact RR_mono Ac.out (fun _ hk=>⟨hk.1,⟨hk.2.1,⟨hk.2.2.1,⟨hk.2.2.2.1,hk.2.2.2.2.1⟩⟩⟩⟩)⟩,⟨by (with_reducible repeat (first|apply RR_alloc|apply RR_drewN|apply RR_drew));exact RR_mono Ad.out (fun _ hk=>⟨hk.1,⟨hk.2.1,⟨hk.2.2.1,⟨hk.2.2.2.1,hk.2.2.2.2.1⟩⟩⟩⟩)⟩,⟨by (with_reducible repeat (first|apply RR_alloc|apply RR_drewN|apply RR_drew));exact RR_mono Aa.out (fun _ hk=>⟨hk.1,⟨hk.2.1,⟨hk.2.2.1,⟨hk.2.2.2.1,hk.2.2.2.2.1⟩⟩⟩⟩)⟩,⟨by (with_reducible repeat (first|refine zq1 ?_ _|refine zq2 ?_|refine zq3 ?_ _));exact Ae.out⟩,⟨by (with_reducible repeat (first|refine zq1 ?_ _|refine zq2 ?_|refine zq3 ?_ _));exact Af.out⟩,⟨by (with_reducible repeat (first|refine zq1 ?_ _|refine zq2 ?_|refine zq3 ?_ _));exact Ah.out⟩,⟨by (with_reducible repeat (first|refine zq1 ?_ _|refine zq2 ?_|refine zq3 ?_ _));exact Aj.out⟩,⟨by (with_reducible repeat (first|refine zq1 ?_ _|refine zq2 ?_|refine zq3 ?_ _));exact Ai.out⟩,⟨by (with_reducible repeat (first|refine zq1 ?_ _|refine zq2 ?_|refine zq3 ?_ _));exact Ag.out⟩,⟨by exact yu1 HB.out⟩⟩
          ·replace c153:=Bool.eq_false_iff.mpr c153
           subst c153
           have H1:(laws_FnExactSegPut.j1 Bx t272 t275 t292 true a0_0 l0_1 a1_0 a1_1 l1_2 t268 t269 t288 t289)=some r:=by rw [if_neg (show ¬ (false=true) by decide)] at H;exact H
           clear H
           have H:=H1
           clear H1
           have H':=mk_ H
           clear H
           have Nq:=Cq.out
           have Nr:=Cf.out
           have Ns:=Cr.out
           have Nt:=Cg.out
           have Nu:=Ck.out
           have Nv:=B9.out
           have Nw:=Cm.out
           have Nx:=Cb.out
           have Ny:=Cn.out
           have Nz:=Cc.out
           obtain ⟨Fn,Fo⟩:=cz2 Ag.out
           obtain ⟨Fp,Fq⟩:=fz2 Ag.out
           have N0:=Ci.out
           have N1:=Cd.out
           have N2:=Cj.out
           have N3:=Ce.out
           have N4:=Cw.out
           have N5:=C4.out
           have N6:=Cx.out
           have N7:=C5.out
           obtain ⟨Fr,Fs⟩:=cz2 Ah.out
           obtain ⟨Ft,Fu⟩:=fz2 Ah.out
           obtain ⟨Ao197,co197,eo197⟩:=RR_slice Ab.out
           subst eo197
           go_wp2_with (first|(go_at_call 37;(with_reducible refine (laws_eqSegJoin.calls Bx t288 _ _ t289 t268 _ _ t269 false _ ?side1 ?side2 ?side3 ?side4 E6.out).mono ?_);(case side1=>exact mC (RR_reads' Aa.out).2.2);(case side2=>exact (RR_reads' Aa.out).2.1);(case side3=>exact mC (RR_reads' Ab.out).2.2);(case side4=>exact (RR_reads' Ab.out).2.1);rintro e Ur ⟨rfl,hb⟩;replace Al:=mk_ (RR_below (mRR Al.out) hb);replace Ak:=mk_ (RR_below (mRR Ak.out) hb);replace Ab:=mk_ (RR_below (mRR Ab.out) hb);replace Ac:=mk_ (RR_below (mRR Ac.out) hb);replace Ad:=mk_ (RR_below (mRR Ad.out) hb);replace Aa:=mk_ (RR_below (mRR Aa.out) hb);replace By:=mk_ (RR_below (mRR By.out) hb);replace C3:=mk_ (RR_below (mRR C3.out) hb);replace Ae:=mk_ (zq6 (by exact Ae.out) hb);replace Af:=mk_ (zq6 (by exact Af.out) hb);replace Ah:=mk_ (zq6 (by exact Ah.out) hb);replace Aj:=mk_ (zq6 (by exact Aj.out) hb);replace Ai:=mk_ (zq6 (by exact Ai.out) hb);replace Ag:=mk_ (zq6 (by exact Ag.out) hb);replace HB:=mk_ (zr3 (yu1 HB.out) hb);(try clear hb);(try clear hb2);(try clear hk);(try clear hi)))
           go_meet
           case rel=>exact ⟨_,(true),(by first|rfl|(simp;done)|(simp [*];done)),H',⟨by have:=HJ24.out;first|omega|exact Nat.le_refl _⟩,⟨by (with_reducible repeat (first|apply RR_alloc|apply RR_drewN|apply RR_drew));exact RR_mono Al.out (fun _ hk=>⟨hk.1,⟨hk.2.1,⟨hk.2.2.1,⟨hk.2.2.2.1,hk.2.2.2.2.1⟩⟩⟩⟩)⟩,⟨by (with_reducible repeat (first|apply RR_alloc|apply RR_drewN|apply RR_drew));exact RR_mono Ak.out (fun _ hk=>⟨hk.1,⟨hk.2.1,⟨hk.2.2.1,⟨hk.2.2.2.1,hk.2.2.2.2.1⟩⟩⟩⟩)⟩,⟨by (with_reducible repeat (first|apply RR_alloc|apply RR_drewN|apply RR_drew));exact RR_mono Ab.out (fun _ hk=>⟨hk.1,⟨hk.2.1,⟨hk.2.2.1,⟨hk.2.2.2.1,hk.2.2.2.2.1⟩⟩⟩⟩)⟩,⟨by (with_reducible repeat (first|apply RR_alloc|apply RR_drewN|apply RR_drew));exact RR_mono Ac.out (fun _ hk=>⟨hk.1,⟨hk.2.1,⟨hk.2.2.1,⟨hk.2.2.2.1,hk.2.2.2.2.1⟩⟩⟩⟩)⟩,⟨by (with_reducible repeat (first|apply RR_alloc|apply RR_drewN|apply RR_drew));exact RR_mono Ad.out (fun _ hk=>⟨hk.1,⟨hk.2.1,⟨hk.2.2.1,⟨hk.2.2.2.1,hk.2.2.2.2.1⟩⟩⟩⟩)⟩,⟨by (with_reducible repeat (first|apply RR_alloc|apply RR_drewN|apply RR_drew));exact RR_mono Aa.out (fun _ hk=>⟨hk.1,⟨hk.2.1,⟨hk.2.2.1,⟨hk.2.2.2.1,hk.2.2.2.2.1⟩⟩⟩⟩)⟩,⟨by (with_reducible repeat (first|refine zq1 ?_ _|refine zq2 ?_|refine zq3 ?_ _));exact Ae.out⟩,⟨by (with_reducible repeat (first|refine zq1 ?_ _|refine zq2 ?_|refine zq3 ?_ _));exact Af.out⟩,⟨by (with_reducible repeat (first|refine zq1 ?_ _|refine zq2 ?_|refine zq3 ?_ _));exact Ah.out⟩,⟨by (with_reducible repeat (first|refine zq1 ?_ _|refine zq2 ?_|refine zq3 ?_ _));exact Aj.out⟩,⟨by (with_reducible repeat (first|refine zq1 ?_ _|refine zq2 ?_|refine zq3 ?_ _));exact Ai.out⟩,⟨by (with_reducible repeat (first|refine zq1 ?_ _|refine zq2 ?_|refine zq3 ?_ _));exact Ag.out⟩,⟨by exact yu1 HB.out⟩⟩
        case rest =>
         clear Ec
         try clear c1
         try clear p2
         try clear c3
         try clear c4
         try clear c12
         try clear c13
         try clear c14
         try clear c15
         try clear c16
         try clear c17
         try clear c18
         try clear c19
         try clear c35
         try clear c36
         try clear c37
         try clear c38
         try clear c39
         try clear c40
         try clear c123
         try clear c126
         try clear c138
         try clear c139
         try clear c140
         try clear c141
         try clear c142
         try clear c145
         try clear c146
         try clear c147
         try clear c148
         try clear c151
         try clear c151b0
         try clear c153
         try clear c155
         try clear c156
         try clear c157
         try clear c158
         try clear c159
         try clear c160
         try clear c162
         try clear c163
         try clear c164
         try clear c165
         try clear c171
         try clear c172
         try clear c173
         try clear c174
         try clear c175
         try clear c177
         try clear c178
         try clear c179
         try clear c180
         try clear c186
         try clear c187
         try clear c188
         try clear c189
         try clear c190
         try clear c192
         try clear c193
         try clear c194
         try clear c195
         try clear Ew Ex
         try clear E0 E1 E2
         try clear E7 E8
         try clear Fb Fc
         try clear Ff Fg
         try clear Fj Fk
         try clear Fn Fo
         try clear Fr Fs
         try clear Ey Ez
         try clear E3 E4 E5
         try clear E9 Fa
         try clear Fd Fe
         try clear Fh Fi
         try clear Fl Fm
         try clear Fp Fq
         try clear Ft Fu
         obtain ⟨kq,Dx,rfl,HA,HJ128,Al,Ak,Ab,Ac,Ad,Aa,Ae,Af,Ah,Aj,Ai,Ag,HB⟩:=hcut
         have hl282001_128:=(RR_reads' Ac.out).1
         rw [hl282001_128] at Ac
         (try simp only [hl282001_128])
         (try simp only [hl282001_128] at Ae)
         (try simp only [hl282001_128] at Af)
         (try simp only [hl282001_128] at Ah)
         (try simp only [hl282001_128] at Aj)
         (try simp only [hl282001_128] at Ai)
         (try simp only [hl282001_128] at Ag)
         (try simp only [hl282001_128] at Al)
         (try simp only [hl282001_128] at Ak)
         (try simp only [hl282001_128] at Ab)
         (try simp only [hl282001_128] at Ad)
         (try simp only [hl282001_128] at Aa)
         have hl288002_128:=(RR_reads' Ad.out).1
         rw [hl288002_128] at Ad
         (try simp only [hl288002_128])
         (try simp only [hl288002_128] at Ae)
         (try simp only [hl288002_128] at Af)
         (try simp only [hl288002_128] at Ah)
         (try simp only [hl288002_128] at Aj)
         (try simp only [hl288002_128] at Ai)
         (try simp only [hl288002_128] at Ag)
         (try simp only [hl288002_128] at Al)
         (try simp only [hl288002_128] at Ak)
         (try simp only [hl288002_128] at Ab)
         (try simp only [hl288002_128] at Ac)
         (try simp only [hl288002_128] at Aa)
         cases kq with
         |zero=>exact absurd HA.out (by simp [laws_FnExactSegPut.j1])
         |succ B4 =>
          have H:=HA.out
          clear HA
          simp only [laws_FnExactSegPut.j1] at H
          by_cases c199:Dx=true
          ·subst c199
           have H1:(some false)=some r:=by rw [if_pos rfl] at H;exact H
           clear H
           have H:=H1
           clear H1
           obtain rfl:=Option.some.inj H
           go_wp2
           go_ret
           exact ⟨by first|rfl|(simp [errW_none,errW_some] <;> rfl)|(simp [*,errW_none,errW_some] <;> rfl),by exact yu1 HB.out⟩
          ·replace c199:=Bool.eq_false_iff.mpr c199
           subst c199
           have H1:((laws_markSegJoin.f B4 t288 t289 1).bind fun bt316=>((laws_markByteS.f B4 t292 bt316.1).bind fun bt318=>((laws_heldSegJoin.f B4 t288 bt316.2 1).bind fun t320=>(if t320<0 then (some false) else ((laws_heldByteS.f B4 bt318.2 t320).bind fun t321=>(if t321<0 then (some false) else (if t321=bt318.1 then ((laws_toSegJoin.f B4 a0_0 l0_1).bind fun bt322=>((laws_toSegPart.f B4 a1_0 a1_1 l1_2).bind fun bt326=>((impl_SegPut.f B4 bt322.1 bt322.2 bt326.1 bt326.2.1 bt326.2.2).bind fun bt331=>((laws_eqSegJoin.f B4 bt331.1 bt331.2.1 t268 t269).bind fun t340=>(if t340=true then ((laws_eqByteS.f B4 bt331.2.2.1 t272).bind fun t341=>(if t341=true then (laws_FnExactSegPut.j2 B4 bt318.2 bt318.1 (bt331.2.2.2 != t275) t288 bt316.2) else (laws_FnExactSegPut.j2 B4 bt318.2 bt318.1 true t288 bt316.2))) else (laws_FnExactSegPut.j2 B4 bt318.2 bt318.1 true t288 bt316.2)))))) else (some false))))))))=some r:=by rw [if_neg (show ¬ (false=true) by decide)] at H;exact H
           clear H
           have H:=H1
           clear H1
           replace H:=Option.bind_eq_some_iff.mp H
           obtain ⟨⟨t316,t317⟩,Gx,H⟩:=H
           try dsimp only at H
           have D0:=mk_ Gx
           clear Gx
           replace H:=Option.bind_eq_some_iff.mp H
           obtain ⟨⟨t318,t319⟩,Gy,H⟩:=H
           try dsimp only at H
           have Ed:=mk_ Gy
           clear Gy
           replace H:=Option.bind_eq_some_iff.mp H
           obtain ⟨t320,Gz,H⟩:=H
           try dsimp only at H
           have Ee:=mk_ Gz
           clear Gz
           by_cases c203:t320<0
           ·rw [if_pos c203] at H
            have c203b0:decide (t320<0)=true:=decide_eq_true c203
            clear c203
            obtain rfl:=Option.some.inj H
            have N8:=Cq.out
            have N9:=Cf.out
            have Oa:=Cr.out
            have Ob:=Cg.out
            have Oc:=Ck.out
            have Od:=B9.out
            have Oe:=Cm.out
            have Of:=Cb.out
            have Og:=Cn.out
            have Oh:=Cc.out
            obtain ⟨Jg,Jh⟩:=cz2 Ag.out
            obtain ⟨Ji,Jj⟩:=fz2 Ag.out
            go_wp2_with (first|((with_reducible refine gate_callee (f:=39) rfl ?_);refine goesL_ (some 102) rfl rfl Try.func39 (by kernel_rfl) rfl #[.agg #[.int .i64 t288,.slice Ao72 t289.length co72],.int .i64 1] rfl am ?_;(with_reducible refine (laws_markSegJoin.calls B4 t288 (fun k_=>some k_=(.slice Ao72 t289.length co72:Value).ownBlock) (.slice Ao72 t289.length co72) t289 1 t316 t317 w _ ?side1 ?side2 D0.out).mono ?_);(case side1=>exact yu1 HB.out);(case side2=>exact RR_tight rfl Aa.out);rintro e Us ⟨rfl,hy0,hb,hkp⟩;refine ⟨_,rfl,?_⟩;replace Al:=mk_ (kRR (Al.out) hkp (fun k_ hk_ hs_=>(hk_.2.2.2.2) hs_));replace Ak:=mk_ (kRR (Ak.out) hkp (fun k_ hk_ hs_=>(hk_.2.2.2.2) hs_));replace Ab:=mk_ (kRR (Ab.out) hkp (fun k_ hk_ hs_=>(hk_.2.2.2.2) hs_));replace Ac:=mk_ (kRR (Ac.out) hkp (fun k_ hk_ hs_=>(hk_.2.2.2.2) hs_));replace Ad:=mk_ (kRR (Ad.out) hkp (fun k_ hk_ hs_=>(hk_.2.2.2.2) hs_));replace Ae:=mk_ (bk Ae.out hkp (fun e_=>RR_ne Aa.out Ae.out (by decide) e_));replace Af:=mk_ (bk Af.out hkp (fun e_=>RR_ne Aa.out Af.out (by decide) e_));replace Ah:=mk_ (bk Ah.out hkp (fun e_=>RR_ne Aa.out Ah.out (by decide) e_));replace Aj:=mk_ (bk Aj.out hkp (fun e_=>RR_ne Aa.out Aj.out (by decide) e_));replace Ai:=mk_ (bk Ai.out hkp (fun e_=>RR_ne Aa.out Ai.out (by decide) e_));replace Ag:=mk_ (bk Ag.out hkp (fun e_=>RR_ne Aa.out Ag.out (by decide) e_));replace Aa:=mk_ (RR_reok rfl hy0 (fun k_ e_=>RR_ok Aa.out k_ e_));replace HB:=mk_ (hb);(try clear hb);(try clear hkp);(try clear hy0);obtain ⟨Ao211,co211,eo211⟩:=RR_slice Ak.out;subst eo211)|((with_reducible refine gate_callee (f:=20) rfl ?_);refine goesL_ (some 105) rfl rfl Try.func20 (by kernel_rfl) rfl #[.slice Ao211 t292.length co211,.int .i64 t316] rfl am ?_;(with_reducible refine (laws_markByteS.calls B4 (fun k_=>some k_=(.slice Ao211 t292.length co211:Value).ownBlock) (.slice Ao211 t292.length co211) t292 t316 t318 t319 w _ ?side1 ?side2 Ed.out).mono ?_);(case side1=>exact yu1 HB.out);(case side2=>exact RR_tight rfl Ak.out);rintro e Ut ⟨rfl,hy0,hb,hkp⟩;refine ⟨_,rfl,?_⟩;replace Al:=mk_ (kRR (Al.out) hkp (fun k_ hk_ hs_=>(hk_.1) hs_));replace Ab:=mk_ (kRR (Ab.out) hkp (fun k_ hk_ hs_=>(hk_.2.1) hs_));replace Ac:=mk_ (kRR (Ac.out) hkp (fun k_ hk_ hs_=>(hk_.2.1) hs_));replace Ad:=mk_ (kRR (Ad.out) hkp (fun k_ hk_ hs_=>(hk_.2.1) hs_));replace Aa:=mk_ (kRR (Aa.out) hkp (fun k_ hk_ hs_=>(hk_.2.1) hs_));replace Ae:=mk_ (bk Ae.out hkp (fun e_=>RR_ne Ak.out Ae.out (by decide) e_));replace Af:=mk_ (bk Af.out hkp (fun e_=>RR_ne Ak.out Af.out (by decide) e_));replace Ah:=mk_ (bk Ah.out hkp (fun e_=>RR_ne Ak.out Ah.out (by decide) e_));replace Aj:=mk_ (bk Aj.out hkp (fun e_=>RR_ne Ak.out Aj.out (by decide) e_));replace Ai:=mk_ (bk Ai.out hkp (fun e_=>RR_ne Ak.out Ai.out (by decide) e_));replace Ag:=mk_ (bk Ag.out hkp (fun e_=>RR_ne Ak.out Ag.out (by decide) e_));replace Ak:=mk_ (RR_reok rfl hy0 (fun k_ e_=>RR_ok Ak.out k_ e_));replace HB:=mk_ (hb);(try clear hb);(try clear hkp);(try clear hy0);obtain ⟨Jk,Jl⟩:=cz2 Ag.out;obtain ⟨Jm,Jn⟩:=fz2 Ag.out)|((with_reducible refine gate_callee (f:=41) rfl ?_);refine goesL_ (some 108) rfl rfl Try.func41 (by kernel_rfl) rfl #[.agg #[.int .i64 t288,.slice Ao72 t317.length co72],.int .i64 1] rfl (by (try simp only [List.map_toArray,List.map_cons,List.map_nil]);first|done|(rw [show t317.length=t289.length from (RR_reads' Aa.out).1.symm] <;> rfl)|rfl|(simp only [List.length_drop,List.length_take];rfl)) ?_;(with_reducible refine (laws_heldSegJoin.calls B4 t288 _ _ t317 1 t320 _ ?side1 ?side2 Ee.out).mono ?_);(case side1=>exact mC (RR_reads' Aa.out).2.2);(case side2=>rw [show t317.length=t289.length from (RR_reads' Aa.out).1.symm];exact (RR_reads' Aa.out).2.1);rintro e Uu ⟨rfl,hb⟩;refine ⟨_,rfl,?_⟩;replace Al:=mk_ (RR_below (mRR Al.out) hb);replace Ak:=mk_ (RR_below (mRR Ak.out) hb);replace Ab:=mk_ (RR_below (mRR Ab.out) hb);replace Ac:=mk_ (RR_below (mRR Ac.out) hb);replace Ad:=mk_ (RR_below (mRR Ad.out) hb);replace Aa:=mk_ (RR_below (mRR Aa.out) hb);replace Ae:=mk_ (zq6 (by exact Ae.out) hb);replace Af:=mk_ (zq6 (by exact Af.out) hb);replace Ah:=mk_ (zq6 (by exact Ah.out) hb);replace Aj:=mk_ (zq6 (by exact Aj.out) hb);replace Ai:=mk_ (zq6 (by exact Ai.out) hb);replace Ag:=mk_ (zq6 (by exact Ag.out) hb);replace HB:=mk_ (zr3 (yu1 HB.out) hb);(try clear hb);(try clear hb2);(try clear hk);(try clear hi)))
            go_ret
            exact ⟨by first|rfl|(simp [errW_none,errW_some] <;> rfl)|(simp [*,errW_none,errW_some] <;> rfl),by exact yu1 HB.out⟩
           ·rw [if_neg c203] at H
            have c203b0:decide (t320<0)=false:=decide_eq_false c203
            clear c203
            replace H:=Option.bind_eq_some_iff.mp H
            obtain ⟨t321,G0,H⟩:=H
            try dsimp only at H
            have Fv:=mk_ G0
            clear G0
            by_cases c216:t321<0
            ·rw [if_pos c216] at H
             have c216b0:decide (t321<0)=true:=decide_eq_true c216
             clear c216
             obtain rfl:=Option.some.inj H
             have Oi:=Cq.out
             have Oj:=Cf.out
             have Ok:=Cr.out
             have Ol:=Cg.out
             have Om:=Ck.out
             have On:=B9.out
             have Oo:=Cm.out
             have Op:=Cb.out
             have Oq:=Cn.out
             have Os:=Cc.out
             obtain ⟨Jo,Jp⟩:=cz2 Ag.out
             obtain ⟨Jq,Jr⟩:=fz2 Ag.out
             go_wp2_with (first|((with_reducible refine gate_callee (f:=39) rfl ?_);refine goesL_ (some 102) rfl rfl Try.func39 (by kernel_rfl) rfl #[.agg #[.int .i64 t288,.slice Ao72 t289.length co72],.int .i64 1] rfl am ?_;(with_reducible refine (laws_markSegJoin.calls B4 t288 (fun k_=>some k_=(.slice Ao72 t289.length co72:Value).ownBlock) (.slice Ao72 t289.length co72) t289 1 t316 t317 w _ ?side1 ?side2 D0.out).mono ?_);(case side1=>exact yu1 HB.out);(case side2=>exact RR_tight rfl Aa.out);rintro e Uv ⟨rfl,hy0,hb,hkp⟩;refine ⟨_,rfl,?_⟩;replace Al:=mk_ (kRR (Al.out) hkp (fun k_ hk_ hs_=>(hk_.2.2.2.2) hs_));replace Ak:=mk_ (kRR (Ak.out) hkp (fun k_ hk_ hs_=>(hk_.2.2.2.2) hs_));replace Ab:=mk_ (kRR (Ab.out) hkp (fun k_ hk_ hs_=>(hk_.2.2.2.2) hs_));replace Ac:=mk_ (kRR (Ac.out) hkp (fun k_ hk_ hs_=>(hk_.2.2.2.2) hs_));replace Ad:=mk_ (kRR (Ad.out) hkp (fun k_ hk_ hs_=>(hk_.2.2.2.2) hs_));replace Ae:=mk_ (bk Ae.out hkp (fun e_=>RR_ne Aa.out Ae.out (by decide) e_));replace Af:=mk_ (bk Af.out hkp (fun e_=>RR_ne Aa.out Af.out (by decide) e_));replace Ah:=mk_ (bk Ah.out hkp (fun e_=>RR_ne Aa.out Ah.out (by decide) e_));replace Aj:=mk_ (bk Aj.out hkp (fun e_=>RR_ne Aa.out Aj.out (by decide) e_));replace Ai:=mk_ (bk Ai.out hkp (fun e_=>RR_ne Aa.out Ai.out (by decide) e_));replace Ag:=mk_ (bk Ag.out hkp (fun e_=>RR_ne Aa.out Ag.out (by decide) e_));replace Aa:=mk_ (RR_reok rfl hy0 (fun k_ e_=>RR_ok Aa.out k_ e_));replace HB:=mk_ (hb);(try clear hb);(try clear hkp);(try clear hy0);obtain ⟨Ao224,co224,eo224⟩:=RR_slice Ak.out;subst eo224)|((with_reducible refine gate_callee (f:=20) rfl ?_);refine goesL_ (some 105) rfl rfl Try.func20 (by kernel_rfl) rfl #[.slice Ao224 t292.length co224,.int .i64 t316] rfl am ?_;(with_reducible refine (laws_markByteS.calls B4 (fun k_=>some k_=(.slice Ao224 t292.length co224:Value).ownBlock) (.slice Ao224 t292.length co224) t292 t316 t318 t319 w _ ?side1 ?side2 Ed.out).mono ?_);(case side1=>exact yu1 HB.out);(case side2=>exact RR_tight rfl Ak.out);rintro e Uw ⟨rfl,hy0,hb,hkp⟩;refine ⟨_,rfl,?_⟩;replace Al:=mk_ (kRR (Al.out) hkp (fun k_ hk_ hs_=>(hk_.1) hs_));replace Ab:=mk_ (kRR (Ab.out) hkp (fun k_ hk_ hs_=>(hk_.2.1) hs_));replace Ac:=mk_ (kRR (Ac.out) hkp (fun k_ hk_ hs_=>(hk_.2.1) hs_));replace Ad:=mk_ (kRR (Ad.out) hkp (fun k_ hk_ hs_=>(hk_.2.1) hs_));replace Aa:=mk_ (kRR (Aa.out) hkp (fun k_ hk_ hs_=>(hk_.2.1) hs_));replace Ae:=mk_ (bk Ae.out hkp (fun e_=>RR_ne Ak.out Ae.out (by decide) e_));replace Af:=mk_ (bk Af.out hkp (fun e_=>RR_ne Ak.out Af.out (by decide) e_));replace Ah:=mk_ (bk Ah.out hkp (fun e_=>RR_ne Ak.out Ah.out (by decide) e_));replace Aj:=mk_ (bk Aj.out hkp (fun e_=>RR_ne Ak.out Aj.out (by decide) e_));replace Ai:=mk_ (bk Ai.out hkp (fun e_=>RR_ne Ak.out Ai.out (by decide) e_));replace Ag:=mk_ (bk Ag.out hkp (fun e_=>RR_ne Ak.out Ag.out (by decide) e_));replace Ak:=mk_ (RR_reok rfl hy0 (fun k_ e_=>RR_ok Ak.out k_ e_));replace HB:=mk_ (hb);(try clear hb);(try clear hkp);(try clear hy0);obtain ⟨Js,Jt⟩:=cz2 Ag.out;obtain ⟨Ju,Jv⟩:=fz2 Ag.out)|((with_reducible refine gate_callee (f:=41) rfl ?_);refine goesL_ (some 108) rfl rfl Try.func41 (by kernel_rfl) rfl #[.agg #[.int .i64 t288,.slice Ao72 t317.length co72],.int .i64 1] rfl (by (try simp only [List.map_toArray,List.map_cons,List.map_nil]);first|done|(rw [show t317.length=t289.length from (RR_reads' Aa.out).1.symm] <;> rfl)|rfl|(simp only [List.length_drop,List.length_take];rfl)) ?_;(with_reducible refine (laws_heldSegJoin.calls B4 t288 _ _ t317 1 t320 _ ?side1 ?side2 Ee.out).mono ?_);(case side1=>exact mC (RR_reads' Aa.out).2.2);(case side2=>rw [show t317.length=t289.length from (RR_reads' Aa.out).1.symm];exact (RR_reads' Aa.out).2.1);rintro e Ux ⟨rfl,hb⟩;refine ⟨_,rfl,?_⟩;replace Al:=mk_ (RR_below (mRR Al.out) hb);replace Ak:=mk_ (RR_below (mRR Ak.out) hb);replace Ab:=mk_ (RR_below (mRR Ab.out) hb);replace Ac:=mk_ (RR_below (mRR Ac.out) hb);replace Ad:=mk_ (RR_below (mRR Ad.out) hb);replace Aa:=mk_ (RR_below (mRR Aa.out) hb);replace Ae:=mk_ (zq6 (by exact Ae.out) hb);replace Af:=mk_ (zq6 (by exact Af.out) hb);replace Ah:=mk_ (zq6 (by exact Ah.out) hb);replace Aj:=mk_ (zq6 (by exact Aj.out) hb);replace Ai:=mk_ (zq6 (by exact Ai.out) hb);replace Ag:=mk_ (zq6 (by exact Ag.out) hb);replace HB:=mk_ (zr3 (yu1 HB.out) hb);(try clear hb);(try clear hb2);(try clear hk);(try clear hi))|((with_reducible refine gate_callee (f:=42) rfl ?_);refine goesL_ (some 113) rfl rfl Try.func42 (by kernel_rfl) rfl #[.slice Ao224 t319.length co224,.int .i64 t320] rfl (by (try simp only [List.map_toArray,List.map_cons,List.map_nil]);first|done|(rw [show t319.length=t292.length from (RR_reads' Ak.out).1.symm] <;> rfl)|rfl|(simp only [List.length_drop,List.length_take];rfl)) ?_;(with_reducible refine (laws_heldByteS.calls B4 _ _ t319 t320 t321 _ ?side1 ?side2 Fv.out).mono ?_);(case side1=>exact mC (RR_reads' Ak.out).2.2);(case side2=>rw [show t319.length=t292.length from (RR_reads' Ak.out).1.symm];exact (RR_reads' Ak.out).2.1);rintro e w' ⟨rfl,⟨nd,rfl⟩⟩;refine ⟨_,rfl,?_⟩))
             go_ret
             exact ⟨by first|rfl|(simp [errW_none,errW_some] <;> rfl)|(simp [*,errW_none,errW_some] <;> rfl),by exact yu1 HB.out⟩
            ·rw [if_neg c216] at H
             have c216b0:decide (t321<0)=false:=decide_eq_false c216
             clear c216
             by_cases c228:t321=t318
             ·rw [if_pos c228] at H
              have c228b0:(t321 == t318)=true:=beq_iff_eq.mpr c228
              have c228b1:(t321 != t318)=false:=bne_eq_false_iff_eq.mpr c228
              clear c228
              replace H:=Option.bind_eq_some_iff.mp H
              obtain ⟨⟨t322,t323⟩,G1,H⟩:=H
              try dsimp only at H
              have Jw:=mk_ G1
              clear G1
              replace H:=Option.bind_eq_some_iff.mp H
              obtain ⟨⟨t326,t327,t328⟩,G2,H⟩:=H
              try dsimp only at H
              have Eb:=mk_ G2
              clear G2
              replace H:=Option.bind_eq_some_iff.mp H
              obtain ⟨⟨t331,t332,t335,t338⟩,G3,H⟩:=H
              try dsimp only at H
              have Jx:=mk_ G3
              clear G3
              have Ef:=mk_ H
              clear H
              have Ot:=Cq.out
              have Ou:=Cf.out
              have Ov:=Cr.out
              have Ow:=Cg.out
              have Ox:=Ck.out
              have Oy:=B9.out
              have Oz:=Cm.out
              have O0:=Cb.out
              have O1:=Cn.out
              have O2:=Cc.out
              obtain ⟨Jy,Jz⟩:=cz2 Ag.out
              obtain ⟨J0,J1⟩:=fz2 Ag.out
              try go_wp2_with (first|((with_reducible refine gate_callee (f:=39) rfl ?_);refine goesL_ (some 102) rfl rfl Try.func39 (by kernel_rfl) rfl #[.agg #[.int .i64 t288,.slice Ao72 t289.length co72],.int .i64 1] rfl am ?_;(with_reducible refine (laws_markSegJoin.calls B4 t288 (fun k_=>some k_=(.slice Ao72 t289.length co72:Value).ownBlock) (.slice Ao72 t289.length co72) t289 1 t316 t317 w _ ?side1 ?side2 D0.out).mono ?_);(case side1=>exact yu1 HB.out);(case side2=>exact RR_tight rfl Aa.out);rintro e Uy ⟨rfl,hy0,hb,hkp⟩;refine ⟨_,rfl,?_⟩;replace Al:=mk_ (kRR (Al.out) hkp (fun k_ hk_ hs_=>(hk_.2.2.2.2) hs_));replace Ak:=mk_ (kRR (Ak.out) hkp (fun k_ hk_ hs_=>(hk_.2.2.2.2) hs_));replace Ab:=mk_ (kRR (Ab.out) hkp (fun k_ hk_ hs_=>(hk_.2.2.2.2) hs_));replace Ac:=mk_ (kRR (Ac.out) hkp (fun k_ hk_ hs_=>(hk_.2.2.2.2) hs_));replace Ad:=mk_ (kRR (Ad.out) hkp (fun k_ hk_ hs_=>(hk_.2.2.2.2) hs_));replace Ae:=mk_ (bk Ae.out hkp (fun e_=>RR_ne Aa.out Ae.out (by decide) e_));replace Af:=mk_ (bk Af.out hkp (fun e_=>RR_ne Aa.out Af.out (by decide) e_));replace Ah:=mk_ (bk Ah.out hkp (fun e_=>RR_ne Aa.out Ah.out (by decide) e_));replace Aj:=mk_ (bk Aj.out hkp (fun e_=>RR_ne Aa.out Aj.out (by decide) e_));replace Ai:=mk_ (bk Ai.out hkp (fun e_=>RR_ne Aa.out Ai.out (by decide) e_));replace Ag:=mk_ (bk Ag.out hkp (fun e_=>RR_ne Aa.out Ag.out (by decide) e_));replace Aa:=mk_ (RR_reok rfl hy0 (fun k_ e_=>RR_ok Aa.out k_ e_));replace HB:=mk_ (hb);(try clear hb);(try clear hkp);(try clear hy0);obtain ⟨Ao240,co240,eo240⟩:=RR_slice Ak.out;subst eo240)|((with_reducible refine gate_callee (f:=20) rfl ?_);refine goesL_ (some 105) rfl rfl Try.func20 (by kernel_rfl) rfl #[.slice Ao240 t292.length co240,.int .i64 t316] rfl am ?_;(with_reducible refine (laws_markByteS.calls B4 (fun k_=>some k_=(.slice Ao240 t292.length co240:Value).ownBlock) (.slice Ao240 t292.length co240) t292 t316 t318 t319 w _ ?side1 ?side2 Ed.out).mono ?_);(case side1=>exact yu1 HB.out);(case side2=>exact RR_tight rfl Ak.out);rintro e Uz ⟨rfl,hy0,hb,hkp⟩;refine ⟨_,rfl,?_⟩;replace Al:=mk_ (kRR (Al.out) hkp (fun k_ hk_ hs_=>(hk_.1) hs_));replace Ab:=mk_ (kRR (Ab.out) hkp (fun k_ hk_ hs_=>(hk_.2.1) hs_));replace Ac:=mk_ (kRR (Ac.out) hkp (fun k_ hk_ hs_=>(hk_.2.1) hs_));replace Ad:=mk_ (kRR (Ad.out) hkp (fun k_ hk_ hs_=>(hk_.2.1) hs_));replace Aa:=mk_ (kRR (Aa.out) hkp (fun k_ hk_ hs_=>(hk_.2.1) hs_));replace Ae:=mk_ (bk Ae.out hkp (fun e_=>RR_ne Ak.out Ae.out (by decide) e_));replace Af:=mk_ (bk Af.out hkp (fun e_=>RR_ne Ak.out Af.out (by decide) e_));replace Ah:=mk_ (bk Ah.out hkp (fun e_=>RR_ne Ak.out Ah.out (by decide) e_));replace Aj:=mk_ (bk Aj.out hkp (fun e_=>RR_ne Ak.out Aj.out (by decide) e_));replace Ai:=mk_ (bk Ai.out hkp (fun e_=>RR_ne Ak.out Ai.out (by decide) e_));replace Ag:=mk_ (bk Ag.out hkp (fun e_=>RR_ne Ak.out Ag.out (by decide) e_));replace Ak:=mk_ (RR_reok rfl hy0 (fun k_ e_=>RR_ok Ak.out k_ e_));replace HB:=mk_ (hb);(try clear hb);(try clear hkp);(try clear hy0);obtain ⟨J2,J3⟩:=cz2 Ag.out;obtain ⟨J4,J5⟩:=fz2 Ag.out)|((with_reducible refine gate_callee (f:=41) rfl ?_);refine goesL_ (some 108) rfl rfl Try.func41 (by kernel_rfl) rfl #[.agg #[.int .i64 t288,.slice Ao72 t317.length co72],.int .i64 1] rfl (by (try simp only [List.map_toArray,List.map_cons,List.map_nil]);first|done|(rw [show t317.length=t289.length from (RR_reads' Aa.out).1.symm] <;> rfl)|rfl|(simp only [List.length_drop,List.length_take];rfl)) ?_;(with_reducible refine (laws_heldSegJoin.calls B4 t288 _ _ t317 1 t320 _ ?side1 ?side2 Ee.out).mono ?_);(case side1=>exact mC (RR_reads' Aa.out).2.2);(case side2=>rw [show t317.length=t289.length from (RR_reads' Aa.out).1.symm];exact (RR_reads' Aa.out).2.1);rintro e Dg ⟨rfl,hb⟩;refine ⟨_,rfl,?_⟩;replace Al:=mk_ (RR_below (mRR Al.out) hb);replace Ak:=mk_ (RR_below (mRR Ak.out) hb);replace Ab:=mk_ (RR_below (mRR Ab.out) hb);replace Ac:=mk_ (RR_below (mRR Ac.out) hb);replace Ad:=mk_ (RR_below (mRR Ad.out) hb);replace Aa:=mk_ (RR_below (mRR Aa.out) hb);replace Ae:=mk_ (zq6 (by exact Ae.out) hb);replace Af:=mk_ (zq6 (by exact Af.out) hb);replace Ah:=mk_ (zq6 (by exact Ah.out) hb);replace Aj:=mk_ (zq6 (by exact Aj.out) hb);replace Ai:=mk_ (zq6 (by exact Ai.out) hb);replace Ag:=mk_ (zq6 (by exact Ag.out) hb);replace HB:=mk_ (zr3 (yu1 HB.out) hb);(try clear hb);(try clear hb2);(try clear hk);(try clear hi))|((with_reducible refine gate_callee (f:=42) rfl ?_);refine goesL_ (some 113) rfl rfl Try.func42 (by kernel_rfl) rfl #[.slice Ao240 t319.length co240,.int .i64 t320] rfl (by (try simp only [List.map_toArray,List.map_cons,List.map_nil]);first|done|(rw [show t319.length=t292.length from (RR_reads' Ak.out).1.symm] <;> rfl)|rfl|(simp only [List.length_drop,List.length_take];rfl)) ?_;(with_reducible refine (laws_heldByteS.calls B4 _ _ t319 t320 t321 _ ?side1 ?side2 Fv.out).mono ?_);(case side1=>exact mC (RR_reads' Ak.out).2.2);(case side2=>rw [show t319.length=t292.length from (RR_reads' Ak.out).1.symm];exact (RR_reads' Ak.out).2.1);rintro e w' ⟨rfl,⟨nd,rfl⟩⟩;refine ⟨_,rfl,?_⟩;(try (rw [drewN_self Dg];generalize hq_:World.drewN Dg _=Dg;have n0_:Aside0 (RR ku 5 Dg w.heap.size (fun k_=>some k_≠(v270:Value).ownBlock∧some k_≠(.slice Ao52 t311.length co52:Value).ownBlock∧some k_≠(.slice Ao62 t313.length co62:Value).ownBlock∧some k_≠(.slice Ao72 t289.length co72:Value).ownBlock∧some k_≠(v273:Value).ownBlock) (.slice Ao240 t292.length co240) t319):=⟨by rw [← hq_];exact (by (with_reducible repeat (first|apply RR_alloc|apply RR_drewN|apply RR_drew));exact RR_mono Ak.out (fun _ hk=>⟨hk.2.1,⟨hk.2.2.1,⟨hk.2.2.2.1,⟨hk.2.2.2.2,hk.1⟩⟩⟩⟩))⟩;have n1_:Aside0 (RR ku 5 Dg w.heap.size (fun k_=>some k_≠(.slice Ao240 t292.length co240:Value).ownBlock∧some k_≠(.slice Ao52 t311.length co52:Value).ownBlock∧some k_≠(.slice Ao62 t313.length co62:Value).ownBlock∧some k_≠(.slice Ao72 t289.length co72:Value).ownBlock∧some k_≠(v273:Value).ownBlock) v270 t269):=⟨by rw [← hq_];exact (by (with_reducible repeat (first|apply RR_alloc|apply RR_drewN|apply RR_drew));exact RR_mono Ab.out (fun _ hk=>⟨hk.2.1,⟨hk.2.2.1,⟨hk.2.2.2.1,⟨hk.2.2.2.2,hk.1⟩⟩⟩⟩))⟩;have n2_:Aside0 (RR ku 5 Dg w.heap.size (fun k_=>some k_≠(.slice Ao240 t292.length co240:Value).ownBlock∧some k_≠(v270:Value).ownBlock∧some k_≠(.slice Ao62 t313.length co62:Value).ownBlock∧some k_≠(.slice Ao72 t289.length co72:Value).ownBlock∧some k_≠(v273:Value).ownBlock) (.slice Ao52 t311.length co52) t311):=⟨by rw [← hq_];exact (by (with_reducible repeat (first|apply RR_alloc|apply RR_drewN|apply RR_drew));exact RR_mono Ac.out (fun _ hk=>⟨hk.2.1,⟨hk.2.2.1,⟨hk.2.2.2.1,⟨hk.2.2.2.2,hk.1⟩⟩⟩⟩))⟩;have n3_:Aside0 (RR ku 5 Dg w.heap.size (fun k_=>some k_≠(.slice Ao240 t292.length co240:Value).ownBlock∧some k_≠(v270:Value).ownBlock∧some k_≠(.slice Ao52 t311.length co52:Value).ownBlock∧some k_≠(.slice Ao72 t289.length co72:Value).ownBlock∧some k_≠(v273:Value).ownBlock) (.slice Ao62 t313.length co62) t313):=⟨by rw [← hq_];exact (by (with_reducible repeat (first|apply RR_alloc|apply RR_drewN|apply RR_drew));exact RR_mono Ad.out (fun _ hk=>⟨hk.2.1,⟨hk.2.2.1,⟨hk.2.2.2.1,⟨hk.2.2.2.2,hk.1⟩⟩⟩⟩))⟩;have n4_:Aside0 (RR ku 5 Dg w.heap.size (fun k_=>some k_≠(.slice Ao240 t292.length co240:Value).ownBlock∧some k_≠(v270:Value).ownBlock∧some k_≠(.slice Ao52 t311.length co52:Value).ownBlock∧some k_≠(.slice Ao62 t313.length co62:Value).ownBlock∧some k_≠(v273:Value).ownBlock) (.slice Ao72 t289.length co72) t317):=⟨by rw [← hq_];exact (by (with_reducible repeat (first|apply RR_alloc|apply RR_drewN|apply RR_drew));exact RR_mono Aa.out (fun _ hk=>⟨hk.2.1,⟨hk.2.2.1,⟨hk.2.2.2.1,⟨hk.2.2.2.2,hk.1⟩⟩⟩⟩))⟩;have n5_:Aside0 (RR ku 5 Dg w.heap.size (fun k_=>some k_≠(.slice Ao240 t292.length co240:Value).ownBlock∧some k_≠(v270:Value).ownBlock∧some k_≠(.slice Ao52 t311.length co52:Value).ownBlock∧some k_≠(.slice Ao62 t313.length co62:Value).ownBlock∧some k_≠(.slice Ao72 t289.length co72:Value).ownBlock) v273 t272):=⟨by rw [← hq_];exact (mRR Al.out)⟩;have n6_:Aside0 (Dg.heap[gb255]? =some (.cells #[.int .i64 a0_0,.slice A0_1 l0_1.length c0_1] 46 (0,0))):=⟨by rw [← hq_];exact (by exact Ae.out)⟩;have n7_:Aside0 (Dg.heap[gb256]? =some (.cells #[.int .i64 a1_0,.int .i64 a1_1,.slice A1_2 l1_2.length c1_2] 47 (0,0))):=⟨by rw [← hq_];exact (by exact Af.out)⟩;have n8_:Aside0 (Dg.heap[gb276]? =some (.cells #[.int .i64 t268,v270] 35 (0,0))):=⟨by rw [← hq_];exact (by exact Ah.out)⟩;have n9_:Aside0 (Dg.heap[gb281]? =some (.cells #[.int .i64 t277,.slice Ao52 t311.length co52] 35 (0,0))):=⟨by rw [← hq_];exact (by exact Aj.out)⟩;have n10_:Aside0 (Dg.heap[gb287]? =some (.cells #[.int .i64 t282,.int .i64 t283,.slice Ao62 t313.length co62] 39 (0,0))):=⟨by rw [← hq_];exact (by exact Ai.out)⟩;have n11_:Aside0 (Dg.heap[gb296]? =some (.cells #[.int .i64 t288,.slice Ao72 t289.length co72] 35 (0,0))):=⟨by rw [← hq_];exact (by exact Ag.out)⟩;have n12_:Aside0 (Below w.heap.size w Dg):=⟨by rw [← hq_];exact (yu1 HB.out)⟩;clear Ak Ab Ac Ad Aa Al Ae Af Ah Aj Ai Ag HB hq_;have Ak:=n0_;have Ab:=n1_;have Ac:=n2_;have Ad:=n3_;have Aa:=n4_;have Al:=n5_;have Ae:=n6_;have Af:=n7_;have Ah:=n8_;have Aj:=n9_;have Ai:=n10_;have Ag:=n11_;have HB:=n12_;clear n0_ n1_ n2_ n3_ n4_ n5_ n6_ n7_ n8_ n9_ n10_ n11_ n12_))))
              replace Al:=mk_ (RR_drew Al.out)
              replace Ak:=mk_ (RR_drew Ak.out)
              replace Ab:=mk_ (RR_drew Ab.out)
              replace Ac:=mk_ (RR_drew Ac.out)
              replace Ad:=mk_ (RR_drew Ad.out)
              replace Aa:=mk_ (RR_drew Aa.out)
              replace Ae:=mk_ (zq2 Ae.out)
              replace Af:=mk_ (zq2 Af.out)
              replace Ah:=mk_ (zq2 Ah.out)
              replace Aj:=mk_ (zq2 Aj.out)
              replace Ai:=mk_ (zq2 Ai.out)
              replace Ag:=mk_ (zq2 Ag.out)
              replace HB:=mk_ (zq9 HB.out)
              refine start_ (n:=13) (S:=fun w'=>True) (ds:=[]) (bm 13 0) (by kernel_rfl) rfl rfl trivial (fun hHeld=>?_);refine with_tabW laws_FnExactSegPut.tab35 laws_FnExactSegPut.bits35 (fun HT_ HW_=>?_)
              generalize Dg.drew=U0 at Al Ak Ab Ac Ad Aa Ae Af Ah Aj Ai Ag HB hHeld ⊢
              refine inv_at [0,1,2,3,4,5,6,7,8,9,10,11,12] (fun a0_ b a w'=>∃ (v324:Value) (v329:Value) (v333:Value) (v336:Value) (gb339:Nat) (m1_:Value) (m3_:Value) (m4_:Value) (m5_:Value) (m6_:Value) (m7_:Value) (m9_:Value) (m11_:Value),a=putSel a0_ b [(0,120,.agg #[.int .i64 a0_0,.slice A0_1 l0_1.length c0_1]),(1,121,m1_),(2,122,.agg #[.int .i64 a1_0,.int .i64 a1_1,.slice A1_2 l1_2.length c1_2]),(3,123,m3_),(4,124,m4_),(5,119,m5_),(6,125,m6_),(7,126,m7_),(8,127,.int .i64 t338),(9,17,m9_),(11,18,m11_),(12,19,.int .i64 t338)]∧(RR ku 5 w' w.heap.size (fun k_=>(b 1=true→some k_≠(v324:Value).ownBlock)∧(b 3=true→some k_≠(v329:Value).ownBlock)∧(b 4=true→some k_≠(v333:Value).ownBlock)∧(b 4=true→some k_≠(v336:Value).ownBlock)∧some k_≠(v270:Value).ownBlock∧some k_≠(.slice Ao52 t311.length co52:Value).ownBlock∧some k_≠(.slice Ao62 t313.length co62:Value).ownBlock∧some k_≠(.slice Ao72 t289.length co72:Value).ownBlock∧some k_≠(v273:Value).ownBlock) (.slice Ao240 t292.length co240) t319)∧(RR ku 5 w' w.heap.size (fun k_=>(b 1=true→some k_≠(v324:Value).ownBlock)∧(b 3=true→some k_≠(v329:Value).ownBlock)∧(b 4=true→some k_≠(v333:Value).ownBlock)∧(b 4=true→some k_≠(v336:Value).ownBlock)∧some k_≠(.slice Ao240 t292.length co240:Value).ownBlock∧some k_≠(.slice Ao52 t311.length co52:Value).ownBlock∧some k_≠(.slice Ao62 t313.length co62:Value).ownBlock∧some k_≠(.slice Ao72 t289.length co72:Value).ownBlock∧some k_≠(v273:Value).ownBlock) v270 t269)∧(RR ku 5 w' w.heap.size (fun k_=>(b 1=true→some k_≠(v324:Value).ownBlock)∧(b 3=true→some k_≠(v329:Value).ownBlock)∧(b 4=true→some k_≠(v333:Value).ownBlock)∧(b 4=true→some k_≠(v336:Value).ownBlock)∧some k_≠(.slice Ao240 t292.length co240:Value).ownBlock∧some k_≠(v270:Value).ownBlock∧some k_≠(.slice Ao62 t313.length co62:Value).ownBlock∧some k_≠(.slice Ao72 t289.length co72:Value).ownBlock∧some k_≠(v273:Value).ownBlock) (.slice Ao52 t311.length co52) t311)∧(RR ku 5 w' w.heap.size (fun k_=>(b 1=true→some k_≠(v324:Value).ownBlock)∧(b 3=true→some k_≠(v329:Value).ownBlock)∧(b 4=true→some k_≠(v333:Value).ownBlock)∧(b 4=true→some k_≠(v336:Value).ownBlock)∧some k_≠(.slice Ao240 t292.length co240:Value).ownBlock∧some k_≠(v270:Value).ownBlock∧some k_≠(.slice Ao52 t311.length co52:Value).ownBlock∧some k_≠(.slice Ao72 t289.length co72:Value).ownBlock∧some k_≠(v273:Value).ownBlock) (.slice Ao62 t313.length co62) t313)∧(RR ku 5 w' w.heap.size (fun k_=>(b 1=true→some k_≠(v324:Value).ownBlock)∧(b 3=true→some k_≠(v329:Value).ownBlock)∧(b 4=true→some k_≠(v333:Value).ownBlock)∧(b 4=true→some k_≠(v336:Value).ownBlock)∧some k_≠(.slice Ao240 t292.length co240:Value).ownBlock∧some k_≠(v270:Value).ownBlock∧some k_≠(.slice Ao52 t311.length co52:Value).ownBlock∧some k_≠(.slice Ao62 t313.length co62:Value).ownBlock∧some k_≠(v273:Value).ownBlock) (.slice Ao72 t289.length co72) t317)∧(RR ku 5 w' w.heap.size (fun k_=>(b 1=true→some k_≠(v324:Value).ownBlock)∧(b 3=true→some k_≠(v329:Value).ownBlock)∧(b 4=true→some k_≠(v333:Value).ownBlock)∧(b 4=true→some k_≠(v336:Value).ownBlock)∧some k_≠(.slice Ao240 t292.length co240:Value).ownBlock∧some k_≠(v270:Value).ownBlock∧some k_≠(.slice Ao52 t311.length co52:Value).ownBlock∧some k_≠(.slice Ao62 t313.length co62:Value).ownBlock∧some k_≠(.slice Ao72 t289.length co72:Value).ownBlock) v273 t272)∧(w'.heap[gb255]? =some (.cells #[.int .i64 a0_0,.slice A0_1 l0_1.length c0_1] 46 (0,0)))∧(w'.heap[gb256]? =some (.cells #[.int .i64 a1_0,.int .i64 a1_1,.slice A1_2 l1_2.length c1_2] 47 (0,0)))∧(w'.heap[gb276]? =some (.cells #[.int .i64 t268,v270] 35 (0,0)))∧(w'.heap[gb281]? =some (.cells #[.int .i64 t277,.slice Ao52 t311.length co52] 35 (0,0)))∧(w'.heap[gb287]? =some (.cells #[.int .i64 t282,.int .i64 t283,.slice Ao62 t313.length co62] 39 (0,0)))∧(w'.heap[gb296]? =some (.cells #[.int .i64 t288,.slice Ao72 t289.length co72] 35 (0,0)))∧(Below w.heap.size w w')∧(b 1=true→RR ku 5 w' w.heap.size (fun k_=>(b 3=true→some k_≠(v329:Value).ownBlock)∧(b 4=true→some k_≠(v333:Value).ownBlock)∧(b 4=true→some k_≠(v336:Value).ownBlock)∧some k_≠(.slice Ao240 t292.length co240:Value).ownBlock∧some k_≠(v270:Value).ownBlock∧some k_≠(.slice Ao52 t311.length co52:Value).ownBlock∧some k_≠(.slice Ao62 t313.length co62:Value).ownBlock∧some k_≠(.slice Ao72 t289.length co72:Value).ownBlock∧some k_≠(v273:Value).ownBlock) v324 t323)∧(b 3=true→RR ku 5 w' w.heap.size (fun k_=>some k_≠(v324:Value).ownBlock∧(b 4=true→some k_≠(v333:Value).ownBlock)∧(b 4=true→some k_≠(v336:Value).ownBlock)∧some k_≠(.slice Ao240 t292.length co240:Value).ownBlock∧some k_≠(v270:Value).ownBlock∧some k_≠(.slice Ao52 t311.length co52:Value).ownBlock∧some k_≠(.slice Ao62 t313.length co62:Value).ownBlock∧some k_≠(.slice Ao72 t289.length co72:Value).ownBlock∧some k_≠(v273:Value).ownBlock) v329 t328)∧(b 4=true→RR ku 5 w' w.heap.size (fun k_=>some k_≠(v324:Value).ownBlock∧some k_≠(v329:Value).ownBlock∧some k_≠(v336:Value).ownBlock∧some k_≠(.slice Ao240 t292.length co240:Value).ownBlock∧some k_≠(v270:Value).ownBlock∧some k_≠(.slice Ao52 t311.length co52:Value).ownBlock∧some k_≠(.slice Ao62 t313.length co62:Value).ownBlock∧some k_≠(.slice Ao72 t289.length co72:Value).ownBlock∧some k_≠(v273:Value).ownBlock) v333 t332)∧(b 4=true→RR ku 5 w' w.heap.size (fun k_=>some k_≠(v324:Value).ownBlock∧some k_≠(v329:Value).ownBlock∧some k_≠(v333:Value).ownBlock∧some k_≠(.slice Ao240 t292.length co240:Value).ownBlock∧some k_≠(v270:Value).ownBlock∧some k_≠(.slice Ao52 t311.length co52:Value).ownBlock∧some k_≠(.slice Ao62 t313.length co62:Value).ownBlock∧some k_≠(.slice Ao72 t289.length co72:Value).ownBlock∧some k_≠(v273:Value).ownBlock) v336 t335)∧(b 9=true→b 10=false→w'.heap[gb339]? =some (.cells #[.int .i64 0,.slice none 0 0] 35 (0,0)))∧(b 9=true→w.heap.size≤gb339)∧(b 9=true→w.heap.size≤gb339)∧(b 9=true→gb255≠gb339)∧(b 9=true→gb339≠gb255)∧(b 9=true→gb256≠gb339)∧(b 9=true→gb339≠gb256)∧(b 9=true→gb276≠gb339)∧(b 9=true→gb339≠gb276)∧(b 9=true→gb281≠gb339)∧(b 9=true→gb339≠gb281)∧(b 9=true→gb287≠gb339)∧(b 9=true→gb339≠gb287)∧(b 9=true→gb296≠gb339)∧(b 9=true→gb339≠gb296)∧(b 10=true→w'.heap[gb339]? =some (.cells #[.int .i64 t331,v333] 35 (0,0)))∧(b 1=true→(m1_:Value)=.agg #[.int .i64 t322,v324])∧(b 3=true→(m3_:Value)=.agg #[.int .i64 t326,.int .i64 t327,v329])∧(b 4=true→(m4_:Value)=.tuple #[.agg #[.int .i64 t331,v333],v336,.int .i64 t338])∧(b 5=true→(m5_:Value)=.tuple #[.agg #[.int .i64 t331,v333],v336,.int .i64 t338])∧(b 6=true→(m6_:Value)=.agg #[.int .i64 t331,v333])∧(b 7=true→(m7_:Value)=v336)∧(b 9=true→(m9_:Value)=.pointer (some ⟨gb339,0,none⟩))∧(b 11=true→(m11_:Value)=v336)) HT_.out HW_.out (by kernel_rfl) (by kernel_rfl) ?_ ?_ ?_
              ·exact ⟨.bool false,.bool false,.bool false,.bool false,0,.bool false,.bool false,.bool false,.bool false,.bool false,.bool false,.bool false,.bool false,by simp only [putSel,Bool.false_eq_true,if_false],RR_mono Ak.out (fun _ hk=>⟨fun h_=>absurd h_ (by decide),⟨fun h_=>absurd h_ (by decide),⟨fun h_=>absurd h_ (by decide),⟨fun h_=>absurd h_ (by decide),hk⟩⟩⟩⟩),RR_mono Ab.out (fun _ hk=>⟨fun h_=>absurd h_ (by decide),⟨fun h_=>absurd h_ (by decide),⟨fun h_=>absurd h_ (by decide),⟨fun h_=>absurd h_ (by decide),hk⟩⟩⟩⟩),RR_mono Ac.out (fun _ hk=>⟨fun h_=>absurd h_ (by decide),⟨fun h_=>absurd h_ (by decide),⟨fun h_=>absurd h_ (by decide),⟨fun h_=>absurd h_ (by decide),hk⟩⟩⟩⟩),RR_mono Ad.out (fun _ hk=>⟨fun h_=>absurd h_ (by decide),⟨fun h_=>absurd h_ (by decide),⟨fun h_=>absurd h_ (by decide),⟨fun h_=>absurd h_ (by decide),hk⟩⟩⟩⟩),RR_mono Aa.out (fun _ hk=>⟨fun h_=>absurd h_ (by decide),⟨fun h_=>absurd h_ (by decide),⟨fun h_=>absurd h_ (by decide),⟨fun h_=>absurd h_ (by decide),hk⟩⟩⟩⟩),RR_mono Al.out (fun _ hk=>⟨fun h_=>absurd h_ (by decide),⟨fun h_=>absurd h_ (by decide),⟨fun h_=>absurd h_ (by decide),⟨fun h_=>absurd h_ (by decide),hk⟩⟩⟩⟩),Ae.out,Af.out,Ah.out,Aj.out,Ai.out,Ag.out,HB.out,fun h_=>absurd h_ (by decide),fun h_=>absurd h_ (by decide),fun h_=>absurd h_ (by decide),fun h_=>absurd h_ (by decide),fun h_=>absurd h_ (by decide),fun h_=>absurd h_ (by decide),fun h_=>absurd h_ (by decide),fun h_=>absurd h_ (by decide),fun h_=>absurd h_ (by decide),fun h_=>absurd h_ (by decide),fun h_=>absurd h_ (by decide),fun h_=>absurd h_ (by decide),fun h_=>absurd h_ (by decide),fun h_=>absurd h_ (by decide),fun h_=>absurd h_ (by decide),fun h_=>absurd h_ (by decide),fun h_=>absurd h_ (by decide),fun h_=>absurd h_ (by decide),fun h_=>absurd h_ (by decide),fun h_=>absurd h_ (by decide),fun h_=>absurd h_ (by decide),fun h_=>absurd h_ (by decide),fun h_=>absurd h_ (by decide),fun h_=>absurd h_ (by decide),fun h_=>absurd h_ (by decide),fun h_=>absurd h_ (by decide),fun h_=>absurd h_ (by decide),fun h_=>absurd h_ (by decide)⟩
              ·skip
               clear Ae Af Ah Aj Ai Ag HB Ak Ab Ac Ad Aa Al
               refine steps_cons ?_ ?_
               ·rintro b a w' ⟨v324,v329,v333,v336,gb339,m1_,m3_,m4_,m5_,m6_,m7_,m9_,m11_,ha,Bd,Ap,Aq,Ar,As,Bu,Am,An,Ao,Be,Bf,Bg,Ba,Bo,Bt,B1,B2,Ch,B7,B8,Ax,Ay,Az,A0,A1,A2,A4,A5,A6,A7,A8,A9,Bl,Bc,Bh,Bm,Bi,Bv,Bw,Bb,Ca⟩ hb_ hon hoff
                refine ⟨_,rfl,fun K hK=>?_⟩
                have e2:a.tmps[2]? =some (.pointer (some ⟨gb255,0,none⟩)):=by rw [ha];exact (putSel_off rfl).trans rfl
                replace ha:=mk_ ha
                have Ak:=mk_ Bd
                have Ab:=mk_ Ap
                have Ac:=mk_ Aq
                have Ad:=mk_ Ar
                have Aa:=mk_ As
                have Al:=mk_ Bu
                have Ae:=mk_ Am
                have Af:=mk_ An
                have Ah:=mk_ Ao
                have Aj:=mk_ Be
                have Ai:=mk_ Bf
                have Ag:=mk_ Bg
                have HB:=mk_ Ba
                have hc0_:w'.cell? ⟨gb255,0,none⟩=some (.int .i64 a0_0):=(zr4 Ae.out 0).trans rfl
                have hc1_:w'.cell? ⟨gb255,1,none⟩=some (.slice A0_1 l0_1.length c0_1):=(zr4 Ae.out 1).trans rfl
                refine value_ (w1:=w') (v:=.agg #[.int .i64 a0_0,.slice A0_1 l0_1.length c0_1]) (by rfl) rfl ?_ ?_
                ·go_simp
                 (try simp only [i64_w])
                 try rfl
                refine hK.out _ _ ⟨v324,v329,v333,v336,gb339,m1_,m3_,m4_,m5_,m6_,m7_,m9_,m11_,(by rw [ha.out];exact putSel_upk 0 hb_ rfl rfl rfl),Bd,Ap,Aq,Ar,As,Bu,Am,An,Ao,Be,Bf,Bg,Ba,fun h0_=>nh (hoff 1 (by kernel_rfl)) h0_,fun h0_=>nh (hoff 3 (by kernel_rfl)) h0_,fun h0_=>nh (hoff 4 (by kernel_rfl)) h0_,fun h0_=>nh (hoff 4 (by kernel_rfl)) h0_,Ch,B7,B8,Ax,Ay,Az,A0,A1,A2,A4,A5,A6,A7,A8,A9,fun h0_=>nh (hoff 10 (by kernel_rfl)) h0_,fun h0_=>nh (hoff 1 (by kernel_rfl)) h0_,fun h0_=>nh (hoff 3 (by kernel_rfl)) h0_,fun h0_=>nh (hoff 4 (by kernel_rfl)) h0_,fun h0_=>nh (hoff 5 (by kernel_rfl)) h0_,fun h0_=>nh (hoff 6 (by kernel_rfl)) h0_,fun h0_=>nh (hoff 7 (by kernel_rfl)) h0_,Bb,fun h0_=>nh (hoff 11 (by kernel_rfl)) h0_⟩
               refine steps_cons ?_ ?_
               ·rintro b a w' ⟨v324,v329,v333,v336,gb339,m1_,m3_,m4_,m5_,m6_,m7_,m9_,m11_,ha,Bd,Ap,Aq,Ar,As,Bu,Am,An,Ao,Be,Bf,Bg,Ba,Bo,Bt,B1,B2,Ch,B7,B8,Ax,Ay,Az,A0,A1,A2,A4,A5,A6,A7,A8,A9,Bl,Bc,Bh,Bm,Bi,Bv,Bw,Bb,Ca⟩ hb_ hon hoff
                refine ⟨_,rfl,fun K hK=>?_⟩
                have e120:a.tmps[120]? =some (.agg #[.int .i64 a0_0,.slice A0_1 l0_1.length c0_1]):=by rw [ha];exact putSel_on (e:=(0,120,.agg #[.int .i64 a0_0,.slice A0_1 l0_1.length c0_1])) 0 rfl rfl (hon 0 (by kernel_rfl)) rfl
                replace ha:=mk_ ha
                have Ak:=mk_ Bd
                have Ab:=mk_ Ap
                have Ac:=mk_ Aq
                have Ad:=mk_ Ar
                have Aa:=mk_ As
                have Al:=mk_ Bu
                have Ae:=mk_ Am
                have Af:=mk_ An
                have Ah:=mk_ Ao
                have Aj:=mk_ Be
                have Ai:=mk_ Bf
                have Ag:=mk_ Bg
                have HB:=mk_ Ba
                refine goes_ Try.func35 (by kernel_rfl) rfl #[.agg #[.int .i64 a0_0,.slice A0_1 l0_1.length c0_1]] (by rfl) rfl rfl (by first|(simp only [List.map_toArray,List.map_cons,List.map_nil,Act.eval,Array.getD_eq_getD_getElem?,Option.getD_some,e120];done)|(simp only [List.map_toArray,List.map_cons,List.map_nil,Act.eval,Array.getD_eq_getD_getElem?,Option.getD_some,e120];rfl)) ?_
                with_reducible refine (laws_toSegJoin.callsR B4 a0_0 _ _ l0_1 t322 t323 _ ?side1 ?side2 Jw.out).mono ?_
                (case side1=>repeat (first|exact (Kd.C_below Di.out HB.out)|(with_reducible refine Kd.C_alloc ?_ _)|(with_reducible refine Kd.C_drewN ?_ _)|(with_reducible refine Kd.C_drew ?_)))
                (case side2=>exact Dj.out)
                rintro e D4 ⟨v324,rfl,ho0,hb⟩
                refine ⟨_,rfl,?_⟩
                have n0_:=mk_ (RR_elder' (mRR Al.out) (RR_base ho0) hb)
                have n1_:=mk_ (RR_elder' (mRR Ak.out) (RR_base ho0) hb)
                have n2_:=mk_ (RR_elder' (mRR Ab.out) (RR_base ho0) hb)
                have n3_:=mk_ (RR_elder' (mRR Ac.out) (RR_base ho0) hb)
                have n4_:=mk_ (RR_elder' (mRR Ad.out) (RR_base ho0) hb)
                have n5_:=mk_ (RR_elder' (mRR Aa.out) (RR_base ho0) hb)
                have n6_:=mk_ (RR_lower (RR_new' (RR_new' (RR_new' (RR_new' (RR_new' (RR_new' ho0 (RR_lt (mRR Al.out))) (RR_lt (mRR Ak.out))) (RR_lt (mRR Ab.out))) (RR_lt (mRR Ac.out))) (RR_lt (mRR Ad.out))) (RR_lt (mRR Aa.out))) (zr2 (yu1 HB.out)))
                have n7_:=mk_ (zq6 (by exact Ae.out) hb)
                have n8_:=mk_ (zq6 (by exact Af.out) hb)
                have n9_:=mk_ (zq6 (by exact Ah.out) hb)
                have n10_:=mk_ (zq6 (by exact Aj.out) hb)
                have n11_:=mk_ (zq6 (by exact Ai.out) hb)
                have n12_:=mk_ (zq6 (by exact Ag.out) hb)
                have n13_:=mk_ (zr3 (yu1 HB.out) hb)
                have Dr:=fun (h0_:b 9=true) (h1_:b 10=false)=>(show D4.heap[gb339]? =some (.cells #[.int .i64 0,.slice none 0 0] 35 (0,0)) from by first|exact (zq6 (g:=gb339) (o:=.cells #[.int .i64 0,.slice none 0 0] 35 (0,0)) (by (with_reducible repeat (first|refine zq1 ?_ _|refine zq2 ?_|refine zq3 ?_ _));exact (Ch h0_ h1_)) hb))
                clear Al
                clear Ak
                clear Ab
                clear Ac
                clear Ad
                clear Aa
                clear Ae
                clear Af
                clear Ah
                clear Aj
                clear Ai
                clear Ag
                clear HB
                have Al:=n0_
                have Ak:=n1_
                have Ab:=n2_
                have Ac:=n3_
                have Ad:=n4_
                have Aa:=n5_
                have Cl:=n6_
                have Ae:=n7_
                have Af:=n8_
                have Ah:=n9_
                have Aj:=n10_
                have Ai:=n11_
                have Ag:=n12_
                have HB:=n13_
                clear n0_ n1_ n2_ n3_ n4_ n5_ n6_ n7_ n8_ n9_ n10_ n11_ n12_ n13_
                (try clear hb)
                (try clear hb2)
                (try clear hk)
                (try clear hi)
                (try clear ho0)
                refine hK.out _ _ ⟨v324,v329,v333,v336,gb339,(.agg #[.int .i64 t322,v324]),m3_,m4_,m5_,m6_,m7_,m9_,m11_,(by rw [ha.out];exact putSel_upk 1 hb_ rfl rfl rfl),(by (with_reducible repeat (first|apply RR_alloc|apply RR_drewN|apply RR_drew));exact RR_mono Ak.out (fun _ hk=>⟨fun _=>hk.2,⟨hk.1.2.1,⟨hk.1.2.2.1,⟨hk.1.2.2.2.1,hk.1.2.2.2.2⟩⟩⟩⟩)),(by (with_reducible repeat (first|apply RR_alloc|apply RR_drewN|apply RR_drew));exact RR_mono Ab.out (fun _ hk=>⟨fun _=>hk.2,⟨hk.1.2.1,⟨hk.1.2.2.1,⟨hk.1.2.2.2.1,hk.1.2.2.2.2⟩⟩⟩⟩)),(by (with_reducible repeat (first|apply RR_alloc|apply RR_drewN|apply RR_drew));exact RR_mono Ac.out (fun _ hk=>⟨fun _=>hk.2,⟨hk.1.2.1,⟨hk.1.2.2.1,⟨hk.1.2.2.2.1,hk.1.2.2.2.2⟩⟩⟩⟩)),(by (with_reducible repeat (first|apply RR_alloc|apply RR_drewN|apply RR_drew));exact RR_mono Ad.out (fun _ hk=>⟨fun _=>hk.2,⟨hk.1.2.1,⟨hk.1.2.2.1,⟨hk.1.2.2.2.1,hk.1.2.2.2.2⟩⟩⟩⟩)),(by (with_reducible repeat (first|apply RR_alloc|apply RR_drewN|apply RR_drew));exact RR_mono Aa.out (fun _ hk=>⟨fun _=>hk.2,⟨hk.1.2.1,⟨hk.1.2.2.1,⟨hk.1.2.2.2.1,hk.1.2.2.2.2⟩⟩⟩⟩)),(by (with_reducible repeat (first|apply RR_alloc|apply RR_drewN|apply RR_drew));exact RR_mono Al.out (fun _ hk=>⟨fun _=>hk.2,⟨hk.1.2.1,⟨hk.1.2.2.1,⟨hk.1.2.2.2.1,hk.1.2.2.2.2⟩⟩⟩⟩)),(by exact Ae.out),(by exact Af.out),(by exact Ah.out),(by exact Aj.out),(by exact Ai.out),(by exact Ag.out),(yu1 HB.out),fun _=>(by (with_reducible repeat (first|apply RR_alloc|apply RR_drewN|apply RR_drew));exact RR_mono Cl.out (fun _ hk=>⟨fun h0_=>nh (hoff 3 (by kernel_rfl)) h0_,⟨fun h0_=>nh (hoff 4 (by kernel_rfl)) h0_,⟨fun h0_=>nh (hoff 4 (by kernel_rfl)) h0_,⟨hk.1.1.1.1.2,⟨hk.1.1.1.2,⟨hk.1.1.2,⟨hk.1.2,⟨hk.2,hk.1.1.1.1.1.2⟩⟩⟩⟩⟩⟩⟩⟩)),fun h0_=>nh (hoff 3 (by kernel_rfl)) h0_,fun h0_=>nh (hoff 4 (by kernel_rfl)) h0_,fun h0_=>nh (hoff 4 (by kernel_rfl)) h0_,Dr,B7,B8,Ax,Ay,Az,A0,A1,A2,A4,A5,A6,A7,A8,A9,fun h0_=>nh (hoff 10 (by kernel_rfl)) h0_,fun _=>rfl,fun h0_=>nh (hoff 3 (by kernel_rfl)) h0_,fun h0_=>nh (hoff 4 (by kernel_rfl)) h0_,fun h0_=>nh (hoff 5 (by kernel_rfl)) h0_,fun h0_=>nh (hoff 6 (by kernel_rfl)) h0_,fun h0_=>nh (hoff 7 (by kernel_rfl)) h0_,Bb,fun h0_=>nh (hoff 11 (by kernel_rfl)) h0_⟩
               refine steps_cons ?_ ?_
               ·rintro b a w' ⟨v324,v329,v333,v336,gb339,m1_,m3_,m4_,m5_,m6_,m7_,m9_,m11_,ha,Bd,Ap,Aq,Ar,As,Bu,Am,An,Ao,Be,Bf,Bg,Ba,Bo,Bt,B1,B2,Ch,B7,B8,Ax,Ay,Az,A0,A1,A2,A4,A5,A6,A7,A8,A9,Bl,Bc,Bh,Bm,Bi,Bv,Bw,Bb,Ca⟩ hb_ hon hoff
                refine ⟨_,rfl,fun K hK=>?_⟩
                have e3:a.tmps[3]? =some (.pointer (some ⟨gb256,0,none⟩)):=by rw [ha];exact (putSel_off rfl).trans rfl
                replace ha:=mk_ ha
                have Ak:=mk_ Bd
                have Ab:=mk_ Ap
                have Ac:=mk_ Aq
                have Ad:=mk_ Ar
                have Aa:=mk_ As
                have Al:=mk_ Bu
                have Ae:=mk_ Am
                have Af:=mk_ An
                have Ah:=mk_ Ao
                have Aj:=mk_ Be
                have Ai:=mk_ Bf
                have Ag:=mk_ Bg
                have HB:=mk_ Ba
                have hc0_:w'.cell? ⟨gb256,0,none⟩=some (.int .i64 a1_0):=(zr4 Af.out 0).trans rfl
                have hc1_:w'.cell? ⟨gb256,1,none⟩=some (.int .i64 a1_1):=(zr4 Af.out 1).trans rfl
                have hc2_:w'.cell? ⟨gb256,2,none⟩=some (.slice A1_2 l1_2.length c1_2):=(zr4 Af.out 2).trans rfl
                refine value_ (w1:=w') (v:=.agg #[.int .i64 a1_0,.int .i64 a1_1,.slice A1_2 l1_2.length c1_2]) (by rfl) rfl ?_ ?_
                ·go_simp
                 (try simp only [i64_w])
                 try rfl
                refine hK.out _ _ ⟨v324,v329,v333,v336,gb339,m1_,m3_,m4_,m5_,m6_,m7_,m9_,m11_,(by rw [ha.out];exact putSel_upk 2 hb_ rfl rfl rfl),Bd,Ap,Aq,Ar,As,Bu,Am,An,Ao,Be,Bf,Bg,Ba,Bo,fun h0_=>nh (hoff 3 (by kernel_rfl)) h0_,fun h0_=>nh (hoff 4 (by kernel_rfl)) h0_,fun h0_=>nh (hoff 4 (by kernel_rfl)) h0_,Ch,B7,B8,Ax,Ay,Az,A0,A1,A2,A4,A5,A6,A7,A8,A9,fun h0_=>nh (hoff 10 (by kernel_rfl)) h0_,Bc,fun h0_=>nh (hoff 3 (by kernel_rfl)) h0_,fun h0_=>nh (hoff 4 (by kernel_rfl)) h0_,fun h0_=>nh (hoff 5 (by kernel_rfl)) h0_,fun h0_=>nh (hoff 6 (by kernel_rfl)) h0_,fun h0_=>nh (hoff 7 (by kernel_rfl)) h0_,Bb,fun h0_=>nh (hoff 11 (by kernel_rfl)) h0_⟩
               refine steps_cons ?_ ?_
               ·rintro b a w' ⟨v324,v329,v333,v336,gb339,m1_,m3_,m4_,m5_,m6_,m7_,m9_,m11_,ha,Bd,Ap,Aq,Ar,As,Bu,Am,An,Ao,Be,Bf,Bg,Ba,Bo,Bt,B1,B2,Ch,B7,B8,Ax,Ay,Az,A0,A1,A2,A4,A5,A6,A7,A8,A9,Bl,Bc,Bh,Bm,Bi,Bv,Bw,Bb,Ca⟩ hb_ hon hoff
                refine ⟨_,rfl,fun K hK=>?_⟩
                have e122:a.tmps[122]? =some (.agg #[.int .i64 a1_0,.int .i64 a1_1,.slice A1_2 l1_2.length c1_2]):=by rw [ha];exact putSel_on (e:=(2,122,.agg #[.int .i64 a1_0,.int .i64 a1_1,.slice A1_2 l1_2.length c1_2])) 2 rfl rfl (hon 2 (by kernel_rfl)) rfl
                replace ha:=mk_ ha
                have Ak:=mk_ Bd
                have Ab:=mk_ Ap
                have Ac:=mk_ Aq
                have Ad:=mk_ Ar
                have Aa:=mk_ As
                have Al:=mk_ Bu
                have Ae:=mk_ Am
                have Af:=mk_ An
                have Ah:=mk_ Ao
                have Aj:=mk_ Be
                have Ai:=mk_ Bf
                have Ag:=mk_ Bg
                have HB:=mk_ Ba
                have Cl:=mk_ (Bo (hon 1 (by kernel_rfl)))
                refine goes_ Try.func36 (by kernel_rfl) rfl #[.agg #[.int .i64 a1_0,.int .i64 a1_1,.slice A1_2 l1_2.length c1_2]] (by rfl) rfl rfl (by first|(simp only [List.map_toArray,List.map_cons,List.map_nil,Act.eval,Array.getD_eq_getD_getElem?,Option.getD_some,e122];done)|(simp only [List.map_toArray,List.map_cons,List.map_nil,Act.eval,Array.getD_eq_getD_getElem?,Option.getD_some,e122];rfl)) ?_
                with_reducible refine (laws_toSegPart.callsR B4 a1_0 a1_1 _ _ l1_2 t326 t327 t328 _ ?side1 ?side2 Eb.out).mono ?_
                (case side1=>repeat (first|exact (Kd.C_below Ds.out HB.out)|(with_reducible refine Kd.C_alloc ?_ _)|(with_reducible refine Kd.C_drewN ?_ _)|(with_reducible refine Kd.C_drew ?_)))
                (case side2=>exact Dt.out)
                rintro e J6 ⟨v329,rfl,ho0,hb⟩
                refine ⟨_,rfl,?_⟩
                have n0_:=mk_ (RR_elder' (mRR Al.out) (RR_base ho0) hb)
                have n1_:=mk_ (RR_elder' (mRR Ak.out) (RR_base ho0) hb)
                have n2_:=mk_ (RR_elder' (mRR Ab.out) (RR_base ho0) hb)
                have n3_:=mk_ (RR_elder' (mRR Ac.out) (RR_base ho0) hb)
                have n4_:=mk_ (RR_elder' (mRR Ad.out) (RR_base ho0) hb)
                have n5_:=mk_ (RR_elder' (mRR Aa.out) (RR_base ho0) hb)
                have n6_:=mk_ (RR_elder' (mRR Cl.out) (RR_base ho0) hb)
                have n7_:=mk_ (RR_lower (RR_new' (RR_new' (RR_new' (RR_new' (RR_new' (RR_new' (RR_new' ho0 (RR_lt (mRR Al.out))) (RR_lt (mRR Ak.out))) (RR_lt (mRR Ab.out))) (RR_lt (mRR Ac.out))) (RR_lt (mRR Ad.out))) (RR_lt (mRR Aa.out))) (RR_lt (mRR Cl.out))) (zr2 (yu1 HB.out)))
                have n8_:=mk_ (zq6 (by exact Ae.out) hb)
                have n9_:=mk_ (zq6 (by exact Af.out) hb)
                have n10_:=mk_ (zq6 (by exact Ah.out) hb)
                have n11_:=mk_ (zq6 (by exact Aj.out) hb)
                have n12_:=mk_ (zq6 (by exact Ai.out) hb)
                have n13_:=mk_ (zq6 (by exact Ag.out) hb)
                have n14_:=mk_ (zr3 (yu1 HB.out) hb)
                have Dr:=fun (h0_:b 9=true) (h1_:b 10=false)=>(show J6.heap[gb339]? =some (.cells #[.int .i64 0,.slice none 0 0] 35 (0,0)) from by first|exact (zq6 (g:=gb339) (o:=.cells #[.int .i64 0,.slice none 0 0] 35 (0,0)) (by (with_reducible repeat (first|refine zq1 ?_ _|refine zq2 ?_|refine zq3 ?_ _));exact (Ch h0_ h1_)) hb))
                clear Al
                clear Ak
                clear Ab
                clear Ac
                clear Ad
                clear Aa
                clear Cl
                clear Ae
                clear Af
                clear Ah
                clear Aj
                clear Ai
                clear Ag
                clear HB
                have Al:=n0_
                have Ak:=n1_
                have Ab:=n2_
                have Ac:=n3_
                have Ad:=n4_
                have Aa:=n5_
                have Cl:=n6_
                have Ct:=n7_
                have Ae:=n8_
                have Af:=n9_
                have Ah:=n10_
                have Aj:=n11_
                have Ai:=n12_
                have Ag:=n13_
                have HB:=n14_
                clear n0_ n1_ n2_ n3_ n4_ n5_ n6_ n7_ n8_ n9_ n10_ n11_ n12_ n13_ n14_
                (try clear hb)
                (try clear hb2)
                (try clear hk)
                (try clear hi)
                (try clear ho0)
                refine hK.out _ _ ⟨v324,v329,v333,v336,gb339,m1_,(.agg #[.int .i64 t326,.int .i64 t327,v329]),m4_,m5_,m6_,m7_,m9_,m11_,(by rw [ha.out];exact putSel_upk 3 hb_ rfl rfl rfl),(by (with_reducible repeat (first|apply RR_alloc|apply RR_drewN|apply RR_drew));exact RR_mono Ak.out (fun _ hk=>⟨hk.1.1,⟨fun _=>hk.2,⟨hk.1.2.2.1,⟨hk.1.2.2.2.1,hk.1.2.2.2.2⟩⟩⟩⟩)),(by (with_reducible repeat (first|apply RR_alloc|apply RR_drewN|apply RR_drew));exact RR_mono Ab.out (fun _ hk=>⟨hk.1.1,⟨fun _=>hk.2,⟨hk.1.2.2.1,⟨hk.1.2.2.2.1,hk.1.2.2.2.2⟩⟩⟩⟩)),(by (with_reducible repeat (first|apply RR_alloc|apply RR_drewN|apply RR_drew));exact RR_mono Ac.out (fun _ hk=>⟨hk.1.1,⟨fun _=>hk.2,⟨hk.1.2.2.1,⟨hk.1.2.2.2.1,hk.1.2.2.2.2⟩⟩⟩⟩)),(by (with_reducible repeat (first|apply RR_alloc|apply RR_drewN|apply RR_drew));exact RR_mono Ad.out (fun _ hk=>⟨hk.1.1,⟨fun _=>hk.2,⟨hk.1.2.2.1,⟨hk.1.2.2.2.1,hk.1.2.2.2.2⟩⟩⟩⟩)),(by (with_reducible repeat (first|apply RR_alloc|apply RR_drewN|apply RR_drew));exact RR_mono Aa.out (fun _ hk=>⟨hk.1.1,⟨fun _=>hk.2,⟨hk.1.2.2.1,⟨hk.1.2.2.2.1,hk.1.2.2.2.2⟩⟩⟩⟩)),(by (with_reducible repeat (first|apply RR_alloc|apply RR_drewN|apply RR_drew));exact RR_mono Al.out (fun _ hk=>⟨hk.1.1,⟨fun _=>hk.2,⟨hk.1.2.2.1,⟨hk.1.2.2.2.1,hk.1.2.2.2.2⟩⟩⟩⟩)),(by exact Ae.out),(by exact Af.out),(by exact Ah.out),(by exact Aj.out),(by exact Ai.out),(by exact Ag.out),(yu1 HB.out),fun _=>(by (with_reducible repeat (first|apply RR_alloc|apply RR_drewN|apply RR_drew));exact RR_mono Cl.out (fun _ hk=>⟨fun _=>hk.2,⟨hk.1.2.1,⟨hk.1.2.2.1,hk.1.2.2.2⟩⟩⟩)),fun _=>(by (with_reducible repeat (first|apply RR_alloc|apply RR_drewN|apply RR_drew));exact RR_mono Ct.out (fun _ hk=>⟨hk.2,⟨fun h0_=>nh (hoff 4 (by kernel_rfl)) h0_,⟨fun h0_=>nh (hoff 4 (by kernel_rfl)) h0_,⟨hk.1.1.1.1.1.2,⟨hk.1.1.1.1.2,⟨hk.1.1.1.2,⟨hk.1.1.2,⟨hk.1.2,hk.1.1.1.1.1.1.2⟩⟩⟩⟩⟩⟩⟩⟩)),fun h0_=>nh (hoff 4 (by kernel_rfl)) h0_,fun h0_=>nh (hoff 4 (by kernel_rfl)) h0_,Dr,B7,B8,Ax,Ay,Az,A0,A1,A2,A4,A5,A6,A7,A8,A9,fun h0_=>nh (hoff 10 (by kernel_rfl)) h0_,Bc,fun _=>rfl,fun h0_=>nh (hoff 4 (by kernel_rfl)) h0_,fun h0_=>nh (hoff 5 (by kernel_rfl)) h0_,fun h0_=>nh (hoff 6 (by kernel_rfl)) h0_,fun h0_=>nh (hoff 7 (by kernel_rfl)) h0_,Bb,fun h0_=>nh (hoff 11 (by kernel_rfl)) h0_⟩
               refine steps_cons ?_ ?_
               ·rintro b a w' ⟨v324,v329,v333,v336,gb339,m1_,m3_,m4_,m5_,m6_,m7_,m9_,m11_,ha,Bd,Ap,Aq,Ar,As,Bu,Am,An,Ao,Be,Bf,Bg,Ba,Bo,Bt,B1,B2,Ch,B7,B8,Ax,Ay,Az,A0,A1,A2,A4,A5,A6,A7,A8,A9,Bl,Bc,Bh,Bm,Bi,Bv,Bw,Bb,Ca⟩ hb_ hon hoff
                refine ⟨_,rfl,fun K hK=>?_⟩
                have e121:a.tmps[121]? =some (m1_):=by rw [ha];exact putSel_on (e:=(1,121,m1_)) 1 rfl rfl (hon 1 (by kernel_rfl)) rfl
                rw [Bc (hon 1 (by kernel_rfl))] at e121
                have e123:a.tmps[123]? =some (m3_):=by rw [ha];exact putSel_on (e:=(3,123,m3_)) 3 rfl rfl (hon 3 (by kernel_rfl)) rfl
                rw [Bh (hon 3 (by kernel_rfl))] at e123
                replace ha:=mk_ ha
                have Ak:=mk_ Bd
                have Ab:=mk_ Ap
                have Ac:=mk_ Aq
                have Ad:=mk_ Ar
                have Aa:=mk_ As
                have Al:=mk_ Bu
                have Ae:=mk_ Am
                have Af:=mk_ An
                have Ah:=mk_ Ao
                have Aj:=mk_ Be
                have Ai:=mk_ Bf
                have Ag:=mk_ Bg
                have HB:=mk_ Ba
                have Cl:=mk_ (Bo (hon 1 (by kernel_rfl)))
                have Ct:=mk_ (Bt (hon 3 (by kernel_rfl)))
                obtain ⟨Ao248,co248,eo248⟩:=RR_slice Cl.out
                (first|subst eo248|(injection eo248 with f1_ f2_ f3_;have f4_:=f1_.symm;have f5_:=f3_.symm;clear f1_ f2_ f3_;subst f4_;subst f5_))
                obtain ⟨Ao249,co249,eo249⟩:=RR_slice Ct.out
                (first|subst eo249|(injection eo249 with f1_ f2_ f3_;have f4_:=f1_.symm;have f5_:=f3_.symm;clear f1_ f2_ f3_;subst f4_;subst f5_))
                refine goes_ Try.func26 (by kernel_rfl) rfl #[.agg #[.int .i64 t322,.slice Ao248 t323.length co248],.agg #[.int .i64 t326,.int .i64 t327,.slice Ao249 t328.length co249]] (by rfl) rfl rfl (by first|(simp only [List.map_toArray,List.map_cons,List.map_nil,Act.eval,Array.getD_eq_getD_getElem?,Option.getD_some,e121,e123];done)|(simp only [List.map_toArray,List.map_cons,List.map_nil,Act.eval,Array.getD_eq_getD_getElem?,Option.getD_some,e121,e123];rfl)) ?_
                with_reducible refine (impl_SegPut.calls B4 t322 _ _ t323 t326 t327 _ _ t328 t331 t332 t335 t338 _ ?side1 ?side2 ?side3 ?side4 Jx.out).mono ?_
                (case side1=>exact mC (RR_reads' Cl.out).2.2)
                (case side2=>exact (RR_reads' Cl.out).2.1)
                (case side3=>exact mC (RR_reads' Ct.out).2.2)
                (case side4=>exact (RR_reads' Ct.out).2.1)
                rintro e J7 ⟨v333,v336,rfl,ho0,ho1,hb⟩
                refine ⟨_,rfl,?_⟩
                have n0_:=mk_ (RR_mono (RR_told (RR_told (RR_old (mRR Al.out) hb) (RR_base ho0)) (RR_base ho1)) (fun _ h_=>h_.1))
                have n1_:=mk_ (RR_mono (RR_told (RR_told (RR_old (mRR Ak.out) hb) (RR_base ho0)) (RR_base ho1)) (fun _ h_=>h_.1))
                have n2_:=mk_ (RR_mono (RR_told (RR_told (RR_old (mRR Ab.out) hb) (RR_base ho0)) (RR_base ho1)) (fun _ h_=>h_.1))
                have n3_:=mk_ (RR_mono (RR_told (RR_told (RR_old (mRR Ac.out) hb) (RR_base ho0)) (RR_base ho1)) (fun _ h_=>h_.1))
                have n4_:=mk_ (RR_mono (RR_told (RR_told (RR_old (mRR Ad.out) hb) (RR_base ho0)) (RR_base ho1)) (fun _ h_=>h_.1))
                have n5_:=mk_ (RR_mono (RR_told (RR_told (RR_old (mRR Aa.out) hb) (RR_base ho0)) (RR_base ho1)) (fun _ h_=>h_.1))
                have n6_:=mk_ (RR_mono (RR_told (RR_told (RR_old (mRR Cl.out) hb) (RR_base ho0)) (RR_base ho1)) (fun _ h_=>h_.1))
                have n7_:=mk_ (RR_mono (RR_told (RR_told (RR_old (mRR Ct.out) hb) (RR_base ho0)) (RR_base ho1)) (fun _ h_=>h_.1))
                have n8_:=mk_ (RR_lower (RR_new' (RR_new' (RR_new' (RR_new' (RR_new' (RR_new' (RR_new' (RR_new' ho0 (RR_lt (mRR Al.out))) (RR_lt (mRR Ak.out))) (RR_lt (mRR Ab.out))) (RR_lt (mRR Ac.out))) (RR_lt (mRR Ad.out))) (RR_lt (mRR Aa.out))) (RR_lt (mRR Cl.out))) (RR_lt (mRR Ct.out))) (zr2 (yu1 HB.out)))
                have n9_:=mk_ (RR_lower (RR_new' (RR_new' (RR_new' (RR_new' (RR_new' (RR_new' (RR_new' (RR_new' ho1 (RR_lt (mRR Al.out))) (RR_lt (mRR Ak.out))) (RR_lt (mRR Ab.out))) (RR_lt (mRR Ac.out))) (RR_lt (mRR Ad.out))) (RR_lt (mRR Aa.out))) (RR_lt (mRR Cl.out))) (RR_lt (mRR Ct.out))) (zr2 (yu1 HB.out)))
                have n10_:=mk_ (zq6 (by exact Ae.out) hb)
                have n11_:=mk_ (zq6 (by exact Af.out) hb)
                have n12_:=mk_ (zq6 (by exact Ah.out) hb)
                have n13_:=mk_ (zq6 (by exact Aj.out) hb)
                have n14_:=mk_ (zq6 (by exact Ai.out) hb)
                have n15_:=mk_ (zq6 (by exact Ag.out) hb)
                have n16_:=mk_ (zr3 (yu1 HB.out) hb)
                have Dr:=fun (h0_:b 9=true) (h1_:b 10=false)=>(show J7.heap[gb339]? =some (.cells #[.int .i64 0,.slice none 0 0] 35 (0,0)) from by first|exact (zq6 (g:=gb339) (o:=.cells #[.int .i64 0,.slice none 0 0] 35 (0,0)) (by (with_reducible repeat (first|refine zq1 ?_ _|refine zq2 ?_|refine zq3 ?_ _));exact (Ch h0_ h1_)) hb))
                clear Al
                clear Ak
                clear Ab
                clear Ac
                clear Ad
                clear Aa
                clear Cl
                clear Ct
                clear Ae
                clear Af
                clear Ah
                clear Aj
                clear Ai
                clear Ag
                clear HB
                have Al:=n0_
                have Ak:=n1_
                have Ab:=n2_
                have Ac:=n3_
                have Ad:=n4_
                have Aa:=n5_
                have Cl:=n6_
                have Ct:=n7_
                have Cp:=n8_
                have Cv:=n9_
                have Ae:=n10_
                have Af:=n11_
                have Ah:=n12_
                have Aj:=n13_
                have Ai:=n14_
                have Ag:=n15_
                have HB:=n16_
                clear n0_ n1_ n2_ n3_ n4_ n5_ n6_ n7_ n8_ n9_ n10_ n11_ n12_ n13_ n14_ n15_ n16_
                (try clear hb)
                (try clear hb2)
                (try clear hk)
                (try clear hi)
                (try clear ho0)
                (try clear ho1)
                refine hK.out _ _ ⟨.slice Ao248 t323.length co248,.slice Ao249 t328.length co249,v333,v336,gb339,m1_,m3_,(.tuple #[.agg #[.int .i64 t331,v333],v336,.int .i64 t338]),m5_,m6_,m7_,m9_,m11_,(by rw [ha.out];exact putSel_upk 4 hb_ rfl rfl rfl),(by (with_reducible repeat (first|apply RR_alloc|apply RR_drewN|apply RR_drew));exact RR_mono Ak.out (fun _ hk=>⟨hk.1.1.1,⟨hk.1.1.2.1,⟨fun _=>hk.1.2,⟨fun _=>hk.2,hk.1.1.2.2.2.2⟩⟩⟩⟩)),(by (with_reducible repeat (first|apply RR_alloc|apply RR_drewN|apply RR_drew));exact RR_mono Ab.out (fun _ hk=>⟨hk.1.1.1,⟨hk.1.1.2.1,⟨fun _=>hk.1.2,⟨fun _=>hk.2,hk.1.1.2.2.2.2⟩⟩⟩⟩)),(by (with_reducible repeat (first|apply RR_alloc|apply RR_drewN|apply RR_drew));exact RR_mono Ac.out (fun _ hk=>⟨hk.1.1.1,⟨hk.1.1.2.1,⟨fun _=>hk.1.2,⟨fun _=>hk.2,hk.1.1.2.2.2.2⟩⟩⟩⟩)),(by (with_reducible repeat (first|apply RR_alloc|apply RR_drewN|apply RR_drew));exact RR_mono Ad.out (fun _ hk=>⟨hk.1.1.1,⟨hk.1.1.2.1,⟨fun _=>hk.1.2,⟨fun _=>hk.2,hk.1.1.2.2.2.2⟩⟩⟩⟩)),(by (with_reducible repeat (first|apply RR_alloc|apply RR_drewN|apply RR_drew));exact RR_mono Aa.out (fun _ hk=>⟨hk.1.1.1,⟨hk.1.1.2.1,⟨fun _=>hk.1.2,⟨fun _=>hk.2,hk.1.1.2.2.2.2⟩⟩⟩⟩)),(by (with_reducible repeat (first|apply RR_alloc|apply RR_drewN|apply RR_drew));exact RR_mono Al.out (fun _ hk=>⟨hk.1.1.1,⟨hk.1.1.2.1,⟨fun _=>hk.1.2,⟨fun _=>hk.2,hk.1.1.2.2.2.2⟩⟩⟩⟩)),(by exact Ae.out),(by exact Af.out),(by exact Ah.out),(by exact Aj.out),(by exact Ai.out),(by exact Ag.out),(yu1 HB.out),fun _=>(by (with_reducible repeat (first|apply RR_alloc|apply RR_drewN|apply RR_drew));exact RR_mono Cl.out (fun _ hk=>⟨hk.1.1.1,⟨fun _=>hk.1.2,⟨fun _=>hk.2,hk.1.1.2.2.2⟩⟩⟩)),fun _=>(by (with_reducible repeat (first|apply RR_alloc|apply RR_drewN|apply RR_drew));exact RR_mono Ct.out (fun _ hk=>⟨hk.1.1.1,⟨fun _=>hk.1.2,⟨fun _=>hk.2,hk.1.1.2.2.2⟩⟩⟩)),fun _=>(by (with_reducible repeat (first|apply RR_alloc|apply RR_drewN|apply RR_drew));exact RR_mono Cp.out (fun _ hk=>⟨hk.1.2,⟨hk.2,⟨hk.1.1.1.1.1.1.1.1,⟨hk.1.1.1.1.1.1.2,⟨hk.1.1.1.1.1.2,⟨hk.1.1.1.1.2,⟨hk.1.1.1.2,⟨hk.1.1.2,hk.1.1.1.1.1.1.1.2⟩⟩⟩⟩⟩⟩⟩⟩)),fun _=>(by (with_reducible repeat (first|apply RR_alloc|apply RR_drewN|apply RR_drew));exact RR_mono Cv.out (fun _ hk=>⟨hk.1.2,⟨hk.2,⟨hk.1.1.1.1.1.1.1.1,⟨hk.1.1.1.1.1.1.2,⟨hk.1.1.1.1.1.2,⟨hk.1.1.1.1.2,⟨hk.1.1.1.2,⟨hk.1.1.2,hk.1.1.1.1.1.1.1.2⟩⟩⟩⟩⟩⟩⟩⟩)),Dr,B7,B8,Ax,Ay,Az,A0,A1,A2,A4,A5,A6,A7,A8,A9,fun h0_=>nh (hoff 10 (by kernel_rfl)) h0_,Bc,Bh,fun _=>rfl,fun h0_=>nh (hoff 5 (by kernel_rfl)) h0_,fun h0_=>nh (hoff 6 (by kernel_rfl)) h0_,fun h0_=>nh (hoff 7 (by kernel_rfl)) h0_,Bb,fun h0_=>nh (hoff 11 (by kernel_rfl)) h0_⟩
               refine steps_cons ?_ ?_
               ·rintro b a w' ⟨v324,v329,v333,v336,gb339,m1_,m3_,m4_,m5_,m6_,m7_,m9_,m11_,ha,Bd,Ap,Aq,Ar,As,Bu,Am,An,Ao,Be,Bf,Bg,Ba,Bo,Bt,B1,B2,Ch,B7,B8,Ax,Ay,Az,A0,A1,A2,A4,A5,A6,A7,A8,A9,Bl,Bc,Bh,Bm,Bi,Bv,Bw,Bb,Ca⟩ hb_ hon hoff
                refine ⟨_,rfl,fun K hK=>?_⟩
                have e124:a.tmps[124]? =some (m4_):=by rw [ha];exact putSel_on (e:=(4,124,m4_)) 4 rfl rfl (hon 4 (by kernel_rfl)) rfl
                rw [Bm (hon 4 (by kernel_rfl))] at e124
                replace ha:=mk_ ha
                have Ak:=mk_ Bd
                have Ab:=mk_ Ap
                have Ac:=mk_ Aq
                have Ad:=mk_ Ar
                have Aa:=mk_ As
                have Al:=mk_ Bu
                have Ae:=mk_ Am
                have Af:=mk_ An
                have Ah:=mk_ Ao
                have Aj:=mk_ Be
                have Ai:=mk_ Bf
                have Ag:=mk_ Bg
                have HB:=mk_ Ba
                have Cl:=mk_ (Bo (hon 1 (by kernel_rfl)))
                have Ct:=mk_ (Bt (hon 3 (by kernel_rfl)))
                have Cp:=mk_ (B1 (hon 4 (by kernel_rfl)))
                have Cv:=mk_ (B2 (hon 4 (by kernel_rfl)))
                refine value_ (w1:=w') (v:=.tuple #[.agg #[.int .i64 t331,v333],v336,.int .i64 t338]) (by rfl) rfl ?_ ?_
                ·go_simp
                 (try simp only [i64_w])
                 try rfl
                refine hK.out _ _ ⟨v324,v329,v333,v336,gb339,m1_,m3_,m4_,(.tuple #[.agg #[.int .i64 t331,v333],v336,.int .i64 t338]),m6_,m7_,m9_,m11_,(by rw [ha.out];exact putSel_upk 5 hb_ rfl rfl rfl),Bd,Ap,Aq,Ar,As,Bu,Am,An,Ao,Be,Bf,Bg,Ba,Bo,Bt,B1,B2,Ch,B7,B8,Ax,Ay,Az,A0,A1,A2,A4,A5,A6,A7,A8,A9,fun h0_=>nh (hoff 10 (by kernel_rfl)) h0_,Bc,Bh,Bm,fun _=>rfl,fun h0_=>nh (hoff 6 (by kernel_rfl)) h0_,fun h0_=>nh (hoff 7 (by kernel_rfl)) h0_,Bb,fun h0_=>nh (hoff 11 (by kernel_rfl)) h0_⟩
               refine steps_cons ?_ ?_
               ·rintro b a w' ⟨v324,v329,v333,v336,gb339,m1_,m3_,m4_,m5_,m6_,m7_,m9_,m11_,ha,Bd,Ap,Aq,Ar,As,Bu,Am,An,Ao,Be,Bf,Bg,Ba,Bo,Bt,B1,B2,Ch,B7,B8,Ax,Ay,Az,A0,A1,A2,A4,A5,A6,A7,A8,A9,Bl,Bc,Bh,Bm,Bi,Bv,Bw,Bb,Ca⟩ hb_ hon hoff
                refine ⟨_,rfl,fun K hK=>?_⟩
                have e119:a.tmps[119]? =some (m5_):=by rw [ha];exact putSel_on (e:=(5,119,m5_)) 5 rfl rfl (hon 5 (by kernel_rfl)) rfl
                rw [Bi (hon 5 (by kernel_rfl))] at e119
                replace ha:=mk_ ha
                have Ak:=mk_ Bd
                have Ab:=mk_ Ap
                have Ac:=mk_ Aq
                have Ad:=mk_ Ar
                have Aa:=mk_ As
                have Al:=mk_ Bu
                have Ae:=mk_ Am
                have Af:=mk_ An
                have Ah:=mk_ Ao
                have Aj:=mk_ Be
                have Ai:=mk_ Bf
                have Ag:=mk_ Bg
                have HB:=mk_ Ba
                have Cl:=mk_ (Bo (hon 1 (by kernel_rfl)))
                have Ct:=mk_ (Bt (hon 3 (by kernel_rfl)))
                have Cp:=mk_ (B1 (hon 4 (by kernel_rfl)))
                have Cv:=mk_ (B2 (hon 4 (by kernel_rfl)))
                obtain ⟨Ao6_0,co6_0,eo_⟩:=RR_slice Cv.out
                subst eo_
                refine value_ (w1:=w') (v:=.agg #[.int .i64 t331,v333]) (by rfl) rfl ?_ ?_
                ·go_simp
                 (try simp only [i64_w])
                 try rfl
                refine hK.out _ _ ⟨v324,v329,v333,.slice Ao6_0 t335.length co6_0,gb339,m1_,m3_,m4_,m5_,(.agg #[.int .i64 t331,v333]),m7_,m9_,m11_,(by rw [ha.out];exact putSel_upk 6 hb_ rfl rfl rfl),Bd,Ap,Aq,Ar,As,Bu,Am,An,Ao,Be,Bf,Bg,Ba,Bo,Bt,B1,B2,Ch,B7,B8,Ax,Ay,Az,A0,A1,A2,A4,A5,A6,A7,A8,A9,fun h0_=>nh (hoff 10 (by kernel_rfl)) h0_,Bc,Bh,Bm,Bi,fun _=>rfl,Bw,Bb,fun h0_=>nh (hoff 11 (by kernel_rfl)) h0_⟩
               refine steps_cons ?_ ?_
               ·rintro b a w' ⟨v324,v329,v333,v336,gb339,m1_,m3_,m4_,m5_,m6_,m7_,m9_,m11_,ha,Bd,Ap,Aq,Ar,As,Bu,Am,An,Ao,Be,Bf,Bg,Ba,Bo,Bt,B1,B2,Ch,B7,B8,Ax,Ay,Az,A0,A1,A2,A4,A5,A6,A7,A8,A9,Bl,Bc,Bh,Bm,Bi,Bv,Bw,Bb,Ca⟩ hb_ hon hoff
                refine ⟨_,rfl,fun K hK=>?_⟩
                have e119:a.tmps[119]? =some (m5_):=by rw [ha];exact putSel_on (e:=(5,119,m5_)) 5 rfl rfl (hon 5 (by kernel_rfl)) rfl
                rw [Bi (hon 5 (by kernel_rfl))] at e119
                replace ha:=mk_ ha
                have Ak:=mk_ Bd
                have Ab:=mk_ Ap
                have Ac:=mk_ Aq
                have Ad:=mk_ Ar
                have Aa:=mk_ As
                have Al:=mk_ Bu
                have Ae:=mk_ Am
                have Af:=mk_ An
                have Ah:=mk_ Ao
                have Aj:=mk_ Be
                have Ai:=mk_ Bf
                have Ag:=mk_ Bg
                have HB:=mk_ Ba
                have Cl:=mk_ (Bo (hon 1 (by kernel_rfl)))
                have Ct:=mk_ (Bt (hon 3 (by kernel_rfl)))
                have Cp:=mk_ (B1 (hon 4 (by kernel_rfl)))
                have Cv:=mk_ (B2 (hon 4 (by kernel_rfl)))
                obtain ⟨Ao7_0,co7_0,eo_⟩:=RR_slice Cv.out
                subst eo_
                refine value_ (w1:=w') (v:=.slice Ao7_0 t335.length co7_0) (by rfl) rfl ?_ ?_
                ·go_simp
                 (try simp only [i64_w])
                 try rfl
                refine hK.out _ _ ⟨v324,v329,v333,.slice Ao7_0 t335.length co7_0,gb339,m1_,m3_,m4_,m5_,m6_,(.slice Ao7_0 t335.length co7_0),m9_,m11_,(by rw [ha.out];exact putSel_upk 7 hb_ rfl rfl rfl),Bd,Ap,Aq,Ar,As,Bu,Am,An,Ao,Be,Bf,Bg,Ba,Bo,Bt,B1,B2,Ch,B7,B8,Ax,Ay,Az,A0,A1,A2,A4,A5,A6,A7,A8,A9,Bl,Bc,Bh,Bm,Bi,Bv,fun _=>rfl,Bb,fun h0_=>nh (hoff 11 (by kernel_rfl)) h0_⟩
               refine steps_cons ?_ ?_
               ·rintro b a w' ⟨v324,v329,v333,v336,gb339,m1_,m3_,m4_,m5_,m6_,m7_,m9_,m11_,ha,Bd,Ap,Aq,Ar,As,Bu,Am,An,Ao,Be,Bf,Bg,Ba,Bo,Bt,B1,B2,Ch,B7,B8,Ax,Ay,Az,A0,A1,A2,A4,A5,A6,A7,A8,A9,Bl,Bc,Bh,Bm,Bi,Bv,Bw,Bb,Ca⟩ hb_ hon hoff
                refine ⟨_,rfl,fun K hK=>?_⟩
                have e119:a.tmps[119]? =some (m5_):=by rw [ha];exact putSel_on (e:=(5,119,m5_)) 5 rfl rfl (hon 5 (by kernel_rfl)) rfl
                rw [Bi (hon 5 (by kernel_rfl))] at e119
                replace ha:=mk_ ha
                have Ak:=mk_ Bd
                have Ab:=mk_ Ap
                have Ac:=mk_ Aq
                have Ad:=mk_ Ar
                have Aa:=mk_ As
                have Al:=mk_ Bu
                have Ae:=mk_ Am
                have Af:=mk_ An
                have Ah:=mk_ Ao
                have Aj:=mk_ Be
                have Ai:=mk_ Bf
                have Ag:=mk_ Bg
                have HB:=mk_ Ba
                have Cl:=mk_ (Bo (hon 1 (by kernel_rfl)))
                have Ct:=mk_ (Bt (hon 3 (by kernel_rfl)))
                have Cp:=mk_ (B1 (hon 4 (by kernel_rfl)))
                have Cv:=mk_ (B2 (hon 4 (by kernel_rfl)))
                obtain ⟨Ao8_0,co8_0,eo_⟩:=RR_slice Cv.out
                subst eo_
                refine value_ (w1:=w') (v:=.int .i64 t338) (by rfl) rfl ?_ ?_
                ·go_simp
                 (try simp only [i64_w])
                 try rfl
                refine hK.out _ _ ⟨v324,v329,v333,.slice Ao8_0 t335.length co8_0,gb339,m1_,m3_,m4_,m5_,m6_,m7_,m9_,m11_,(by rw [ha.out];exact putSel_upk 8 hb_ rfl rfl rfl),Bd,Ap,Aq,Ar,As,Bu,Am,An,Ao,Be,Bf,Bg,Ba,Bo,Bt,B1,B2,Ch,B7,B8,Ax,Ay,Az,A0,A1,A2,A4,A5,A6,A7,A8,A9,Bl,Bc,Bh,Bm,Bi,Bv,Bw,Bb,Ca⟩
               refine steps_cons ?_ ?_
               ·rintro b a w' ⟨v324,v329,v333,v336,gb339,m1_,m3_,m4_,m5_,m6_,m7_,m9_,m11_,ha,Bd,Ap,Aq,Ar,As,Bu,Am,An,Ao,Be,Bf,Bg,Ba,Bo,Bt,B1,B2,Ch,B7,B8,Ax,Ay,Az,A0,A1,A2,A4,A5,A6,A7,A8,A9,Bl,Bc,Bh,Bm,Bi,Bv,Bw,Bb,Ca⟩ hb_ hon hoff
                refine ⟨_,rfl,fun K hK=>?_⟩
                replace ha:=mk_ ha
                have Ak:=mk_ Bd
                have Ab:=mk_ Ap
                have Ac:=mk_ Aq
                have Ad:=mk_ Ar
                have Aa:=mk_ As
                have Al:=mk_ Bu
                have Ae:=mk_ Am
                have Af:=mk_ An
                have Ah:=mk_ Ao
                have Aj:=mk_ Be
                have Ai:=mk_ Bf
                have Ag:=mk_ Bg
                have HB:=mk_ Ba
                refine box_step ?hg (N:=17) ?hd (cs:=#[.int .i64 0,.slice none 0 0]) (t:=35) ?hr ?_;(case hd=>rfl);(case hg=>rfl);(case hr=>first|(go_simp;done)|(go_simp;rfl))
                intro gb339 hg D4 hbox hb
                have n0_:=mk_ (RR_below (mRR Al.out) hb)
                have n1_:=mk_ (RR_below (mRR Ak.out) hb)
                have n2_:=mk_ (RR_below (mRR Ab.out) hb)
                have n3_:=mk_ (RR_below (mRR Ac.out) hb)
                have n4_:=mk_ (RR_below (mRR Ad.out) hb)
                have n5_:=mk_ (RR_below (mRR Aa.out) hb)
                have n6_:=mk_ (zq6 (by exact Ae.out) hb)
                have n7_:=mk_ (zq6 (by exact Af.out) hb)
                have n8_:=mk_ (zq6 (by exact Ah.out) hb)
                have n9_:=mk_ (zq6 (by exact Aj.out) hb)
                have n10_:=mk_ (zq6 (by exact Ai.out) hb)
                have n11_:=mk_ (zq6 (by exact Ag.out) hb)
                have n12_:=mk_ (zr3 (yu1 HB.out) hb)
                have n13_:=mk_ (hbox)
                have n14_:=mk_ ((by rw [hg];exact (zr2 (yu1 HB.out)):w.heap.size≤gb339))
                have n15_:=mk_ ((by rw [hg];exact (zr2 (yu1 HB.out)):w.heap.size≤gb339))
                have n16_:=mk_ ((by rw [hg];exact zm2 (zr6 (by exact Ae.out)):gb255≠gb339))
                have n17_:=mk_ ((by rw [hg];exact zm3 (zr6 (by exact Ae.out)):gb339≠gb255))
                have n18_:=mk_ ((by rw [hg];exact zm2 (zr6 (by exact Af.out)):gb256≠gb339))
                have n19_:=mk_ ((by rw [hg];exact zm3 (zr6 (by exact Af.out)):gb339≠gb256))
                have n20_:=mk_ ((by rw [hg];exact zm2 (zr6 (by exact Ah.out)):gb276≠gb339))
                have n21_:=mk_ ((by rw [hg];exact zm3 (zr6 (by exact Ah.out)):gb339≠gb276))
                have n22_:=mk_ ((by rw [hg];exact zm2 (zr6 (by exact Aj.out)):gb281≠gb339))
                have n23_:=mk_ ((by rw [hg];exact zm3 (zr6 (by exact Aj.out)):gb339≠gb281))
                have n24_:=mk_ ((by rw [hg];exact zm2 (zr6 (by exact Ai.out)):gb287≠gb339))
                have n25_:=mk_ ((by rw [hg];exact zm3 (zr6 (by exact Ai.out)):gb339≠gb287))
                have n26_:=mk_ ((by rw [hg];exact zm2 (zr6 (by exact Ag.out)):gb296≠gb339))
                have n27_:=mk_ ((by rw [hg];exact zm3 (zr6 (by exact Ag.out)):gb339≠gb296))
                have Ir:=fun (h0_:b 1=true)=>(show RR ku 5 D4 w.heap.size (fun k_=>(b 3=true→some k_≠(v329:Value).ownBlock)∧(b 4=true→some k_≠(v333:Value).ownBlock)∧(b 4=true→some k_≠(v336:Value).ownBlock)∧some k_≠(.slice Ao240 t292.length co240:Value).ownBlock∧some k_≠(v270:Value).ownBlock∧some k_≠(.slice Ao52 t311.length co52:Value).ownBlock∧some k_≠(.slice Ao62 t313.length co62:Value).ownBlock∧some k_≠(.slice Ao72 t289.length co72:Value).ownBlock∧some k_≠(v273:Value).ownBlock) v324 t323 from by first|exact (RR_below (mRR (Bo h0_)) hb)|exact RR_mono (RR_below (mRR (Bo h0_)) hb) (fun _ h_=>by first|trivial|exact h_|exact h_.1))
                have Is:=fun (h0_:b 3=true)=>(show RR ku 5 D4 w.heap.size (fun k_=>some k_≠(v324:Value).ownBlock∧(b 4=true→some k_≠(v333:Value).ownBlock)∧(b 4=true→some k_≠(v336:Value).ownBlock)∧some k_≠(.slice Ao240 t292.length co240:Value).ownBlock∧some k_≠(v270:Value).ownBlock∧some k_≠(.slice Ao52 t311.length co52:Value).ownBlock∧some k_≠(.slice Ao62 t313.length co62:Value).ownBlock∧some k_≠(.slice Ao72 t289.length co72:Value).ownBlock∧some k_≠(v273:Value).ownBlock) v329 t328 from by first|exact (RR_below (mRR (Bt h0_)) hb)|exact RR_mono (RR_below (mRR (Bt h0_)) hb) (fun _ h_=>by first|trivial|exact h_|exact h_.1))
                have It:=fun (h0_:b 4=true)=>(show RR ku 5 D4 w.heap.size (fun k_=>some k_≠(v324:Value).ownBlock∧some k_≠(v329:Value).ownBlock∧some k_≠(v336:Value).ownBlock∧some k_≠(.slice Ao240 t292.length co240:Value).ownBlock∧some k_≠(v270:Value).ownBlock∧some k_≠(.slice Ao52 t311.length co52:Value).ownBlock∧some k_≠(.slice Ao62 t313.length co62:Value).ownBlock∧some k_≠(.slice Ao72 t289.length co72:Value).ownBlock∧some k_≠(v273:Value).ownBlock) v333 t332 from by first|exact (RR_below (mRR (B1 h0_)) hb)|exact RR_mono (RR_below (mRR (B1 h0_)) hb) (fun _ h_=>by first|trivial|exact h_|exact h_.1))
                have Iu:=fun (h0_:b 4=true)=>(show RR ku 5 D4 w.heap.size (fun k_=>some k_≠(v324:Value).ownBlock∧some k_≠(v329:Value).ownBlock∧some k_≠(v333:Value).ownBlock∧some k_≠(.slice Ao240 t292.length co240:Value).ownBlock∧some k_≠(v270:Value).ownBlock∧some k_≠(.slice Ao52 t311.length co52:Value).ownBlock∧some k_≠(.slice Ao62 t313.length co62:Value).ownBlock∧some k_≠(.slice Ao72 t289.length co72:Value).ownBlock∧some k_≠(v273:Value).ownBlock) v336 t335 from by first|exact (RR_below (mRR (B2 h0_)) hb)|exact RR_mono (RR_below (mRR (B2 h0_)) hb) (fun _ h_=>by first|trivial|exact h_|exact h_.1))
                clear Al
                clear Ak
                clear Ab
                clear Ac
                clear Ad
                clear Aa
                clear Ae
                clear Af
                clear Ah
                clear Aj
                clear Ai
                clear Ag
                clear HB
                have Al:=n0_
                have Ak:=n1_
                have Ab:=n2_
                have Ac:=n3_
                have Ad:=n4_
                have Aa:=n5_
                have Ae:=n6_
                have Af:=n7_
                have Ah:=n8_
                have Aj:=n9_
                have Ai:=n10_
                have Ag:=n11_
                have HB:=n12_
                have Bp:=n13_
                have Dy:=n14_
                have Dz:=n15_
                have Cy:=n16_
                have C6:=n17_
                have Cz:=n18_
                have C7:=n19_
                have C0:=n20_
                have C8:=n21_
                have C1:=n22_
                have C9:=n23_
                have C2:=n24_
                have Da:=n25_
                have Co:=n26_
                have Cs:=n27_
                clear n0_ n1_ n2_ n3_ n4_ n5_ n6_ n7_ n8_ n9_ n10_ n11_ n12_ n13_ n14_ n15_ n16_ n17_ n18_ n19_ n20_ n21_ n22_ n23_ n24_ n25_ n26_ n27_
                clear hb hbox hg
                refine hK.out _ _ ⟨v324,v329,v333,v336,gb339,m1_,m3_,m4_,m5_,m6_,m7_,(.pointer (some ⟨gb339,0,none⟩)),m11_,(by rw [ha.out];exact putSel_upk 9 hb_ rfl rfl rfl),(mRR Ak.out),(mRR Ab.out),(mRR Ac.out),(mRR Ad.out),(mRR Aa.out),(mRR Al.out),(by exact Ae.out),(by exact Af.out),(by exact Ah.out),(by exact Aj.out),(by exact Ai.out),(by exact Ag.out),(yu1 HB.out),Ir,Is,It,Iu,fun _ _=>(by exact Bp.out),fun _=>Dy.out,fun _=>Dz.out,fun _=>Cy.out,fun _=>C6.out,fun _=>Cz.out,fun _=>C7.out,fun _=>C0.out,fun _=>C8.out,fun _=>C1.out,fun _=>C9.out,fun _=>C2.out,fun _=>Da.out,fun _=>Co.out,fun _=>Cs.out,fun h0_=>nh (hoff 10 (by kernel_rfl)) h0_,Bc,Bh,Bm,Bi,Bv,Bw,fun _=>rfl,fun h0_=>nh (hoff 11 (by kernel_rfl)) h0_⟩
               refine steps_cons ?_ ?_
               ·rintro b a w' ⟨v324,v329,v333,v336,gb339,m1_,m3_,m4_,m5_,m6_,m7_,m9_,m11_,ha,Bd,Ap,Aq,Ar,As,Bu,Am,An,Ao,Be,Bf,Bg,Ba,Bo,Bt,B1,B2,Ch,B7,B8,Ax,Ay,Az,A0,A1,A2,A4,A5,A6,A7,A8,A9,Bl,Bc,Bh,Bm,Bi,Bv,Bw,Bb,Ca⟩ hb_ hon hoff
                refine ⟨_,rfl,fun K hK=>?_⟩
                have e17:a.tmps[17]? =some (m9_):=by rw [ha];exact putSel_on (e:=(9,17,m9_)) 9 rfl rfl (hon 9 (by kernel_rfl)) rfl
                rw [Bb (hon 9 (by kernel_rfl))] at e17
                have e125:a.tmps[125]? =some (m6_):=by rw [ha];exact putSel_on (e:=(6,125,m6_)) 6 rfl rfl (hon 6 (by kernel_rfl)) rfl
                rw [Bv (hon 6 (by kernel_rfl))] at e125
                replace ha:=mk_ ha
                have Ak:=mk_ Bd
                have Ab:=mk_ Ap
                have Ac:=mk_ Aq
                have Ad:=mk_ Ar
                have Aa:=mk_ As
                have Al:=mk_ Bu
                have Ae:=mk_ Am
                have Af:=mk_ An
                have Ah:=mk_ Ao
                have Aj:=mk_ Be
                have Ai:=mk_ Bf
                have Ag:=mk_ Bg
                have HB:=mk_ Ba
                have Cl:=mk_ (Bo (hon 1 (by kernel_rfl)))
                have Ct:=mk_ (Bt (hon 3 (by kernel_rfl)))
                have Cp:=mk_ (B1 (hon 4 (by kernel_rfl)))
                have Cv:=mk_ (B2 (hon 4 (by kernel_rfl)))
                have Bp:=mk_ (Ch (hon 9 (by kernel_rfl)) hb_)
                have Dy:=mk_ (B7 (hon 9 (by kernel_rfl)))
                have Dz:=mk_ (B8 (hon 9 (by kernel_rfl)))
                have Cy:=mk_ (Ax (hon 9 (by kernel_rfl)))
                have C6:=mk_ (Ay (hon 9 (by kernel_rfl)))
                have Cz:=mk_ (Az (hon 9 (by kernel_rfl)))
                have C7:=mk_ (A0 (hon 9 (by kernel_rfl)))
                have C0:=mk_ (A1 (hon 9 (by kernel_rfl)))
                have C8:=mk_ (A2 (hon 9 (by kernel_rfl)))
                have C1:=mk_ (A4 (hon 9 (by kernel_rfl)))
                have C9:=mk_ (A5 (hon 9 (by kernel_rfl)))
                have C2:=mk_ (A6 (hon 9 (by kernel_rfl)))
                have Da:=mk_ (A7 (hon 9 (by kernel_rfl)))
                have Co:=mk_ (A8 (hon 9 (by kernel_rfl)))
                have Cs:=mk_ (A9 (hon 9 (by kernel_rfl)))
                obtain ⟨Ao253,co253,eo253⟩:=RR_slice Cp.out
                (first|subst eo253|(injection eo253 with f1_ f2_ f3_;have f4_:=f1_.symm;have f5_:=f3_.symm;clear f1_ f2_ f3_;subst f4_;subst f5_))
                have hs252:w'.cell? ⟨gb339,0,none⟩=some (.int .i64 0):=(zr4 Bp.out 0).trans rfl
                have hfs252:=zr5 Bp.out 0
                have hns252_0:=Cy.out
                have hns252_1:=Cz.out
                have hns252_2:=C0.out
                have hns252_3:=C1.out
                have hns252_4:=C2.out
                have hns252_5:=Co.out
                have hms252_0:=C6.out
                have hms252_1:=C7.out
                have hms252_2:=C8.out
                have hms252_3:=C9.out
                have hms252_4:=Da.out
                have hms252_5:=Cs.out
                have hs254:w'.cell? ⟨gb339,1,none⟩=some (.slice none 0 0):=(zr4 Bp.out 1).trans rfl
                have hfs254:=zr5 Bp.out 1
                have hns254_0:=Cy.out
                have hns254_1:=Cz.out
                have hns254_2:=C0.out
                have hns254_3:=C1.out
                have hns254_4:=C2.out
                have hns254_5:=Co.out
                have hms254_0:=C6.out
                have hms254_1:=C7.out
                have hms254_2:=C8.out
                have hms254_3:=C9.out
                have hms254_4:=Da.out
                have hms254_5:=Cs.out
                refine skip_ (w1:=?_) (by rfl) rfl ?_ ?_
                rotate_left
                ·go_simp
                 rfl
                refine hK.out _ _ ⟨v324,v329,.slice Ao253 t332.length co253,v336,gb339,m1_,m3_,m4_,m5_,m6_,m7_,m9_,m11_,(by rw [ha.out];exact putSel_none (v:=undef) rfl),(mG2 Ak.out Bp.out),(mG2 Ab.out Bp.out),(mG2 Ac.out Bp.out),(mG2 Ad.out Bp.out),(mG2 Aa.out Bp.out),(mG2 Al.out Bp.out),(yv3 Cy.out Ae.out),(yv3 Cz.out Af.out),(yv3 C0.out Ah.out),(yv3 C1.out Aj.out),(yv3 C2.out Ai.out),(yv3 Co.out Ag.out),(yu1 HB.out),fun _=>(mG2 Cl.out Bp.out),fun _=>(mG2 Ct.out Bp.out),fun _=>(mG2 Cp.out Bp.out),fun _=>(mG2 Cv.out Bp.out),fun _ h1_=>absurd ((up_self b 10).symm.trans h1_) (by decide),fun _=>Dy.out,fun _=>Dz.out,fun _=>Cy.out,fun _=>C6.out,fun _=>Cz.out,fun _=>C7.out,fun _=>C0.out,fun _=>C8.out,fun _=>C1.out,fun _=>C9.out,fun _=>C2.out,fun _=>Da.out,fun _=>Co.out,fun _=>Cs.out,fun _=>(yv0 Bp.out),Bc,Bh,Bm,Bi,Bv,Bw,Bb,fun h0_=>nh (hoff 11 (by kernel_rfl)) h0_⟩
               refine steps_cons ?_ ?_
               ·rintro b a w' ⟨v324,v329,v333,v336,gb339,m1_,m3_,m4_,m5_,m6_,m7_,m9_,m11_,ha,Bd,Ap,Aq,Ar,As,Bu,Am,An,Ao,Be,Bf,Bg,Ba,Bo,Bt,B1,B2,Ch,B7,B8,Ax,Ay,Az,A0,A1,A2,A4,A5,A6,A7,A8,A9,Bl,Bc,Bh,Bm,Bi,Bv,Bw,Bb,Ca⟩ hb_ hon hoff
                refine ⟨_,rfl,fun K hK=>?_⟩
                have e126:a.tmps[126]? =some (m7_):=by rw [ha];exact putSel_on (e:=(7,126,m7_)) 7 rfl rfl (hon 7 (by kernel_rfl)) rfl
                rw [Bw (hon 7 (by kernel_rfl))] at e126
                replace ha:=mk_ ha
                have Ak:=mk_ Bd
                have Ab:=mk_ Ap
                have Ac:=mk_ Aq
                have Ad:=mk_ Ar
                have Aa:=mk_ As
                have Al:=mk_ Bu
                have Ae:=mk_ Am
                have Af:=mk_ An
                have Ah:=mk_ Ao
                have Aj:=mk_ Be
                have Ai:=mk_ Bf
                have Ag:=mk_ Bg
                have HB:=mk_ Ba
                have Cl:=mk_ (Bo (hon 1 (by kernel_rfl)))
                have Ct:=mk_ (Bt (hon 3 (by kernel_rfl)))
                have Cp:=mk_ (B1 (hon 4 (by kernel_rfl)))
                have Cv:=mk_ (B2 (hon 4 (by kernel_rfl)))
                have Dy:=mk_ (B7 (hon 9 (by kernel_rfl)))
                have Dz:=mk_ (B8 (hon 9 (by kernel_rfl)))
                have Cy:=mk_ (Ax (hon 9 (by kernel_rfl)))
                have C6:=mk_ (Ay (hon 9 (by kernel_rfl)))
                have Cz:=mk_ (Az (hon 9 (by kernel_rfl)))
                have C7:=mk_ (A0 (hon 9 (by kernel_rfl)))
                have C0:=mk_ (A1 (hon 9 (by kernel_rfl)))
                have C8:=mk_ (A2 (hon 9 (by kernel_rfl)))
                have C1:=mk_ (A4 (hon 9 (by kernel_rfl)))
                have C9:=mk_ (A5 (hon 9 (by kernel_rfl)))
                have C2:=mk_ (A6 (hon 9 (by kernel_rfl)))
                have Da:=mk_ (A7 (hon 9 (by kernel_rfl)))
                have Co:=mk_ (A8 (hon 9 (by kernel_rfl)))
                have Cs:=mk_ (A9 (hon 9 (by kernel_rfl)))
                have Bp:=mk_ (Bl (hon 10 (by kernel_rfl)))
                refine value_ (w1:=w') (v:=v336) (by rfl) rfl ?_ ?_
                ·go_simp
                 (try simp only [i64_w])
                 try rfl
                refine hK.out _ _ ⟨v324,v329,v333,v336,gb339,m1_,m3_,m4_,m5_,m6_,m7_,m9_,(v336),(by rw [ha.out];exact putSel_upk 10 hb_ rfl rfl rfl),Bd,Ap,Aq,Ar,As,Bu,Am,An,Ao,Be,Bf,Bg,Ba,Bo,Bt,B1,B2,fun _ h1_=>absurd ((hon 10 (by kernel_rfl)).symm.trans h1_) (by decide),B7,B8,Ax,Ay,Az,A0,A1,A2,A4,A5,A6,A7,A8,A9,Bl,Bc,Bh,Bm,Bi,Bv,Bw,Bb,fun _=>rfl⟩
               refine steps_cons ?_ ?_
               ·rintro b a w' ⟨v324,v329,v333,v336,gb339,m1_,m3_,m4_,m5_,m6_,m7_,m9_,m11_,ha,Bd,Ap,Aq,Ar,As,Bu,Am,An,Ao,Be,Bf,Bg,Ba,Bo,Bt,B1,B2,Ch,B7,B8,Ax,Ay,Az,A0,A1,A2,A4,A5,A6,A7,A8,A9,Bl,Bc,Bh,Bm,Bi,Bv,Bw,Bb,Ca⟩ hb_ hon hoff
                refine ⟨_,rfl,fun K hK=>?_⟩
                have e127:a.tmps[127]? =some (.int .i64 t338):=by rw [ha];exact putSel_on (e:=(8,127,.int .i64 t338)) 8 rfl rfl (hon 8 (by kernel_rfl)) rfl
                replace ha:=mk_ ha
                have Ak:=mk_ Bd
                have Ab:=mk_ Ap
                have Ac:=mk_ Aq
                have Ad:=mk_ Ar
                have Aa:=mk_ As
                have Al:=mk_ Bu
                have Ae:=mk_ Am
                have Af:=mk_ An
                have Ah:=mk_ Ao
                have Aj:=mk_ Be
                have Ai:=mk_ Bf
                have Ag:=mk_ Bg
                have HB:=mk_ Ba
                have Cl:=mk_ (Bo (hon 1 (by kernel_rfl)))
                have Ct:=mk_ (Bt (hon 3 (by kernel_rfl)))
                have Cp:=mk_ (B1 (hon 4 (by kernel_rfl)))
                have Cv:=mk_ (B2 (hon 4 (by kernel_rfl)))
                have Dy:=mk_ (B7 (hon 9 (by kernel_rfl)))
                have Dz:=mk_ (B8 (hon 9 (by kernel_rfl)))
                have Cy:=mk_ (Ax (hon 9 (by kernel_rfl)))
                have C6:=mk_ (Ay (hon 9 (by kernel_rfl)))
                have Cz:=mk_ (Az (hon 9 (by kernel_rfl)))
                have C7:=mk_ (A0 (hon 9 (by kernel_rfl)))
                have C0:=mk_ (A1 (hon 9 (by kernel_rfl)))
                have C8:=mk_ (A2 (hon 9 (by kernel_rfl)))
                have C1:=mk_ (A4 (hon 9 (by kernel_rfl)))
                have C9:=mk_ (A5 (hon 9 (by kernel_rfl)))
                have C2:=mk_ (A6 (hon 9 (by kernel_rfl)))
                have Da:=mk_ (A7 (hon 9 (by kernel_rfl)))
                have Co:=mk_ (A8 (hon 9 (by kernel_rfl)))
                have Cs:=mk_ (A9 (hon 9 (by kernel_rfl)))
                have Bp:=mk_ (Bl (hon 10 (by kernel_rfl)))
                refine value_ (w1:=w') (v:=.int .i64 t338) (by rfl) rfl ?_ ?_
                ·go_simp
                 (try simp only [i64_w])
                 try rfl
                refine hK.out _ _ ⟨v324,v329,v333,v336,gb339,m1_,m3_,m4_,m5_,m6_,m7_,m9_,m11_,(by rw [ha.out];exact putSel_upk 11 hb_ rfl rfl rfl),Bd,Ap,Aq,Ar,As,Bu,Am,An,Ao,Be,Bf,Bg,Ba,Bo,Bt,B1,B2,fun _ h1_=>absurd ((hon 10 (by kernel_rfl)).symm.trans h1_) (by decide),B7,B8,Ax,Ay,Az,A0,A1,A2,A4,A5,A6,A7,A8,A9,Bl,Bc,Bh,Bm,Bi,Bv,Bw,Bb,Ca⟩
               exact steps_nil
              rintro b a U1 hall ⟨v324,v329,v333,v336,gb339,m1_,m3_,m4_,m5_,m6_,m7_,m9_,m11_,ha,Bd,Ap,Aq,Ar,As,Bu,Am,An,Ao,Be,Bf,Bg,Ba,Bo,Bt,B1,B2,Ch,B7,B8,Ax,Ay,Az,A0,A1,A2,A4,A5,A6,A7,A8,A9,Bl,Bc,Bh,Bm,Bi,Bv,Bw,Bb,Ca⟩
              clear Ae Af Ah Aj Ai Ag HB Ak Ab Ac Ad Aa Al
              have hb0_:=hall 0 (by kernel_rfl)
              have hb1_:=hall 1 (by kernel_rfl)
              have hb2_:=hall 2 (by kernel_rfl)
              have hb3_:=hall 3 (by kernel_rfl)
              have hb4_:=hall 4 (by kernel_rfl)
              have hb5_:=hall 5 (by kernel_rfl)
              have hb6_:=hall 6 (by kernel_rfl)
              have hb7_:=hall 7 (by kernel_rfl)
              have hb8_:=hall 8 (by kernel_rfl)
              have hb9_:=hall 9 (by kernel_rfl)
              have hb10_:=hall 10 (by kernel_rfl)
              have hb11_:=hall 11 (by kernel_rfl)
              have hb12_:=hall 12 (by kernel_rfl)
              subst ha
              obtain rfl:=Bc hb1_
              obtain rfl:=Bh hb3_
              obtain rfl:=Bm hb4_
              obtain rfl:=Bi hb5_
              obtain rfl:=Bv hb6_
              obtain rfl:=(Bw hb7_).symm
              obtain rfl:=Bb hb9_
              obtain rfl:=(Ca hb11_).symm
              simp only [putSel,hb0_,hb1_,hb2_,hb3_,hb4_,hb5_,hb6_,hb7_,hb8_,hb9_,hb10_,hb11_,hb12_,if_true,Act.put,List.setIfInBounds_toArray,List.set_cons_zero,List.set_cons_succ]
              have Ak:=mk_ (RR_mono (Bd) (fun _ h=>ai (h.1 hb1_) (ai (h.2.1 hb3_) (ai (h.2.2.1 hb4_) (ai (h.2.2.2.1 hb4_) (h.2.2.2.2))))))
              clear Bd
              have Ab:=mk_ (RR_mono (Ap) (fun _ h=>ai (h.1 hb1_) (ai (h.2.1 hb3_) (ai (h.2.2.1 hb4_) (ai (h.2.2.2.1 hb4_) (h.2.2.2.2))))))
              clear Ap
              have Ac:=mk_ (RR_mono (Aq) (fun _ h=>ai (h.1 hb1_) (ai (h.2.1 hb3_) (ai (h.2.2.1 hb4_) (ai (h.2.2.2.1 hb4_) (h.2.2.2.2))))))
              clear Aq
              have Ad:=mk_ (RR_mono (Ar) (fun _ h=>ai (h.1 hb1_) (ai (h.2.1 hb3_) (ai (h.2.2.1 hb4_) (ai (h.2.2.2.1 hb4_) (h.2.2.2.2))))))
              clear Ar
              have Aa:=mk_ (RR_mono (As) (fun _ h=>ai (h.1 hb1_) (ai (h.2.1 hb3_) (ai (h.2.2.1 hb4_) (ai (h.2.2.2.1 hb4_) (h.2.2.2.2))))))
              clear As
              have Al:=mk_ (RR_mono (Bu) (fun _ h=>ai (h.1 hb1_) (ai (h.2.1 hb3_) (ai (h.2.2.1 hb4_) (ai (h.2.2.2.1 hb4_) (h.2.2.2.2))))))
              clear Bu
              have Ae:=mk_ Am
              clear Am
              have Af:=mk_ An
              clear An
              have Ah:=mk_ Ao
              clear Ao
              have Aj:=mk_ Be
              clear Be
              have Ai:=mk_ Bf
              clear Bf
              have Ag:=mk_ Bg
              clear Bg
              have HB:=mk_ Ba
              clear Ba
              have Cl:=mk_ (RR_mono (Bo hb1_) (fun _ h=>ai (h.1 hb3_) (ai (h.2.1 hb4_) (ai (h.2.2.1 hb4_) (h.2.2.2)))))
              clear Bo
              have Ct:=mk_ (RR_mono (Bt hb3_) (fun _ h=>ai (h.1) (ai (h.2.1 hb4_) (ai (h.2.2.1 hb4_) (h.2.2.2)))))
              clear Bt
              have Cp:=mk_ (RR_mono (B1 hb4_) (fun _ h=>ai (h.1) (ai (h.2.1) (ai (h.2.2.1) (h.2.2.2)))))
              clear B1
              have Cv:=mk_ (RR_mono (B2 hb4_) (fun _ h=>ai (h.1) (ai (h.2.1) (ai (h.2.2.1) (h.2.2.2)))))
              clear B2
              clear Ch
              have Dy:=mk_ (B7 hb9_)
              clear B7
              have Dz:=mk_ (B8 hb9_)
              clear B8
              have Cy:=mk_ (Ax hb9_)
              clear Ax
              have C6:=mk_ (Ay hb9_)
              clear Ay
              have Cz:=mk_ (Az hb9_)
              clear Az
              have C7:=mk_ (A0 hb9_)
              clear A0
              have C0:=mk_ (A1 hb9_)
              clear A1
              have C8:=mk_ (A2 hb9_)
              clear A2
              have C1:=mk_ (A4 hb9_)
              clear A4
              have C9:=mk_ (A5 hb9_)
              clear A5
              have C2:=mk_ (A6 hb9_)
              clear A6
              have Da:=mk_ (A7 hb9_)
              clear A7
              have Co:=mk_ (A8 hb9_)
              clear A8
              have Cs:=mk_ (A9 hb9_)
              clear A9
              have Bp:=mk_ (Bl hb10_)
              clear Bl
              clear hall hb0_ hb1_ hb2_ hb3_ hb4_ hb5_ hb6_ hb7_ hb8_ hb9_ hb10_ hb11_ hb12_
              go_upto_region 36 with (fail)
              go_cut [142] (fun v142 wc=>∃ (kq:Nat) (Du:Bool),v142=.bool Du∧Aside0 (laws_FnExactSegPut.j2 kq t319 t318 Du t288 t317=some r)∧Aside0 (kq≤B4)∧Aside0 (RR ku 5 wc w.heap.size (fun k_=>some k_≠(v270:Value).ownBlock∧some k_≠((.slice Ao52 t311.length co52):Value).ownBlock∧some k_≠((.slice Ao62 t313.length co62):Value).ownBlock∧some k_≠((.slice Ao72 t289.length co72):Value).ownBlock∧some k_≠(v333:Value).ownBlock) (.slice Ao240 t292.length co240) t319)∧Aside0 (RR ku 5 wc w.heap.size (fun k_=>some k_≠((.slice Ao240 t292.length co240):Value).ownBlock∧some k_≠((.slice Ao52 t311.length co52):Value).ownBlock∧some k_≠((.slice Ao62 t313.length co62):Value).ownBlock∧some k_≠((.slice Ao72 t289.length co72):Value).ownBlock∧some k_≠(v333:Value).ownBlock) v270 t269)∧Aside0 (RR ku 5 wc w.heap.size (fun k_=>some k_≠((.slice Ao240 t292.length co240):Value).ownBlock∧some k_≠(v270:Value).ownBlock∧some k_≠((.slice Ao62 t313.length co62):Value).ownBlock∧some k_≠((.slice Ao72 t289.length co72):Value).ownBlock∧some k_≠(v333:Value).ownBlock) (.slice Ao52 t311.length co52) t311)∧Aside0 (RR ku 5 wc w.heap.size (fun k_=>some k_≠((.slice Ao240 t292.length co240):Value).ownBlock∧some k_≠(v270:Value).ownBlock∧some k_≠((.slice Ao52 t311.length co52):Value).ownBlock∧some k_≠((.slice Ao72 t289.length co72):Value).ownBlock∧some k_≠(v333:Value).ownBlock) (.slice Ao62 t313.length co62) t313)∧Aside0 (RR ku 5 wc w.heap.size (fun k_=>some k_≠((.slice Ao240 t292.length co240):Value).ownBlock∧some k_≠(v270:Value).ownBlock∧some k_≠((.slice Ao52 t311.length co52):Value).ownBlock∧some k_≠((.slice Ao62 t313.length co62):Value).ownBlock∧some k_≠(v333:Value).ownBlock) (.slice Ao72 t289.length co72) t317)∧Aside0 (RR ku 5 wc w.heap.size (fun k_=>some k_≠((.slice Ao240 t292.length co240):Value).ownBlock∧some k_≠(v270:Value).ownBlock∧some k_≠((.slice Ao52 t311.length co52):Value).ownBlock∧some k_≠((.slice Ao62 t313.length co62):Value).ownBlock∧some k_≠((.slice Ao72 t289.length co72):Value).ownBlock) v333 t332)∧Aside0 (wc.heap[gb255]? =some (.cells #[.int .i64 a0_0,(.slice A0_1 l0_1.length c0_1)] 46 (0,0)))∧Aside0 (wc.heap[gb256]? =some (.cells #[.int .i64 a1_0,.int .i64 a1_1,(.slice A1_2 l1_2.length c1_2)] 47 (0,0)))∧Aside0 (wc.heap[gb276]? =some (.cells #[.int .i64 t268,v270] 35 (0,0)))∧Aside0 (wc.heap[gb281]? =some (.cells #[.int .i64 t277,(.slice Ao52 t311.length co52)] 35 (0,0)))∧Aside0 (wc.heap[gb287]? =some (.cells #[.int .i64 t282,.int .i64 t283,(.slice Ao62 t313.length co62)] 39 (0,0)))∧Aside0 (wc.heap[gb296]? =some (.cells #[.int .i64 t288,(.slice Ao72 t289.length co72)] 35 (0,0)))∧Aside0 (wc.heap[gb339]? =some (.cells #[.int .i64 t331,v333] 35 (0,0)))∧Aside0 (Below w.heap.size w wc))
              case first =>
               have H:=Ef.out
               clear Ef
               replace H:=Option.bind_eq_some_iff.mp H
               obtain ⟨t340,G4,H⟩:=H
               try dsimp only at H
               have Fw:=mk_ G4
               clear G4
               by_cases c256:t340=true
               ·subst c256
                have H1:((laws_eqByteS.f B4 t335 t272).bind fun t341=>(if t341=true then (laws_FnExactSegPut.j2 B4 t319 t318 (t338 != t275) t288 t317) else (laws_FnExactSegPut.j2 B4 t319 t318 true t288 t317)))=some r:=by rw [if_pos rfl] at H;exact H
                clear H
                have H:=H1
                clear H1
                replace H:=Option.bind_eq_some_iff.mp H
                obtain ⟨t341,G5,H⟩:=H
                try dsimp only at H
                have I6:=mk_ G5
                clear G5
                by_cases c258:t341=true
                ·subst c258
                 have H1:(laws_FnExactSegPut.j2 B4 t319 t318 (t338 != t275) t288 t317)=some r:=by rw [if_pos rfl] at H;exact H
                 clear H
                 have H:=H1
                 clear H1
                 have H':=mk_ H
                 clear H
                 have O3:=C6.out
                 have O4:=Cy.out
                 have O5:=C7.out
                 have O6:=Cz.out
                 have O7:=C8.out
                 have O8:=C0.out
                 have O9:=C9.out
                 have Pa:=C1.out
                 have Pb:=Da.out
                 have Pc:=C2.out
                 have Pd:=Cs.out
                 have Pe:=Co.out
                 obtain ⟨Fx,Fy⟩:=cz2 Bp.out
                 obtain ⟨Fz,F0⟩:=fz2 Bp.out
                 have Pf:=Ci.out
                 have Pg:=Cd.out
                 have Ph:=Cj.out
                 have Pi:=Ce.out
                 have Pj:=Cw.out
                 have Pk:=C4.out
                 have Pl:=Cx.out
                 have Pm:=C5.out
                 have Pn:=B9.out
                 have Po:=Ck.out
                 obtain ⟨F1,F2⟩:=cz2 Ah.out
                 obtain ⟨F3,F4⟩:=fz2 Ah.out
                 obtain ⟨Ao272,co272,eo272⟩:=RR_slice Cp.out
                 subst eo272
                 obtain ⟨Ao273,co273,eo273⟩:=RR_slice Ab.out
                 subst eo273
                 go_wp2_with (first|((with_reducible refine gate_callee (f:=37) rfl ?_);refine goesL_ (some 130) rfl rfl Try.func37 (by kernel_rfl) rfl #[.agg #[.int .i64 t331,.slice Ao272 t332.length co272],.agg #[.int .i64 t268,.slice Ao273 t269.length co273]] rfl am ?_;(with_reducible refine (laws_eqSegJoin.calls B4 t331 _ _ t332 t268 _ _ t269 true _ ?side1 ?side2 ?side3 ?side4 Fw.out).mono ?_);(case side1=>exact mC (RR_reads' Cp.out).2.2);(case side2=>exact (RR_reads' Cp.out).2.1);(case side3=>exact mC (RR_reads' Ab.out).2.2);(case side4=>exact (RR_reads' Ab.out).2.1);rintro e U2 ⟨rfl,hb⟩;refine ⟨_,rfl,?_⟩;replace Al:=mk_ (RR_below (mRR Al.out) hb);replace Ak:=mk_ (RR_below (mRR Ak.out) hb);replace Ab:=mk_ (RR_below (mRR Ab.out) hb);replace Ac:=mk_ (RR_below (mRR Ac.out) hb);replace Ad:=mk_ (RR_below (mRR Ad.out) hb);replace Aa:=mk_ (RR_below (mRR Aa.out) hb);replace Cl:=mk_ (RR_below (mRR Cl.out) hb);replace Ct:=mk_ (RR_below (mRR Ct.out) hb);replace Cp:=mk_ (RR_below (mRR Cp.out) hb);replace Cv:=mk_ (RR_below (mRR Cv.out) hb);replace Ae:=mk_ (zq6 (by exact Ae.out) hb);replace Af:=mk_ (zq6 (by exact Af.out) hb);replace Ah:=mk_ (zq6 (by exact Ah.out) hb);replace Aj:=mk_ (zq6 (by exact Aj.out) hb);replace Ai:=mk_ (zq6 (by exact Ai.out) hb);replace Ag:=mk_ (zq6 (by exact Ag.out) hb);replace Bp:=mk_ (zq6 (by exact Bp.out) hb);replace HB:=mk_ (zr3 (yu1 HB.out) hb);(try clear hb);(try clear hb2);(try clear hk);(try clear hi);obtain ⟨Ao275,co275,eo275⟩:=RR_slice Cv.out;subst eo275;obtain ⟨Ao276,co276,eo276⟩:=RR_slice Al.out;subst eo276)|(go_at_call 19;(with_reducible refine (laws_eqByteS.calls B4 _ _ t335 _ _ t272 true _ ?side1 ?side2 ?side3 ?side4 I6.out).mono ?_);(case side1=>exact mC (RR_reads' Cv.out).2.2);(case side2=>exact (RR_reads' Cv.out).2.1);(case side3=>exact mC (RR_reads' Al.out).2.2);(case side4=>exact (RR_reads' Al.out).2.1);rintro e w' ⟨rfl,⟨nd,rfl⟩⟩))
                 go_meet
                 case rel=>exact ⟨_,((t338 != t275)),(by first|rfl|(simp;done)|(simp [*];done)),H',⟨by have:=HJ24.out;have:=HJ128.out;first|omega|exact Nat.le_refl _⟩,⟨by (try simp only [hl282001_128]);(try simp only [hl288002_128]);(with_reducible repeat (first|apply RR_alloc|apply RR_drewN|apply RR_drew));exact RR_mono Ak.out (fun _ hk=>⟨hk.2.2.2.2.1,⟨hk.2.2.2.2.2.1,⟨hk.2.2.2.2.2.2.1,⟨hk.2.2.2.2.2.2.2.1,hk.2.2.1⟩⟩⟩⟩)⟩,⟨by (try simp only [hl282001_128]);(try simp only [hl288002_128]);(with_reducible repeat (first|apply RR_alloc|apply RR_drewN|apply RR_drew));exact RR_mono Ab.out (fun _ hk=>⟨hk.2.2.2.2.1,⟨hk.2.2.2.2.2.1,⟨hk.2.2.2.2.2.2.1,⟨hk.2.2.2.2.2.2.2.1,hk.2.2.1⟩⟩⟩⟩)⟩,⟨by (try simp only [hl282001_128]);(try simp only [hl288002_128]);(with_reducible repeat (first|apply RR_alloc|apply RR_drewN|apply RR_drew));exact RR_mono Ac.out (fun _ hk=>⟨hk.2.2.2.2.1,⟨hk.2.2.2.2.2.1,⟨hk.2.2.2.2.2.2.1,⟨hk.2.2.2.2.2.2.2.1,hk.2.2.1⟩⟩⟩⟩)⟩,⟨by (try simp only [hl282001_128]);(try simp only [hl288002_128]);(with_reducible repeat (first|apply RR_alloc|apply RR_drewN|apply RR_drew));exact RR_mono Ad.out (fun _ hk=>⟨hk.2.2.2.2.1,⟨hk.2.2.2.2.2.1,⟨hk.2.2.2.2.2.2.1,⟨hk.2.2.2.2.2.2.2.1,hk.2.2.1⟩⟩⟩⟩)⟩,⟨by (try simp only [hl282001_128]);(try simp only [hl288002_128]);(with_reducible repeat (first|apply RR_alloc|apply RR_drewN|apply RR_drew));exact RR_mono Aa.out (fun _ hk=>⟨hk.2.2.2.2.1,⟨hk.2.2.2.2.2.1,⟨hk.2.2.2.2.2.2.1,⟨hk.2.2.2.2.2.2.2.1,hk.2.2.1⟩⟩⟩⟩)⟩,⟨by (try simp only [hl282001_128]);(try simp only [hl288002_128]);(with_reducible repeat (first|apply RR_alloc|apply RR_drewN|apply RR_drew));exact RR_mono Cp.out (fun _ hk=>⟨hk.2.2.2.1,⟨hk.2.2.2.2.1,⟨hk.2.2.2.2.2.1,⟨hk.2.2.2.2.2.2.1,hk.2.2.2.2.2.2.2.1⟩⟩⟩⟩)⟩,⟨by (try simp only [hl282001_128]);(try simp only [hl288002_128]);(with_reducible repeat (first|refine zq1 ?_ _|refine zq2 ?_|refine zq3 ?_ _));exact Ae.out⟩,⟨by (try simp only [hl282001_128]);(try simp only [hl288002_128]);(with_reducible repeat (first|refine zq1 ?_ _|refine zq2 ?_|refine zq3 ?_ _));exact Af.out⟩,⟨by (try simp only [hl282001_128]);(try simp only [hl288002_128]);(with_reducible repeat (first|refine zq1 ?_ _|refine zq2 ?_|refine zq3 ?_ _));exact Ah.out⟩,⟨by (try simp only [hl282001_128]);(try simp only [hl288002_128]);(with_reducible repeat (first|refine zq1 ?_ _|refine zq2 ?_|refine zq3 ?_ _));exact Aj.out⟩,⟨by (try simp only [hl282001_128]);(try simp only [hl288002_128]);(with_reducible repeat (first|refine zq1 ?_ _|refine zq2 ?_|refine zq3 ?_ _));exact Ai.out⟩,⟨by (try simp only [hl282001_128]);(try simp only [hl288002_128]);(with_reducible repeat (first|refine zq1 ?_ _|refine zq2 ?_|refine zq3 ?_ _));exact Ag.out⟩,⟨by (try simp only [hl282001_128]);(try simp only [hl288002_128]);(with_reducible repeat (first|refine zq1 ?_ _|refine zq2 ?_|refine zq3 ?_ _));exact Bp.out⟩,⟨by exact yu1 HB.out⟩⟩
                ·replace c258:=Bool.eq_false_iff.mpr c258
                 subst c258
                 have H1:(laws_FnExactSegPut.j2 B4 t319 t318 true t288 t317)=some r:=by rw [if_neg (show ¬ (false=true) by decide)] at H;exact H
                 clear H
                 have H:=H1
                 clear H1
                 have H':=mk_ H
                 clear H
                 have Pp:=C6.out
                 have Pq:=Cy.out
                 have Pr:=C7.out
                 have Ps:=Cz.out
                 have Pt:=C8.out
                 have Pu:=C0.out
                 have Pv:=C9.out
                 have Pw:=C1.out
                 have Px:=Da.out
                 have Py:=C2.out
                 have Pz:=Cs.out
                 have P0:=Co.out
                 obtain ⟨F5,F6⟩:=cz2 Bp.out
                 obtain ⟨F7,F8⟩:=fz2 Bp.out
                 have P1:=Ci.out
                 have P2:=Cd.out
                 have P3:=Cj.out
                 have P4:=Ce.out
                 have P5:=Cw.out
                 have P6:=C4.out
                 have P7:=Cx.out
                 have P8:=C5.out
                 have P9:=B9.out
                 have Qa:=Ck.out
                 obtain ⟨F9,Ga⟩:=cz2 Ah.out
                 obtain ⟨Gb,Gc⟩:=fz2 Ah.out
                 obtain ⟨Ao290,co290,eo290⟩:=RR_slice Cp.out
                 subst eo290
                 obtain ⟨Ao291,co291,eo291⟩:=RR_slice Ab.out
                 subst eo291
                 go_wp2_with (first|((with_reducible refine gate_callee (f:=37) rfl ?_);refine goesL_ (some 130) rfl rfl Try.func37 (by kernel_rfl) rfl #[.agg #[.int .i64 t331,.slice Ao290 t332.length co290],.agg #[.int .i64 t268,.slice Ao291 t269.length co291]] rfl am ?_;(with_reducible refine (laws_eqSegJoin.calls B4 t331 _ _ t332 t268 _ _ t269 true _ ?side1 ?side2 ?side3 ?side4 Fw.out).mono ?_);(case side1=>exact mC (RR_reads' Cp.out).2.2);(case side2=>exact (RR_reads' Cp.out).2.1);(case side3=>exact mC (RR_reads' Ab.out).2.2);(case side4=>exact (RR_reads' Ab.out).2.1);rintro e U3 ⟨rfl,hb⟩;refine ⟨_,rfl,?_⟩;replace Al:=mk_ (RR_below (mRR Al.out) hb);replace Ak:=mk_ (RR_below (mRR Ak.out) hb);replace Ab:=mk_ (RR_below (mRR Ab.out) hb);replace Ac:=mk_ (RR_below (mRR Ac.out) hb);replace Ad:=mk_ (RR_below (mRR Ad.out) hb);replace Aa:=mk_ (RR_below (mRR Aa.out) hb);replace Cl:=mk_ (RR_below (mRR Cl.out) hb);replace Ct:=mk_ (RR_below (mRR Ct.out) hb);replace Cp:=mk_ (RR_below (mRR Cp.out) hb);replace Cv:=mk_ (RR_below (mRR Cv.out) hb);replace Ae:=mk_ (zq6 (by exact Ae.out) hb);replace Af:=mk_ (zq6 (by exact Af.out) hb);replace Ah:=mk_ (zq6 (by exact Ah.out) hb);replace Aj:=mk_ (zq6 (by exact Aj.out) hb);replace Ai:=mk_ (zq6 (by exact Ai.out) hb);replace Ag:=mk_ (zq6 (by exact Ag.out) hb);replace Bp:=mk_ (zq6 (by exact Bp.out) hb);replace HB:=mk_ (zr3 (yu1 HB.out) hb);(try clear hb);(try clear hb2);(try clear hk);(try clear hi);obtain ⟨Ao293,co293,eo293⟩:=RR_slice Cv.out;subst eo293;obtain ⟨Ao294,co294,eo294⟩:=RR_slice Al.out;subst eo294)|(go_at_call 19;(with_reducible refine (laws_eqByteS.calls B4 _ _ t335 _ _ t272 false _ ?side1 ?side2 ?side3 ?side4 I6.out).mono ?_);(case side1=>exact mC (RR_reads' Cv.out).2.2);(case side2=>exact (RR_reads' Cv.out).2.1);(case side3=>exact mC (RR_reads' Al.out).2.2);(case side4=>exact (RR_reads' Al.out).2.1);rintro e w' ⟨rfl,⟨nd,rfl⟩⟩))
                 go_meet
                 case rel=>exact ⟨_,(true),(by first|rfl|(simp;done)|(simp [*];done)),H',⟨by have:=HJ24.out;have:=HJ128.out;first|omega|exact Nat.le_refl _⟩,⟨by (try simp only [hl282001_128]);(try simp only [hl288002_128]);(with_reducible repeat (first|apply RR_alloc|apply RR_drewN|apply RR_drew));exact RR_mono Ak.out (fun _ hk=>⟨hk.2.2.2.2.1,⟨hk.2.2.2.2.2.1,⟨hk.2.2.2.2.2.2.1,⟨hk.2.2.2.2.2.2.2.1,hk.2.2.1⟩⟩⟩⟩)⟩,⟨by (try simp only [hl282001_128]);(try simp only [hl288002_128]);(with_reducible repeat (first|apply RR_alloc|apply RR_drewN|apply RR_drew));exact RR_mono Ab.out (fun _ hk=>⟨hk.2.2.2.2.1,⟨hk.2.2.2.2.2.1,⟨hk.2.2.2.2.2.2.1,⟨hk.2.2.2.2.2.2.2.1,hk.2.2.1⟩⟩⟩⟩)⟩,⟨by (try simp only [hl282001_128]);(try simp only [hl288002_128]);(with_reducible repeat (first|apply RR_alloc|apply RR_drewN|apply RR_drew));exact RR_mono Ac.out (fun _ hk=>⟨hk.2.2.2.2.1,⟨hk.2.2.2.2.2.1,⟨hk.2.2.2.2.2.2.1,⟨hk.2.2.2.2.2.2.2.1,hk.2.2.1⟩⟩⟩⟩)⟩,⟨by (try simp only [hl282001_128]);(try simp only [hl288002_128]);(with_reducible repeat (first|apply RR_alloc|apply RR_drewN|apply RR_drew));exact RR_mono Ad.out (fun _ hk=>⟨hk.2.2.2.2.1,⟨hk.2.2.2.2.2.1,⟨hk.2.2.2.2.2.2.1,⟨hk.2.2.2.2.2.2.2.1,hk.2.2.1⟩⟩⟩⟩)⟩,⟨by (try simp only [hl282001_128]);(try simp only [hl288002_128]);(with_reducible repeat (first|apply RR_alloc|apply RR_drewN|apply RR_drew));exact RR_mono Aa.out (fun _ hk=>⟨hk.2.2.2.2.1,⟨hk.2.2.2.2.2.1,⟨hk.2.2.2.2.2.2.1,⟨hk.2.2.2.2.2.2.2.1,hk.2.2.1⟩⟩⟩⟩)⟩,⟨by (try simp only [hl282001_128]);(try simp only [hl288002_128]);(with_reducible repeat (first|apply RR_alloc|apply RR_drewN|apply RR_drew));exact RR_mono Cp.out (fun _ hk=>⟨hk.2.2.2.1,⟨hk.2.2.2.2.1,⟨hk.2.2.2.2.2.1,⟨hk.2.2.2.2.2.2.1,hk.2.2.2.2.2.2.2.1⟩⟩⟩⟩)⟩,⟨by (try simp only [hl282001_128]);(try simp only [hl288002_128]);(with_reducible repeat (first|refine zq1 ?_ _|refine zq2 ?_|refine zq3 ?_ _));exact Ae.out⟩,⟨by (try simp only [hl282001_128]);(try simp only [hl288002_128]);(with_reducible repeat (first|refine zq1 ?_ _|refine zq2 ?_|refine zq3 ?_ _));exact Af.out⟩,⟨by (try simp only [hl282001_128]);(try simp only [hl288002_128]);(with_reducible repeat (first|refine zq1 ?_ _|refine zq2 ?_|refine zq3 ?_ _));exact Ah.out⟩,⟨by (try simp only [hl282001_128]);(try simp only [hl288002_128]);(with_reducible repeat (first|refine zq1 ?_ _|refine zq2 ?_|refine zq3 ?_ _));exact Aj.out⟩,⟨by (try simp only [hl282001_128]);(try simp only [hl288002_128]);(with_reducible repeat (first|refine zq1 ?_ _|refine zq2 ?_|refine zq3 ?_ _));exact Ai.out⟩,⟨by (try simp only [hl282001_128]);(try simp only [hl288002_128]);(with_reducible repeat (first|refine zq1 ?_ _|refine zq2 ?_|refine zq3 ?_ _));exact Ag.out⟩,⟨by (try simp only [hl282001_128]);(try simp only [hl288002_128]);(with_reducible repeat (first|refine zq1 ?_ _|refine zq2 ?_|refine zq3 ?_ _));exact Bp.out⟩,⟨by exact yu1 HB.out⟩⟩
               ·replace c256:=Bool.eq_false_iff.mpr c256
                subst c256
                have H1:(laws_FnExactSegPut.j2 B4 t319 t318 true t288 t317)=some r:=by rw [if_neg (show ¬ (false=true) by decide)] at H;exact H
                clear H
                have H:=H1
                clear H1
                have H':=mk_ H
                clear H
                have Qb:=C6.out
                have Qc:=Cy.out
                have Qd:=C7.out
                have Qe:=Cz.out
                have Qf:=C8.out
                have Qg:=C0.out
                have Qh:=C9.out
                have Qi:=C1.out
                have Qj:=Da.out
                have Qk:=C2.out
                have Ql:=Cs.out
                have Qm:=Co.out
                obtain ⟨Gd,Ge⟩:=cz2 Bp.out
                obtain ⟨Gf,Gg⟩:=fz2 Bp.out
                have Qn:=Ci.out
                have Qo:=Cd.out
                have Qp:=Cj.out
                have Qq:=Ce.out
                have Qr:=Cw.out
                have Qs:=C4.out
                have Qt:=Cx.out
                have Qu:=C5.out
                have Qv:=B9.out
                have Qw:=Ck.out
                obtain ⟨Gh,Gi⟩:=cz2 Ah.out
                obtain ⟨Gj,Gk⟩:=fz2 Ah.out
                obtain ⟨Ao308,co308,eo308⟩:=RR_slice Cp.out
                subst eo308
                obtain ⟨Ao309,co309,eo309⟩:=RR_slice Ab.out
                subst eo309
                go_wp2_with (first|((with_reducible refine gate_callee (f:=37) rfl ?_);refine goesL_ (some 130) rfl rfl Try.func37 (by kernel_rfl) rfl #[.agg #[.int .i64 t331,.slice Ao308 t332.length co308],.agg #[.int .i64 t268,.slice Ao309 t269.length co309]] rfl am ?_;(with_reducible refine (laws_eqSegJoin.calls B4 t331 _ _ t332 t268 _ _ t269 false _ ?side1 ?side2 ?side3 ?side4 Fw.out).mono ?_);(case side1=>exact mC (RR_reads' Cp.out).2.2);(case side2=>exact (RR_reads' Cp.out).2.1);(case side3=>exact mC (RR_reads' Ab.out).2.2);(case side4=>exact (RR_reads' Ab.out).2.1);rintro e U4 ⟨rfl,hb⟩;refine ⟨_,rfl,?_⟩;replace Al:=mk_ (RR_below (mRR Al.out) hb);replace Ak:=mk_ (RR_below (mRR Ak.out) hb);replace Ab:=mk_ (RR_below (mRR Ab.out) hb);replace Ac:=mk_ (RR_below (mRR Ac.out) hb);replace Ad:=mk_ (RR_below (mRR Ad.out) hb);replace Aa:=mk_ (RR_below (mRR Aa.out) hb);replace Cl:=mk_ (RR_below (mRR Cl.out) hb);replace Ct:=mk_ (RR_below (mRR Ct.out) hb);replace Cp:=mk_ (RR_below (mRR Cp.out) hb);replace Cv:=mk_ (RR_below (mRR Cv.out) hb);replace Ae:=mk_ (zq6 (by exact Ae.out) hb);replace Af:=mk_ (zq6 (by exact Af.out) hb);replace Ah:=mk_ (zq6 (by exact Ah.out) hb);replace Aj:=mk_ (zq6 (by exact Aj.out) hb);replace Ai:=mk_ (zq6 (by exact Ai.out) hb);replace Ag:=mk_ (zq6 (by exact Ag.out) hb);replace Bp:=mk_ (zq6 (by exact Bp.out) hb);replace HB:=mk_ (zr3 (yu1 HB.out) hb);(try clear hb);(try clear hb2);(try clear hk);(try clear hi)))
                go_meet
                case rel=>exact ⟨_,(true),(by first|rfl|(simp;done)|(simp [*];done)),H',⟨by have:=HJ24.out;have:=HJ128.out;first|omega|exact Nat.le_refl _⟩,⟨by (try simp only [hl282001_128]);(try simp only [hl288002_128]);(with_reducible repeat (first|apply RR_alloc|apply RR_drewN|apply RR_drew));exact RR_mono Ak.out (fun _ hk=>⟨hk.2.2.2.2.1,⟨hk.2.2.2.2.2.1,⟨hk.2.2.2.2.2.2.1,⟨hk.2.2.2.2.2.2.2.1,hk.2.2.1⟩⟩⟩⟩)⟩,⟨by (try simp only [hl282001_128]);(try simp only [hl288002_128]);(with_reducible repeat (first|apply RR_alloc|apply RR_drewN|apply RR_drew));exact RR_mono Ab.out (fun _ hk=>⟨hk.2.2.2.2.1,⟨hk.2.2.2.2.2.1,⟨hk.2.2.2.2.2.2.1,⟨hk.2.2.2.2.2.2.2.1,hk.2.2.1⟩⟩⟩⟩)⟩,⟨by (try simp only [hl282001_128]);(try simp only [hl288002_128]);(with_reducible repeat (first|apply RR_alloc|apply RR_drewN|apply RR_drew));exact RR_mono Ac.out (fun _ hk=>⟨hk.2.2.2.2.1,⟨hk.2.2.2.2.2.1,⟨hk.2.2.2.2.2.2.1,⟨hk.2.2.2.2.2.2.2.1,hk.2.2.1⟩⟩⟩⟩)⟩,⟨by (try simp only [hl282001_128]);(try simp only [hl288002_128]);(with_reducible repeat (first|apply RR_alloc|apply RR_drewN|apply RR_drew));exact RR_mono Ad.out (fun _ hk=>⟨hk.2.2.2.2.1,⟨hk.2.2.2.2.2.1,⟨hk.2.2.2.2.2.2.1,⟨hk.2.2.2.2.2.2.2.1,hk.2.2.1⟩⟩⟩⟩)⟩,⟨by (try simp only [hl282001_128]);(try simp only [hl288002_128]);(with_reducible repeat (first|apply RR_alloc|apply RR_drewN|apply RR_drew));exact RR_mono Aa.out (fun _ hk=>⟨hk.2.2.2.2.1,⟨hk.2.2.2.2.2.1,⟨hk.2.2.2.2.2.2.1,⟨hk.2.2.2.2.2.2.2.1,hk.2.2.1⟩⟩⟩⟩)⟩,⟨by (try simp only [hl282001_128]);(try simp only [hl288002_128]);(with_reducible repeat (first|apply RR_alloc|apply RR_drewN|apply RR_drew));exact RR_mono Cp.out (fun _ hk=>⟨hk.2.2.2.1,⟨hk.2.2.2.2.1,⟨hk.2.2.2.2.2.1,⟨hk.2.2.2.2.2.2.1,hk.2.2.2.2.2.2.2.1⟩⟩⟩⟩)⟩,⟨by (try simp only [hl282001_128]);(try simp only [hl288002_128]);(with_reducible repeat (first|refine zq1 ?_ _|refine zq2 ?_|refine zq3 ?_ _));exact Ae.out⟩,⟨by (try simp only [hl282001_128]);(try simp only [hl288002_128]);(with_reducible repeat (first|refine zq1 ?_ _|refine zq2 ?_|refine zq3 ?_ _));exact Af.out⟩,⟨by (try simp only [hl282001_128]);(try simp only [hl288002_128]);(with_reducible repeat (first|refine zq1 ?_ _|refine zq2 ?_|refine zq3 ?_ _));exact Ah.out⟩,⟨by (try simp only [hl282001_128]);(try simp only [hl288002_128]);(with_reducible repeat (first|refine zq1 ?_ _|refine zq2 ?_|refine zq3 ?_ _));exact Aj.out⟩,⟨by (try simp only [hl282001_128]);(try simp only [hl288002_128]);(with_reducible repeat (first|refine zq1 ?_ _|refine zq2 ?_|refine zq3 ?_ _));exact Ai.out⟩,⟨by (try simp only [hl282001_128]);(try simp only [hl288002_128]);(with_reducible repeat (first|refine zq1 ?_ _|refine zq2 ?_|refine zq3 ?_ _));exact Ag.out⟩,⟨by (try simp only [hl282001_128]);(try simp only [hl288002_128]);(with_reducible repeat (first|refine zq1 ?_ _|refine zq2 ?_|refine zq3 ?_ _));exact Bp.out⟩,⟨by exact yu1 HB.out⟩⟩
              case rest =>
               clear Ef
               try clear c1
               try clear c2
               try clear p2
               try clear c3
               try clear c25
               try clear c26
               try clear c27
               try clear c28
               try clear c29
               try clear c30
               try clear c37
               try clear c256
               try clear c258
               try clear c259
               try clear c260
               try clear c261
               try clear c262
               try clear c263
               try clear c264
               try clear c266
               try clear c267
               try clear c268
               try clear c269
               try clear c270
               try clear c277
               try clear c278
               try clear c279
               try clear c280
               try clear c281
               try clear c282
               try clear c284
               try clear c285
               try clear c286
               try clear c287
               try clear c288
               try clear c295
               try clear c296
               try clear c297
               try clear c298
               try clear c299
               try clear c300
               try clear c302
               try clear c303
               try clear c304
               try clear c305
               try clear c306
               try clear Fx Fy
               try clear F1 F2
               try clear F5 F6
               try clear F9 Ga
               try clear Gd Ge
               try clear Gh Gi
               try clear Fz F0
               try clear F3 F4
               try clear F7 F8
               try clear Gb Gc
               try clear Gf Gg
               try clear Gj Gk
               obtain ⟨kq,Du,rfl,HA,HJ231,Ak,Ab,Ac,Ad,Aa,Dc,Ae,Af,Ah,Aj,Ai,Ag,Bp,HB⟩:=hcut
               have hl12_231:=(RR_reads' Ak.out).1
               rw [hl12_231] at Ak
               (try simp only [hl12_231])
               (try simp only [hl12_231] at Ae)
               (try simp only [hl12_231] at Af)
               (try simp only [hl12_231] at Ah)
               (try simp only [hl12_231] at Aj)
               (try simp only [hl12_231] at Ai)
               (try simp only [hl12_231] at Ag)
               (try simp only [hl12_231] at Bp)
               (try simp only [hl12_231] at Ab)
               (try simp only [hl12_231] at Ac)
               (try simp only [hl12_231] at Ad)
               (try simp only [hl12_231] at Aa)
               (try simp only [hl12_231] at Dc)
               have hl297001_231:=(RR_reads' Aa.out).1
               rw [hl297001_231] at Aa
               (try simp only [hl297001_231])
               (try simp only [hl297001_231] at Ae)
               (try simp only [hl297001_231] at Af)
               (try simp only [hl297001_231] at Ah)
               (try simp only [hl297001_231] at Aj)
               (try simp only [hl297001_231] at Ai)
               (try simp only [hl297001_231] at Ag)
               (try simp only [hl297001_231] at Bp)
               (try simp only [hl297001_231] at Ak)
               (try simp only [hl297001_231] at Ab)
               (try simp only [hl297001_231] at Ac)
               (try simp only [hl297001_231] at Ad)
               (try simp only [hl297001_231] at Dc)
               cases kq with
               |zero=>exact absurd HA.out (by simp [laws_FnExactSegPut.j2])
               |succ Dk =>
                have H:=HA.out
                clear HA
                simp only [laws_FnExactSegPut.j2] at H
                by_cases c311:Du=true
                ·subst c311
                 have H1:(some false)=some r:=by rw [if_pos rfl] at H;exact H
                 clear H
                 have H:=H1
                 clear H1
                 obtain rfl:=Option.some.inj H
                 go_wp2
                 go_ret
                 exact ⟨by first|rfl|(simp [errW_none,errW_some] <;> rfl)|(simp [*,errW_none,errW_some] <;> rfl),by exact yu1 HB.out⟩
                ·replace c311:=Bool.eq_false_iff.mpr c311
                 subst c311
                 have H1:((laws_heldSegJoin.f Dk t288 t317 1).bind fun t342=>(if t342<0 then (some false) else ((laws_heldByteS.f Dk t319 t342).bind fun t343=>(if t343<0 then (some false) else (if t343=t318 then (some true) else (some false))))))=some r:=by rw [if_neg (show ¬ (false=true) by decide)] at H;exact H
                 clear H
                 have H:=H1
                 clear H1
                 replace H:=Option.bind_eq_some_iff.mp H
                 obtain ⟨t342,G6,H⟩:=H
                 try dsimp only at H
                 have Eg:=mk_ G6
                 clear G6
                 by_cases c313:t342<0
                 ·rw [if_pos c313] at H
                  have c313b0:decide (t342<0)=true:=decide_eq_true c313
                  clear c313
                  obtain rfl:=Option.some.inj H
                  have Qx:=Cq.out
                  have Qy:=Cf.out
                  have Qz:=Cr.out
                  have Q0:=Cg.out
                  have Q1:=Ck.out
                  have Q2:=B9.out
                  have Q3:=Cm.out
                  have Q4:=Cb.out
                  have Q5:=Cn.out
                  have Q6:=Cc.out
                  have Q7:=Co.out
                  have Q8:=Cs.out
                  obtain ⟨J8,J9⟩:=cz2 Ag.out
                  obtain ⟨Ka,Kb⟩:=fz2 Ag.out
                  go_wp2_with (first|((with_reducible refine gate_callee (f:=41) rfl ?_);refine goesL_ (some 145) rfl rfl Try.func41 (by kernel_rfl) rfl #[.agg #[.int .i64 t288,.slice Ao72 t317.length co72],.int .i64 1] rfl am ?_;(with_reducible refine (laws_heldSegJoin.calls Dk t288 _ _ t317 1 t342 _ ?side1 ?side2 Eg.out).mono ?_);(case side1=>exact mC (RR_reads' Aa.out).2.2);(case side2=>exact (RR_reads' Aa.out).2.1);rintro e U5 ⟨rfl,hb⟩;refine ⟨_,rfl,?_⟩;replace Ak:=mk_ (RR_below (mRR Ak.out) hb);replace Ab:=mk_ (RR_below (mRR Ab.out) hb);replace Ac:=mk_ (RR_below (mRR Ac.out) hb);replace Ad:=mk_ (RR_below (mRR Ad.out) hb);replace Aa:=mk_ (RR_below (mRR Aa.out) hb);replace Dc:=mk_ (RR_below (mRR Dc.out) hb);replace Ae:=mk_ (zq6 (by exact Ae.out) hb);replace Af:=mk_ (zq6 (by exact Af.out) hb);replace Ah:=mk_ (zq6 (by exact Ah.out) hb);replace Aj:=mk_ (zq6 (by exact Aj.out) hb);replace Ai:=mk_ (zq6 (by exact Ai.out) hb);replace Ag:=mk_ (zq6 (by exact Ag.out) hb);replace Bp:=mk_ (zq6 (by exact Bp.out) hb);replace HB:=mk_ (zr3 (yu1 HB.out) hb);(try clear hb);(try clear hb2);(try clear hk);(try clear hi)))
                  go_ret
                  exact ⟨by first|rfl|(simp [errW_none,errW_some] <;> rfl)|(simp [*,errW_none,errW_some] <;> rfl),by exact yu1 HB.out⟩
                 ·rw [if_neg c313] at H
                  have c313b0:decide (t342<0)=false:=decide_eq_false c313
                  clear c313
                  replace H:=Option.bind_eq_some_iff.mp H
                  obtain ⟨t343,G7,H⟩:=H
                  try dsimp only at H
                  have Gl:=mk_ G7
                  clear G7
                  by_cases c323:t343<0
                  ·rw [if_pos c323] at H
                   have c323b0:decide (t343<0)=true:=decide_eq_true c323
                   clear c323
                   obtain rfl:=Option.some.inj H
                   have Q9:=Cq.out
                   have Ra:=Cf.out
                   have Rb:=Cr.out
                   have Rc:=Cg.out
                   have Rd:=Ck.out
                   have Re:=B9.out
                   have Rf:=Cm.out
                   have Rg:=Cb.out
                   have Rh:=Cn.out
                   have Ri:=Cc.out
                   have Rj:=Co.out
                   have Rk:=Cs.out
                   obtain ⟨Kc,Ke⟩:=cz2 Ag.out
                   obtain ⟨Kf,Kg⟩:=fz2 Ag.out
                   go_wp2_with (first|((with_reducible refine gate_callee (f:=41) rfl ?_);refine goesL_ (some 145) rfl rfl Try.func41 (by kernel_rfl) rfl #[.agg #[.int .i64 t288,.slice Ao72 t317.length co72],.int .i64 1] rfl am ?_;(with_reducible refine (laws_heldSegJoin.calls Dk t288 _ _ t317 1 t342 _ ?side1 ?side2 Eg.out).mono ?_);(case side1=>exact mC (RR_reads' Aa.out).2.2);(case side2=>exact (RR_reads' Aa.out).2.1);rintro e U6 ⟨rfl,hb⟩;refine ⟨_,rfl,?_⟩;replace Ak:=mk_ (RR_below (mRR Ak.out) hb);replace Ab:=mk_ (RR_below (mRR Ab.out) hb);replace Ac:=mk_ (RR_below (mRR Ac.out) hb);replace Ad:=mk_ (RR_below (mRR Ad.out) hb);replace Aa:=mk_ (RR_below (mRR Aa.out) hb);replace Dc:=mk_ (RR_below (mRR Dc.out) hb);replace Ae:=mk_ (zq6 (by exact Ae.out) hb);replace Af:=mk_ (zq6 (by exact Af.out) hb);replace Ah:=mk_ (zq6 (by exact Ah.out) hb);replace Aj:=mk_ (zq6 (by exact Aj.out) hb);replace Ai:=mk_ (zq6 (by exact Ai.out) hb);replace Ag:=mk_ (zq6 (by exact Ag.out) hb);replace Bp:=mk_ (zq6 (by exact Bp.out) hb);replace HB:=mk_ (zr3 (yu1 HB.out) hb);(try clear hb);(try clear hb2);(try clear hk);(try clear hi))|((with_reducible refine gate_callee (f:=42) rfl ?_);refine goesL_ (some 150) rfl rfl Try.func42 (by kernel_rfl) rfl #[.slice Ao240 t319.length co240,.int .i64 t342] rfl am ?_;(with_reducible refine (laws_heldByteS.calls Dk _ _ t319 t342 t343 _ ?side1 ?side2 Gl.out).mono ?_);(case side1=>exact mC (RR_reads' Ak.out).2.2);(case side2=>exact (RR_reads' Ak.out).2.1);rintro e w' ⟨rfl,⟨nd,rfl⟩⟩;refine ⟨_,rfl,?_⟩))
                   go_ret
                   exact ⟨by first|rfl|(simp [errW_none,errW_some] <;> rfl)|(simp [*,errW_none,errW_some] <;> rfl),by exact yu1 HB.out⟩
                  ·rw [if_neg c323] at H
                   have c323b0:decide (t343<0)=false:=decide_eq_false c323
                   clear c323
                   by_cases c332:t343=t318
                   ·rw [if_pos c332] at H
                    have c332b0:(t343 == t318)=true:=beq_iff_eq.mpr c332
                    have c332b1:(t343 != t318)=false:=bne_eq_false_iff_eq.mpr c332
                    clear c332
                    obtain rfl:=Option.some.inj H
                    have Rl:=Cq.out
                    have Rm:=Cf.out
                    have Rn:=Cr.out
                    have Ro:=Cg.out
                    have Rp:=Ck.out
                    have Rq:=B9.out
                    have Rr:=Cm.out
                    have Rs:=Cb.out
                    have Rt:=Cn.out
                    have Ru:=Cc.out
                    have Rv:=Co.out
                    have Rw:=Cs.out
                    obtain ⟨Kh,Ki⟩:=cz2 Ag.out
                    obtain ⟨Kj,Kk⟩:=fz2 Ag.out
                    go_wp2_with (first|((with_reducible refine gate_callee (f:=41) rfl ?_);refine goesL_ (some 145) rfl rfl Try.func41 (by kernel_rfl) rfl #[.agg #[.int .i64 t288,.slice Ao72 t317.length co72],.int .i64 1] rfl am ?_;(with_reducible refine (laws_heldSegJoin.calls Dk t288 _ _ t317 1 t342 _ ?side1 ?side2 Eg.out).mono ?_);(case side1=>exact mC (RR_reads' Aa.out).2.2);(case side2=>exact (RR_reads' Aa.out).2.1);rintro e U7 ⟨rfl,hb⟩;refine ⟨_,rfl,?_⟩;replace Ak:=mk_ (RR_below (mRR Ak.out) hb);replace Ab:=mk_ (RR_below (mRR Ab.out) hb);replace Ac:=mk_ (RR_below (mRR Ac.out) hb);replace Ad:=mk_ (RR_below (mRR Ad.out) hb);replace Aa:=mk_ (RR_below (mRR Aa.out) hb);replace Dc:=mk_ (RR_below (mRR Dc.out) hb);replace Ae:=mk_ (zq6 (by exact Ae.out) hb);replace Af:=mk_ (zq6 (by exact Af.out) hb);replace Ah:=mk_ (zq6 (by exact Ah.out) hb);replace Aj:=mk_ (zq6 (by exact Aj.out) hb);replace Ai:=mk_ (zq6 (by exact Ai.out) hb);replace Ag:=mk_ (zq6 (by exact Ag.out) hb);replace Bp:=mk_ (zq6 (by exact Bp.out) hb);replace HB:=mk_ (zr3 (yu1 HB.out) hb);(try clear hb);(try clear hb2);(try clear hk);(try clear hi))|((with_reducible refine gate_callee (f:=42) rfl ?_);refine goesL_ (some 150) rfl rfl Try.func42 (by kernel_rfl) rfl #[.slice Ao240 t319.length co240,.int .i64 t342] rfl am ?_;(with_reducible refine (laws_heldByteS.calls Dk _ _ t319 t342 t343 _ ?side1 ?side2 Gl.out).mono ?_);(case side1=>exact mC (RR_reads' Ak.out).2.2);(case side2=>exact (RR_reads' Ak.out).2.1);rintro e w' ⟨rfl,⟨nd,rfl⟩⟩;refine ⟨_,rfl,?_⟩))
                    go_ret
                    exact ⟨by first|rfl|(simp [errW_none,errW_some] <;> rfl)|(simp [*,errW_none,errW_some] <;> rfl),by exact yu1 HB.out⟩
                   ·rw [if_neg c332] at H
                    have c332b0:(t343 == t318)=false:=beq_eq_false_iff_ne.mpr c332
                    have c332b1:(t343 != t318)=true:=bne_iff_ne.mpr c332
                    obtain rfl:=Option.some.inj H
                    have Rx:=Cq.out
                    have Ry:=Cf.out
                    have Rz:=Cr.out
                    have R0:=Cg.out
                    have R1:=Ck.out
                    have R2:=B9.out
                    have R3:=Cm.out
                    have R4:=Cb.out
                    have R5:=Cn.out
                    have R6:=Cc.out
                    have R7:=Co.out
                    have R8:=Cs.out
                    obtain ⟨Kl,Km⟩:=cz2 Ag.out
                    obtain ⟨Kn,Ko⟩:=fz2 Ag.out
                    go_wp2_with (first|((with_reducible refine gate_callee (f:=41) rfl ?_);refine goesL_ (some 145) rfl rfl Try.func41 (by kernel_rfl) rfl #[.agg #[.int .i64 t288,.slice Ao72 t317.length co72],.int .i64 1] rfl am ?_;(with_reducible refine (laws_heldSegJoin.calls Dk t288 _ _ t317 1 t342 _ ?side1 ?side2 Eg.out).mono ?_);(case side1=>exact mC (RR_reads' Aa.out).2.2);(case side2=>exact (RR_reads' Aa.out).2.1);rintro e U8 ⟨rfl,hb⟩;refine ⟨_,rfl,?_⟩;replace Ak:=mk_ (RR_below (mRR Ak.out) hb);replace Ab:=mk_ (RR_below (mRR Ab.out) hb);replace Ac:=mk_ (RR_below (mRR Ac.out) hb);replace Ad:=mk_ (RR_below (mRR Ad.out) hb);replace Aa:=mk_ (RR_below (mRR Aa.out) hb);replace Dc:=mk_ (RR_below (mRR Dc.out) hb);replace Ae:=mk_ (zq6 (by exact Ae.out) hb);replace Af:=mk_ (zq6 (by exact Af.out) hb);replace Ah:=mk_ (zq6 (by exact Ah.out) hb);replace Aj:=mk_ (zq6 (by exact Aj.out) hb);replace Ai:=mk_ (zq6 (by exact Ai.out) hb);replace Ag:=mk_ (zq6 (by exact Ag.out) hb);replace Bp:=mk_ (zq6 (by exact Bp.out) hb);replace HB:=mk_ (zr3 (yu1 HB.out) hb);(try clear hb);(try clear hb2);(try clear hk);(try clear hi))|((with_reducible refine gate_callee (f:=42) rfl ?_);refine goesL_ (some 150) rfl rfl Try.func42 (by kernel_rfl) rfl #[.slice Ao240 t319.length co240,.int .i64 t342] rfl am ?_;(with_reducible refine (laws_heldByteS.calls Dk _ _ t319 t342 t343 _ ?side1 ?side2 Gl.out).mono ?_);(case side1=>exact mC (RR_reads' Ak.out).2.2);(case side2=>exact (RR_reads' Ak.out).2.1);rintro e w' ⟨rfl,⟨nd,rfl⟩⟩;refine ⟨_,rfl,?_⟩))
                    go_ret
                    exact ⟨by first|rfl|(simp [errW_none,errW_some] <;> rfl)|(simp [*,errW_none,errW_some] <;> rfl),by exact yu1 HB.out⟩
             ·rw [if_neg c228] at H
              have c228b0:(t321 == t318)=false:=beq_eq_false_iff_ne.mpr c228
              have c228b1:(t321 != t318)=true:=bne_iff_ne.mpr c228
              obtain rfl:=Option.some.inj H
              have R9:=Cq.out
              have Sa:=Cf.out
              have Sb:=Cr.out
              have Sc:=Cg.out
              have Sd:=Ck.out
              have Se:=B9.out
              have Sf:=Cm.out
              have Sg:=Cb.out
              have Sh:=Cn.out
              have Si:=Cc.out
              obtain ⟨Kp,Kq⟩:=cz2 Ag.out
              obtain ⟨Kr,Ks⟩:=fz2 Ag.out
              go_wp2_with (first|((with_reducible refine gate_callee (f:=39) rfl ?_);refine goesL_ (some 102) rfl rfl Try.func39 (by kernel_rfl) rfl #[.agg #[.int .i64 t288,.slice Ao72 t289.length co72],.int .i64 1] rfl am ?_;(with_reducible refine (laws_markSegJoin.calls B4 t288 (fun k_=>some k_=(.slice Ao72 t289.length co72:Value).ownBlock) (.slice Ao72 t289.length co72) t289 1 t316 t317 w _ ?side1 ?side2 D0.out).mono ?_);(case side1=>exact yu1 HB.out);(case side2=>exact RR_tight rfl Aa.out);rintro e U9 ⟨rfl,hy0,hb,hkp⟩;refine ⟨_,rfl,?_⟩;replace Al:=mk_ (kRR (Al.out) hkp (fun k_ hk_ hs_=>(hk_.2.2.2.2) hs_));replace Ak:=mk_ (kRR (Ak.out) hkp (fun k_ hk_ hs_=>(hk_.2.2.2.2) hs_));replace Ab:=mk_ (kRR (Ab.out) hkp (fun k_ hk_ hs_=>(hk_.2.2.2.2) hs_));replace Ac:=mk_ (kRR (Ac.out) hkp (fun k_ hk_ hs_=>(hk_.2.2.2.2) hs_));replace Ad:=mk_ (kRR (Ad.out) hkp (fun k_ hk_ hs_=>(hk_.2.2.2.2) hs_));replace Ae:=mk_ (bk Ae.out hkp (fun e_=>RR_ne Aa.out Ae.out (by decide) e_));replace Af:=mk_ (bk Af.out hkp (fun e_=>RR_ne Aa.out Af.out (by decide) e_));replace Ah:=mk_ (bk Ah.out hkp (fun e_=>RR_ne Aa.out Ah.out (by decide) e_));replace Aj:=mk_ (bk Aj.out hkp (fun e_=>RR_ne Aa.out Aj.out (by decide) e_));replace Ai:=mk_ (bk Ai.out hkp (fun e_=>RR_ne Aa.out Ai.out (by decide) e_));replace Ag:=mk_ (bk Ag.out hkp (fun e_=>RR_ne Aa.out Ag.out (by decide) e_));replace Aa:=mk_ (RR_reok rfl hy0 (fun k_ e_=>RR_ok Aa.out k_ e_));replace HB:=mk_ (hb);(try clear hb);(try clear hkp);(try clear hy0);obtain ⟨Ao356,co356,eo356⟩:=RR_slice Ak.out;subst eo356)|((with_reducible refine gate_callee (f:=20) rfl ?_);refine goesL_ (some 105) rfl rfl Try.func20 (by kernel_rfl) rfl #[.slice Ao356 t292.length co356,.int .i64 t316] rfl am ?_;(with_reducible refine (laws_markByteS.calls B4 (fun k_=>some k_=(.slice Ao356 t292.length co356:Value).ownBlock) (.slice Ao356 t292.length co356) t292 t316 t318 t319 w _ ?side1 ?side2 Ed.out).mono ?_);(case side1=>exact yu1 HB.out);(case side2=>exact RR_tight rfl Ak.out);rintro e Va ⟨rfl,hy0,hb,hkp⟩;refine ⟨_,rfl,?_⟩;replace Al:=mk_ (kRR (Al.out) hkp (fun k_ hk_ hs_=>(hk_.1) hs_));replace Ab:=mk_ (kRR (Ab.out) hkp (fun k_ hk_ hs_=>(hk_.2.1) hs_));replace Ac:=mk_ (kRR (Ac.out) hkp (fun k_ hk_ hs_=>(hk_.2.1) hs_));replace Ad:=mk_ (kRR (Ad.out) hkp (fun k_ hk_ hs_=>(hk_.2.1) hs_));replace Aa:=mk_ (kRR (Aa.out) hkp (fun k_ hk_ hs_=>(hk_.2.1) hs_));replace Ae:=mk_ (bk Ae.out hkp (fun e_=>RR_ne Ak.out Ae.out (by decide) e_));replace Af:=mk_ (bk Af.out hkp (fun e_=>RR_ne Ak.out Af.out (by decide) e_));replace Ah:=mk_ (bk Ah.out hkp (fun e_=>RR_ne Ak.out Ah.out (by decide) e_));replace Aj:=mk_ (bk Aj.out hkp (fun e_=>RR_ne Ak.out Aj.out (by decide) e_));replace Ai:=mk_ (bk Ai.out hkp (fun e_=>RR_ne Ak.out Ai.out (by decide) e_));replace Ag:=mk_ (bk Ag.out hkp (fun e_=>RR_ne Ak.out Ag.out (by decide) e_));replace Ak:=mk_ (RR_reok rfl hy0 (fun k_ e_=>RR_ok Ak.out k_ e_));replace HB:=mk_ (hb);(try clear hb);(try clear hkp);(try clear hy0);obtain ⟨Kt,Ku⟩:=cz2 Ag.out;obtain ⟨Kv,Kw⟩:=fz2 Ag.out)|((with_reducible refine gate_callee (f:=41) rfl ?_);refine goesL_ (some 108) rfl rfl Try.func41 (by kernel_rfl) rfl #[.agg #[.int .i64 t288,.slice Ao72 t317.length co72],.int .i64 1] rfl (by (try simp only [List.map_toArray,List.map_cons,List.map_nil]);first|done|(rw [show t317.length=t289.length from (RR_reads' Aa.out).1.symm] <;> rfl)|rfl|(simp only [List.length_drop,List.length_take];rfl)) ?_;(with_reducible refine (laws_heldSegJoin.calls B4 t288 _ _ t317 1 t320 _ ?side1 ?side2 Ee.out).mono ?_);(case side1=>exact mC (RR_reads' Aa.out).2.2);(case side2=>rw [show t317.length=t289.length from (RR_reads' Aa.out).1.symm];exact (RR_reads' Aa.out).2.1);rintro e Vb ⟨rfl,hb⟩;refine ⟨_,rfl,?_⟩;replace Al:=mk_ (RR_below (mRR Al.out) hb);replace Ak:=mk_ (RR_below (mRR Ak.out) hb);replace Ab:=mk_ (RR_below (mRR Ab.out) hb);replace Ac:=mk_ (RR_below (mRR Ac.out) hb);replace Ad:=mk_ (RR_below (mRR Ad.out) hb);replace Aa:=mk_ (RR_below (mRR Aa.out) hb);replace Ae:=mk_ (zq6 (by exact Ae.out) hb);replace Af:=mk_ (zq6 (by exact Af.out) hb);replace Ah:=mk_ (zq6 (by exact Ah.out) hb);replace Aj:=mk_ (zq6 (by exact Aj.out) hb);replace Ai:=mk_ (zq6 (by exact Ai.out) hb);replace Ag:=mk_ (zq6 (by exact Ag.out) hb);replace HB:=mk_ (zr3 (yu1 HB.out) hb);(try clear hb);(try clear hb2);(try clear hk);(try clear hi))|((with_reducible refine gate_callee (f:=42) rfl ?_);refine goesL_ (some 113) rfl rfl Try.func42 (by kernel_rfl) rfl #[.slice Ao356 t319.length co356,.int .i64 t320] rfl (by (try simp only [List.map_toArray,List.map_cons,List.map_nil]);first|done|(rw [show t319.length=t292.length from (RR_reads' Ak.out).1.symm] <;> rfl)|rfl|(simp only [List.length_drop,List.length_take];rfl)) ?_;(with_reducible refine (laws_heldByteS.calls B4 _ _ t319 t320 t321 _ ?side1 ?side2 Fv.out).mono ?_);(case side1=>exact mC (RR_reads' Ak.out).2.2);(case side2=>rw [show t319.length=t292.length from (RR_reads' Ak.out).1.symm];exact (RR_reads' Ak.out).2.1);rintro e w' ⟨rfl,⟨nd,rfl⟩⟩;refine ⟨_,rfl,?_⟩))
              go_ret
              exact ⟨by first|rfl|(simp [errW_none,errW_some] <;> rfl)|(simp [*,errW_none,errW_some] <;> rfl),by exact yu1 HB.out⟩
       ·replace c126:=Bool.eq_false_iff.mpr c126
        subst c126
        have H1:(some false)=some r:=by rw [if_neg (show ¬ (false=true) by decide)] at H;exact H
        clear H
        have H:=H1
        clear H1
        obtain rfl:=Option.some.inj H
        try go_wp2
        replace Al:=mk_ (RR_drew Al.out)
        replace Ak:=mk_ (RR_drew Ak.out)
        replace Ab:=mk_ (RR_drew Ab.out)
        replace Ac:=mk_ (RR_drew Ac.out)
        replace Ad:=mk_ (RR_drew Ad.out)
        replace Aa:=mk_ (RR_drew Aa.out)
        replace Ae:=mk_ (zq2 Ae.out)
        replace Af:=mk_ (zq2 Af.out)
        replace Ah:=mk_ (zq2 Ah.out)
        replace Aj:=mk_ (zq2 Aj.out)
        replace Ai:=mk_ (zq2 Ai.out)
        replace Ag:=mk_ (zq2 Ag.out)
        replace HB:=mk_ (zq9 HB.out)
        refine start_ (n:=5) (S:=fun w'=>w'.cell? ⟨gb281,0,none⟩=some (.int .i64 t277)∧w'.cell? ⟨gb281,1,none⟩=some (.slice Ao52 t278.length co52)∧w'.cell? ⟨gb255,0,none⟩=some (.int .i64 a0_0)∧w'.cell? ⟨gb255,1,none⟩=some (.slice A0_1 l0_1.length c0_1)) (ds:=[]) #[false,false,false,false,false] (by kernel_rfl) rfl rfl ⟨(zr4 Aj.out 0).trans rfl,(zr4 Aj.out 1).trans rfl,(zr4 Ae.out 0).trans rfl,(zr4 Ae.out 1).trans rfl⟩ (fun hHeld=>?_)
        generalize wc.drew=Vc at Al Ak Ab Ac Ad Aa Ae Af Ah Aj Ai Ag HB hHeld ⊢
        refine take_ (i:=0) (N:=some 65) (v:=?_) (a':=?_) #[true,false,false,false,false] rfl rfl (by kernel_rfl) (fun _ _ _ h=>h) (Or.inl ⟨by rfl,?_⟩) hHeld ?_ ?_
        rotate_left
        ·rintro w' ⟨s0,s1,s2,s3⟩
         go_simp
         with_reducible rfl
        rotate_left
        ·simp only [Act.put,zs1,zs2,zs3,i64_w,i32_w]
         rfl
        refine take_ (i:=1) (N:=some 66) (v:=?_) (a':=?_) #[true,true,false,false,false] rfl rfl (by kernel_rfl) (fun _ _ _ h=>h) (Or.inl ⟨by rfl,?_⟩) hHeld ?_ ?_
        rotate_left
        ·rintro w' ⟨s0,s1,s2,s3⟩
         go_simp
         with_reducible rfl
        rotate_left
        ·simp only [Act.put,zs1,zs2,zs3,i64_w,i32_w]
         rfl
        refine one_ (i:=2) (N:=some 67) #[true,true,true,false,false] rfl rfl (by kernel_rfl) (by decide) (fun K hK=>?_)
        refine goes_ Try.func35 (by kernel_rfl) rfl #[.agg #[.int .i64 a0_0,.slice A0_1 l0_1.length c0_1]] (by rfl) rfl rfl am ?_
        with_reducible refine (laws_toSegJoin.callsR Bx a0_0 _ _ l0_1 t299 t300 _ ?side1 ?side2 Eu.out).mono ?_
        (case side1=>repeat (first|exact (Kd.C_below Di.out HB.out)|(with_reducible refine Kd.C_alloc ?_ _)|(with_reducible refine Kd.C_drewN ?_ _)|(with_reducible refine Kd.C_drew ?_)))
        (case side2=>exact Dj.out)
        rintro e Vd ⟨v301,rfl,ho0,hb⟩
        refine ⟨_,rfl,?_⟩
        have By:=mk_ (RR_lower (RR_new' (RR_new' (RR_new' (RR_new' (RR_new' (RR_new' ho0 (RR_lt (mRR Al.out))) (RR_lt (mRR Ak.out))) (RR_lt (mRR Ab.out))) (RR_lt (mRR Ac.out))) (RR_lt (mRR Ad.out))) (RR_lt (mRR Aa.out))) (zr2 (yu1 HB.out)))
        replace Al:=mk_ (RR_elder' (mRR Al.out) (RR_base ho0) hb)
        replace Ak:=mk_ (RR_elder' (mRR Ak.out) (RR_base ho0) hb)
        replace Ab:=mk_ (RR_elder' (mRR Ab.out) (RR_base ho0) hb)
        replace Ac:=mk_ (RR_elder' (mRR Ac.out) (RR_base ho0) hb)
        replace Ad:=mk_ (RR_elder' (mRR Ad.out) (RR_base ho0) hb)
        replace Aa:=mk_ (RR_elder' (mRR Aa.out) (RR_base ho0) hb)
        replace Ae:=mk_ (zq6 (by exact Ae.out) hb)
        replace Af:=mk_ (zq6 (by exact Af.out) hb)
        replace Ah:=mk_ (zq6 (by exact Ah.out) hb)
        replace Aj:=mk_ (zq6 (by exact Aj.out) hb)
        replace Ai:=mk_ (zq6 (by exact Ai.out) hb)
        replace Ag:=mk_ (zq6 (by exact Ag.out) hb)
        replace HB:=mk_ (zr3 (yu1 HB.out) hb)
        (try clear hb)
        (try clear hb2)
        (try clear hk)
        (try clear hi)
        (try clear ho0)
        obtain ⟨Ao362,co362,eo362⟩:=RR_slice By.out
        (first|subst eo362|(injection eo362 with f1_ f2_ f3_;have f4_:=f1_.symm;have f5_:=f3_.symm;clear f1_ f2_ f3_;subst f4_;subst f5_))
        refine hK.out _ _ ⟨(zr4 Aj.out 0).trans rfl,(zr4 Aj.out 1).trans rfl,(zr4 Ae.out 0).trans rfl,(zr4 Ae.out 1).trans rfl⟩ (fun hHeld=>?_)
        clear hK K
        refine norm_ (a':=?_) ?_ ?_
        rotate_left
        ·show Act.put _ (some 67) _=_
         simp only [Act.put,zs1,zs2,zs3,i64_w,i32_w]
         rfl
        refine one_ (i:=3) (N:=some 68) #[true,true,true,true,false] rfl rfl (by kernel_rfl) (by decide) (fun K hK=>?_)
        refine goes_ Try.func37 (by kernel_rfl) rfl #[.agg #[.int .i64 t277,.slice Ao52 t278.length co52],.agg #[.int .i64 t299,.slice Ao362 t300.length co362]] (by rfl) rfl rfl am ?_
        with_reducible refine (laws_eqSegJoin.calls Bx t277 _ _ t278 t299 _ _ t300 true _ ?side1 ?side2 ?side3 ?side4 Ev.out).mono ?_
        (case side1=>exact mC (RR_reads' Ac.out).2.2)
        (case side2=>exact (RR_reads' Ac.out).2.1)
        (case side3=>exact mC (RR_reads' By.out).2.2)
        (case side4=>exact (RR_reads' By.out).2.1)
        rintro e Kx ⟨rfl,hb⟩
        refine ⟨_,rfl,?_⟩
        replace Al:=mk_ (RR_below (mRR Al.out) hb)
        replace Ak:=mk_ (RR_below (mRR Ak.out) hb)
        replace Ab:=mk_ (RR_below (mRR Ab.out) hb)
        replace Ac:=mk_ (RR_below (mRR Ac.out) hb)
        replace Ad:=mk_ (RR_below (mRR Ad.out) hb)
        replace Aa:=mk_ (RR_below (mRR Aa.out) hb)
        replace By:=mk_ (RR_below (mRR By.out) hb)
        replace Ae:=mk_ (zq6 (by exact Ae.out) hb)
        replace Af:=mk_ (zq6 (by exact Af.out) hb)
        replace Ah:=mk_ (zq6 (by exact Ah.out) hb)
        replace Aj:=mk_ (zq6 (by exact Aj.out) hb)
        replace Ai:=mk_ (zq6 (by exact Ai.out) hb)
        replace Ag:=mk_ (zq6 (by exact Ag.out) hb)
        replace HB:=mk_ (zr3 (yu1 HB.out) hb)
        (try clear hb)
        (try clear hb2)
        (try clear hk)
        (try clear hi)
        refine hK.out _ _ ⟨(zr4 Aj.out 0).trans rfl,(zr4 Aj.out 1).trans rfl,(zr4 Ae.out 0).trans rfl,(zr4 Ae.out 1).trans rfl⟩ (fun hHeld=>?_)
        clear hK K
        refine norm_ (a':=?_) ?_ ?_
        rotate_left
        ·show Act.put _ (some 68) _=_
         simp only [Act.put,zs1,zs2,zs3,i64_w,i32_w]
         rfl
        refine pure_ (i:=4) (N:=some 69) (v:=?_) (a':=?_) #[true,true,true,true,true] rfl rfl (by kernel_rfl) (fun _ _ _ h=>h) (Or.inl ⟨by rfl,?_⟩) ?_ ?_
        rotate_left
        ·intro w'
         go_simp
         with_reducible rfl
        rotate_left
        ·simp only [Act.put,zs1,zs2,zs3,i64_w,i32_w]
         rfl
        refine done_ (by kernel_rfl) ?_
        try go_wp2
        replace Al:=mk_ (RR_drew Al.out)
        replace Ak:=mk_ (RR_drew Ak.out)
        replace Ab:=mk_ (RR_drew Ab.out)
        replace Ac:=mk_ (RR_drew Ac.out)
        replace Ad:=mk_ (RR_drew Ad.out)
        replace Aa:=mk_ (RR_drew Aa.out)
        replace By:=mk_ (RR_drew By.out)
        replace Ae:=mk_ (zq2 Ae.out)
        replace Af:=mk_ (zq2 Af.out)
        replace Ah:=mk_ (zq2 Ah.out)
        replace Aj:=mk_ (zq2 Aj.out)
        replace Ai:=mk_ (zq2 Ai.out)
        replace Ag:=mk_ (zq2 Ag.out)
        replace HB:=mk_ (zq9 HB.out)
        refine start_ (n:=5) (S:=fun w'=>w'.cell? ⟨gb287,0,none⟩=some (.int .i64 t282)∧w'.cell? ⟨gb287,1,none⟩=some (.int .i64 t283)∧w'.cell? ⟨gb287,2,none⟩=some (.slice Ao62 t284.length co62)∧w'.cell? ⟨gb256,0,none⟩=some (.int .i64 a1_0)∧w'.cell? ⟨gb256,1,none⟩=some (.int .i64 a1_1)∧w'.cell? ⟨gb256,2,none⟩=some (.slice A1_2 l1_2.length c1_2)) (ds:=[]) #[false,false,false,false,false] (by kernel_rfl) rfl rfl ⟨(zr4 Ai.out 0).trans rfl,(zr4 Ai.out 1).trans rfl,(zr4 Ai.out 2).trans rfl,(zr4 Af.out 0).trans rfl,(zr4 Af.out 1).trans rfl,(zr4 Af.out 2).trans rfl⟩ (fun hHeld=>?_)
        generalize Kx.drew=Ve at Al Ak Ab Ac Ad Aa By Ae Af Ah Aj Ai Ag HB hHeld ⊢
        refine take_ (i:=0) (N:=some 70) (v:=?_) (a':=?_) #[true,false,false,false,false] rfl rfl (by kernel_rfl) (fun _ _ _ h=>h) (Or.inl ⟨by rfl,?_⟩) hHeld ?_ ?_
        rotate_left
        ·rintro w' ⟨s0,s1,s2,s3,s4,s5⟩
         go_simp
         with_reducible rfl
        rotate_left
        ·simp only [Act.put,zs1,zs2,zs3,i64_w,i32_w]
         rfl
        refine take_ (i:=1) (N:=some 71) (v:=?_) (a':=?_) #[true,true,false,false,false] rfl rfl (by kernel_rfl) (fun _ _ _ h=>h) (Or.inl ⟨by rfl,?_⟩) hHeld ?_ ?_
        rotate_left
        ·rintro w' ⟨s0,s1,s2,s3,s4,s5⟩
         go_simp
         with_reducible rfl
        rotate_left
        ·simp only [Act.put,zs1,zs2,zs3,i64_w,i32_w]
         rfl
        refine one_ (i:=2) (N:=some 72) #[true,true,true,false,false] rfl rfl (by kernel_rfl) (by decide) (fun K hK=>?_)
        refine goes_ Try.func36 (by kernel_rfl) rfl #[.agg #[.int .i64 a1_0,.int .i64 a1_1,.slice A1_2 l1_2.length c1_2]] (by rfl) rfl rfl am ?_
        with_reducible refine (laws_toSegPart.callsR Bx a1_0 a1_1 _ _ l1_2 t304 t305 t306 _ ?side1 ?side2 I3.out).mono ?_
        (case side1=>repeat (first|exact (Kd.C_below Ds.out HB.out)|(with_reducible refine Kd.C_alloc ?_ _)|(with_reducible refine Kd.C_drewN ?_ _)|(with_reducible refine Kd.C_drew ?_)))
        (case side2=>exact Dt.out)
        rintro e Vf ⟨v307,rfl,ho0,hb⟩
        refine ⟨_,rfl,?_⟩
        have C3:=mk_ (RR_lower (RR_new' (RR_new' (RR_new' (RR_new' (RR_new' (RR_new' (RR_new' ho0 (RR_lt (mRR Al.out))) (RR_lt (mRR Ak.out))) (RR_lt (mRR Ab.out))) (RR_lt (mRR Ac.out))) (RR_lt (mRR Ad.out))) (RR_lt (mRR Aa.out))) (RR_lt (mRR By.out))) (zr2 (yu1 HB.out)))
        replace Al:=mk_ (RR_elder' (mRR Al.out) (RR_base ho0) hb)
        replace Ak:=mk_ (RR_elder' (mRR Ak.out) (RR_base ho0) hb)
        replace Ab:=mk_ (RR_elder' (mRR Ab.out) (RR_base ho0) hb)
        replace Ac:=mk_ (RR_elder' (mRR Ac.out) (RR_base ho0) hb)
        replace Ad:=mk_ (RR_elder' (mRR Ad.out) (RR_base ho0) hb)
        replace Aa:=mk_ (RR_elder' (mRR Aa.out) (RR_base ho0) hb)
        replace By:=mk_ (RR_elder' (mRR By.out) (RR_base ho0) hb)
        replace Ae:=mk_ (zq6 (by exact Ae.out) hb)
        replace Af:=mk_ (zq6 (by exact Af.out) hb)
        replace Ah:=mk_ (zq6 (by exact Ah.out) hb)
        replace Aj:=mk_ (zq6 (by exact Aj.out) hb)
        replace Ai:=mk_ (zq6 (by exact Ai.out) hb)
        replace Ag:=mk_ (zq6 (by exact Ag.out) hb)
        replace HB:=mk_ (zr3 (yu1 HB.out) hb)
        (try clear hb)
        (try clear hb2)
        (try clear hk)
        (try clear hi)
        (try clear ho0)
        obtain ⟨Ao366,co366,eo366⟩:=RR_slice C3.out
        (first|subst eo366|(injection eo366 with f1_ f2_ f3_;have f4_:=f1_.symm;have f5_:=f3_.symm;clear f1_ f2_ f3_;subst f4_;subst f5_))
        refine hK.out _ _ ⟨(zr4 Ai.out 0).trans rfl,(zr4 Ai.out 1).trans rfl,(zr4 Ai.out 2).trans rfl,(zr4 Af.out 0).trans rfl,(zr4 Af.out 1).trans rfl,(zr4 Af.out 2).trans rfl⟩ (fun hHeld=>?_)
        clear hK K
        refine norm_ (a':=?_) ?_ ?_
        rotate_left
        ·show Act.put _ (some 72) _=_
         simp only [Act.put,zs1,zs2,zs3,i64_w,i32_w]
         rfl
        refine one_ (i:=3) (N:=some 73) #[true,true,true,true,false] rfl rfl (by kernel_rfl) (by decide) (fun K hK=>?_)
        refine goes_ Try.func38 (by kernel_rfl) rfl #[.agg #[.int .i64 t282,.int .i64 t283,.slice Ao62 t284.length co62],.agg #[.int .i64 t304,.int .i64 t305,.slice Ao366 t306.length co366]] (by rfl) rfl rfl am ?_
        with_reducible refine (laws_eqSegPart.calls Bx t282 t283 _ _ t284 t304 t305 _ _ t306 false _ ?side1 ?side2 ?side3 ?side4 I4.out).mono ?_
        (case side1=>exact mC (RR_reads' Ad.out).2.2)
        (case side2=>exact (RR_reads' Ad.out).2.1)
        (case side3=>exact mC (RR_reads' C3.out).2.2)
        (case side4=>exact (RR_reads' C3.out).2.1)
        rintro e Vg ⟨rfl,hb⟩
        refine ⟨_,rfl,?_⟩
        replace Al:=mk_ (RR_below (mRR Al.out) hb)
        replace Ak:=mk_ (RR_below (mRR Ak.out) hb)
        replace Ab:=mk_ (RR_below (mRR Ab.out) hb)
        replace Ac:=mk_ (RR_below (mRR Ac.out) hb)
        replace Ad:=mk_ (RR_below (mRR Ad.out) hb)
        replace Aa:=mk_ (RR_below (mRR Aa.out) hb)
        replace By:=mk_ (RR_below (mRR By.out) hb)
        replace C3:=mk_ (RR_below (mRR C3.out) hb)
        replace Ae:=mk_ (zq6 (by exact Ae.out) hb)
        replace Af:=mk_ (zq6 (by exact Af.out) hb)
        replace Ah:=mk_ (zq6 (by exact Ah.out) hb)
        replace Aj:=mk_ (zq6 (by exact Aj.out) hb)
        replace Ai:=mk_ (zq6 (by exact Ai.out) hb)
        replace Ag:=mk_ (zq6 (by exact Ag.out) hb)
        replace HB:=mk_ (zr3 (yu1 HB.out) hb)
        (try clear hb)
        (try clear hb2)
        (try clear hk)
        (try clear hi)
        refine hK.out _ _ ⟨(zr4 Ai.out 0).trans rfl,(zr4 Ai.out 1).trans rfl,(zr4 Ai.out 2).trans rfl,(zr4 Af.out 0).trans rfl,(zr4 Af.out 1).trans rfl,(zr4 Af.out 2).trans rfl⟩ (fun hHeld=>?_)
        clear hK K
        refine norm_ (a':=?_) ?_ ?_
        rotate_left
        ·show Act.put _ (some 73) _=_
         simp only [Act.put,zs1,zs2,zs3,i64_w,i32_w]
         rfl
        refine pure_ (i:=4) (N:=some 74) (v:=?_) (a':=?_) #[true,true,true,true,true] rfl rfl (by kernel_rfl) (fun _ _ _ h=>h) (Or.inl ⟨by rfl,?_⟩) ?_ ?_
        rotate_left
        ·intro w'
         go_simp
         with_reducible rfl
        rotate_left
        ·simp only [Act.put,zs1,zs2,zs3,i64_w,i32_w]
         rfl
        refine done_ (by kernel_rfl) ?_
        try go_wp2
        go_ret
        exact ⟨by first|rfl|(simp [errW_none,errW_some] <;> rfl)|(simp [*,errW_none,errW_some] <;> rfl),by exact yu1 HB.out⟩
      ·replace c123:=Bool.eq_false_iff.mpr c123
       subst c123
       have H1:(some false)=some r:=by rw [if_neg (show ¬ (false=true) by decide)] at H;exact H
       clear H
       have H:=H1
       clear H1
       obtain rfl:=Option.some.inj H
       try go_wp2
       replace Al:=mk_ (RR_drew Al.out)
       replace Ak:=mk_ (RR_drew Ak.out)
       replace Ab:=mk_ (RR_drew Ab.out)
       replace Ac:=mk_ (RR_drew Ac.out)
       replace Ad:=mk_ (RR_drew Ad.out)
       replace Aa:=mk_ (RR_drew Aa.out)
       replace Ae:=mk_ (zq2 Ae.out)
       replace Af:=mk_ (zq2 Af.out)
       replace Ah:=mk_ (zq2 Ah.out)
       replace Aj:=mk_ (zq2 Aj.out)
       replace Ai:=mk_ (zq2 Ai.out)
       replace Ag:=mk_ (zq2 Ag.out)
       replace HB:=mk_ (zq9 HB.out)
       refine start_ (n:=5) (S:=fun w'=>w'.cell? ⟨gb281,0,none⟩=some (.int .i64 t277)∧w'.cell? ⟨gb281,1,none⟩=some (.slice Ao52 t278.length co52)∧w'.cell? ⟨gb255,0,none⟩=some (.int .i64 a0_0)∧w'.cell? ⟨gb255,1,none⟩=some (.slice A0_1 l0_1.length c0_1)) (ds:=[]) #[false,false,false,false,false] (by kernel_rfl) rfl rfl ⟨(zr4 Aj.out 0).trans rfl,(zr4 Aj.out 1).trans rfl,(zr4 Ae.out 0).trans rfl,(zr4 Ae.out 1).trans rfl⟩ (fun hHeld=>?_)
       generalize wc.drew=Vh at Al Ak Ab Ac Ad Aa Ae Af Ah Aj Ai Ag HB hHeld ⊢
       refine take_ (i:=0) (N:=some 65) (v:=?_) (a':=?_) #[true,false,false,false,false] rfl rfl (by kernel_rfl) (fun _ _ _ h=>h) (Or.inl ⟨by rfl,?_⟩) hHeld ?_ ?_
       rotate_left
       ·rintro w' ⟨s0,s1,s2,s3⟩
        go_simp
        with_reducible rfl
       rotate_left
       ·simp only [Act.put,zs1,zs2,zs3,i64_w,i32_w]
        rfl
       refine take_ (i:=1) (N:=some 66) (v:=?_) (a':=?_) #[true,true,false,false,false] rfl rfl (by kernel_rfl) (fun _ _ _ h=>h) (Or.inl ⟨by rfl,?_⟩) hHeld ?_ ?_
       rotate_left
       ·rintro w' ⟨s0,s1,s2,s3⟩
        go_simp
        with_reducible rfl
       rotate_left
       ·simp only [Act.put,zs1,zs2,zs3,i64_w,i32_w]
        rfl
       refine one_ (i:=2) (N:=some 67) #[true,true,true,false,false] rfl rfl (by kernel_rfl) (by decide) (fun K hK=>?_)
       refine goes_ Try.func35 (by kernel_rfl) rfl #[.agg #[.int .i64 a0_0,.slice A0_1 l0_1.length c0_1]] (by rfl) rfl rfl am ?_
       with_reducible refine (laws_toSegJoin.callsR Bx a0_0 _ _ l0_1 t299 t300 _ ?side1 ?side2 Eu.out).mono ?_
       (case side1=>repeat (first|exact (Kd.C_below Di.out HB.out)|(with_reducible refine Kd.C_alloc ?_ _)|(with_reducible refine Kd.C_drewN ?_ _)|(with_reducible refine Kd.C_drew ?_)))
       (case side2=>exact Dj.out)
       rintro e Vi ⟨v301,rfl,ho0,hb⟩
       refine ⟨_,rfl,?_⟩
       have By:=mk_ (RR_lower (RR_new' (RR_new' (RR_new' (RR_new' (RR_new' (RR_new' ho0 (RR_lt (mRR Al.out))) (RR_lt (mRR Ak.out))) (RR_lt (mRR Ab.out))) (RR_lt (mRR Ac.out))) (RR_lt (mRR Ad.out))) (RR_lt (mRR Aa.out))) (zr2 (yu1 HB.out)))
       replace Al:=mk_ (RR_elder' (mRR Al.out) (RR_base ho0) hb)
       replace Ak:=mk_ (RR_elder' (mRR Ak.out) (RR_base ho0) hb)
       replace Ab:=mk_ (RR_elder' (mRR Ab.out) (RR_base ho0) hb)
       replace Ac:=mk_ (RR_elder' (mRR Ac.out) (RR_base ho0) hb)
       replace Ad:=mk_ (RR_elder' (mRR Ad.out) (RR_base ho0) hb)
       replace Aa:=mk_ (RR_elder' (mRR Aa.out) (RR_base ho0) hb)
       replace Ae:=mk_ (zq6 (by exact Ae.out) hb)
       replace Af:=mk_ (zq6 (by exact Af.out) hb)
       replace Ah:=mk_ (zq6 (by exact Ah.out) hb)
       replace Aj:=mk_ (zq6 (by exact Aj.out) hb)
       replace Ai:=mk_ (zq6 (by exact Ai.out) hb)
       replace Ag:=mk_ (zq6 (by exact Ag.out) hb)
       replace HB:=mk_ (zr3 (yu1 HB.out) hb)
       (try clear hb)
       (try clear hb2)
       (try clear hk)
       (try clear hi)
       (try clear ho0)
       obtain ⟨Ao370,co370,eo370⟩:=RR_slice By.out
       (first|subst eo370|(injection eo370 with f1_ f2_ f3_;have f4_:=f1_.symm;have f5_:=f3_.symm;clear f1_ f2_ f3_;subst f4_;subst f5_))
       refine hK.out _ _ ⟨(zr4 Aj.out 0).trans rfl,(zr4 Aj.out 1).trans rfl,(zr4 Ae.out 0).trans rfl,(zr4 Ae.out 1).trans rfl⟩ (fun hHeld=>?_)
       clear hK K
       refine norm_ (a':=?_) ?_ ?_
       rotate_left
       ·show Act.put _ (some 67) _=_
        simp only [Act.put,zs1,zs2,zs3,i64_w,i32_w]
        rfl
       refine one_ (i:=3) (N:=some 68) #[true,true,true,true,false] rfl rfl (by kernel_rfl) (by decide) (fun K hK=>?_)
       refine goes_ Try.func37 (by kernel_rfl) rfl #[.agg #[.int .i64 t277,.slice Ao52 t278.length co52],.agg #[.int .i64 t299,.slice Ao370 t300.length co370]] (by rfl) rfl rfl am ?_
       with_reducible refine (laws_eqSegJoin.calls Bx t277 _ _ t278 t299 _ _ t300 false _ ?side1 ?side2 ?side3 ?side4 Ev.out).mono ?_
       (case side1=>exact mC (RR_reads' Ac.out).2.2)
       (case side2=>exact (RR_reads' Ac.out).2.1)
       (case side3=>exact mC (RR_reads' By.out).2.2)
       (case side4=>exact (RR_reads' By.out).2.1)
       rintro e Vj ⟨rfl,hb⟩
       refine ⟨_,rfl,?_⟩
       replace Al:=mk_ (RR_below (mRR Al.out) hb)
       replace Ak:=mk_ (RR_below (mRR Ak.out) hb)
       replace Ab:=mk_ (RR_below (mRR Ab.out) hb)
       replace Ac:=mk_ (RR_below (mRR Ac.out) hb)
       replace Ad:=mk_ (RR_below (mRR Ad.out) hb)
       replace Aa:=mk_ (RR_below (mRR Aa.out) hb)
       replace By:=mk_ (RR_below (mRR By.out) hb)
       replace Ae:=mk_ (zq6 (by exact Ae.out) hb)
       replace Af:=mk_ (zq6 (by exact Af.out) hb)
       replace Ah:=mk_ (zq6 (by exact Ah.out) hb)
       replace Aj:=mk_ (zq6 (by exact Aj.out) hb)
       replace Ai:=mk_ (zq6 (by exact Ai.out) hb)
       replace Ag:=mk_ (zq6 (by exact Ag.out) hb)
       replace HB:=mk_ (zr3 (yu1 HB.out) hb)
       (try clear hb)
       (try clear hb2)
       (try clear hk)
       (try clear hi)
       refine hK.out _ _ ⟨(zr4 Aj.out 0).trans rfl,(zr4 Aj.out 1).trans rfl,(zr4 Ae.out 0).trans rfl,(zr4 Ae.out 1).trans rfl⟩ (fun hHeld=>?_)
       clear hK K
       refine norm_ (a':=?_) ?_ ?_
       rotate_left
       ·show Act.put _ (some 68) _=_
        simp only [Act.put,zs1,zs2,zs3,i64_w,i32_w]
        rfl
       refine pure_ (i:=4) (N:=some 69) (v:=?_) (a':=?_) #[true,true,true,true,true] rfl rfl (by kernel_rfl) (fun _ _ _ h=>h) (Or.inl ⟨by rfl,?_⟩) ?_ ?_
       rotate_left
       ·intro w'
        go_simp
        with_reducible rfl
       rotate_left
       ·simp only [Act.put,zs1,zs2,zs3,i64_w,i32_w]
        rfl
       refine done_ (by kernel_rfl) ?_
       try go_wp2
       go_ret
       exact ⟨by first|rfl|(simp [errW_none,errW_some] <;> rfl)|(simp [*,errW_none,errW_some] <;> rfl),by exact yu1 HB.out⟩

end Go.Proofs.Yteknaofnageihaa.QFnExactSegPut
