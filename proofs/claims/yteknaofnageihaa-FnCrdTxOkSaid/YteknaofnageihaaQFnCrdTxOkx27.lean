-- Written by a program of this session, a turned copy of the print (not by print.sh itself). Lean checks it.
import Derived.Test.YteknaofnageihaaQFnCrdTxOkx0
import Derived.Test.YteknaofnageihaaQFnCrdTxOkx14
import Derived.Test.YteknaofnageihaaQFnCrdTxOkx15
import Derived.Test.YteknaofnageihaaQFnCrdTxOkx16
import Derived.Test.YteknaofnageihaaQFnCrdTxOkx18
import Derived.Test.YteknaofnageihaaQFnCrdTxOkx20
import Derived.Test.YteknaofnageihaaQFnCrdTxOkx24
import Derived.Test.YteknaofnageihaaQFnCrdTxOkx25
import Derived.Test.YteknaofnageihaaQFnCrdTxOkx26
namespace Go.Proofs.Yteknaofnageihaa.QFnCrdTxOk
open Go.RowKit Go.Proofs.YteknaofnageihaaW.PrintWords Go.Proofs.YteknaofnageihaaW.PrintLast Go.Proofs.YteknaofnageihaaW.PrintMore Go.Proofs.YteknaofnageihaaLoc
attribute [local go_sem] max2_int min2_int max_two min_two max_three min_three max_four min_four   -- for this text's walks alone
set_option linter.unusedVariables false
set_option linter.unusedSimpArgs false

/-! ### spec_l20Ctx: function 92 -/
mutual
def spec_l20Ctx.l0 : Nat → Int → Int → List Int → Int → Int → Int → Int → Int → Int → Int → List (S39) → Int → Int → Bool → Option (Int × (List (S39)) × Int × Int × Bool × Int)
  | 0, _, _, _, _, _, _, _, _, _, _, _, _, _, _ => none
  | k + 1, x2, x8, x1000, x1001, x398000, x398001, x398002, x398003, x398004, x400000, x400001, x400002, x400003, x400004 => if x8 > 0 then ((spec_l20Rd_pick.f k x1000 x1001 4).bind fun bt402 => (if bt402.1 = 0 then (spec_l20Ctx.j1 k x2 x8 bt402.1 (bt402.1 == 0) x1000 bt402.2 x398000 x398001 x398002 x398003 x398004 x400000 x400001 x400002 x400003 x400004) else (spec_l20Ctx.j1 k x2 x8 bt402.1 (bt402.1 == 1) x1000 bt402.2 x398000 x398001 x398002 x398003 x398004 x400000 x400001 x400002 x400003 x400004))) else ((spec_l20Rd_odd.f k x1000 x1001 x2).bind fun bt452 => (if bt452.1 = true then ((spec_l20Rd_pick.f k x1000 bt452.2 4).bind fun bt454 => (if bt454.1 = 0 then ((some (([(-1), 256, wrap64 (x400000 + 1)] : List Int) : List Int)).bind fun y456 => ((spec_l20Rd_pick.f k x1000 bt454.2 3).bind fun bt459 => (if 0 ≤ bt459.1 then (if bt459.1 < (y456.length : Int) then (some (rd y456 bt459.1, x400001, x400002, x400003, x400004, bt459.2)) else (none)) else (none)))) else (if bt454.1 = 1 then ((some (([(-1), 10000, wrap64 (x400003 + 1)] : List Int) : List Int)).bind fun y462 => ((spec_l20Rd_pick.f k x1000 bt454.2 3).bind fun bt465 => (if 0 ≤ bt465.1 then (if bt465.1 < (y462.length : Int) then (some (x400000, x400001, x400002, rd y462 bt465.1, x400004, bt465.2)) else (none)) else (none)))) else (if bt454.1 = 2 then ((spec_l20PartOr.f k x1000 bt454.2 2).bind fun bt468 => (if x400001.length < 3518437208883 then (some (x400000, (x400001 ++ [(⟨bt468.1, bt468.2.1, bt468.2.2.1⟩ : S39)]), x400002, x400003, x400004, bt468.2.2.2)) else (none))) else ((some (([(-1), 10000] : List Int) : List Int)).bind fun y477 => ((spec_l20Rd_pick.f k x1000 bt454.2 2).bind fun bt480 => (if 0 ≤ bt480.1 then (if bt480.1 < (y477.length : Int) then (some (x400000, x400001, rd y477 bt480.1, x400003, x400004, bt480.2)) else (none)) else (none)))))))) else (some (x400000, x400001, x400002, x400003, x400004, bt452.2))))
def spec_l20Ctx.j1 : Nat → Int → Int → Int → Bool → List Int → Int → Int → Int → Int → Int → Int → Int → List (S39) → Int → Int → Bool → Option (Int × (List (S39)) × Int × Int × Bool × Int)
  | 0, _, _, _, _, _, _, _, _, _, _, _, _, _, _, _, _ => none
  | k + 1, x2, x8, x17, x25, x1000, x1001, x398000, x398001, x398002, x398003, x398004, x400000, x400001, x400002, x400003, x400004 => if x25 = true then ((spec_l20Bytes.f k x1000 x1001 x398003).bind fun bt404 => ((spec_CrdPut.f k x398000 x398001 x398002 x398003 x398004 x400000 x400001 x400002 x400003 x400004 bt404.1).bind fun bt408 => (spec_l20Ctx.l0 k x2 (wrap64 (x8 - 1)) x1000 bt404.2 x398000 x398001 x398002 x398003 x398004 bt408.1 bt408.2.1 bt408.2.2.1 bt408.2.2.2.1 bt408.2.2.2.2.1))) else (if x17 = 2 then ((spec_l20Rd_pick.f k x1000 x1001 6).bind fun bt416 => ((spec_l20Rd_pick.f k x1000 bt416.2 250).bind fun bt418 => ((some (([wrap64 (1 + bt416.1), wrap64 (1 + bt418.1)] : List Int) : List Int)).bind fun y420 => ((spec_l20Rd_pick.f k x1000 bt418.2 2).bind fun bt423 => (if 0 ≤ bt423.1 then (if bt423.1 < (y420.length : Int) then ((spec_CrdTake.f k x398000 x398001 x398002 x398003 x398004 x400000 x400001 x400002 x400003 x400004 (rd y420 bt423.1)).bind fun bt426 => (spec_l20Ctx.l0 k x2 (wrap64 (x8 - 1)) x1000 bt423.2 x398000 x398001 x398002 x398003 x398004 bt426.1 bt426.2.1 bt426.2.2.1 bt426.2.2.2.1 bt426.2.2.2.2)) else (none)) else (none)))))) else ((spec_CrdSend.f k x398000 x398001 x398002 x398003 x398004 x400000 x400001 x400002 x400003 x400004).bind fun bt433 => (spec_l20Ctx.l0 k x2 (wrap64 (x8 - 1)) x1000 x1001 x398000 x398001 x398002 x398003 x398004 bt433.1 bt433.2.1 bt433.2.2.1 bt433.2.2.2.1 bt433.2.2.2.2.1)))
end
def spec_l20Ctx.f (k : Nat) (s0_0 : List Int) (s0_1 : Int) (a1_0 : Int) (a1_1 : Int) (a1_2 : Int) (a1_3 : Int) (a1_4 : Int) (a2 : Int) : Option (Int × (List (S39)) × Int × Int × Bool × Int) := (spec_l20Rd_pick.f k s0_0 s0_1 16).bind fun bt400 => (spec_l20Ctx.l0 k a2 bt400.1 s0_0 bt400.2 a1_0 a1_1 a1_2 a1_3 a1_4 0 ([] : List (S39)) 0 0 false)
theorem spec_l20Ctx.mono_l : ∀ k, (∀ y0 y1 y2 y3 y4 y5 y6 y7 y8 y9 y10 y11 y12 y13, LeO (spec_l20Ctx.l0 k y0 y1 y2 y3 y4 y5 y6 y7 y8 y9 y10 y11 y12 y13) (spec_l20Ctx.l0 (k + 1) y0 y1 y2 y3 y4 y5 y6 y7 y8 y9 y10 y11 y12 y13)) ∧ (∀ y0 y1 y2 y3 y4 y5 y6 y7 y8 y9 y10 y11 y12 y13 y14 y15, LeO (spec_l20Ctx.j1 k y0 y1 y2 y3 y4 y5 y6 y7 y8 y9 y10 y11 y12 y13 y14 y15) (spec_l20Ctx.j1 (k + 1) y0 y1 y2 y3 y4 y5 y6 y7 y8 y9 y10 y11 y12 y13 y14 y15))
  | 0 => ⟨fun _ _ _ _ _ _ _ _ _ _ _ _ _ _ r h => by simp [spec_l20Ctx.l0] at h, fun _ _ _ _ _ _ _ _ _ _ _ _ _ _ _ _ r h => by simp [spec_l20Ctx.j1] at h⟩
  | k + 1 => by
    obtain ⟨ih0, ih1⟩ := spec_l20Ctx.mono_l k
    refine ⟨?_, ?_⟩
    · intro y0 y1 y2 y3 y4 y5 y6 y7 y8 y9 y10 y11 y12 y13
      unfold spec_l20Ctx.l0
      repeat' first
      | (with_reducible exact ih0 _ _ _ _ _ _ _ _ _ _ _ _ _ _)
      | (with_reducible exact ih1 _ _ _ _ _ _ _ _ _ _ _ _ _ _ _ _)
      | (with_reducible exact spec_CrdPut.mono _ _ _ _ _ _ _ _ _ _ _ _)
      | (with_reducible exact spec_CrdSend.mono _ _ _ _ _ _ _ _ _ _ _)
      | (with_reducible exact spec_CrdTake.mono _ _ _ _ _ _ _ _ _ _ _ _)
      | (with_reducible exact spec_l20Bytes.mono _ _ _ _)
      | (with_reducible exact spec_l20PartOr.mono _ _ _ _)
      | (with_reducible exact spec_l20Rd_odd.mono _ _ _ _)
      | (with_reducible exact spec_l20Rd_pick.mono _ _ _ _)
      | (with_reducible exact LeO.refl _)
      | (with_reducible exact LeO.none _)
      | (with_reducible refine LeO.ite ?_ ?_)
      | (with_reducible refine LeO.bind ?_ (fun _ => ?_))
      | exact ih0 _ _ _ _ _ _ _ _ _ _ _ _ _ _
      | exact ih1 _ _ _ _ _ _ _ _ _ _ _ _ _ _ _ _
      | exact spec_CrdPut.mono _ _ _ _ _ _ _ _ _ _ _ _
      | exact spec_CrdSend.mono _ _ _ _ _ _ _ _ _ _ _
      | exact spec_CrdTake.mono _ _ _ _ _ _ _ _ _ _ _ _
      | exact spec_l20Bytes.mono _ _ _ _
      | exact spec_l20PartOr.mono _ _ _ _
      | exact spec_l20Rd_odd.mono _ _ _ _
      | exact spec_l20Rd_pick.mono _ _ _ _
      | exact LeO.none _
      | refine LeO.ite ?_ ?_
      | refine LeO.bind ?_ (fun _ => ?_)
    · intro y0 y1 y2 y3 y4 y5 y6 y7 y8 y9 y10 y11 y12 y13 y14 y15
      unfold spec_l20Ctx.j1
      repeat' first
      | (with_reducible exact ih0 _ _ _ _ _ _ _ _ _ _ _ _ _ _)
      | (with_reducible exact ih1 _ _ _ _ _ _ _ _ _ _ _ _ _ _ _ _)
      | (with_reducible exact spec_CrdPut.mono _ _ _ _ _ _ _ _ _ _ _ _)
      | (with_reducible exact spec_CrdSend.mono _ _ _ _ _ _ _ _ _ _ _)
      | (with_reducible exact spec_CrdTake.mono _ _ _ _ _ _ _ _ _ _ _ _)
      | (with_reducible exact spec_l20Bytes.mono _ _ _ _)
      | (with_reducible exact spec_l20PartOr.mono _ _ _ _)
      | (with_reducible exact spec_l20Rd_odd.mono _ _ _ _)
      | (with_reducible exact spec_l20Rd_pick.mono _ _ _ _)
      | (with_reducible exact LeO.refl _)
      | (with_reducible exact LeO.none _)
      | (with_reducible refine LeO.ite ?_ ?_)
      | (with_reducible refine LeO.bind ?_ (fun _ => ?_))
      | exact ih0 _ _ _ _ _ _ _ _ _ _ _ _ _ _
      | exact ih1 _ _ _ _ _ _ _ _ _ _ _ _ _ _ _ _
      | exact spec_CrdPut.mono _ _ _ _ _ _ _ _ _ _ _ _
      | exact spec_CrdSend.mono _ _ _ _ _ _ _ _ _ _ _
      | exact spec_CrdTake.mono _ _ _ _ _ _ _ _ _ _ _ _
      | exact spec_l20Bytes.mono _ _ _ _
      | exact spec_l20PartOr.mono _ _ _ _
      | exact spec_l20Rd_odd.mono _ _ _ _
      | exact spec_l20Rd_pick.mono _ _ _ _
      | exact LeO.none _
      | refine LeO.ite ?_ ?_
      | refine LeO.bind ?_ (fun _ => ?_)
theorem spec_l20Ctx.mono : ∀ a0 a1 a2 a3 a4 a5 a6 a7 k, LeO (spec_l20Ctx.f k a0 a1 a2 a3 a4 a5 a6 a7) (spec_l20Ctx.f (k + 1) a0 a1 a2 a3 a4 a5 a6 a7) := by
 intro a0 a1 a2 a3 a4 a5 a6 a7 k
 obtain ⟨ih0, ih1⟩ := spec_l20Ctx.mono_l k
 unfold spec_l20Ctx.f
 repeat' first
     | (with_reducible exact ih0 _ _ _ _ _ _ _ _ _ _ _ _ _ _)
     | (with_reducible exact ih1 _ _ _ _ _ _ _ _ _ _ _ _ _ _ _ _)
     | (with_reducible exact spec_CrdPut.mono _ _ _ _ _ _ _ _ _ _ _ _)
     | (with_reducible exact spec_CrdSend.mono _ _ _ _ _ _ _ _ _ _ _)
     | (with_reducible exact spec_CrdTake.mono _ _ _ _ _ _ _ _ _ _ _ _)
     | (with_reducible exact spec_l20Bytes.mono _ _ _ _)
     | (with_reducible exact spec_l20PartOr.mono _ _ _ _)
     | (with_reducible exact spec_l20Rd_odd.mono _ _ _ _)
     | (with_reducible exact spec_l20Rd_pick.mono _ _ _ _)
     | (with_reducible exact LeO.refl _)
     | (with_reducible exact LeO.none _)
     | (with_reducible refine LeO.ite ?_ ?_)
     | (with_reducible refine LeO.bind ?_ (fun _ => ?_))
     | exact ih0 _ _ _ _ _ _ _ _ _ _ _ _ _ _
     | exact ih1 _ _ _ _ _ _ _ _ _ _ _ _ _ _ _ _
     | exact spec_CrdPut.mono _ _ _ _ _ _ _ _ _ _ _ _
     | exact spec_CrdSend.mono _ _ _ _ _ _ _ _ _ _ _
     | exact spec_CrdTake.mono _ _ _ _ _ _ _ _ _ _ _ _
     | exact spec_l20Bytes.mono _ _ _ _
     | exact spec_l20PartOr.mono _ _ _ _
     | exact spec_l20Rd_odd.mono _ _ _ _
     | exact spec_l20Rd_pick.mono _ _ _ _
     | exact LeO.none _
     | refine LeO.ite ?_ ?_
     | refine LeO.bind ?_ (fun _ => ?_)
def spec_l20Ctx.T9 : Bool × List (List Nat × List Nat) := (true, [([], []), ([], []), ([], []), ([], []), ([3], [3]), ([2, 4], [2, 4]), ([0, 1, 5, 5], [0, 1, 5]), ([6], [6]), ([7], [7]), ([7], [7]), ([8, 6, 0, 1, 2, 3, 4, 5, 6, 7, 8], [8])])
def spec_l20Ctx.B9 : List Nat := [0, 0, 0, 0, 8, 28, 63, 127, 255, 255, 511]
theorem spec_l20Ctx.tab9 : rtab .any (opsOf Try.f92 9) = spec_l20Ctx.T9 := by kernel_rfl
theorem spec_l20Ctx.bits9 : waitsOk spec_l20Ctx.T9.2 spec_l20Ctx.B9 = true := by kernel_rfl
def spec_l20Ctx.T11 : Bool × List (List Nat × List Nat) := (true, [([], []), ([], []), ([], []), ([2], [2]), ([3], [3]), ([], []), ([5, 3], [5]), ([6], [6]), ([4, 7], [4, 7]), ([], []), ([9, 6], [9]), ([8, 10], [8, 10]), ([11], [11]), ([0, 1, 12, 10], [0, 1, 12]), ([13, 13, 0, 1, 2, 3, 4, 5, 6, 7, 8, 9, 10, 11, 12, 13], [13])])
def spec_l20Ctx.B11 : List Nat := [0, 0, 0, 4, 12, 0, 44, 108, 252, 0, 620, 2044, 4092, 8191, 16383]
theorem spec_l20Ctx.tab11 : rtab .any (opsOf Try.f92 11) = spec_l20Ctx.T11 := by kernel_rfl
theorem spec_l20Ctx.bits11 : waitsOk spec_l20Ctx.T11.2 spec_l20Ctx.B11 = true := by kernel_rfl
def spec_l20Ctx.T16 : Bool × List (List Nat × List Nat) := (true, [([], []), ([0], [0]), ([1], [1]), ([2], [2]), ([], []), ([4], [4]), ([3, 5], [3, 5]), ([6], [6]), ([0, 1, 2, 3, 4, 5, 6, 7], []), ([8, 7, 5, 0, 1, 2, 3, 4, 5, 6, 7], [7, 8])])
def spec_l20Ctx.B16 : List Nat := [0, 1, 3, 7, 0, 16, 63, 127, 255, 511]
theorem spec_l20Ctx.tab16 : rtab .any (opsOf Try.f92 16) = spec_l20Ctx.T16 := by kernel_rfl
theorem spec_l20Ctx.bits16 : waitsOk spec_l20Ctx.T16.2 spec_l20Ctx.B16 = true := by kernel_rfl
def spec_l20Ctx.T18 : Bool × List (List Nat × List Nat) := (true, [([], []), ([0], [0]), ([1], [1]), ([2], [2]), ([], []), ([4], [4]), ([3, 5], [3, 5]), ([6], [6]), ([0, 1, 2, 3, 4, 5, 6, 7], []), ([8, 7, 5, 0, 1, 2, 3, 4, 5, 6, 7], [7, 8])])
def spec_l20Ctx.B18 : List Nat := [0, 1, 3, 7, 0, 16, 63, 127, 255, 511]
theorem spec_l20Ctx.tab18 : rtab .any (opsOf Try.f92 18) = spec_l20Ctx.T18 := by kernel_rfl
theorem spec_l20Ctx.bits18 : waitsOk spec_l20Ctx.T18.2 spec_l20Ctx.B18 = true := by kernel_rfl
def spec_l20Ctx.T20 : Bool × List (List Nat × List Nat) := (true, [([], []), ([0], [0]), ([], []), ([2], [2]), ([3], [3]), ([1, 4, 3], [1, 4]), ([0, 1, 2, 3, 4, 5], []), ([6, 5, 5, 0, 1, 2, 3, 4, 5], [5, 6])])
def spec_l20Ctx.B20 : List Nat := [0, 1, 0, 4, 12, 31, 63, 127]
theorem spec_l20Ctx.tab20 : rtab .any (opsOf Try.f92 20) = spec_l20Ctx.T20 := by kernel_rfl
theorem spec_l20Ctx.bits20 : waitsOk spec_l20Ctx.T20.2 spec_l20Ctx.B20 = true := by kernel_rfl
set_option maxHeartbeats 60000000 in
set_option maxRecDepth 100000 in
theorem spec_l20Ctx.calls (k : Nat) (g : Nat) (s0_0 : List Int) (s0_1 : Int) (a1_0 : Int) (a1_1 : Int) (a1_2 : Int) (a1_3 : Int) (a1_4 : Int) (a2 : Int) (r1 : Int) (r2 : List (S39)) (r3 : Int) (r4 : Int) (r5 : Bool) (r6 : Int) (w0 w : World) (hI : IsS113 w0 w g s0_0 s0_1) (hB : Below w0.heap.size w0 w) (h : spec_l20Ctx.f k s0_0 s0_1 a1_0 a1_1 a1_2 a1_3 a1_4 a2 = some (r1, r2, r3, r4, r5, r6)) :
  Calls Try.prog 92 #[.pointer (some ⟨g,0,none⟩),.agg #[.int .i64 a1_0,.int .i64 a1_1,.int .i64 a1_2,.int .i64 a1_3,.int .i64 a1_4],.int .i64 a2] w fun e w'=>∃ v1_:Value,e=.returned (.agg #[.int .i64 r1,v1_,.int .i64 r3,.int .i64 r4,.bool r5])∧Kd.N k39 39 w' w.heap.size (fun k_=>(w.heap.size≤k_)) v1_ r2∧IsS113 w0 w' g s0_0 r6∧Below w0.heap.size w0 w'∧KeepBut w w' g none:=by
 have hu66:=Try.underlying66
 have hu78:=Try.underlying78
 have HI0:=mk_ hI
 have HK:=mk_ (KeepBut.refl w g none)
 have HL:=mk_ hB.size
 clear hI
 have HW0:=mk_ hB.size
 have HB:=mk_ hB
 clear hB
 have H:((spec_l20Rd_pick.f k s0_0 s0_1 16).bind fun bt400=>(spec_l20Ctx.l0 k a2 bt400.1 s0_0 bt400.2 a1_0 a1_1 a1_2 a1_3 a1_4 0 ([]:List (S39)) 0 0 false))=some (r1,r2,r3,r4,r5,r6):=h
 clear h
 replace H:=Option.bind_eq_some_iff.mp H
 obtain ⟨⟨t400,t401⟩,B6,H⟩:=H
 try dsimp only at H
 have A4:=mk_ B6
 clear B6
 have H':=mk_ H
 clear H
 go_enter Try.func92,Try.ntmps92
 go_wp2_with (first|((with_reducible refine gate_dst (N:=4) rfl ?_);refine box_event ?hg (N:=4) ?hd (cs:=#[.int .i64 a1_0,.int .i64 a1_1,.int .i64 a1_2,.int .i64 a1_3,.int .i64 a1_4]) (t:=66) ?hr ?_;(case hd=>rfl);(case hg=>rfl);(case hr=>first|(go_simp;done)|(go_simp;rfl));intro gb397 hg w5 hbox hb;replace HB:=mk_ (zr3 (yu4 HB.out HI0.out) hb);have Ac:=mk_ (hbox);have Hh:=mk_ ((by rw [hg];exact (keep_size (w:=w) (g:=g) (row:=none) (yu3 HK.out)):w.heap.size≤gb397));have Hi:=mk_ ((Nat.le_trans HW0.out (by rw [hg];exact (keep_size (w:=w) (g:=g) (row:=none) (yu3 HK.out)):w.heap.size≤gb397):w0.heap.size≤gb397));replace HK:=mk_ (KeepBut.trans (yu3 HK.out) (KeepBut.of_below hb g none) (.inl rfl));have A8:=mk_ ((by rw [hg];exact zm2 (IsS113.lt (show IsS113 w0 _ g s0_0 s0_1 from by exact yu2 HI0.out)):g≠gb397));replace HI0:=mk_ (IsS113.below (yu2 HI0.out) hb);have Ap:=mk_ A8.out.symm;clear hb hbox hg)|((with_reducible refine gate_dst (N:=6) rfl ?_);refine box_event ?hg (N:=6) ?hd (cs:=#[.int .i64 0,.slice none 0 0,.int .i64 0,.int .i64 0,.bool false]) (t:=78) ?hr ?_;(case hd=>rfl);(case hg=>rfl);(case hr=>first|(go_simp;done)|(go_simp;rfl));intro gb398 hg w6 hbox hb;replace HB:=mk_ (zr3 (yu11 HB.out HI0.out) hb);have Ah:=mk_ (hbox);have Hj:=mk_ ((by rw [hg];exact (keep_size (w:=w) (g:=g) (row:=none) (yu12 HK.out)):w.heap.size≤gb398));have Hk:=mk_ ((Nat.le_trans HW0.out (by rw [hg];exact (keep_size (w:=w) (g:=g) (row:=none) (yu12 HK.out)):w.heap.size≤gb398):w0.heap.size≤gb398));replace HK:=mk_ (KeepBut.trans (yu12 HK.out) (KeepBut.of_below hb g none) (.inl rfl));have As:=mk_ ((by rw [hg];exact zm2 (zr6 (by exact Ac.out)):gb397≠gb398));replace Ac:=mk_ (zq6 (by exact Ac.out) hb);have Au:=mk_ As.out.symm;have A1:=mk_ ((by rw [hg];exact zm2 (IsS113.lt (show IsS113 w0 _ g s0_0 s0_1 from by exact yu7 HI0.out)):g≠gb398));replace HI0:=mk_ (IsS113.below (yu7 HI0.out) hb);have Am:=mk_ A1.out.symm;clear hb hbox hg)|((with_reducible refine gate_dst (N:=7) rfl ?_);refine box_event ?hg (N:=7) ?hd (cs:=#[.int .i64 0,.slice none 0 0,.int .i64 0,.int .i64 0,.bool false]) (t:=78) ?hr ?_;(case hd=>rfl);(case hg=>rfl);(case hr=>first|(go_simp;done)|(go_simp;rfl));intro gb399 hg w7 hbox hb;replace HB:=mk_ (zr3 (yu11 HB.out HI0.out) hb);have Aa:=mk_ (hbox);have Hl:=mk_ ((by rw [hg];exact (keep_size (w:=w) (g:=g) (row:=none) (yu12 HK.out)):w.heap.size≤gb399));have Hm:=mk_ ((Nat.le_trans HW0.out (by rw [hg];exact (keep_size (w:=w) (g:=g) (row:=none) (yu12 HK.out)):w.heap.size≤gb399):w0.heap.size≤gb399));replace HK:=mk_ (KeepBut.trans (yu12 HK.out) (KeepBut.of_below hb g none) (.inl rfl));have Ak:=mk_ ((by rw [hg];exact zm2 (zr6 (by exact Ac.out)):gb397≠gb399));replace Ac:=mk_ (zq6 (by exact Ac.out) hb);have An:=mk_ Ak.out.symm;have Aj:=mk_ ((by rw [hg];exact zm2 (zr6 (by exact Ah.out)):gb398≠gb399));replace Ah:=mk_ (zq6 (by exact Ah.out) hb);have Ao:=mk_ Aj.out.symm;have Av:=mk_ ((by rw [hg];exact zm2 (IsS113.lt (show IsS113 w0 _ g s0_0 s0_1 from by exact yu7 HI0.out)):g≠gb399));replace HI0:=mk_ (IsS113.below (yu7 HI0.out) hb);have Al:=mk_ Av.out.symm;clear hb hbox hg;have Ib:=An.out;have Ic:=Ak.out;have Id:=Ao.out;have Ie:=Aj.out;have Hn:=Al.out;have Ho:=Av.out;obtain ⟨A9,Ba,Bb,Bc,Bd⟩:=cz5 Aa.out;obtain ⟨Be,Bf,Bg,Bh,Bi⟩:=fz5 Aa.out)|((with_reducible refine gate_callee (f:=70) rfl ?_);refine goesL_ (some 11) rfl rfl Try.func70 (by kernel_rfl) rfl #[.pointer (some ⟨g,0,none⟩),.int .i64 16] rfl am ?_;(with_reducible refine (spec_l20Rd_pick.calls k g s0_0 s0_1 16 t400 t401 w0 _ ?side1 ?side2 A4.out).mono ?_);(case side1=>exact yu7 HI0.out);(case side2=>exact yu11 HB.out HI0.out);rintro e Ip ⟨rfl,hi,hb,hk⟩;refine ⟨_,rfl,?_⟩;replace Ac:=mk_ (KeepBut.blk hk (g':=gb397) (o:=.cells #[.int .i64 a1_0,.int .i64 a1_1,.int .i64 a1_2,.int .i64 a1_3,.int .i64 a1_4] 66 (0,0)) (yv5 Ak.out Ac.out) Ap.out (by simp));replace Ah:=mk_ (KeepBut.blk hk (g':=gb398) (o:=.cells #[.int .i64 0,.slice none 0 0,.int .i64 0,.int .i64 0,.bool false] 78 (0,0)) (yv5 Aj.out Ah.out) Am.out (by simp));replace Aa:=mk_ (KeepBut.blk hk (g':=gb399) (o:=.cells #[.int .i64 0,.slice none 0 0,.int .i64 0,.int .i64 0,.bool false] 78 (0,0)) (yv6 Aa.out) Al.out (by simp));replace HK:=mk_ (KeepBut.trans (yu12 HK.out) hk (.inl rfl));replace HB:=mk_ (hb);replace HI0:=mk_ (hi);(try clear hb);(try clear hb2);(try clear hk);(try clear hi)))
 go_loopg [8] k (fun kq v8 w'=>∃ (Aw:Int) (At:Int) (Ad:Int) (Ai:List (S39)) (Ag:Int) (Ae:Int) (Af:Bool) (u400001:Value),v8=.int .i64 Aw∧Aside0 (spec_l20Ctx.l0 kq a2 Aw s0_0 At a1_0 a1_1 a1_2 a1_3 a1_4 Ad Ai Ag Ae Af=some (r1,r2,r3,r4,r5,r6))∧Aside0 (kq≤k)∧Aside0 (Kd.N k39 39 w' w.heap.size (fun k_=>(w.heap.size≤k_)∧k_≠gb397∧k_≠gb398∧k_≠gb399∧k_≠g) u400001 Ai)∧Aside0 (w'.heap[gb397]? =some (.cells #[.int .i64 a1_0,.int .i64 a1_1,.int .i64 a1_2,.int .i64 a1_3,.int .i64 a1_4] 66 (0,0)))∧Aside0 (w'.heap[gb398]? =some (.cells #[.int .i64 0,(.slice none 0 0),.int .i64 0,.int .i64 0,.bool false] 78 (0,0)))∧Aside0 (w'.heap[gb399]? =some (.cells #[.int .i64 Ad,u400001,.int .i64 Ag,.int .i64 Ae,.bool Af] 78 (0,0)))∧Aside0 (IsS113 w0 w' g s0_0 At)∧Aside0 (KeepBut w w' g none)∧Aside0 (Below w0.heap.size w0 w'))
 case atStart=>exact ⟨(t400),(t401),(0),(([]:List (S39))),(0),(0),(false),(.slice none 0 0),(by first|rfl|(simp;done)|(simp [*];done)),H',⟨Nat.le_refl _⟩,⟨by first|exact Kd.S_nil _ _ _ _ _|exact Kd.N_nil _ _ _ _ _|exact Kd.V_nil _ _ _ _ _|exact Kd.Q_nil _ _ _ _ _|exact Kd.R_nil _ _ _ _ _⟩,⟨by (with_reducible repeat (first|refine zq1 ?_ _|refine zq2 ?_|refine zq3 ?_ _));exact Ac.out⟩,⟨by (with_reducible repeat (first|refine zq1 ?_ _|refine zq2 ?_|refine zq3 ?_ _));exact Ah.out⟩,⟨by (with_reducible repeat (first|refine zq1 ?_ _|refine zq2 ?_|refine zq3 ?_ _));exact Aa.out⟩,⟨by exact yu7 HI0.out⟩,⟨by exact yu12 HK.out⟩,⟨by exact yu11 HB.out HI0.out⟩⟩
 case round =>
  clear H'
  try clear c1
  try clear p2
  try clear c7
  try clear c8
  try clear c9
  try clear c10
  try clear A9 Ba Bb Bc Bd
  try clear Be Bf Bg Bh Bi
  obtain ⟨Aw,At,Ad,Ai,Ag,Ae,Af,u400001,rfl,HA,HK1,Ab,Ac,Ah,Aa,HI0,HK,HB⟩:=hrel
  cases gk with
  |zero=>exact absurd HA.out (by simp [spec_l20Ctx.l0])
  |succ k1 =>
   have H:=HA.out
   clear HA
   simp only [spec_l20Ctx.l0] at H
   by_cases c13:Aw > 0
   ·rw [if_pos c13] at H
    have c13b0:decide (0<Aw)=true:=decide_eq_true c13
    clear c13
    replace H:=Option.bind_eq_some_iff.mp H
    obtain ⟨⟨t402,t403⟩,Bu,H⟩:=H
    try dsimp only at H
    have F1:=mk_ Bu
    clear Bu
    have Bm:=mk_ H
    clear H
    go_upto_if 25 with (first|((with_reducible refine gate_callee (f:=70) rfl ?_);refine goesL_ (some 17) rfl rfl Try.func70 (by kernel_rfl) rfl #[.pointer (some ⟨g,0,none⟩),.int .i64 4] rfl am ?_;(with_reducible refine (spec_l20Rd_pick.calls k1 g s0_0 At 4 t402 t403 w0 _ ?side1 ?side2 F1.out).mono ?_);(case side1=>exact yu7 HI0.out);(case side2=>exact yu11 HB.out HI0.out);rintro e Iq ⟨rfl,hi,hb,hk⟩;refine ⟨_,rfl,?_⟩;replace Ab:=mk_ (Kd.N_mono (Kd.N_keep (Kd.N_mono (ok:=fun k_=>(((w.heap.size≤k_))∧(k_≠gb397∧(k_≠gb398∧(k_≠gb399∧k_≠g))))) (mN Ab.out) (fun k_ hk_=>(⟨hk_,hk_.2.2.2.2⟩:_∧k_≠g))) hk (fun _ h=>h.2)) (fun _ h=>h.1));replace Ac:=mk_ (KeepBut.blk hk (g':=gb397) (o:=.cells #[.int .i64 a1_0,.int .i64 a1_1,.int .i64 a1_2,.int .i64 a1_3,.int .i64 a1_4] 66 (0,0)) (by exact Ac.out) Ap.out (by simp));replace Ah:=mk_ (KeepBut.blk hk (g':=gb398) (o:=.cells #[.int .i64 0,.slice none 0 0,.int .i64 0,.int .i64 0,.bool false] 78 (0,0)) (by exact Ah.out) Am.out (by simp));replace Aa:=mk_ (KeepBut.blk hk (g':=gb399) (o:=.cells #[.int .i64 Ad,u400001,.int .i64 Ag,.int .i64 Ae,.bool Af] 78 (0,0)) (by exact Aa.out) Al.out (by simp));replace HK:=mk_ (KeepBut.trans (yu12 HK.out) hk (.inl rfl));replace HB:=mk_ (hb);replace HI0:=mk_ (hi);(try clear hb);(try clear hb2);(try clear hk);(try clear hi)))
    (try simp only [Act.put,List.setIfInBounds_toArray,List.set_cons_zero,List.set_cons_succ])
    go_cut [25] (fun v25 wc=>∃ (kq:Nat) (A5:Bool),v25=.bool A5∧Aside0 (spec_l20Ctx.j1 kq a2 Aw t402 A5 s0_0 t403 a1_0 a1_1 a1_2 a1_3 a1_4 Ad Ai Ag Ae Af=some (r1,r2,r3,r4,r5,r6))∧Aside0 (kq≤k1)∧Aside0 (Kd.N k39 39 wc w.heap.size (fun k_=>(w.heap.size≤k_)∧k_≠gb397∧k_≠gb398∧k_≠gb399∧k_≠g) u400001 Ai)∧Aside0 (wc.heap[gb397]? =some (.cells #[.int .i64 a1_0,.int .i64 a1_1,.int .i64 a1_2,.int .i64 a1_3,.int .i64 a1_4] 66 (0,0)))∧Aside0 (wc.heap[gb398]? =some (.cells #[.int .i64 0,(.slice none 0 0),.int .i64 0,.int .i64 0,.bool false] 78 (0,0)))∧Aside0 (wc.heap[gb399]? =some (.cells #[.int .i64 Ad,u400001,.int .i64 Ag,.int .i64 Ae,.bool Af] 78 (0,0)))∧Aside0 (IsS113 w0 wc g s0_0 t403)∧Aside0 (KeepBut w wc g none)∧Aside0 (Below w0.heap.size w0 wc))
    case first =>
     have H:=Bm.out
     clear Bm
     by_cases c17:t402=0
     ·rw [if_pos c17] at H
      have c17b0:(t402 == 0)=true:=beq_iff_eq.mpr c17
      have c17b1:(t402 != 0)=false:=bne_eq_false_iff_eq.mpr c17
      clear c17
      (first|rw [c17b0]|(simp only [i64_w,i32_w];rw [c17b0])|skip)
      have H':=mk_ H
      clear H
      go_wp2
      go_meet
      case rel=>exact ⟨_,((t402 == 0)),(by first|rfl|(simp;done)|(simp [*];done)),H',⟨by have:=HK1.out;first|omega|exact Nat.le_refl _⟩,⟨by (with_reducible repeat (first|apply Kd.N_alloc|apply Kd.N_drewN|apply Kd.N_drew));exact Ab.out⟩,⟨by (with_reducible repeat (first|refine zq1 ?_ _|refine zq2 ?_|refine zq3 ?_ _));exact Ac.out⟩,⟨by (with_reducible repeat (first|refine zq1 ?_ _|refine zq2 ?_|refine zq3 ?_ _));exact Ah.out⟩,⟨by (with_reducible repeat (first|refine zq1 ?_ _|refine zq2 ?_|refine zq3 ?_ _));exact Aa.out⟩,⟨by exact yu7 HI0.out⟩,⟨by exact yu12 HK.out⟩,⟨by exact yu11 HB.out HI0.out⟩⟩
     ·rw [if_neg c17] at H
      have c17b0:(t402 == 0)=false:=beq_eq_false_iff_ne.mpr c17
      have c17b1:(t402 != 0)=true:=bne_iff_ne.mpr c17
      (first|rw [c17b0]|(simp only [i64_w,i32_w];rw [c17b0])|skip)
      have H':=mk_ H
      clear H
      go_wp2
      go_meet
      case rel=>exact ⟨_,((t402 == 1)),(by first|rfl|(simp;done)|(simp [*];done)),H',⟨by have:=HK1.out;first|omega|exact Nat.le_refl _⟩,⟨by (with_reducible repeat (first|apply Kd.N_alloc|apply Kd.N_drewN|apply Kd.N_drew));exact Ab.out⟩,⟨by (with_reducible repeat (first|refine zq1 ?_ _|refine zq2 ?_|refine zq3 ?_ _));exact Ac.out⟩,⟨by (with_reducible repeat (first|refine zq1 ?_ _|refine zq2 ?_|refine zq3 ?_ _));exact Ah.out⟩,⟨by (with_reducible repeat (first|refine zq1 ?_ _|refine zq2 ?_|refine zq3 ?_ _));exact Aa.out⟩,⟨by exact yu7 HI0.out⟩,⟨by exact yu12 HK.out⟩,⟨by exact yu11 HB.out HI0.out⟩⟩
    case rest =>
     clear Bm
     try clear c1
     try clear p2
     try clear c7
     try clear c8
     try clear c9
     try clear c10
     try clear c13
     try clear c13b0
     try clear c17
     try clear c17b0
     try clear c17b1
     try clear A9 Ba Bb Bc Bd
     try clear Be Bf Bg Bh Bi
     try clear p2
     obtain ⟨kq,A5,rfl,HA,HJ14,Ab,Ac,Ah,Aa,HI0,HK,HB⟩:=hcut
     cases kq with
     |zero=>exact absurd HA.out (by simp [spec_l20Ctx.j1])
     |succ Aq =>
      have H:=HA.out
      clear HA
      simp only [spec_l20Ctx.j1] at H
      by_cases c18:A5=true
      ·subst c18
       have H1:((spec_l20Bytes.f Aq s0_0 t403 a1_3).bind fun bt404=>((spec_CrdPut.f Aq a1_0 a1_1 a1_2 a1_3 a1_4 Ad Ai Ag Ae Af bt404.1).bind fun bt408=>(spec_l20Ctx.l0 Aq a2 (wrap64 (Aw - 1)) s0_0 bt404.2 a1_0 a1_1 a1_2 a1_3 a1_4 bt408.1 bt408.2.1 bt408.2.2.1 bt408.2.2.2.1 bt408.2.2.2.2.1)))=some (r1,r2,r3,r4,r5,r6):=by rw [if_pos rfl] at H;exact H
       clear H
       have H:=H1
       clear H1
       replace H:=Option.bind_eq_some_iff.mp H
       obtain ⟨⟨t404,t407⟩,Bv,H⟩:=H
       try dsimp only at H
       have F2:=mk_ Bv
       clear Bv
       replace H:=Option.bind_eq_some_iff.mp H
       obtain ⟨⟨t408,t409,t412,t413,t414,t415⟩,Bw,H⟩:=H
       try dsimp only at H
       have F3:=mk_ Bw
       clear Bw
       have H':=mk_ H
       clear H
       try go_wp2
       replace Ab:=mk_ (Kd.N_drew Ab.out)
       replace Ac:=mk_ (zq2 Ac.out)
       replace Ah:=mk_ (zq2 Ah.out)
       replace Aa:=mk_ (zq2 Aa.out)
       replace HI0:=mk_ (IsS113.drew HI0.out)
       replace HK:=mk_ (zr8 HK.out)
       replace HB:=mk_ (zq9 HB.out)
       refine start_ (n:=11) (S:=fun w'=>w'.cell? ⟨gb397,0,none⟩=some (.int .i64 a1_0)∧w'.cell? ⟨gb397,1,none⟩=some (.int .i64 a1_1)∧w'.cell? ⟨gb397,2,none⟩=some (.int .i64 a1_2)∧w'.cell? ⟨gb397,3,none⟩=some (.int .i64 a1_3)∧w'.cell? ⟨gb397,4,none⟩=some (.int .i64 a1_4)∧w'.cell? ⟨gb399,0,none⟩=some (.int .i64 Ad)∧w'.cell? ⟨gb399,1,none⟩=some (u400001)∧w'.cell? ⟨gb399,2,none⟩=some (.int .i64 Ag)∧w'.cell? ⟨gb399,3,none⟩=some (.int .i64 Ae)∧w'.cell? ⟨gb399,4,none⟩=some (.bool Af)) (ds:=[10]) (bm 11 0) (by kernel_rfl) rfl rfl ⟨(zr4 Ac.out 0).trans rfl,(zr4 Ac.out 1).trans rfl,(zr4 Ac.out 2).trans rfl,(zr4 Ac.out 3).trans rfl,(zr4 Ac.out 4).trans rfl,(zr4 Aa.out 0).trans rfl,(zr4 Aa.out 1).trans rfl,(zr4 Aa.out 2).trans rfl,(zr4 Aa.out 3).trans rfl,(zr4 Aa.out 4).trans rfl⟩ (fun hHeld=>?_);refine with_tabW spec_l20Ctx.tab9 spec_l20Ctx.bits9 (fun HT_ HW_=>?_)
       generalize wc.drew=Ir at Ab Ac Ah Aa HI0 HK HB hHeld ⊢
       refine pA 2 (some 31) (bm 11 4) rfl rfl HT_.out (by kernel_rfl) (fun _ _ _ h=>h) (by rfl) (by intro w';go_simp;with_reducible rfl) (by simp only [Act.put,zs1,zs2,zs3,i64_w,i32_w];rfl) ?_
       refine pA 3 (some 32) (bm 11 12) rfl rfl HT_.out (by kernel_rfl) (fun _ _ _ h=>h) (by rfl) (by intro w';go_simp;with_reducible rfl) (by simp only [Act.put,zs1,zs2,zs3,i64_w,i32_w];rfl) ?_
       refine tA 0 (some 29) (bm 11 13) rfl rfl HT_.out HW_.out (by kernel_rfl) (fun _ _ _ h=>h) (by rfl) hHeld (by rintro w' ⟨s0,s1,s2,s3,s4,s5,s6,s7,s8,s9⟩;go_simp;with_reducible rfl) (by simp only [Act.put,zs1,zs2,zs3,i64_w,i32_w];rfl) ?_
       refine tA 1 (some 30) (bm 11 15) rfl rfl HT_.out HW_.out (by kernel_rfl) (fun _ _ _ h=>h) (by rfl) hHeld (by rintro w' ⟨s0,s1,s2,s3,s4,s5,s6,s7,s8,s9⟩;go_simp;with_reducible rfl) (by simp only [Act.put,zs1,zs2,zs3,i64_w,i32_w];rfl) ?_
       refine tA 4 (some 33) (bm 11 31) rfl rfl HT_.out HW_.out (by kernel_rfl) (fun _ _ _ h=>h) (by rfl) hHeld (by rintro w' ⟨s0,s1,s2,s3,s4,s5,s6,s7,s8,s9⟩;go_simp;with_reducible rfl) (by simp only [Act.put,zs1,zs2,zs3,i64_w,i32_w];rfl) ?_
       refine one_ (i:=5) (N:=some 34) (bm 11 63) rfl rfl (one_of HT_.out (by kernel_rfl)) (by decide) (fun K hK=>?_)
       refine goes_ Try.func69 (by kernel_rfl) rfl #[.pointer (some ⟨g,0,none⟩),.int .i64 a1_3] (by rfl) rfl rfl am ?_
       with_reducible refine (spec_l20Bytes.calls Aq g s0_0 t403 a1_3 t404 t407 w0 _ ?side1 ?side2 F2.out).mono ?_
       (case side1=>exact yu7 HI0.out)
       (case side2=>exact yu11 HB.out HI0.out)
       rintro e Is ⟨v405,rfl,ho0,hi,hb,hk⟩
       refine ⟨_,rfl,?_⟩
       replace Ab:=mk_ (Kd.N_mono (Kd.N_told (Kd.N_oldK (Kd.N_mono (ok:=fun k_=>(((w.heap.size≤k_))∧(k_≠gb397∧(k_≠gb398∧(k_≠gb399∧k_≠g))))) (mN Ab.out) (fun k_ hk_=>(⟨hk_,hk_.2.2.2.2⟩:_∧k_≠g))) hk) (Kd.R_base ho0)) (fun _ h_=>h_.1))
       replace Ac:=mk_ (KeepBut.blk hk (g':=gb397) (o:=.cells #[.int .i64 a1_0,.int .i64 a1_1,.int .i64 a1_2,.int .i64 a1_3,.int .i64 a1_4] 66 (0,0)) (by exact Ac.out) Ap.out (by simp))
       replace Ah:=mk_ (KeepBut.blk hk (g':=gb398) (o:=.cells #[.int .i64 0,.slice none 0 0,.int .i64 0,.int .i64 0,.bool false] 78 (0,0)) (by exact Ah.out) Am.out (by simp))
       replace Aa:=mk_ (KeepBut.blk hk (g':=gb399) (o:=.cells #[.int .i64 Ad,u400001,.int .i64 Ag,.int .i64 Ae,.bool Af] 78 (0,0)) (by exact Aa.out) Al.out (by simp))
       have A3:=mk_ (Kd.R_lower (Kd.R_newM (M:=fun k_=>(w.heap.size≤k_)) ho0 (keep_size (w:=w) (g:=g) (row:=none) (yu12 HK.out)) (fun k_ h_=>h_)) (keep_size (w:=w) (g:=g) (row:=none) (yu12 HK.out)))
       replace HK:=mk_ (KeepBut.trans (yu12 HK.out) hk (.inl rfl))
       replace HB:=mk_ (hb)
       replace HI0:=mk_ (hi)
       (try clear hb)
       (try clear hb2)
       (try clear hk)
       (try clear hi)
       (try clear ho0)
       obtain ⟨Ao23,co23,eo23⟩:=Kd.N_slice Ab.out
       (first|subst eo23|(injection eo23 with f1_ f2_ f3_;have f4_:=f1_.symm;have f5_:=f3_.symm;clear f1_ f2_ f3_;subst f4_;subst f5_))
       obtain ⟨Ao24,co24,eo24⟩:=Kd.R_slice A3.out
       (first|subst eo24|(injection eo24 with f1_ f2_ f3_;have f4_:=f1_.symm;have f5_:=f3_.symm;clear f1_ f2_ f3_;subst f4_;subst f5_))
       refine hK.out _ _ ⟨(zr4 Ac.out 0).trans rfl,(zr4 Ac.out 1).trans rfl,(zr4 Ac.out 2).trans rfl,(zr4 Ac.out 3).trans rfl,(zr4 Ac.out 4).trans rfl,(zr4 Aa.out 0).trans rfl,(zr4 Aa.out 1).trans rfl,(zr4 Aa.out 2).trans rfl,(zr4 Aa.out 3).trans rfl,(zr4 Aa.out 4).trans rfl⟩ (fun hHeld=>?_)
       clear hK K
       refine norm_ (a':=?_) ?_ ?_
       rotate_left
       ·show Act.put _ (some 34) _=_
        simp only [Act.put,zs1,zs2,zs3,i64_w,i32_w]
        rfl
       refine one_ (i:=6) (N:=some 35) (bm 11 127) rfl rfl (one_of HT_.out (by kernel_rfl)) (by decide) (fun K hK=>?_)
       refine goes_ Try.func107 (by kernel_rfl) rfl #[.agg #[.int .i64 a1_0,.int .i64 a1_1,.int .i64 a1_2,.int .i64 a1_3,.int .i64 a1_4],.agg #[.int .i64 Ad,.slice Ao23 Ai.length co23,.int .i64 Ag,.int .i64 Ae,.bool Af],.slice Ao24 t404.length co24] (by rfl) rfl rfl am ?_
       with_reducible refine (spec_CrdPut.calls Aq a1_0 a1_1 a1_2 a1_3 a1_4 Ad _ _ Ai Ag Ae Af _ _ t404 t408 t409 t412 t413 t414 t415 _ ?side1 ?side2 ?side3 ?side4 F3.out).mono ?_
       (case side1=>exact mC (Kd.N_reads' Ab.out).2.2)
       (case side2=>exact (Kd.N_reads' Ab.out).2.1)
       (case side3=>exact mC (Kd.R_reads' A3.out).2.2)
       (case side4=>exact (Kd.R_reads' A3.out).2.1)
       rintro e Bj ⟨v410,rfl,ho0,hb⟩
       refine ⟨_,rfl,?_⟩
       have Bn:=mk_ (Kd.N_lower (Kd.N_mono (ok':=fun k_=>(w.heap.size≤k_)∧some k_≠(.slice Ao23 Ai.length co23:Value).ownBlock∧some k_≠(.slice Ao24 t404.length co24:Value).ownBlock∧k_≠gb397∧k_≠gb398∧k_≠gb399∧k_≠g) ho0 (fun k_ hk_=>⟨(Nat.le_trans (keep_size (w:=w) (g:=g) (row:=none) (yu12 HK.out)) hk_),(Kd.fresh' (Kd.N_lt (mN Ab.out)) k_ hk_),(Kd.fresh' (Kd.R_lt (mR A3.out)) k_ hk_),(Kd.freshB (g:=gb397) (o:=.cells #[.int .i64 a1_0,.int .i64 a1_1,.int .i64 a1_2,.int .i64 a1_3,.int .i64 a1_4] 66 (0,0)) (by exact Ac.out) k_ hk_),(Kd.freshB (g:=gb398) (o:=.cells #[.int .i64 0,.slice none 0 0,.int .i64 0,.int .i64 0,.bool false] 78 (0,0)) (by exact Ah.out) k_ hk_),(Kd.freshB (g:=gb399) (o:=.cells #[.int .i64 Ad,.slice Ao23 Ai.length co23,.int .i64 Ag,.int .i64 Ae,.bool Af] 78 (0,0)) (by exact Aa.out) k_ hk_),(IsS113.fresh (yu7 HI0.out) k_ hk_)⟩)) (keep_size (w:=w) (g:=g) (row:=none) (yu12 HK.out)))
       replace Ab:=mk_ (Kd.N_elder' (mN Ab.out) (by first|exact Kd.N_base ho0|exact Kd.S_base ho0) hb)
       replace A3:=mk_ (Kd.R_below (mR A3.out) hb)
       replace Ac:=mk_ (zq6 (by exact Ac.out) hb)
       replace Ah:=mk_ (zq6 (by exact Ah.out) hb)
       replace Aa:=mk_ (zq6 (by exact Aa.out) hb)
       replace HK:=mk_ (KeepBut.trans (yu12 HK.out) (KeepBut.of_below hb g none) (.inl rfl))
       replace HB:=mk_ (zr3 (yu11 HB.out HI0.out) hb)
       replace HI0:=mk_ (IsS113.below (yu7 HI0.out) hb)
       (try clear hb)
       (try clear hb2)
       (try clear hk)
       (try clear hi)
       (try clear ho0)
       obtain ⟨Ao27,co27,eo27⟩:=Kd.N_slice Bn.out
       (first|subst eo27|(injection eo27 with f1_ f2_ f3_;have f4_:=f1_.symm;have f5_:=f3_.symm;clear f1_ f2_ f3_;subst f4_;subst f5_))
       refine hK.out _ _ ⟨(zr4 Ac.out 0).trans rfl,(zr4 Ac.out 1).trans rfl,(zr4 Ac.out 2).trans rfl,(zr4 Ac.out 3).trans rfl,(zr4 Ac.out 4).trans rfl,(zr4 Aa.out 0).trans rfl,(zr4 Aa.out 1).trans rfl,(zr4 Aa.out 2).trans rfl,(zr4 Aa.out 3).trans rfl,(zr4 Aa.out 4).trans rfl⟩ (fun hHeld=>?_)
       clear hK K
       refine norm_ (a':=?_) ?_ ?_
       rotate_left
       ·show Act.put _ (some 35) _=_
        simp only [Act.put,zs1,zs2,zs3,i64_w,i32_w]
        rfl
       refine pA 7 (some 28) (bm 11 255) rfl rfl HT_.out (by kernel_rfl) (fun _ _ _ h=>h) (by rfl) (by intro w';go_simp;with_reducible rfl) (by simp only [Act.put,zs1,zs2,zs3,i64_w,i32_w];rfl) ?_
       refine pA 8 (some 36) (bm 11 511) rfl rfl HT_.out (by kernel_rfl) (fun _ _ _ h=>h) (by rfl) (by intro w';go_simp;with_reducible rfl) (by simp only [Act.put,zs1,zs2,zs3,i64_w,i32_w];rfl) ?_
       refine pA 9 (some 37) (bm 11 1023) rfl rfl HT_.out (by kernel_rfl) (fun _ _ _ h=>h) (by rfl) (by intro w';go_simp;with_reducible rfl) (by simp only [Act.put,zs1,zs2,zs3,i64_w,i32_w];rfl) ?_
       refine last_ (i:=10) (N:=none) (bm 11 2047) rfl rfl (one_of HT_.out (by kernel_rfl)) (by decide) (fun K hK=>?_)
       have hs26:Bj.cell? ⟨gb399,0,none⟩=some (.int .i64 Ad):=(zr4 Aa.out 0).trans rfl
       have hfs26:=zr5 Aa.out 0
       have hns26_0:=Ak.out
       have hns26_1:=Aj.out
       have hms26_0:=An.out
       have hms26_1:=Ao.out
       have hs28:Bj.cell? ⟨gb399,1,none⟩=some (.slice Ao23 Ai.length co23):=(zr4 Aa.out 1).trans rfl
       have hfs28:=zr5 Aa.out 1
       have hns28_0:=Ak.out
       have hns28_1:=Aj.out
       have hms28_0:=An.out
       have hms28_1:=Ao.out
       have hs29:Bj.cell? ⟨gb399,2,none⟩=some (.int .i64 Ag):=(zr4 Aa.out 2).trans rfl
       have hfs29:=zr5 Aa.out 2
       have hns29_0:=Ak.out
       have hns29_1:=Aj.out
       have hms29_0:=An.out
       have hms29_1:=Ao.out
       have hs30:Bj.cell? ⟨gb399,3,none⟩=some (.int .i64 Ae):=(zr4 Aa.out 3).trans rfl
       have hfs30:=zr5 Aa.out 3
       have hns30_0:=Ak.out
       have hns30_1:=Aj.out
       have hms30_0:=An.out
       have hms30_1:=Ao.out
       have hs31:Bj.cell? ⟨gb399,4,none⟩=some (.bool Af):=(zr4 Aa.out 4).trans rfl
       have hfs31:=zr5 Aa.out 4
       have hns31_0:=Ak.out
       have hns31_1:=Aj.out
       have hms31_0:=An.out
       have hms31_1:=Ao.out
       refine skip_ (w1:=?_) (by rfl) rfl ?_ ?_
       rotate_left
       ·go_simp
        rfl
       refine hK.out _ _ ?_
       clear hK K
       refine done_ (done_of HT_.out (by kernel_rfl)) ?_
       try go_wp2
       go_roundg Aq
       case measure=>have:=HK1.out;have:=HJ14.out;omega
       case rel=>exact ⟨(wrap64 (Aw - 1)),(t407),(t408),(t409),(t412),(t413),(t414),(.slice Ao27 t409.length co27),(by first|rfl|(simp;done)|(simp [*];done)),H',⟨by have:=HK1.out;have:=HJ14.out;omega⟩,⟨by (with_reducible repeat (first|apply Kd.N_alloc|apply Kd.N_drewN|apply Kd.N_drew));exact Kd.N_mono (Kd.N_far (p:=⟨gb399,4,none⟩) (Kd.N_far (p:=⟨gb399,3,none⟩) (Kd.N_far (p:=⟨gb399,2,none⟩) (Kd.N_far (p:=⟨gb399,1,none⟩) (Kd.N_far (p:=⟨gb399,0,none⟩) (Kd.N_mono Bn.out (fun k_ hk=>(⟨hk,hk.2.2.2.2.2.1⟩:_∧k_≠gb399))) (fun _ hk=>hk.2) (.int .i64 t408)) (fun _ hk=>hk.2) (.slice Ao27 t409.length co27)) (fun _ hk=>hk.2) (.int .i64 t412)) (fun _ hk=>hk.2) (.int .i64 t413)) (fun _ hk=>hk.2) (.bool t414)) (fun _ hk=>⟨hk.1.1,⟨hk.1.2.2.2.1,⟨hk.1.2.2.2.2.1,⟨hk.1.2.2.2.2.2.1,hk.1.2.2.2.2.2.2⟩⟩⟩⟩)⟩,⟨by (with_reducible repeat (first|refine zq1 ?_ _|refine zq2 ?_|refine zq3 ?_ _));refine fa5 ?_ Ak.out;(with_reducible repeat (first|refine zq1 ?_ _|refine zq2 ?_|refine zq3 ?_ _));exact Ac.out⟩,⟨by (with_reducible repeat (first|refine zq1 ?_ _|refine zq2 ?_|refine zq3 ?_ _));refine fa5 ?_ Aj.out;(with_reducible repeat (first|refine zq1 ?_ _|refine zq2 ?_|refine zq3 ?_ _));exact Ah.out⟩,⟨by (with_reducible repeat (first|refine zq1 ?_ _|refine zq2 ?_|refine zq3 ?_ _));apply pu5;(with_reducible repeat (first|refine zq1 ?_ _|refine zq2 ?_|refine zq3 ?_ _));exact Aa.out⟩,⟨by exact yu7 HI0.out⟩,⟨by exact yu12 HK.out⟩,⟨by exact yu11 HB.out HI0.out⟩⟩
      ·replace c18:=Bool.eq_false_iff.mpr c18
       subst c18
       have H1:(if t402=2 then ((spec_l20Rd_pick.f Aq s0_0 t403 6).bind fun bt416=>((spec_l20Rd_pick.f Aq s0_0 bt416.2 250).bind fun bt418=>((some (([wrap64 (1+bt416.1),wrap64 (1+bt418.1)]:List Int):List Int)).bind fun y420=>((spec_l20Rd_pick.f Aq s0_0 bt418.2 2).bind fun bt423=>(if 0≤bt423.1 then (if bt423.1<(y420.length:Int) then ((spec_CrdTake.f Aq a1_0 a1_1 a1_2 a1_3 a1_4 Ad Ai Ag Ae Af (rd y420 bt423.1)).bind fun bt426=>(spec_l20Ctx.l0 Aq a2 (wrap64 (Aw - 1)) s0_0 bt423.2 a1_0 a1_1 a1_2 a1_3 a1_4 bt426.1 bt426.2.1 bt426.2.2.1 bt426.2.2.2.1 bt426.2.2.2.2)) else (none)) else (none)))))) else ((spec_CrdSend.f Aq a1_0 a1_1 a1_2 a1_3 a1_4 Ad Ai Ag Ae Af).bind fun bt433=>(spec_l20Ctx.l0 Aq a2 (wrap64 (Aw - 1)) s0_0 t403 a1_0 a1_1 a1_2 a1_3 a1_4 bt433.1 bt433.2.1 bt433.2.2.1 bt433.2.2.2.1 bt433.2.2.2.2.1)))=some (r1,r2,r3,r4,r5,r6):=by rw [if_neg (show ¬ (false=true) by decide)] at H;exact H
       clear H
       have H:=H1
       clear H1
       by_cases c32:t402=2
       ·rw [if_pos c32] at H
        have c32b0:(t402 == 2)=true:=beq_iff_eq.mpr c32
        have c32b1:(t402 != 2)=false:=bne_eq_false_iff_eq.mpr c32
        clear c32
        replace H:=Option.bind_eq_some_iff.mp H
        obtain ⟨⟨t416,t417⟩,Bx,H⟩:=H
        try dsimp only at H
        have F4:=mk_ Bx
        clear Bx
        replace H:=Option.bind_eq_some_iff.mp H
        obtain ⟨⟨t418,t419⟩,By,H⟩:=H
        try dsimp only at H
        have F5:=mk_ By
        clear By
        obtain ⟨y420,hy420⟩:∃ y_:List Int,y_=(([wrap64 (1+t416),wrap64 (1+t418)]:List Int)):=⟨_,rfl⟩
        replace H:((spec_l20Rd_pick.f Aq s0_0 t419 2).bind fun bt423=>(if 0≤bt423.1 then (if bt423.1<(y420.length:Int) then ((spec_CrdTake.f Aq a1_0 a1_1 a1_2 a1_3 a1_4 Ad Ai Ag Ae Af (rd y420 bt423.1)).bind fun bt426=>(spec_l20Ctx.l0 Aq a2 (wrap64 (Aw - 1)) s0_0 bt423.2 a1_0 a1_1 a1_2 a1_3 a1_4 bt426.1 bt426.2.1 bt426.2.2.1 bt426.2.2.2.1 bt426.2.2.2.2)) else (none)) else (none)))=some (r1,r2,r3,r4,r5,r6):=by first|(rw [hy420];with_reducible exact H)|(have H2_:=(Option.bind_some _ _).symm.trans H;rw [hy420];with_reducible exact H2_)|(have H2_:=(Option.bind_some _ _).symm.trans H;with_reducible exact H2_)|with_reducible exact H|(rw [hy420];exact H)|exact H
        have Ny420:=mk_ hy420
        clear hy420
        replace H:=Option.bind_eq_some_iff.mp H
        obtain ⟨⟨t423,t424⟩,Bz,H⟩:=H
        try dsimp only at H
        have B7:=mk_ Bz
        clear Bz
        by_cases c36:0≤t423
        ·rw [if_pos c36] at H
         have c36b0:decide (0≤t423)=true:=decide_eq_true c36
         clear c36
         by_cases c37:t423<(y420.length:Int)
         ·rw [if_pos c37] at H
          have c37b0:decide (t423<(y420.length:Int))=true:=decide_eq_true c37
          clear c37
          replace H:=Option.bind_eq_some_iff.mp H
          obtain ⟨⟨t426,t427,t430,t431,t432⟩,B0,H⟩:=H
          try dsimp only at H
          have F6:=mk_ B0
          clear B0
          have H':=mk_ H
          clear H
          obtain ⟨Ao39,co39,eo39⟩:=Kd.N_slice Ab.out
          subst eo39
          try go_wp2
          have pi425:(0≤(t423:Int))=True:=eq_true (of_decide_eq_true (by first|(with_reducible assumption)|assumption))
          have qi425:(t423<(y420.length:Int))=True:=eq_true (of_decide_eq_true (by first|(with_reducible assumption)|assumption))
          replace Ab:=mk_ (Kd.N_drew Ab.out)
          replace Ac:=mk_ (zq2 Ac.out)
          replace Ah:=mk_ (zq2 Ah.out)
          replace Aa:=mk_ (zq2 Aa.out)
          replace HI0:=mk_ (IsS113.drew HI0.out)
          replace HK:=mk_ (zr8 HK.out)
          replace HB:=mk_ (zq9 HB.out)
          refine start_ (n:=15) (S:=fun w'=>w'.cell? ⟨gb397,0,none⟩=some (.int .i64 a1_0)∧w'.cell? ⟨gb397,1,none⟩=some (.int .i64 a1_1)∧w'.cell? ⟨gb397,2,none⟩=some (.int .i64 a1_2)∧w'.cell? ⟨gb397,3,none⟩=some (.int .i64 a1_3)∧w'.cell? ⟨gb397,4,none⟩=some (.int .i64 a1_4)∧w'.cell? ⟨gb399,0,none⟩=some (.int .i64 Ad)∧w'.cell? ⟨gb399,1,none⟩=some (.slice Ao39 Ai.length co39)∧w'.cell? ⟨gb399,2,none⟩=some (.int .i64 Ag)∧w'.cell? ⟨gb399,3,none⟩=some (.int .i64 Ae)∧w'.cell? ⟨gb399,4,none⟩=some (.bool Af)) (ds:=[14]) (bm 15 0) (by kernel_rfl) rfl rfl ⟨(zr4 Ac.out 0).trans rfl,(zr4 Ac.out 1).trans rfl,(zr4 Ac.out 2).trans rfl,(zr4 Ac.out 3).trans rfl,(zr4 Ac.out 4).trans rfl,(zr4 Aa.out 0).trans rfl,(zr4 Aa.out 1).trans rfl,(zr4 Aa.out 2).trans rfl,(zr4 Aa.out 3).trans rfl,(zr4 Aa.out 4).trans rfl⟩ (fun hHeld=>?_);refine with_tabW spec_l20Ctx.tab11 spec_l20Ctx.bits11 (fun HT_ HW_=>?_)
          generalize wc.drew=It at Ab Ac Ah Aa HI0 HK HB hHeld ⊢
          refine pA 2 (some 42) (bm 15 4) rfl rfl HT_.out (by kernel_rfl) (fun _ _ _ h=>h) (by rfl) (by intro w';go_simp;with_reducible rfl) (by simp only [Act.put,zs1,zs2,zs3,i64_w,i32_w];rfl) ?_
          refine pA 5 (some 45) (bm 15 36) rfl rfl HT_.out (by kernel_rfl) (fun _ _ _ h=>h) (by rfl) (by intro w';go_simp;with_reducible rfl) (by simp only [Act.put,zs1,zs2,zs3,i64_w,i32_w];rfl) ?_
          refine pA 9 (some 49) (bm 15 548) rfl rfl HT_.out (by kernel_rfl) (fun _ _ _ h=>h) (by rfl) (by intro w';go_simp;with_reducible rfl) (by simp only [Act.put,zs1,zs2,zs3,i64_w,i32_w];rfl) ?_
          refine tA 0 (some 40) (bm 15 549) rfl rfl HT_.out HW_.out (by kernel_rfl) (fun _ _ _ h=>h) (by rfl) hHeld (by rintro w' ⟨s0,s1,s2,s3,s4,s5,s6,s7,s8,s9⟩;go_simp;with_reducible rfl) (by simp only [Act.put,zs1,zs2,zs3,i64_w,i32_w];rfl) ?_
          refine tA 1 (some 41) (bm 15 551) rfl rfl HT_.out HW_.out (by kernel_rfl) (fun _ _ _ h=>h) (by rfl) hHeld (by rintro w' ⟨s0,s1,s2,s3,s4,s5,s6,s7,s8,s9⟩;go_simp;with_reducible rfl) (by simp only [Act.put,zs1,zs2,zs3,i64_w,i32_w];rfl) ?_
          refine one_ (i:=3) (N:=some 43) (bm 15 559) rfl rfl (one_of HT_.out (by kernel_rfl)) (by decide) (fun K hK=>?_)
          refine goes_ Try.func70 (by kernel_rfl) rfl #[.pointer (some ⟨g,0,none⟩),.int .i64 6] (by rfl) rfl rfl am ?_
          with_reducible refine (spec_l20Rd_pick.calls Aq g s0_0 t403 6 t416 t417 w0 _ ?side1 ?side2 F4.out).mono ?_
          (case side1=>exact yu7 HI0.out)
          (case side2=>exact yu11 HB.out HI0.out)
          rintro e Iu ⟨rfl,hi,hb,hk⟩
          refine ⟨_,rfl,?_⟩
          replace Ab:=mk_ (Kd.N_mono (Kd.N_keep (Kd.N_mono (ok:=fun k_=>(((w.heap.size≤k_))∧(k_≠gb397∧(k_≠gb398∧(k_≠gb399∧k_≠g))))) (mN Ab.out) (fun k_ hk_=>(⟨hk_,hk_.2.2.2.2⟩:_∧k_≠g))) hk (fun _ h=>h.2)) (fun _ h=>h.1))
          replace Ac:=mk_ (KeepBut.blk hk (g':=gb397) (o:=.cells #[.int .i64 a1_0,.int .i64 a1_1,.int .i64 a1_2,.int .i64 a1_3,.int .i64 a1_4] 66 (0,0)) (by exact Ac.out) Ap.out (by simp))
          replace Ah:=mk_ (KeepBut.blk hk (g':=gb398) (o:=.cells #[.int .i64 0,.slice none 0 0,.int .i64 0,.int .i64 0,.bool false] 78 (0,0)) (by exact Ah.out) Am.out (by simp))
          replace Aa:=mk_ (KeepBut.blk hk (g':=gb399) (o:=.cells #[.int .i64 Ad,.slice Ao39 Ai.length co39,.int .i64 Ag,.int .i64 Ae,.bool Af] 78 (0,0)) (by exact Aa.out) Al.out (by simp))
          replace HK:=mk_ (KeepBut.trans (yu12 HK.out) hk (.inl rfl))
          replace HB:=mk_ (hb)
          replace HI0:=mk_ (hi)
          (try clear hb)
          (try clear hb2)
          (try clear hk)
          (try clear hi)
          refine hK.out _ _ ⟨(zr4 Ac.out 0).trans rfl,(zr4 Ac.out 1).trans rfl,(zr4 Ac.out 2).trans rfl,(zr4 Ac.out 3).trans rfl,(zr4 Ac.out 4).trans rfl,(zr4 Aa.out 0).trans rfl,(zr4 Aa.out 1).trans rfl,(zr4 Aa.out 2).trans rfl,(zr4 Aa.out 3).trans rfl,(zr4 Aa.out 4).trans rfl⟩ (fun hHeld=>?_)
          clear hK K
          refine norm_ (a':=?_) ?_ ?_
          rotate_left
          ·show Act.put _ (some 43) _=_
           simp only [Act.put,zs1,zs2,zs3,i64_w,i32_w]
           rfl
          refine pA 4 (some 44) (bm 15 575) rfl rfl HT_.out (by kernel_rfl) (fun _ _ _ h=>h) (by rfl) (by intro w';go_simp;with_reducible rfl) (by simp only [Act.put,zs1,zs2,zs3,i64_w,i32_w];rfl) ?_
          refine one_ (i:=6) (N:=some 46) (bm 15 639) rfl rfl (one_of HT_.out (by kernel_rfl)) (by decide) (fun K hK=>?_)
          refine goes_ Try.func70 (by kernel_rfl) rfl #[.pointer (some ⟨g,0,none⟩),.int .i64 250] (by rfl) rfl rfl am ?_
          with_reducible refine (spec_l20Rd_pick.calls Aq g s0_0 t417 250 t418 t419 w0 _ ?side1 ?side2 F5.out).mono ?_
          (case side1=>exact yu7 HI0.out)
          (case side2=>exact yu11 HB.out HI0.out)
          rintro e Iv ⟨rfl,hi,hb,hk⟩
          refine ⟨_,rfl,?_⟩
          replace Ab:=mk_ (Kd.N_mono (Kd.N_keep (Kd.N_mono (ok:=fun k_=>(((w.heap.size≤k_))∧(k_≠gb397∧(k_≠gb398∧(k_≠gb399∧k_≠g))))) (mN Ab.out) (fun k_ hk_=>(⟨hk_,hk_.2.2.2.2⟩:_∧k_≠g))) hk (fun _ h=>h.2)) (fun _ h=>h.1))
          replace Ac:=mk_ (KeepBut.blk hk (g':=gb397) (o:=.cells #[.int .i64 a1_0,.int .i64 a1_1,.int .i64 a1_2,.int .i64 a1_3,.int .i64 a1_4] 66 (0,0)) (by exact Ac.out) Ap.out (by simp))
          replace Ah:=mk_ (KeepBut.blk hk (g':=gb398) (o:=.cells #[.int .i64 0,.slice none 0 0,.int .i64 0,.int .i64 0,.bool false] 78 (0,0)) (by exact Ah.out) Am.out (by simp))
          replace Aa:=mk_ (KeepBut.blk hk (g':=gb399) (o:=.cells #[.int .i64 Ad,.slice Ao39 Ai.length co39,.int .i64 Ag,.int .i64 Ae,.bool Af] 78 (0,0)) (by exact Aa.out) Al.out (by simp))
          replace HK:=mk_ (KeepBut.trans (yu12 HK.out) hk (.inl rfl))
          replace HB:=mk_ (hb)
          replace HI0:=mk_ (hi)
          (try clear hb)
          (try clear hb2)
          (try clear hk)
          (try clear hi)
          refine hK.out _ _ ⟨(zr4 Ac.out 0).trans rfl,(zr4 Ac.out 1).trans rfl,(zr4 Ac.out 2).trans rfl,(zr4 Ac.out 3).trans rfl,(zr4 Ac.out 4).trans rfl,(zr4 Aa.out 0).trans rfl,(zr4 Aa.out 1).trans rfl,(zr4 Aa.out 2).trans rfl,(zr4 Aa.out 3).trans rfl,(zr4 Aa.out 4).trans rfl⟩ (fun hHeld=>?_)
          clear hK K
          refine norm_ (a':=?_) ?_ ?_
          rotate_left
          ·show Act.put _ (some 46) _=_
           simp only [Act.put,zs1,zs2,zs3,i64_w,i32_w]
           rfl
          refine pA 7 (some 47) (bm 15 767) rfl rfl HT_.out (by kernel_rfl) (fun _ _ _ h=>h) (by rfl) (by intro w';go_simp;with_reducible rfl) (by simp only [Act.put,zs1,zs2,zs3,i64_w,i32_w];rfl) ?_
          refine join_ (σ:=Value × Addr) 4 (bm 15 2047) (fun s_=>[(48,s_.1),(50,.int .i64 t423)]) (fun s_ w'=>(w'.cell? ⟨gb397,0,none⟩=some (.int .i64 a1_0)∧w'.cell? ⟨gb397,1,none⟩=some (.int .i64 a1_1)∧w'.cell? ⟨gb397,2,none⟩=some (.int .i64 a1_2)∧w'.cell? ⟨gb397,3,none⟩=some (.int .i64 a1_3)∧w'.cell? ⟨gb397,4,none⟩=some (.int .i64 a1_4)∧w'.cell? ⟨gb399,0,none⟩=some (.int .i64 Ad)∧w'.cell? ⟨gb399,1,none⟩=some (.slice Ao39 Ai.length co39)∧w'.cell? ⟨gb399,2,none⟩=some (.int .i64 Ag)∧w'.cell? ⟨gb399,3,none⟩=some (.int .i64 Ae)∧w'.cell? ⟨gb399,4,none⟩=some (.bool Af))∧(Kd.R (Kd.int .i64) 3 w' w.heap.size (fun k_=>(w.heap.size≤k_)) s_.1 y420)∧(Kd.N k39 39 w' w.heap.size (fun k_=>(w.heap.size≤k_)∧some k_≠(s_.1:Value).ownBlock∧k_≠g∧k_≠gb397∧k_≠gb398∧k_≠gb399) (.slice Ao39 Ai.length co39) Ai)∧(∃ c_,(s_.1:Value)=.slice (some s_.2) y420.length c_)∧(w'.heap[gb397]? =some (.cells #[.int .i64 a1_0,.int .i64 a1_1,.int .i64 a1_2,.int .i64 a1_3,.int .i64 a1_4] 66 (0,0)))∧(w'.heap[gb398]? =some (.cells #[.int .i64 0,.slice none 0 0,.int .i64 0,.int .i64 0,.bool false] 78 (0,0)))∧(w'.heap[gb399]? =some (.cells #[.int .i64 Ad,.slice Ao39 Ai.length co39,.int .i64 Ag,.int .i64 Ae,.bool Af] 78 (0,0)))∧(IsS113 w0 w' g s0_0 t424)∧(KeepBut w w' g none)∧(Below w0.heap.size w0 w')) ?_ ?_
          rotate_left
          ·intro hCont
           refine two_ (i:=8) (j:=10) (Ni:=some 48) (Nj:=some 50) (bm 15 1023) (bm 15 1791) rfl rfl rfl rfl (two_of HT_.out (by kernel_rfl)) (by decide) (by decide) (fun K hK=>?_) (fun K hK=>?_)
           ·skip
            refine Kd.R_lit_step (Kd.int .i64) _ 3 ?hg (N:=48) ?hd (xs:=([wrap64 (1+t416),wrap64 (1+t418)]:List Int)) (inner:=[.int .i64 (wrap64 (1+t416)),.int .i64 (wrap64 (1+t418))]) (ok:=fun _=>True) (okp:=fun _=>True) ?hr ?hp (fun _ hk=>hk) trivial (Below.refl _ _) (Nat.le_refl _) (by simp) ?_;(case hd=>rfl);(case hg=>rfl);(case hr=>first|(go_simp;done)|(go_simp;rfl));(case hp=>exact (Reps.one (show Kd.M (Kd.int .i64) _ _ _ (wrap64 (1+t416)) [.int .i64 (wrap64 (1+t416))] from rfl) (Reps.one (show Kd.M (Kd.int .i64) _ _ _ (wrap64 (1+t418)) [.int .i64 (wrap64 (1+t418))] from rfl) (Reps.none _ _))))
            intro v421 F7 ho44 hb hg_ hnew_
            clear hg_ hnew_
            (first|rw [← Ny420.out] at ho44|(simp only [Int.reduceToNat] at ho44;rw [← Ny420.out] at ho44))
            replace Ab:=mk_ (Kd.N_elder' (mN Ab.out) (Kd.R_base ho44) hb)
            have Ar:=mk_ (Kd.R_lower (Kd.R_newM (M:=fun k_=>(w.heap.size≤k_)) ho44 (keep_size (w:=w) (g:=g) (row:=none) (yu12 HK.out)) (fun k_ h_=>h_)) (keep_size (w:=w) (g:=g) (row:=none) (yu12 HK.out)))
            replace Ac:=mk_ (zq6 (by exact Ac.out) hb)
            replace Ah:=mk_ (zq6 (by exact Ah.out) hb)
            replace Aa:=mk_ (zq6 (by exact Aa.out) hb)
            replace HK:=mk_ (KeepBut.trans (yu12 HK.out) (KeepBut.of_below hb g none) (.inl rfl))
            replace HB:=mk_ (zr3 (yu11 HB.out HI0.out) hb)
            replace HI0:=mk_ (IsS113.below (yu7 HI0.out) hb)
            clear hb ho44
            obtain ⟨Ao45,co45,eo45⟩:=Kd.R_slice Ar.out
            subst eo45
            obtain ⟨ado45,fo45,_⟩:=Kd.at_int (Kd.R_reads' Ar.out).2.2 0 (by decide) (by rw [Ny420.out];simp)
            cases fo45
            refine hK.out _ _ ⟨(zr4 Ac.out 0).trans rfl,(zr4 Ac.out 1).trans rfl,(zr4 Ac.out 2).trans rfl,(zr4 Ac.out 3).trans rfl,(zr4 Ac.out 4).trans rfl,(zr4 Aa.out 0).trans rfl,(zr4 Aa.out 1).trans rfl,(zr4 Aa.out 2).trans rfl,(zr4 Aa.out 3).trans rfl,(zr4 Aa.out 4).trans rfl⟩ (fun hHeld=>?_)
            clear hK K
            refine norm_ (a':=?_) ?_ ?_
            rotate_left
            ·show Act.put _ (some 48) _=_
             simp only [Act.put,zs1,zs2,zs3,i64_w,i32_w]
             rfl
            refine one_ (i:=10) (N:=some 50) (bm 15 2047) rfl rfl (one_of HT_.out (by kernel_rfl)) (by decide) (fun K hK=>?_)
            refine goes_ Try.func70 (by kernel_rfl) rfl #[.pointer (some ⟨g,0,none⟩),.int .i64 2] (by rfl) rfl rfl am ?_
            with_reducible refine (spec_l20Rd_pick.calls Aq g s0_0 t419 2 t423 t424 w0 _ ?side1 ?side2 B7.out).mono ?_
            (case side1=>exact yu7 HI0.out)
            (case side2=>exact yu11 HB.out HI0.out)
            rintro e Iw ⟨rfl,hi,hb,hk⟩
            refine ⟨_,rfl,?_⟩
            replace Ab:=mk_ (Kd.N_mono (Kd.N_keep (Kd.N_mono (ok:=fun k_=>((((w.heap.size≤k_))∧(k_≠gb397∧(k_≠gb398∧(k_≠gb399∧k_≠g))))∧some k_≠(.slice (some ado45) y420.length co45:Value).ownBlock)) (mN Ab.out) (fun k_ hk_=>(⟨hk_,hk_.1.2.2.2.2⟩:_∧k_≠g))) hk (fun _ h=>h.2)) (fun _ h=>h.1))
            replace Ac:=mk_ (KeepBut.blk hk (g':=gb397) (o:=.cells #[.int .i64 a1_0,.int .i64 a1_1,.int .i64 a1_2,.int .i64 a1_3,.int .i64 a1_4] 66 (0,0)) (by exact Ac.out) Ap.out (by simp))
            replace Ah:=mk_ (KeepBut.blk hk (g':=gb398) (o:=.cells #[.int .i64 0,.slice none 0 0,.int .i64 0,.int .i64 0,.bool false] 78 (0,0)) (by exact Ah.out) Am.out (by simp))
            replace Aa:=mk_ (KeepBut.blk hk (g':=gb399) (o:=.cells #[.int .i64 Ad,.slice Ao39 Ai.length co39,.int .i64 Ag,.int .i64 Ae,.bool Af] 78 (0,0)) (by exact Aa.out) Al.out (by simp))
            replace Ar:=mk_ (Kd.R_mono (Kd.R_keep (IsS113.apart (show IsS113 w0 _ g s0_0 t419 from by exact yu7 HI0.out) (mR Ar.out) (by decide)) hk (fun _ h=>h.2)) (fun _ h=>h.1))
            replace HK:=mk_ (KeepBut.trans (yu12 HK.out) hk (.inl rfl))
            replace HB:=mk_ (hb)
            replace HI0:=mk_ (hi)
            (try clear hb)
            (try clear hb2)
            (try clear hk)
            (try clear hi)
            refine hK.out _ _ ⟨(zr4 Ac.out 0).trans rfl,(zr4 Ac.out 1).trans rfl,(zr4 Ac.out 2).trans rfl,(zr4 Ac.out 3).trans rfl,(zr4 Ac.out 4).trans rfl,(zr4 Aa.out 0).trans rfl,(zr4 Aa.out 1).trans rfl,(zr4 Aa.out 2).trans rfl,(zr4 Aa.out 3).trans rfl,(zr4 Aa.out 4).trans rfl⟩ (fun hHeld=>?_)
            clear hK K
            refine norm_ (a':=?_) ?_ ?_
            rotate_left
            ·show Act.put _ (some 50) _=_
             simp only [Act.put,zs1,zs2,zs3,i64_w,i32_w]
             rfl
            exact norm_ (by simp only [putAll,Act.put,List.setIfInBounds_toArray,List.set_cons_zero,List.set_cons_succ]) (hCont (.slice (some ado45) y420.length co45,ado45) _ ⟨hHeld,(by (with_reducible repeat (first|apply Kd.R_alloc|apply Kd.R_drewN|apply Kd.R_drew));exact Kd.R_mono Ar.out (fun _ hk=>hk.1)),(by (with_reducible repeat (first|apply Kd.N_alloc|apply Kd.N_drewN|apply Kd.N_drew));exact Kd.N_mono Ab.out (fun _ hk=>⟨hk.1.1,⟨hk.2,⟨hk.1.2.2.2.2,⟨hk.1.2.1,⟨hk.1.2.2.1,hk.1.2.2.2.1⟩⟩⟩⟩⟩)),⟨_,rfl⟩,(by exact Ac.out),(by exact Ah.out),(by exact Aa.out),(yu7 HI0.out),(yu12 HK.out),(yu11 HB.out HI0.out)⟩)
           ·skip
            refine goes_ Try.func70 (by kernel_rfl) rfl #[.pointer (some ⟨g,0,none⟩),.int .i64 2] (by rfl) rfl rfl am ?_
            with_reducible refine (spec_l20Rd_pick.calls Aq g s0_0 t419 2 t423 t424 w0 _ ?side1 ?side2 B7.out).mono ?_
            (case side1=>exact yu7 HI0.out)
            (case side2=>exact yu11 HB.out HI0.out)
            rintro e F7 ⟨rfl,hi,hb,hk⟩
            refine ⟨_,rfl,?_⟩
            replace Ab:=mk_ (Kd.N_mono (Kd.N_keep (Kd.N_mono (ok:=fun k_=>(((w.heap.size≤k_))∧(k_≠gb397∧(k_≠gb398∧(k_≠gb399∧k_≠g))))) (mN Ab.out) (fun k_ hk_=>(⟨hk_,hk_.2.2.2.2⟩:_∧k_≠g))) hk (fun _ h=>h.2)) (fun _ h=>h.1))
            replace Ac:=mk_ (KeepBut.blk hk (g':=gb397) (o:=.cells #[.int .i64 a1_0,.int .i64 a1_1,.int .i64 a1_2,.int .i64 a1_3,.int .i64 a1_4] 66 (0,0)) (by exact Ac.out) Ap.out (by simp))
            replace Ah:=mk_ (KeepBut.blk hk (g':=gb398) (o:=.cells #[.int .i64 0,.slice none 0 0,.int .i64 0,.int .i64 0,.bool false] 78 (0,0)) (by exact Ah.out) Am.out (by simp))
            replace Aa:=mk_ (KeepBut.blk hk (g':=gb399) (o:=.cells #[.int .i64 Ad,.slice Ao39 Ai.length co39,.int .i64 Ag,.int .i64 Ae,.bool Af] 78 (0,0)) (by exact Aa.out) Al.out (by simp))
            replace HK:=mk_ (KeepBut.trans (yu12 HK.out) hk (.inl rfl))
            replace HB:=mk_ (hb)
            replace HI0:=mk_ (hi)
            (try clear hb)
            (try clear hb2)
            (try clear hk)
            (try clear hi)
            refine hK.out _ _ ⟨(zr4 Ac.out 0).trans rfl,(zr4 Ac.out 1).trans rfl,(zr4 Ac.out 2).trans rfl,(zr4 Ac.out 3).trans rfl,(zr4 Ac.out 4).trans rfl,(zr4 Aa.out 0).trans rfl,(zr4 Aa.out 1).trans rfl,(zr4 Aa.out 2).trans rfl,(zr4 Aa.out 3).trans rfl,(zr4 Aa.out 4).trans rfl⟩ (fun hHeld=>?_)
            clear hK K
            refine norm_ (a':=?_) ?_ ?_
            rotate_left
            ·show Act.put _ (some 50) _=_
             simp only [Act.put,zs1,zs2,zs3,i64_w,i32_w]
             rfl
            refine one_ (i:=8) (N:=some 48) (bm 15 2047) rfl rfl (one_of HT_.out (by kernel_rfl)) (by decide) (fun K hK=>?_)
            refine Kd.R_lit_step (Kd.int .i64) _ 3 ?hg (N:=48) ?hd (xs:=([wrap64 (1+t416),wrap64 (1+t418)]:List Int)) (inner:=[.int .i64 (wrap64 (1+t416)),.int .i64 (wrap64 (1+t418))]) (ok:=fun _=>True) (okp:=fun _=>True) ?hr ?hp (fun _ hk=>hk) trivial (Below.refl _ _) (Nat.le_refl _) (by simp) ?_;(case hd=>rfl);(case hg=>rfl);(case hr=>first|(go_simp;done)|(go_simp;rfl));(case hp=>exact (Reps.one (show Kd.M (Kd.int .i64) _ _ _ (wrap64 (1+t416)) [.int .i64 (wrap64 (1+t416))] from rfl) (Reps.one (show Kd.M (Kd.int .i64) _ _ _ (wrap64 (1+t418)) [.int .i64 (wrap64 (1+t418))] from rfl) (Reps.none _ _))))
            intro v421 Ix ho45 hb hg_ hnew_
            clear hg_ hnew_
            (first|rw [← Ny420.out] at ho45|(simp only [Int.reduceToNat] at ho45;rw [← Ny420.out] at ho45))
            replace Ab:=mk_ (Kd.N_elder' (mN Ab.out) (Kd.R_base ho45) hb)
            have Ar:=mk_ (Kd.R_lower (Kd.R_newM (M:=fun k_=>(w.heap.size≤k_)) ho45 (keep_size (w:=w) (g:=g) (row:=none) (yu12 HK.out)) (fun k_ h_=>h_)) (keep_size (w:=w) (g:=g) (row:=none) (yu12 HK.out)))
            replace Ac:=mk_ (zq6 (by exact Ac.out) hb)
            replace Ah:=mk_ (zq6 (by exact Ah.out) hb)
            replace Aa:=mk_ (zq6 (by exact Aa.out) hb)
            replace HK:=mk_ (KeepBut.trans (yu12 HK.out) (KeepBut.of_below hb g none) (.inl rfl))
            replace HB:=mk_ (zr3 (yu11 HB.out HI0.out) hb)
            replace HI0:=mk_ (IsS113.below (yu7 HI0.out) hb)
            clear hb ho45
            obtain ⟨Ao46,co46,eo46⟩:=Kd.R_slice Ar.out
            subst eo46
            obtain ⟨ado46,fo46,_⟩:=Kd.at_int (Kd.R_reads' Ar.out).2.2 0 (by decide) (by rw [Ny420.out];simp)
            cases fo46
            refine hK.out _ _ ⟨(zr4 Ac.out 0).trans rfl,(zr4 Ac.out 1).trans rfl,(zr4 Ac.out 2).trans rfl,(zr4 Ac.out 3).trans rfl,(zr4 Ac.out 4).trans rfl,(zr4 Aa.out 0).trans rfl,(zr4 Aa.out 1).trans rfl,(zr4 Aa.out 2).trans rfl,(zr4 Aa.out 3).trans rfl,(zr4 Aa.out 4).trans rfl⟩ (fun hHeld=>?_)
            clear hK K
            refine norm_ (a':=?_) ?_ ?_
            rotate_left
            ·show Act.put _ (some 48) _=_
             simp only [Act.put,zs1,zs2,zs3,i64_w,i32_w]
             rfl
            exact norm_ (by simp only [putAll,Act.put,List.setIfInBounds_toArray,List.set_cons_zero,List.set_cons_succ]) (hCont (.slice (some ado46) y420.length co46,ado46) _ ⟨hHeld,(by (with_reducible repeat (first|apply Kd.R_alloc|apply Kd.R_drewN|apply Kd.R_drew));exact Kd.R_mono Ar.out (fun _ hk=>hk.1)),(by (with_reducible repeat (first|apply Kd.N_alloc|apply Kd.N_drewN|apply Kd.N_drew));exact Kd.N_mono Ab.out (fun _ hk=>⟨hk.1.1,⟨hk.2,⟨hk.1.2.2.2.2,⟨hk.1.2.1,⟨hk.1.2.2.1,hk.1.2.2.2.1⟩⟩⟩⟩⟩)),⟨_,rfl⟩,(by exact Ac.out),(by exact Ah.out),(by exact Aa.out),(yu7 HI0.out),(yu12 HK.out),(yu11 HB.out HI0.out)⟩)
          rintro ⟨v421,adz_v421⟩ A0 ⟨hS_,h0_,h1_,h2_,h3_,h4_,h5_,h6_,h7_,h8_⟩
          have n0_:Aside0 (Kd.R (Kd.int .i64) 3 A0 w.heap.size (fun k_=>(w.heap.size≤k_)) v421 y420):=⟨h0_⟩
          have n1_:Aside0 (Kd.N k39 39 A0 w.heap.size (fun k_=>(w.heap.size≤k_)∧some k_≠(v421:Value).ownBlock∧k_≠g∧k_≠gb397∧k_≠gb398∧k_≠gb399) (.slice Ao39 Ai.length co39) Ai):=⟨h1_⟩
          have n2_:Aside0 (∃ c_,(v421:Value)=.slice (some adz_v421) y420.length c_):=⟨h2_⟩
          have n3_:Aside0 (A0.heap[gb397]? =some (.cells #[.int .i64 a1_0,.int .i64 a1_1,.int .i64 a1_2,.int .i64 a1_3,.int .i64 a1_4] 66 (0,0))):=⟨h3_⟩
          have n4_:Aside0 (A0.heap[gb398]? =some (.cells #[.int .i64 0,.slice none 0 0,.int .i64 0,.int .i64 0,.bool false] 78 (0,0))):=⟨h4_⟩
          have n5_:Aside0 (A0.heap[gb399]? =some (.cells #[.int .i64 Ad,.slice Ao39 Ai.length co39,.int .i64 Ag,.int .i64 Ae,.bool Af] 78 (0,0))):=⟨h5_⟩
          have n6_:Aside0 (IsS113 w0 A0 g s0_0 t424):=⟨h6_⟩
          have n7_:Aside0 (KeepBut w A0 g none):=⟨h7_⟩
          have n8_:Aside0 (Below w0.heap.size w0 A0):=⟨h8_⟩
          clear Ab
          clear Ac
          clear Ah
          clear Aa
          clear HI0
          clear HK
          clear HB
          clear h0_ h1_ h2_ h3_ h4_ h5_ h6_ h7_ h8_
          have Ar:=n0_
          have Ab:=n1_
          have HA_HO422:=n2_
          have Ac:=n3_
          have Ah:=n4_
          have Aa:=n5_
          have HI0:=n6_
          have HK:=n7_
          have HB:=n8_
          clear n0_ n1_ n2_ n3_ n4_ n5_ n6_ n7_ n8_
          have hHeld:A0.cell? ⟨gb397,0,none⟩=some (.int .i64 a1_0)∧A0.cell? ⟨gb397,1,none⟩=some (.int .i64 a1_1)∧A0.cell? ⟨gb397,2,none⟩=some (.int .i64 a1_2)∧A0.cell? ⟨gb397,3,none⟩=some (.int .i64 a1_3)∧A0.cell? ⟨gb397,4,none⟩=some (.int .i64 a1_4)∧A0.cell? ⟨gb399,0,none⟩=some (.int .i64 Ad)∧A0.cell? ⟨gb399,1,none⟩=some (.slice Ao39 Ai.length co39)∧A0.cell? ⟨gb399,2,none⟩=some (.int .i64 Ag)∧A0.cell? ⟨gb399,3,none⟩=some (.int .i64 Ae)∧A0.cell? ⟨gb399,4,none⟩=some (.bool Af):=hS_
          obtain ⟨co48,eo48⟩:=HA_HO422.out
          clear HA_HO422
          subst eo48
          refine norm_ (a':=?_) ?_ ?_
          rotate_left
          ·simp only [putAll,Act.put,List.setIfInBounds_toArray,List.set_cons_zero,List.set_cons_succ]
           rfl
          refine pA 11 (some 51) (bm 15 4095) rfl rfl HT_.out (by kernel_rfl) (fun _ _ _ h=>h) (by rfl) (by intro w';go_simp;with_reducible rfl) (by simp only [Act.put,zs1,zs2,zs3,i64_w,i32_w];rfl) ?_
          refine one_ (i:=12) (N:=some 52) (bm 15 8191) rfl rfl (one_of HT_.out (by kernel_rfl)) (by decide) (fun K hK=>?_)
          (have p425:0≤(t423:Int):=of_decide_eq_true (by first|(with_reducible assumption)|assumption);have q425:t423<(y420.length:Int):=of_decide_eq_true (by first|(with_reducible assumption)|assumption);obtain ⟨ad425,e425,hx425_0⟩:=Kd.at_int (Kd.R_reads' Ar.out).2.2 t423 p425 q425;obtain rfl:adz_v421=ad425:=(by injection e425))
          refine value_ (w1:=?_) (v:=?_) (by rfl) rfl ?_ ?_
          rotate_left 2
          ·go_simp
           constructor
           ·rfl
           ·rfl
          clear hx425_0
          refine hK.out _ _ ⟨(zr4 Ac.out 0).trans rfl,(zr4 Ac.out 1).trans rfl,(zr4 Ac.out 2).trans rfl,(zr4 Ac.out 3).trans rfl,(zr4 Ac.out 4).trans rfl,(zr4 Aa.out 0).trans rfl,(zr4 Aa.out 1).trans rfl,(zr4 Aa.out 2).trans rfl,(zr4 Aa.out 3).trans rfl,(zr4 Aa.out 4).trans rfl⟩ (fun hHeld=>?_)
          clear hK K
          refine norm_ (a':=?_) ?_ ?_
          rotate_left
          ·show Act.put _ (some 52) _=_
           simp only [Act.put,zs1,zs2,zs3,i64_w,i32_w]
           rfl
          refine one_ (i:=13) (N:=some 53) (bm 15 16383) rfl rfl (one_of HT_.out (by kernel_rfl)) (by decide) (fun K hK=>?_)
          refine goes_ Try.func108 (by kernel_rfl) rfl #[.agg #[.int .i64 a1_0,.int .i64 a1_1,.int .i64 a1_2,.int .i64 a1_3,.int .i64 a1_4],.agg #[.int .i64 Ad,.slice Ao39 Ai.length co39,.int .i64 Ag,.int .i64 Ae,.bool Af],.int .i64 (rd y420 t423)] (by rfl) rfl rfl am ?_
          with_reducible refine (spec_CrdTake.calls Aq a1_0 a1_1 a1_2 a1_3 a1_4 Ad _ _ Ai Ag Ae Af (rd y420 t423) t426 t427 t430 t431 t432 _ ?side1 ?side2 F6.out).mono ?_
          (case side1=>exact mC (Kd.N_reads' Ab.out).2.2)
          (case side2=>exact (Kd.N_reads' Ab.out).2.1)
          rintro e Bk ⟨v428,rfl,ho0,hb⟩
          refine ⟨_,rfl,?_⟩
          have Bo:=mk_ (Kd.N_lower (Kd.N_mono (ok':=fun k_=>(w.heap.size≤k_)∧some k_≠(.slice Ao39 Ai.length co39:Value).ownBlock∧some k_≠(.slice (some adz_v421) y420.length co48:Value).ownBlock∧k_≠gb397∧k_≠gb398∧k_≠gb399∧k_≠g) (Kd.S_N (Kd.S_bound ho0)) (fun k_ hk_=>⟨(Nat.le_trans (keep_size (w:=w) (g:=g) (row:=none) (yu12 HK.out)) hk_.2.1),(Kd.fresh' (Kd.N_lt (mN Ab.out)) k_ hk_.2.1),(Kd.fresh' (Kd.R_lt (mR Ar.out)) k_ hk_.2.1),(Kd.freshB (g:=gb397) (o:=.cells #[.int .i64 a1_0,.int .i64 a1_1,.int .i64 a1_2,.int .i64 a1_3,.int .i64 a1_4] 66 (0,0)) (by exact Ac.out) k_ hk_.2.1),(Kd.freshB (g:=gb398) (o:=.cells #[.int .i64 0,.slice none 0 0,.int .i64 0,.int .i64 0,.bool false] 78 (0,0)) (by exact Ah.out) k_ hk_.2.1),(Kd.freshB (g:=gb399) (o:=.cells #[.int .i64 Ad,.slice Ao39 Ai.length co39,.int .i64 Ag,.int .i64 Ae,.bool Af] 78 (0,0)) (by exact Aa.out) k_ hk_.2.1),(IsS113.fresh (yu7 HI0.out) k_ hk_.2.1)⟩)) (keep_size (w:=w) (g:=g) (row:=none) (yu12 HK.out)))
          replace Ab:=mk_ (Kd.N_elder' (mN Ab.out) (by first|exact Kd.N_base ho0|exact Kd.S_base ho0) hb)
          replace Ar:=mk_ (Kd.R_below (mR Ar.out) hb)
          replace Ac:=mk_ (zq6 (by exact Ac.out) hb)
          replace Ah:=mk_ (zq6 (by exact Ah.out) hb)
          replace Aa:=mk_ (zq6 (by exact Aa.out) hb)
          replace HK:=mk_ (KeepBut.trans (yu12 HK.out) (KeepBut.of_below hb g none) (.inl rfl))
          replace HB:=mk_ (zr3 (yu11 HB.out HI0.out) hb)
          replace HI0:=mk_ (IsS113.below (yu7 HI0.out) hb)
          (try clear hb)
          (try clear hb2)
          (try clear hk)
          (try clear hi)
          (try clear ho0)
          obtain ⟨Ao51,co51,eo51⟩:=Kd.N_slice Bo.out
          (first|subst eo51|(injection eo51 with f1_ f2_ f3_;have f4_:=f1_.symm;have f5_:=f3_.symm;clear f1_ f2_ f3_;subst f4_;subst f5_))
          refine hK.out _ _ ⟨(zr4 Ac.out 0).trans rfl,(zr4 Ac.out 1).trans rfl,(zr4 Ac.out 2).trans rfl,(zr4 Ac.out 3).trans rfl,(zr4 Ac.out 4).trans rfl,(zr4 Aa.out 0).trans rfl,(zr4 Aa.out 1).trans rfl,(zr4 Aa.out 2).trans rfl,(zr4 Aa.out 3).trans rfl,(zr4 Aa.out 4).trans rfl⟩ (fun hHeld=>?_)
          clear hK K
          refine norm_ (a':=?_) ?_ ?_
          rotate_left
          ·show Act.put _ (some 53) _=_
           simp only [Act.put,zs1,zs2,zs3,i64_w,i32_w]
           rfl
          refine last_ (i:=14) (N:=none) (bm 15 32767) rfl rfl (one_of HT_.out (by kernel_rfl)) (by decide) (fun K hK=>?_)
          have hs50:Bk.cell? ⟨gb399,0,none⟩=some (.int .i64 Ad):=(zr4 Aa.out 0).trans rfl
          have hfs50:=zr5 Aa.out 0
          have hns50_0:=Ak.out
          have hns50_1:=Aj.out
          have hms50_0:=An.out
          have hms50_1:=Ao.out
          have hs52:Bk.cell? ⟨gb399,1,none⟩=some (.slice Ao39 Ai.length co39):=(zr4 Aa.out 1).trans rfl
          have hfs52:=zr5 Aa.out 1
          have hns52_0:=Ak.out
          have hns52_1:=Aj.out
          have hms52_0:=An.out
          have hms52_1:=Ao.out
          have hs53:Bk.cell? ⟨gb399,2,none⟩=some (.int .i64 Ag):=(zr4 Aa.out 2).trans rfl
          have hfs53:=zr5 Aa.out 2
          have hns53_0:=Ak.out
          have hns53_1:=Aj.out
          have hms53_0:=An.out
          have hms53_1:=Ao.out
          have hs54:Bk.cell? ⟨gb399,3,none⟩=some (.int .i64 Ae):=(zr4 Aa.out 3).trans rfl
          have hfs54:=zr5 Aa.out 3
          have hns54_0:=Ak.out
          have hns54_1:=Aj.out
          have hms54_0:=An.out
          have hms54_1:=Ao.out
          have hs55:Bk.cell? ⟨gb399,4,none⟩=some (.bool Af):=(zr4 Aa.out 4).trans rfl
          have hfs55:=zr5 Aa.out 4
          have hns55_0:=Ak.out
          have hns55_1:=Aj.out
          have hms55_0:=An.out
          have hms55_1:=Ao.out
          refine skip_ (w1:=?_) (by rfl) rfl ?_ ?_
          rotate_left
          ·go_simp
           rfl
          refine hK.out _ _ ?_
          clear hK K
          refine done_ (done_of HT_.out (by kernel_rfl)) ?_
          try go_wp2
          go_roundg Aq
          case measure=>have:=HK1.out;have:=HJ14.out;omega
          case rel=>exact ⟨(wrap64 (Aw - 1)),(t424),(t426),(t427),(t430),(t431),(t432),(.slice Ao51 t427.length co51),(by first|rfl|(simp;done)|(simp [*];done)),H',⟨by have:=HK1.out;have:=HJ14.out;omega⟩,⟨by (with_reducible repeat (first|apply Kd.N_alloc|apply Kd.N_drewN|apply Kd.N_drew));exact Kd.N_mono (Kd.N_far (p:=⟨gb399,4,none⟩) (Kd.N_far (p:=⟨gb399,3,none⟩) (Kd.N_far (p:=⟨gb399,2,none⟩) (Kd.N_far (p:=⟨gb399,1,none⟩) (Kd.N_far (p:=⟨gb399,0,none⟩) (Kd.N_mono Bo.out (fun k_ hk=>(⟨hk,hk.2.2.2.2.2.1⟩:_∧k_≠gb399))) (fun _ hk=>hk.2) (.int .i64 t426)) (fun _ hk=>hk.2) (.slice Ao51 t427.length co51)) (fun _ hk=>hk.2) (.int .i64 t430)) (fun _ hk=>hk.2) (.int .i64 t431)) (fun _ hk=>hk.2) (.bool t432)) (fun _ hk=>⟨hk.1.1,⟨hk.1.2.2.2.1,⟨hk.1.2.2.2.2.1,⟨hk.1.2.2.2.2.2.1,hk.1.2.2.2.2.2.2⟩⟩⟩⟩)⟩,⟨by (with_reducible repeat (first|refine zq1 ?_ _|refine zq2 ?_|refine zq3 ?_ _));refine fa5 ?_ Ak.out;(with_reducible repeat (first|refine zq1 ?_ _|refine zq2 ?_|refine zq3 ?_ _));exact Ac.out⟩,⟨by (with_reducible repeat (first|refine zq1 ?_ _|refine zq2 ?_|refine zq3 ?_ _));refine fa5 ?_ Aj.out;(with_reducible repeat (first|refine zq1 ?_ _|refine zq2 ?_|refine zq3 ?_ _));exact Ah.out⟩,⟨by (with_reducible repeat (first|refine zq1 ?_ _|refine zq2 ?_|refine zq3 ?_ _));apply pu5;(with_reducible repeat (first|refine zq1 ?_ _|refine zq2 ?_|refine zq3 ?_ _));exact Aa.out⟩,⟨by exact yu7 HI0.out⟩,⟨by exact yu12 HK.out⟩,⟨by exact yu11 HB.out HI0.out⟩⟩
         ·rw [if_neg c37] at H
          exact absurd H (by simp)
        ·rw [if_neg c36] at H
         exact absurd H (by simp)
       ·rw [if_neg c32] at H
        have c32b0:(t402 == 2)=false:=beq_eq_false_iff_ne.mpr c32
        have c32b1:(t402 != 2)=true:=bne_iff_ne.mpr c32
        replace H:=Option.bind_eq_some_iff.mp H
        obtain ⟨⟨t433,t434,t437,t438,t439,t440,t441,t442,t443,t444,t445,t446,t447,t448,t451⟩,B1,H⟩:=H
        try dsimp only at H
        have F8:=mk_ B1
        clear B1
        have H':=mk_ H
        clear H
        have Hp:=As.out
        have Hq:=Au.out
        have Hr:=Ak.out
        have Hs:=An.out
        have Ht:=Ap.out
        have Hu:=A8.out
        obtain ⟨En,Eo,Ep,Eq,Er⟩:=cz5 Ac.out
        obtain ⟨Es,Et,Eu,Ev,Ew⟩:=fz5 Ac.out
        have Hv:=Ao.out
        have Hw:=Aj.out
        have Hx:=Al.out
        have Hy:=Av.out
        obtain ⟨Ex,Ey,Ez,E0,E1⟩:=cz5 Aa.out
        obtain ⟨E2,E3,E4,E5,E6⟩:=fz5 Aa.out
        obtain ⟨Ao64,co64,eo64⟩:=Kd.N_slice Ab.out
        subst eo64
        go_wp2_with (first|((with_reducible refine gate_callee (f:=109) rfl ?_);refine goesL_ (some 21) rfl rfl Try.func109 (by kernel_rfl) rfl #[.agg #[.int .i64 a1_0,.int .i64 a1_1,.int .i64 a1_2,.int .i64 a1_3,.int .i64 a1_4],.agg #[.int .i64 Ad,.slice Ao64 Ai.length co64,.int .i64 Ag,.int .i64 Ae,.bool Af]] rfl am ?_;(with_reducible refine (spec_CrdSend.calls Aq a1_0 a1_1 a1_2 a1_3 a1_4 Ad _ _ Ai Ag Ae Af t433 t434 t437 t438 t439 t440 t441 t442 t443 t444 t445 t446 t447 t448 t451 _ ?side1 ?side2 F8.out).mono ?_);(case side1=>exact mC (Kd.N_reads' Ab.out).2.2);(case side2=>exact (Kd.N_reads' Ab.out).2.1);rintro e Iy ⟨v435,v449,rfl,ho0,ho1,hb⟩;refine ⟨_,rfl,?_⟩;have Bp:=mk_ (Kd.N_lower (Kd.N_mono (ok':=fun k_=>(w.heap.size≤k_)∧some k_≠(v449:Value).ownBlock∧some k_≠(.slice Ao64 Ai.length co64:Value).ownBlock∧k_≠gb397∧k_≠gb398∧k_≠gb399∧k_≠g) (Kd.S_N (Kd.S_bound ho0)) (fun k_ hk_=>⟨(Nat.le_trans (keep_size (w:=w) (g:=g) (row:=none) (yu12 HK.out)) hk_.2.1),hk_.1,(Kd.fresh' (Kd.N_lt (mN Ab.out)) k_ hk_.2.1),(Kd.freshB (g:=gb397) (o:=.cells #[.int .i64 a1_0,.int .i64 a1_1,.int .i64 a1_2,.int .i64 a1_3,.int .i64 a1_4] 66 (0,0)) (by exact Ac.out) k_ hk_.2.1),(Kd.freshB (g:=gb398) (o:=.cells #[.int .i64 0,.slice none 0 0,.int .i64 0,.int .i64 0,.bool false] 78 (0,0)) (by exact Ah.out) k_ hk_.2.1),(Kd.freshB (g:=gb399) (o:=.cells #[.int .i64 Ad,.slice Ao64 Ai.length co64,.int .i64 Ag,.int .i64 Ae,.bool Af] 78 (0,0)) (by exact Aa.out) k_ hk_.2.1),(IsS113.fresh (yu7 HI0.out) k_ hk_.2.1)⟩)) (keep_size (w:=w) (g:=g) (row:=none) (yu12 HK.out)));replace Ab:=mk_ (Kd.N_mono (Kd.N_told (Kd.N_told (Kd.N_old (mN Ab.out) hb) (by first|exact Kd.N_base ho0|exact Kd.S_base ho0)) (Kd.R_base ho1)) (fun _ h_=>h_.1));have Hz:=mk_ (Kd.R_lower (Kd.R_newM (M:=fun k_=>(w.heap.size≤k_)) ho1 (keep_size (w:=w) (g:=g) (row:=none) (yu12 HK.out)) (fun k_ h_=>h_)) (keep_size (w:=w) (g:=g) (row:=none) (yu12 HK.out)));replace Ac:=mk_ (zq6 (by exact Ac.out) hb);replace Ah:=mk_ (zq6 (by exact Ah.out) hb);replace Aa:=mk_ (zq6 (by exact Aa.out) hb);replace HK:=mk_ (KeepBut.trans (yu12 HK.out) (KeepBut.of_below hb g none) (.inl rfl));replace HB:=mk_ (zr3 (yu11 HB.out HI0.out) hb);replace HI0:=mk_ (IsS113.below (yu7 HI0.out) hb);(try clear hb);(try clear hb2);(try clear hk);(try clear hi);(try clear ho0);(try clear ho1);obtain ⟨E7,E8,E9,Fa,Fb⟩:=cz5 Aa.out;obtain ⟨Fc,Fd,Fe,Ff,Fg⟩:=fz5 Aa.out;obtain ⟨Ao67,co67,eo67⟩:=Kd.N_slice Bp.out;subst eo67))
        go_roundg Aq
        case measure=>have:=HK1.out;have:=HJ14.out;omega
        case rel=>exact ⟨(wrap64 (Aw - 1)),(t403),(t433),(t434),(t437),(t438),(t439),(.slice Ao67 t434.length co67),(by first|rfl|(simp;done)|(simp [*];done)),H',⟨by have:=HK1.out;have:=HJ14.out;omega⟩,⟨by (with_reducible repeat (first|apply Kd.N_alloc|apply Kd.N_drewN|apply Kd.N_drew));exact Kd.N_mono (Kd.N_far (p:=⟨gb399,4,none⟩) (Kd.N_far (p:=⟨gb399,3,none⟩) (Kd.N_far (p:=⟨gb399,2,none⟩) (Kd.N_far (p:=⟨gb399,1,none⟩) (Kd.N_far (p:=⟨gb399,0,none⟩) (Kd.N_mono Bp.out (fun k_ hk=>(⟨hk,hk.2.2.2.2.2.1⟩:_∧k_≠gb399))) (fun _ hk=>hk.2) (.int .i64 t433)) (fun _ hk=>hk.2) (.slice Ao67 t434.length co67)) (fun _ hk=>hk.2) (.int .i64 t437)) (fun _ hk=>hk.2) (.int .i64 t438)) (fun _ hk=>hk.2) (.bool t439)) (fun _ hk=>⟨hk.1.1,⟨hk.1.2.2.2.1,⟨hk.1.2.2.2.2.1,⟨hk.1.2.2.2.2.2.1,hk.1.2.2.2.2.2.2⟩⟩⟩⟩)⟩,⟨by (with_reducible repeat (first|refine zq1 ?_ _|refine zq2 ?_|refine zq3 ?_ _));refine fa5 ?_ Ak.out;(with_reducible repeat (first|refine zq1 ?_ _|refine zq2 ?_|refine zq3 ?_ _));exact Ac.out⟩,⟨by (with_reducible repeat (first|refine zq1 ?_ _|refine zq2 ?_|refine zq3 ?_ _));refine fa5 ?_ Aj.out;(with_reducible repeat (first|refine zq1 ?_ _|refine zq2 ?_|refine zq3 ?_ _));exact Ah.out⟩,⟨by (with_reducible repeat (first|refine zq1 ?_ _|refine zq2 ?_|refine zq3 ?_ _));apply pu5;(with_reducible repeat (first|refine zq1 ?_ _|refine zq2 ?_|refine zq3 ?_ _));exact Aa.out⟩,⟨by exact yu7 HI0.out⟩,⟨by exact yu12 HK.out⟩,⟨by exact yu11 HB.out HI0.out⟩⟩
   ·rw [if_neg c13] at H
    have c13b0:decide (0<Aw)=false:=decide_eq_false c13
    clear c13
    replace H:=Option.bind_eq_some_iff.mp H
    obtain ⟨⟨t452,t453⟩,B2,H⟩:=H
    try dsimp only at H
    have Bl:=mk_ B2
    clear B2
    by_cases c69:t452=true
    ·subst c69
     have H1:((spec_l20Rd_pick.f k1 s0_0 t453 4).bind fun bt454=>(if bt454.1=0 then ((some (([(-1),256,wrap64 (Ad+1)]:List Int):List Int)).bind fun y456=>((spec_l20Rd_pick.f k1 s0_0 bt454.2 3).bind fun bt459=>(if 0≤bt459.1 then (if bt459.1<(y456.length:Int) then (some (rd y456 bt459.1,Ai,Ag,Ae,Af,bt459.2)) else (none)) else (none)))) else (if bt454.1=1 then ((some (([(-1),10000,wrap64 (Ae+1)]:List Int):List Int)).bind fun y462=>((spec_l20Rd_pick.f k1 s0_0 bt454.2 3).bind fun bt465=>(if 0≤bt465.1 then (if bt465.1<(y462.length:Int) then (some (Ad,Ai,Ag,rd y462 bt465.1,Af,bt465.2)) else (none)) else (none)))) else (if bt454.1=2 then ((spec_l20PartOr.f k1 s0_0 bt454.2 2).bind fun bt468=>(if Ai.length<3518437208883 then (some (Ad,(Ai++[(⟨bt468.1,bt468.2.1,bt468.2.2.1⟩:S39)]),Ag,Ae,Af,bt468.2.2.2)) else (none))) else ((some (([(-1),10000]:List Int):List Int)).bind fun y477=>((spec_l20Rd_pick.f k1 s0_0 bt454.2 2).bind fun bt480=>(if 0≤bt480.1 then (if bt480.1<(y477.length:Int) then (some (Ad,Ai,rd y477 bt480.1,Ae,Af,bt480.2)) else (none)) else (none))))))))=some (r1,r2,r3,r4,r5,r6):=by rw [if_pos rfl] at H;exact H
     clear H
     have H:=H1
     clear H1
     replace H:=Option.bind_eq_some_iff.mp H
     obtain ⟨⟨t454,t455⟩,B3,H⟩:=H
     try dsimp only at H
     have Bq:=mk_ B3
     clear B3
     by_cases c71:t454=0
     ·rw [if_pos c71] at H
      have c71b0:(t454 == 0)=true:=beq_iff_eq.mpr c71
      have c71b1:(t454 != 0)=false:=bne_eq_false_iff_eq.mpr c71
      clear c71
      obtain ⟨y456,hy456⟩:∃ y_:List Int,y_=(([(-1),256,wrap64 (Ad+1)]:List Int)):=⟨_,rfl⟩
      replace H:((spec_l20Rd_pick.f k1 s0_0 t455 3).bind fun bt459=>(if 0≤bt459.1 then (if bt459.1<(y456.length:Int) then (some (rd y456 bt459.1,Ai,Ag,Ae,Af,bt459.2)) else (none)) else (none)))=some (r1,r2,r3,r4,r5,r6):=by first|(rw [hy456];with_reducible exact H)|(have H2_:=(Option.bind_some _ _).symm.trans H;rw [hy456];with_reducible exact H2_)|(have H2_:=(Option.bind_some _ _).symm.trans H;with_reducible exact H2_)|with_reducible exact H|(rw [hy456];exact H)|exact H
      have Ny456:=mk_ hy456
      clear hy456
      replace H:=Option.bind_eq_some_iff.mp H
      obtain ⟨⟨t459,t460⟩,B4,H⟩:=H
      try dsimp only at H
      have B8:=mk_ B4
      clear B4
      by_cases c73:0≤t459
      ·rw [if_pos c73] at H
       have c73b0:decide (0≤t459)=true:=decide_eq_true c73
       clear c73
       by_cases c74:t459<(y456.length:Int)
       ·rw [if_pos c74] at H
        have c74b0:decide (t459<(y456.length:Int))=true:=decide_eq_true c74
        clear c74
        simp only [Option.some.injEq,Prod.mk.injEq] at H
        obtain ⟨rfl,rfl,rfl,rfl,rfl,rfl⟩:=H
        try go_wp2_with (first|((with_reducible refine gate_callee (f:=98) rfl ?_);refine goesL_ (some 56) rfl rfl Try.func98 (by kernel_rfl) rfl #[.pointer (some ⟨g,0,none⟩),.int .i64 a2] rfl am ?_;(with_reducible refine (spec_l20Rd_odd.calls k1 g s0_0 At a2 true t453 w0 _ ?side1 ?side2 Bl.out).mono ?_);(case side1=>exact yu7 HI0.out);(case side2=>exact yu11 HB.out HI0.out);rintro e Iz ⟨rfl,hi,hb,hk⟩;refine ⟨_,rfl,?_⟩;replace Ab:=mk_ (Kd.N_mono (Kd.N_keep (Kd.N_mono (ok:=fun k_=>(((w.heap.size≤k_))∧(k_≠gb397∧(k_≠gb398∧(k_≠gb399∧k_≠g))))) (mN Ab.out) (fun k_ hk_=>(⟨hk_,hk_.2.2.2.2⟩:_∧k_≠g))) hk (fun _ h=>h.2)) (fun _ h=>h.1));replace Ac:=mk_ (KeepBut.blk hk (g':=gb397) (o:=.cells #[.int .i64 a1_0,.int .i64 a1_1,.int .i64 a1_2,.int .i64 a1_3,.int .i64 a1_4] 66 (0,0)) (by exact Ac.out) Ap.out (by simp));replace Ah:=mk_ (KeepBut.blk hk (g':=gb398) (o:=.cells #[.int .i64 0,.slice none 0 0,.int .i64 0,.int .i64 0,.bool false] 78 (0,0)) (by exact Ah.out) Am.out (by simp));replace Aa:=mk_ (KeepBut.blk hk (g':=gb399) (o:=.cells #[.int .i64 Ad,u400001,.int .i64 Ag,.int .i64 Ae,.bool Af] 78 (0,0)) (by exact Aa.out) Al.out (by simp));replace HK:=mk_ (KeepBut.trans (yu12 HK.out) hk (.inl rfl));replace HB:=mk_ (hb);replace HI0:=mk_ (hi);(try clear hb);(try clear hb2);(try clear hk);(try clear hi))|((with_reducible refine gate_callee (f:=70) rfl ?_);refine goesL_ (some 58) rfl rfl Try.func70 (by kernel_rfl) rfl #[.pointer (some ⟨g,0,none⟩),.int .i64 4] rfl am ?_;(with_reducible refine (spec_l20Rd_pick.calls k1 g s0_0 t453 4 t454 t455 w0 _ ?side1 ?side2 Bq.out).mono ?_);(case side1=>exact yu7 HI0.out);(case side2=>exact yu11 HB.out HI0.out);rintro e F9 ⟨rfl,hi,hb,hk⟩;refine ⟨_,rfl,?_⟩;replace Ab:=mk_ (Kd.N_mono (Kd.N_keep (Kd.N_mono (ok:=fun k_=>(((w.heap.size≤k_))∧(k_≠gb397∧(k_≠gb398∧(k_≠gb399∧k_≠g))))) (mN Ab.out) (fun k_ hk_=>(⟨hk_,hk_.2.2.2.2⟩:_∧k_≠g))) hk (fun _ h=>h.2)) (fun _ h=>h.1));replace Ac:=mk_ (KeepBut.blk hk (g':=gb397) (o:=.cells #[.int .i64 a1_0,.int .i64 a1_1,.int .i64 a1_2,.int .i64 a1_3,.int .i64 a1_4] 66 (0,0)) (by exact Ac.out) Ap.out (by simp));replace Ah:=mk_ (KeepBut.blk hk (g':=gb398) (o:=.cells #[.int .i64 0,.slice none 0 0,.int .i64 0,.int .i64 0,.bool false] 78 (0,0)) (by exact Ah.out) Am.out (by simp));replace Aa:=mk_ (KeepBut.blk hk (g':=gb399) (o:=.cells #[.int .i64 Ad,u400001,.int .i64 Ag,.int .i64 Ae,.bool Af] 78 (0,0)) (by exact Aa.out) Al.out (by simp));replace HK:=mk_ (KeepBut.trans (yu12 HK.out) hk (.inl rfl));replace HB:=mk_ (hb);replace HI0:=mk_ (hi);(try clear hb);(try clear hb2);(try clear hk);(try clear hi)))
        have pi461:(0≤(t459:Int))=True:=eq_true (of_decide_eq_true (by first|(with_reducible assumption)|assumption))
        have qi461:(t459<(y456.length:Int))=True:=eq_true (of_decide_eq_true (by first|(with_reducible assumption)|assumption))
        replace Ab:=mk_ (Kd.N_drew Ab.out)
        replace Ac:=mk_ (zq2 Ac.out)
        replace Ah:=mk_ (zq2 Ah.out)
        replace Aa:=mk_ (zq2 Aa.out)
        replace HI0:=mk_ (IsS113.drew HI0.out)
        replace HK:=mk_ (zr8 HK.out)
        replace HB:=mk_ (zq9 HB.out)
        refine start_ (n:=10) (S:=fun w'=>w'.cell? ⟨gb399,0,none⟩=some (.int .i64 Ad)∧w'.cell? ⟨gb399,1,none⟩=some (u400001)∧w'.cell? ⟨gb399,2,none⟩=some (.int .i64 Ag)∧w'.cell? ⟨gb399,3,none⟩=some (.int .i64 Ae)∧w'.cell? ⟨gb399,4,none⟩=some (.bool Af)) (ds:=[9]) (bm 10 0) (by kernel_rfl) rfl rfl ⟨(zr4 Aa.out 0).trans rfl,(zr4 Aa.out 1).trans rfl,(zr4 Aa.out 2).trans rfl,(zr4 Aa.out 3).trans rfl,(zr4 Aa.out 4).trans rfl⟩ (fun hHeld=>?_);refine with_tabW spec_l20Ctx.tab16 spec_l20Ctx.bits16 (fun HT_ HW_=>?_)
        generalize F9.drew=I0 at Ab Ac Ah Aa HI0 HK HB hHeld ⊢
        refine pA 0 (some 67) (bm 10 1) rfl rfl HT_.out (by kernel_rfl) (fun _ _ _ h=>h) (by rfl) (by intro w';go_simp;with_reducible rfl) (by simp only [Act.put,zs1,zs2,zs3,i64_w,i32_w];rfl) ?_
        refine pA 4 (some 71) (bm 10 17) rfl rfl HT_.out (by kernel_rfl) (fun _ _ _ h=>h) (by rfl) (by intro w';go_simp;with_reducible rfl) (by simp only [Act.put,zs1,zs2,zs3,i64_w,i32_w];rfl) ?_
        refine tA 1 (some 68) (bm 10 19) rfl rfl HT_.out HW_.out (by kernel_rfl) (fun _ _ _ h=>h) (by rfl) hHeld (by rintro w' ⟨s0,s1,s2,s3,s4⟩;go_simp;with_reducible rfl) (by simp only [Act.put,zs1,zs2,zs3,i64_w,i32_w];rfl) ?_
        refine pA 2 (some 69) (bm 10 23) rfl rfl HT_.out (by kernel_rfl) (fun _ _ _ h=>h) (by rfl) (by intro w';go_simp;with_reducible rfl) (by simp only [Act.put,zs1,zs2,zs3,i64_w,i32_w];rfl) ?_
        refine join_ (σ:=Value × Addr) 4 (bm 10 63) (fun s_=>[(70,s_.1),(72,.int .i64 t459)]) (fun s_ w'=>(w'.cell? ⟨gb399,0,none⟩=some (.int .i64 Ad)∧w'.cell? ⟨gb399,1,none⟩=some (u400001)∧w'.cell? ⟨gb399,2,none⟩=some (.int .i64 Ag)∧w'.cell? ⟨gb399,3,none⟩=some (.int .i64 Ae)∧w'.cell? ⟨gb399,4,none⟩=some (.bool Af))∧(Kd.R (Kd.int .i64) 3 w' w.heap.size (fun k_=>(w.heap.size≤k_)) s_.1 y456)∧(Kd.N k39 39 w' w.heap.size (fun k_=>(w.heap.size≤k_)∧some k_≠(s_.1:Value).ownBlock∧k_≠g∧k_≠gb397∧k_≠gb398∧k_≠gb399) u400001 Ai)∧(∃ c_,(s_.1:Value)=.slice (some s_.2) y456.length c_)∧(w'.heap[gb397]? =some (.cells #[.int .i64 a1_0,.int .i64 a1_1,.int .i64 a1_2,.int .i64 a1_3,.int .i64 a1_4] 66 (0,0)))∧(w'.heap[gb398]? =some (.cells #[.int .i64 0,.slice none 0 0,.int .i64 0,.int .i64 0,.bool false] 78 (0,0)))∧(w'.heap[gb399]? =some (.cells #[.int .i64 Ad,u400001,.int .i64 Ag,.int .i64 Ae,.bool Af] 78 (0,0)))∧(IsS113 w0 w' g s0_0 t460)∧(KeepBut w w' g none)∧(Below w0.heap.size w0 w')) ?_ ?_
        rotate_left
        ·intro hCont
         refine two_ (i:=3) (j:=5) (Ni:=some 70) (Nj:=some 72) (bm 10 31) (bm 10 55) rfl rfl rfl rfl (two_of HT_.out (by kernel_rfl)) (by decide) (by decide) (fun K hK=>?_) (fun K hK=>?_)
         ·skip
          refine Kd.R_lit_step (Kd.int .i64) _ 3 ?hg (N:=70) ?hd (xs:=([(-1),256,wrap64 (Ad+1)]:List Int)) (inner:=[.int .i64 (-1),.int .i64 256,.int .i64 (wrap64 (Ad+1))]) (ok:=fun _=>True) (okp:=fun _=>True) ?hr ?hp (fun _ hk=>hk) trivial (Below.refl _ _) (Nat.le_refl _) (by simp) ?_;(case hd=>rfl);(case hg=>rfl);(case hr=>first|(go_simp;done)|(go_simp;rfl));(case hp=>exact (Reps.one (show Kd.M (Kd.int .i64) _ _ _ (-1) [.int .i64 (-1)] from rfl) (Reps.one (show Kd.M (Kd.int .i64) _ _ _ 256 [.int .i64 256] from rfl) (Reps.one (show Kd.M (Kd.int .i64) _ _ _ (wrap64 (Ad+1)) [.int .i64 (wrap64 (Ad+1))] from rfl) (Reps.none _ _)))))
          intro v457 Ga ho79 hb hg_ hnew_
          clear hg_ hnew_
          (first|rw [← Ny456.out] at ho79|(simp only [Int.reduceToNat] at ho79;rw [← Ny456.out] at ho79))
          replace Ab:=mk_ (Kd.N_elder' (mN Ab.out) (Kd.R_base ho79) hb)
          have Ax:=mk_ (Kd.R_lower (Kd.R_newM (M:=fun k_=>(w.heap.size≤k_)) ho79 (keep_size (w:=w) (g:=g) (row:=none) (yu12 HK.out)) (fun k_ h_=>h_)) (keep_size (w:=w) (g:=g) (row:=none) (yu12 HK.out)))
          replace Ac:=mk_ (zq6 (by exact Ac.out) hb)
          replace Ah:=mk_ (zq6 (by exact Ah.out) hb)
          replace Aa:=mk_ (zq6 (by exact Aa.out) hb)
          replace HK:=mk_ (KeepBut.trans (yu12 HK.out) (KeepBut.of_below hb g none) (.inl rfl))
          replace HB:=mk_ (zr3 (yu11 HB.out HI0.out) hb)
          replace HI0:=mk_ (IsS113.below (yu7 HI0.out) hb)
          clear hb ho79
          obtain ⟨Ao80,co80,eo80⟩:=Kd.R_slice Ax.out
          subst eo80
          obtain ⟨ado80,fo80,_⟩:=Kd.at_int (Kd.R_reads' Ax.out).2.2 0 (by decide) (by rw [Ny456.out];simp)
          cases fo80
          refine hK.out _ _ ⟨(zr4 Aa.out 0).trans rfl,(zr4 Aa.out 1).trans rfl,(zr4 Aa.out 2).trans rfl,(zr4 Aa.out 3).trans rfl,(zr4 Aa.out 4).trans rfl⟩ (fun hHeld=>?_)
          clear hK K
          refine norm_ (a':=?_) ?_ ?_
          rotate_left
          ·show Act.put _ (some 70) _=_
           simp only [Act.put,zs1,zs2,zs3,i64_w,i32_w]
           rfl
          refine one_ (i:=5) (N:=some 72) (bm 10 63) rfl rfl (one_of HT_.out (by kernel_rfl)) (by decide) (fun K hK=>?_)
          refine goes_ Try.func70 (by kernel_rfl) rfl #[.pointer (some ⟨g,0,none⟩),.int .i64 3] (by rfl) rfl rfl am ?_
          with_reducible refine (spec_l20Rd_pick.calls k1 g s0_0 t455 3 t459 t460 w0 _ ?side1 ?side2 B8.out).mono ?_
          (case side1=>exact yu7 HI0.out)
          (case side2=>exact yu11 HB.out HI0.out)
          rintro e I1 ⟨rfl,hi,hb,hk⟩
          refine ⟨_,rfl,?_⟩
          replace Ab:=mk_ (Kd.N_mono (Kd.N_keep (Kd.N_mono (ok:=fun k_=>((((w.heap.size≤k_))∧(k_≠gb397∧(k_≠gb398∧(k_≠gb399∧k_≠g))))∧some k_≠(.slice (some ado80) y456.length co80:Value).ownBlock)) (mN Ab.out) (fun k_ hk_=>(⟨hk_,hk_.1.2.2.2.2⟩:_∧k_≠g))) hk (fun _ h=>h.2)) (fun _ h=>h.1))
          replace Ac:=mk_ (KeepBut.blk hk (g':=gb397) (o:=.cells #[.int .i64 a1_0,.int .i64 a1_1,.int .i64 a1_2,.int .i64 a1_3,.int .i64 a1_4] 66 (0,0)) (by exact Ac.out) Ap.out (by simp))
          replace Ah:=mk_ (KeepBut.blk hk (g':=gb398) (o:=.cells #[.int .i64 0,.slice none 0 0,.int .i64 0,.int .i64 0,.bool false] 78 (0,0)) (by exact Ah.out) Am.out (by simp))
          replace Aa:=mk_ (KeepBut.blk hk (g':=gb399) (o:=.cells #[.int .i64 Ad,u400001,.int .i64 Ag,.int .i64 Ae,.bool Af] 78 (0,0)) (by exact Aa.out) Al.out (by simp))
          replace Ax:=mk_ (Kd.R_mono (Kd.R_keep (IsS113.apart (show IsS113 w0 _ g s0_0 t455 from by exact yu7 HI0.out) (mR Ax.out) (by decide)) hk (fun _ h=>h.2)) (fun _ h=>h.1))
          replace HK:=mk_ (KeepBut.trans (yu12 HK.out) hk (.inl rfl))
          replace HB:=mk_ (hb)
          replace HI0:=mk_ (hi)
          (try clear hb)
          (try clear hb2)
          (try clear hk)
          (try clear hi)
          refine hK.out _ _ ⟨(zr4 Aa.out 0).trans rfl,(zr4 Aa.out 1).trans rfl,(zr4 Aa.out 2).trans rfl,(zr4 Aa.out 3).trans rfl,(zr4 Aa.out 4).trans rfl⟩ (fun hHeld=>?_)
          clear hK K
          refine norm_ (a':=?_) ?_ ?_
          rotate_left
          ·show Act.put _ (some 72) _=_
           simp only [Act.put,zs1,zs2,zs3,i64_w,i32_w]
           rfl
          exact norm_ (by simp only [putAll,Act.put,List.setIfInBounds_toArray,List.set_cons_zero,List.set_cons_succ]) (hCont (.slice (some ado80) y456.length co80,ado80) _ ⟨hHeld,(by (with_reducible repeat (first|apply Kd.R_alloc|apply Kd.R_drewN|apply Kd.R_drew));exact Kd.R_mono Ax.out (fun _ hk=>hk.1)),(by (with_reducible repeat (first|apply Kd.N_alloc|apply Kd.N_drewN|apply Kd.N_drew));exact Kd.N_mono Ab.out (fun _ hk=>⟨hk.1.1,⟨hk.2,⟨hk.1.2.2.2.2,⟨hk.1.2.1,⟨hk.1.2.2.1,hk.1.2.2.2.1⟩⟩⟩⟩⟩)),⟨_,rfl⟩,(by exact Ac.out),(by exact Ah.out),(by exact Aa.out),(yu7 HI0.out),(yu12 HK.out),(yu11 HB.out HI0.out)⟩)
         ·skip
          refine goes_ Try.func70 (by kernel_rfl) rfl #[.pointer (some ⟨g,0,none⟩),.int .i64 3] (by rfl) rfl rfl am ?_
          with_reducible refine (spec_l20Rd_pick.calls k1 g s0_0 t455 3 t459 t460 w0 _ ?side1 ?side2 B8.out).mono ?_
          (case side1=>exact yu7 HI0.out)
          (case side2=>exact yu11 HB.out HI0.out)
          rintro e Ga ⟨rfl,hi,hb,hk⟩
          refine ⟨_,rfl,?_⟩
          replace Ab:=mk_ (Kd.N_mono (Kd.N_keep (Kd.N_mono (ok:=fun k_=>(((w.heap.size≤k_))∧(k_≠gb397∧(k_≠gb398∧(k_≠gb399∧k_≠g))))) (mN Ab.out) (fun k_ hk_=>(⟨hk_,hk_.2.2.2.2⟩:_∧k_≠g))) hk (fun _ h=>h.2)) (fun _ h=>h.1))
          replace Ac:=mk_ (KeepBut.blk hk (g':=gb397) (o:=.cells #[.int .i64 a1_0,.int .i64 a1_1,.int .i64 a1_2,.int .i64 a1_3,.int .i64 a1_4] 66 (0,0)) (by exact Ac.out) Ap.out (by simp))
          replace Ah:=mk_ (KeepBut.blk hk (g':=gb398) (o:=.cells #[.int .i64 0,.slice none 0 0,.int .i64 0,.int .i64 0,.bool false] 78 (0,0)) (by exact Ah.out) Am.out (by simp))
          replace Aa:=mk_ (KeepBut.blk hk (g':=gb399) (o:=.cells #[.int .i64 Ad,u400001,.int .i64 Ag,.int .i64 Ae,.bool Af] 78 (0,0)) (by exact Aa.out) Al.out (by simp))
          replace HK:=mk_ (KeepBut.trans (yu12 HK.out) hk (.inl rfl))
          replace HB:=mk_ (hb)
          replace HI0:=mk_ (hi)
          (try clear hb)
          (try clear hb2)
          (try clear hk)
          (try clear hi)
          refine hK.out _ _ ⟨(zr4 Aa.out 0).trans rfl,(zr4 Aa.out 1).trans rfl,(zr4 Aa.out 2).trans rfl,(zr4 Aa.out 3).trans rfl,(zr4 Aa.out 4).trans rfl⟩ (fun hHeld=>?_)
          clear hK K
          refine norm_ (a':=?_) ?_ ?_
          rotate_left
          ·show Act.put _ (some 72) _=_
           simp only [Act.put,zs1,zs2,zs3,i64_w,i32_w]
           rfl
          refine one_ (i:=3) (N:=some 70) (bm 10 63) rfl rfl (one_of HT_.out (by kernel_rfl)) (by decide) (fun K hK=>?_)
          refine Kd.R_lit_step (Kd.int .i64) _ 3 ?hg (N:=70) ?hd (xs:=([(-1),256,wrap64 (Ad+1)]:List Int)) (inner:=[.int .i64 (-1),.int .i64 256,.int .i64 (wrap64 (Ad+1))]) (ok:=fun _=>True) (okp:=fun _=>True) ?hr ?hp (fun _ hk=>hk) trivial (Below.refl _ _) (Nat.le_refl _) (by simp) ?_;(case hd=>rfl);(case hg=>rfl);(case hr=>first|(go_simp;done)|(go_simp;rfl));(case hp=>exact (Reps.one (show Kd.M (Kd.int .i64) _ _ _ (-1) [.int .i64 (-1)] from rfl) (Reps.one (show Kd.M (Kd.int .i64) _ _ _ 256 [.int .i64 256] from rfl) (Reps.one (show Kd.M (Kd.int .i64) _ _ _ (wrap64 (Ad+1)) [.int .i64 (wrap64 (Ad+1))] from rfl) (Reps.none _ _)))))
          intro v457 I2 ho80 hb hg_ hnew_
          clear hg_ hnew_
          (first|rw [← Ny456.out] at ho80|(simp only [Int.reduceToNat] at ho80;rw [← Ny456.out] at ho80))
          replace Ab:=mk_ (Kd.N_elder' (mN Ab.out) (Kd.R_base ho80) hb)
          have Ax:=mk_ (Kd.R_lower (Kd.R_newM (M:=fun k_=>(w.heap.size≤k_)) ho80 (keep_size (w:=w) (g:=g) (row:=none) (yu12 HK.out)) (fun k_ h_=>h_)) (keep_size (w:=w) (g:=g) (row:=none) (yu12 HK.out)))
          replace Ac:=mk_ (zq6 (by exact Ac.out) hb)
          replace Ah:=mk_ (zq6 (by exact Ah.out) hb)
          replace Aa:=mk_ (zq6 (by exact Aa.out) hb)
          replace HK:=mk_ (KeepBut.trans (yu12 HK.out) (KeepBut.of_below hb g none) (.inl rfl))
          replace HB:=mk_ (zr3 (yu11 HB.out HI0.out) hb)
          replace HI0:=mk_ (IsS113.below (yu7 HI0.out) hb)
          clear hb ho80
          obtain ⟨Ao81,co81,eo81⟩:=Kd.R_slice Ax.out
          subst eo81
          obtain ⟨ado81,fo81,_⟩:=Kd.at_int (Kd.R_reads' Ax.out).2.2 0 (by decide) (by rw [Ny456.out];simp)
          cases fo81
          refine hK.out _ _ ⟨(zr4 Aa.out 0).trans rfl,(zr4 Aa.out 1).trans rfl,(zr4 Aa.out 2).trans rfl,(zr4 Aa.out 3).trans rfl,(zr4 Aa.out 4).trans rfl⟩ (fun hHeld=>?_)
          clear hK K
          refine norm_ (a':=?_) ?_ ?_
          rotate_left
          ·show Act.put _ (some 70) _=_
           simp only [Act.put,zs1,zs2,zs3,i64_w,i32_w]
           rfl
          exact norm_ (by simp only [putAll,Act.put,List.setIfInBounds_toArray,List.set_cons_zero,List.set_cons_succ]) (hCont (.slice (some ado81) y456.length co81,ado81) _ ⟨hHeld,(by (with_reducible repeat (first|apply Kd.R_alloc|apply Kd.R_drewN|apply Kd.R_drew));exact Kd.R_mono Ax.out (fun _ hk=>hk.1)),(by (with_reducible repeat (first|apply Kd.N_alloc|apply Kd.N_drewN|apply Kd.N_drew));exact Kd.N_mono Ab.out (fun _ hk=>⟨hk.1.1,⟨hk.2,⟨hk.1.2.2.2.2,⟨hk.1.2.1,⟨hk.1.2.2.1,hk.1.2.2.2.1⟩⟩⟩⟩⟩)),⟨_,rfl⟩,(by exact Ac.out),(by exact Ah.out),(by exact Aa.out),(yu7 HI0.out),(yu12 HK.out),(yu11 HB.out HI0.out)⟩)
        rintro ⟨v457,adz_v457⟩ A2 ⟨hS_,h0_,h1_,h2_,h3_,h4_,h5_,h6_,h7_,h8_⟩
        have n0_:Aside0 (Kd.R (Kd.int .i64) 3 A2 w.heap.size (fun k_=>(w.heap.size≤k_)) v457 y456):=⟨h0_⟩
        have n1_:Aside0 (Kd.N k39 39 A2 w.heap.size (fun k_=>(w.heap.size≤k_)∧some k_≠(v457:Value).ownBlock∧k_≠g∧k_≠gb397∧k_≠gb398∧k_≠gb399) u400001 Ai):=⟨h1_⟩
        have n2_:Aside0 (∃ c_,(v457:Value)=.slice (some adz_v457) y456.length c_):=⟨h2_⟩
        have n3_:Aside0 (A2.heap[gb397]? =some (.cells #[.int .i64 a1_0,.int .i64 a1_1,.int .i64 a1_2,.int .i64 a1_3,.int .i64 a1_4] 66 (0,0))):=⟨h3_⟩
        have n4_:Aside0 (A2.heap[gb398]? =some (.cells #[.int .i64 0,.slice none 0 0,.int .i64 0,.int .i64 0,.bool false] 78 (0,0))):=⟨h4_⟩
        have n5_:Aside0 (A2.heap[gb399]? =some (.cells #[.int .i64 Ad,u400001,.int .i64 Ag,.int .i64 Ae,.bool Af] 78 (0,0))):=⟨h5_⟩
        have n6_:Aside0 (IsS113 w0 A2 g s0_0 t460):=⟨h6_⟩
        have n7_:Aside0 (KeepBut w A2 g none):=⟨h7_⟩
        have n8_:Aside0 (Below w0.heap.size w0 A2):=⟨h8_⟩
        clear Ab
        clear Ac
        clear Ah
        clear Aa
        clear HI0
        clear HK
        clear HB
        clear h0_ h1_ h2_ h3_ h4_ h5_ h6_ h7_ h8_
        have Ax:=n0_
        have Ab:=n1_
        have HA_HO458:=n2_
        have Ac:=n3_
        have Ah:=n4_
        have Aa:=n5_
        have HI0:=n6_
        have HK:=n7_
        have HB:=n8_
        clear n0_ n1_ n2_ n3_ n4_ n5_ n6_ n7_ n8_
        have hHeld:A2.cell? ⟨gb399,0,none⟩=some (.int .i64 Ad)∧A2.cell? ⟨gb399,1,none⟩=some (u400001)∧A2.cell? ⟨gb399,2,none⟩=some (.int .i64 Ag)∧A2.cell? ⟨gb399,3,none⟩=some (.int .i64 Ae)∧A2.cell? ⟨gb399,4,none⟩=some (.bool Af):=hS_
        obtain ⟨co83,eo83⟩:=HA_HO458.out
        clear HA_HO458
        subst eo83
        refine norm_ (a':=?_) ?_ ?_
        rotate_left
        ·simp only [putAll,Act.put,List.setIfInBounds_toArray,List.set_cons_zero,List.set_cons_succ]
         rfl
        refine pA 6 (some 73) (bm 10 127) rfl rfl HT_.out (by kernel_rfl) (fun _ _ _ h=>h) (by rfl) (by intro w';go_simp;with_reducible rfl) (by simp only [Act.put,zs1,zs2,zs3,i64_w,i32_w];rfl) ?_
        refine one_ (i:=7) (N:=some 74) (bm 10 255) rfl rfl (one_of HT_.out (by kernel_rfl)) (by decide) (fun K hK=>?_)
        (have p461:0≤(t459:Int):=of_decide_eq_true (by first|(with_reducible assumption)|assumption);have q461:t459<(y456.length:Int):=of_decide_eq_true (by first|(with_reducible assumption)|assumption);obtain ⟨ad461,e461,hx461_0⟩:=Kd.at_int (Kd.R_reads' Ax.out).2.2 t459 p461 q461;obtain rfl:adz_v457=ad461:=(by injection e461))
        refine value_ (w1:=?_) (v:=?_) (by rfl) rfl ?_ ?_
        rotate_left 2
        ·go_simp
         constructor
         ·rfl
         ·rfl
        clear hx461_0
        refine hK.out _ _ ⟨(zr4 Aa.out 0).trans rfl,(zr4 Aa.out 1).trans rfl,(zr4 Aa.out 2).trans rfl,(zr4 Aa.out 3).trans rfl,(zr4 Aa.out 4).trans rfl⟩ (fun hHeld=>?_)
        clear hK K
        refine norm_ (a':=?_) ?_ ?_
        rotate_left
        ·show Act.put _ (some 74) _=_
         simp only [Act.put,zs1,zs2,zs3,i64_w,i32_w]
         rfl
        refine pA 8 (some 75) (bm 10 511) rfl rfl HT_.out (by kernel_rfl) (fun _ _ _ h=>h) (by rfl) (by intro w';go_simp;with_reducible rfl) (by simp only [Act.put,zs1,zs2,zs3,i64_w,i32_w];rfl) ?_
        refine last_ (i:=9) (N:=none) (bm 10 1023) rfl rfl (one_of HT_.out (by kernel_rfl)) (by decide) (fun K hK=>?_)
        have hs84:A2.cell? ⟨gb399,0,none⟩=some (.int .i64 Ad):=(zr4 Aa.out 0).trans rfl
        have hfs84:=zr5 Aa.out 0
        have hns84_0:=Ak.out
        have hns84_1:=Aj.out
        have hms84_0:=An.out
        have hms84_1:=Ao.out
        refine skip_ (w1:=?_) (by rfl) rfl ?_ ?_
        rotate_left
        ·go_simp
         rfl
        refine hK.out _ _ ?_
        clear hK K
        refine done_ (done_of HT_.out (by kernel_rfl)) ?_
        have H0:=An.out
        have H2:=Ak.out
        have H3:=Ao.out
        have H4:=Aj.out
        have H5:=Al.out
        have H6:=Av.out
        obtain ⟨Fh,Fi,Fj,Fk,Fl⟩:=cz5 Aa.out
        obtain ⟨Fm,Fn,Fo,Fp,Fq⟩:=fz5 Aa.out
        have H7:=Au.out
        have H8:=As.out
        have H9:=Am.out
        have Ia:=A1.out
        obtain ⟨Fr,Fs,Ft,Fu,Fv⟩:=cz5 Ah.out
        obtain ⟨Fw,Fx,Fy,Fz,F0⟩:=fz5 Ah.out
        obtain ⟨Ao92,co92,eo92⟩:=Kd.N_slice Ab.out
        subst eo92
        try go_wp2
        refine bodyPost_ret (results_cell_row rfl _ _ gb398 78 #[.int .i64 (rd y456 t459),.slice Ao92 Ai.length co92,.int .i64 Ag,.int .i64 Ae,.bool Af] (0,0) _ rfl (yv7 Aj.out Ah.out) Try.underlying78 rfl (by kernel_rfl)) rfl ?_
        exact ⟨_,by first|rfl|(simp [errW_none,errW_some] <;> rfl)|(simp [*,errW_none,errW_some] <;> rfl),by (with_reducible repeat (first|apply Kd.N_alloc|apply Kd.N_drewN|apply Kd.N_drew));exact Kd.N_mono (Kd.N_far (p:=⟨gb398,4,none⟩) (Kd.N_far (p:=⟨gb398,3,none⟩) (Kd.N_far (p:=⟨gb398,2,none⟩) (Kd.N_far (p:=⟨gb398,1,none⟩) (Kd.N_far (p:=⟨gb398,0,none⟩) (Kd.N_far (p:=⟨gb399,0,none⟩) (Kd.N_mono (Kd.N_mono Ab.out (fun k_ hk=>(⟨hk,hk.2.2.2.2.2⟩:_∧k_≠gb399))) (fun k_ hk=>(⟨hk,hk.1.2.2.2.2.1⟩:_∧k_≠gb398))) (fun _ hk=>hk.1.2) (.int .i64 (rd y456 t459))) (fun _ hk=>hk.2) (.int .i64 (rd y456 t459))) (fun _ hk=>hk.2) (.slice Ao92 Ai.length co92)) (fun _ hk=>hk.2) (.int .i64 Ag)) (fun _ hk=>hk.2) (.int .i64 Ae)) (fun _ hk=>hk.2) (.bool Af)) (fun _ hk=>hk.1.1.1),by exact yu7 HI0.out,by exact yu11 HB.out HI0.out,by exact yu12 HK.out⟩
       ·rw [if_neg c74] at H
        exact absurd H (by simp)
      ·rw [if_neg c73] at H
       exact absurd H (by simp)
     ·rw [if_neg c71] at H
      have c71b0:(t454 == 0)=false:=beq_eq_false_iff_ne.mpr c71
      have c71b1:(t454 != 0)=true:=bne_iff_ne.mpr c71
      by_cases c93:t454=1
      ·rw [if_pos c93] at H
       have c93b0:(t454 == 1)=true:=beq_iff_eq.mpr c93
       have c93b1:(t454 != 1)=false:=bne_eq_false_iff_eq.mpr c93
       clear c93
       obtain ⟨y462,hy462⟩:∃ y_:List Int,y_=(([(-1),10000,wrap64 (Ae+1)]:List Int)):=⟨_,rfl⟩
       replace H:((spec_l20Rd_pick.f k1 s0_0 t455 3).bind fun bt465=>(if 0≤bt465.1 then (if bt465.1<(y462.length:Int) then (some (Ad,Ai,Ag,rd y462 bt465.1,Af,bt465.2)) else (none)) else (none)))=some (r1,r2,r3,r4,r5,r6):=by first|(rw [hy462];with_reducible exact H)|(have H2_:=(Option.bind_some _ _).symm.trans H;rw [hy462];with_reducible exact H2_)|(have H2_:=(Option.bind_some _ _).symm.trans H;with_reducible exact H2_)|with_reducible exact H|(rw [hy462];exact H)|exact H
       have Ny462:=mk_ hy462
       clear hy462
       replace H:=Option.bind_eq_some_iff.mp H
       obtain ⟨⟨t465,t466⟩,B5,H⟩:=H
       try dsimp only at H
       have B9:=mk_ B5
       clear B5
       by_cases c95:0≤t465
       ·rw [if_pos c95] at H
        have c95b0:decide (0≤t465)=true:=decide_eq_true c95
        clear c95
        by_cases c96:t465<(y462.length:Int)
        ·rw [if_pos c96] at H
         have c96b0:decide (t465<(y462.length:Int))=true:=decide_eq_true c96
         clear c96
         simp only [Option.some.injEq,Prod.mk.injEq] at H
         obtain ⟨rfl,rfl,rfl,rfl,rfl,rfl⟩:=H
         try go_wp2_with (first|((with_reducible refine gate_callee (f:=98) rfl ?_);refine goesL_ (some 56) rfl rfl Try.func98 (by kernel_rfl) rfl #[.pointer (some ⟨g,0,none⟩),.int .i64 a2] rfl am ?_;(with_reducible refine (spec_l20Rd_odd.calls k1 g s0_0 At a2 true t453 w0 _ ?side1 ?side2 Bl.out).mono ?_);(case side1=>exact yu7 HI0.out);(case side2=>exact yu11 HB.out HI0.out);rintro e I3 ⟨rfl,hi,hb,hk⟩;refine ⟨_,rfl,?_⟩;replace Ab:=mk_ (Kd.N_mono (Kd.N_keep (Kd.N_mono (ok:=fun k_=>(((w.heap.size≤k_))∧(k_≠gb397∧(k_≠gb398∧(k_≠gb399∧k_≠g))))) (mN Ab.out) (fun k_ hk_=>(⟨hk_,hk_.2.2.2.2⟩:_∧k_≠g))) hk (fun _ h=>h.2)) (fun _ h=>h.1));replace Ac:=mk_ (KeepBut.blk hk (g':=gb397) (o:=.cells #[.int .i64 a1_0,.int .i64 a1_1,.int .i64 a1_2,.int .i64 a1_3,.int .i64 a1_4] 66 (0,0)) (by exact Ac.out) Ap.out (by simp));replace Ah:=mk_ (KeepBut.blk hk (g':=gb398) (o:=.cells #[.int .i64 0,.slice none 0 0,.int .i64 0,.int .i64 0,.bool false] 78 (0,0)) (by exact Ah.out) Am.out (by simp));replace Aa:=mk_ (KeepBut.blk hk (g':=gb399) (o:=.cells #[.int .i64 Ad,u400001,.int .i64 Ag,.int .i64 Ae,.bool Af] 78 (0,0)) (by exact Aa.out) Al.out (by simp));replace HK:=mk_ (KeepBut.trans (yu12 HK.out) hk (.inl rfl));replace HB:=mk_ (hb);replace HI0:=mk_ (hi);(try clear hb);(try clear hb2);(try clear hk);(try clear hi))|((with_reducible refine gate_callee (f:=70) rfl ?_);refine goesL_ (some 58) rfl rfl Try.func70 (by kernel_rfl) rfl #[.pointer (some ⟨g,0,none⟩),.int .i64 4] rfl am ?_;(with_reducible refine (spec_l20Rd_pick.calls k1 g s0_0 t453 4 t454 t455 w0 _ ?side1 ?side2 Bq.out).mono ?_);(case side1=>exact yu7 HI0.out);(case side2=>exact yu11 HB.out HI0.out);rintro e Gb ⟨rfl,hi,hb,hk⟩;refine ⟨_,rfl,?_⟩;replace Ab:=mk_ (Kd.N_mono (Kd.N_keep (Kd.N_mono (ok:=fun k_=>(((w.heap.size≤k_))∧(k_≠gb397∧(k_≠gb398∧(k_≠gb399∧k_≠g))))) (mN Ab.out) (fun k_ hk_=>(⟨hk_,hk_.2.2.2.2⟩:_∧k_≠g))) hk (fun _ h=>h.2)) (fun _ h=>h.1));replace Ac:=mk_ (KeepBut.blk hk (g':=gb397) (o:=.cells #[.int .i64 a1_0,.int .i64 a1_1,.int .i64 a1_2,.int .i64 a1_3,.int .i64 a1_4] 66 (0,0)) (by exact Ac.out) Ap.out (by simp));replace Ah:=mk_ (KeepBut.blk hk (g':=gb398) (o:=.cells #[.int .i64 0,.slice none 0 0,.int .i64 0,.int .i64 0,.bool false] 78 (0,0)) (by exact Ah.out) Am.out (by simp));replace Aa:=mk_ (KeepBut.blk hk (g':=gb399) (o:=.cells #[.int .i64 Ad,u400001,.int .i64 Ag,.int .i64 Ae,.bool Af] 78 (0,0)) (by exact Aa.out) Al.out (by simp));replace HK:=mk_ (KeepBut.trans (yu12 HK.out) hk (.inl rfl));replace HB:=mk_ (hb);replace HI0:=mk_ (hi);(try clear hb);(try clear hb2);(try clear hk);(try clear hi)))
         have pi467:(0≤(t465:Int))=True:=eq_true (of_decide_eq_true (by first|(with_reducible assumption)|assumption))
         have qi467:(t465<(y462.length:Int))=True:=eq_true (of_decide_eq_true (by first|(with_reducible assumption)|assumption))
         replace Ab:=mk_ (Kd.N_drew Ab.out)
         replace Ac:=mk_ (zq2 Ac.out)
         replace Ah:=mk_ (zq2 Ah.out)
         replace Aa:=mk_ (zq2 Aa.out)
         replace HI0:=mk_ (IsS113.drew HI0.out)
         replace HK:=mk_ (zr8 HK.out)
         replace HB:=mk_ (zq9 HB.out)
         refine start_ (n:=10) (S:=fun w'=>w'.cell? ⟨gb399,0,none⟩=some (.int .i64 Ad)∧w'.cell? ⟨gb399,1,none⟩=some (u400001)∧w'.cell? ⟨gb399,2,none⟩=some (.int .i64 Ag)∧w'.cell? ⟨gb399,3,none⟩=some (.int .i64 Ae)∧w'.cell? ⟨gb399,4,none⟩=some (.bool Af)) (ds:=[9]) (bm 10 0) (by kernel_rfl) rfl rfl ⟨(zr4 Aa.out 0).trans rfl,(zr4 Aa.out 1).trans rfl,(zr4 Aa.out 2).trans rfl,(zr4 Aa.out 3).trans rfl,(zr4 Aa.out 4).trans rfl⟩ (fun hHeld=>?_);refine with_tabW spec_l20Ctx.tab18 spec_l20Ctx.bits18 (fun HT_ HW_=>?_)
         generalize Gb.drew=I4 at Ab Ac Ah Aa HI0 HK HB hHeld ⊢
         refine pA 0 (some 78) (bm 10 1) rfl rfl HT_.out (by kernel_rfl) (fun _ _ _ h=>h) (by rfl) (by intro w';go_simp;with_reducible rfl) (by simp only [Act.put,zs1,zs2,zs3,i64_w,i32_w];rfl) ?_
         refine pA 4 (some 82) (bm 10 17) rfl rfl HT_.out (by kernel_rfl) (fun _ _ _ h=>h) (by rfl) (by intro w';go_simp;with_reducible rfl) (by simp only [Act.put,zs1,zs2,zs3,i64_w,i32_w];rfl) ?_
         refine tA 1 (some 79) (bm 10 19) rfl rfl HT_.out HW_.out (by kernel_rfl) (fun _ _ _ h=>h) (by rfl) hHeld (by rintro w' ⟨s0,s1,s2,s3,s4⟩;go_simp;with_reducible rfl) (by simp only [Act.put,zs1,zs2,zs3,i64_w,i32_w];rfl) ?_
         refine pA 2 (some 80) (bm 10 23) rfl rfl HT_.out (by kernel_rfl) (fun _ _ _ h=>h) (by rfl) (by intro w';go_simp;with_reducible rfl) (by simp only [Act.put,zs1,zs2,zs3,i64_w,i32_w];rfl) ?_
         refine join_ (σ:=Value × Addr) 4 (bm 10 63) (fun s_=>[(81,s_.1),(83,.int .i64 t465)]) (fun s_ w'=>(w'.cell? ⟨gb399,0,none⟩=some (.int .i64 Ad)∧w'.cell? ⟨gb399,1,none⟩=some (u400001)∧w'.cell? ⟨gb399,2,none⟩=some (.int .i64 Ag)∧w'.cell? ⟨gb399,3,none⟩=some (.int .i64 Ae)∧w'.cell? ⟨gb399,4,none⟩=some (.bool Af))∧(Kd.R (Kd.int .i64) 3 w' w.heap.size (fun k_=>(w.heap.size≤k_)) s_.1 y462)∧(Kd.N k39 39 w' w.heap.size (fun k_=>(w.heap.size≤k_)∧some k_≠(s_.1:Value).ownBlock∧k_≠g∧k_≠gb397∧k_≠gb398∧k_≠gb399) u400001 Ai)∧(∃ c_,(s_.1:Value)=.slice (some s_.2) y462.length c_)∧(w'.heap[gb397]? =some (.cells #[.int .i64 a1_0,.int .i64 a1_1,.int .i64 a1_2,.int .i64 a1_3,.int .i64 a1_4] 66 (0,0)))∧(w'.heap[gb398]? =some (.cells #[.int .i64 0,.slice none 0 0,.int .i64 0,.int .i64 0,.bool false] 78 (0,0)))∧(w'.heap[gb399]? =some (.cells #[.int .i64 Ad,u400001,.int .i64 Ag,.int .i64 Ae,.bool Af] 78 (0,0)))∧(IsS113 w0 w' g s0_0 t466)∧(KeepBut w w' g none)∧(Below w0.heap.size w0 w')) ?_ ?_
         rotate_left
         ·intro hCont
          refine two_ (i:=3) (j:=5) (Ni:=some 81) (Nj:=some 83) (bm 10 31) (bm 10 55) rfl rfl rfl rfl (two_of HT_.out (by kernel_rfl)) (by decide) (by decide) (fun K hK=>?_) (fun K hK=>?_)
          ·skip
           refine Kd.R_lit_step (Kd.int .i64) _ 3 ?hg (N:=81) ?hd (xs:=([(-1),10000,wrap64 (Ae+1)]:List Int)) (inner:=[.int .i64 (-1),.int .i64 10000,.int .i64 (wrap64 (Ae+1))]) (ok:=fun _=>True) (okp:=fun _=>True) ?hr ?hp (fun _ hk=>hk) trivial (Below.refl _ _) (Nat.le_refl _) (by simp) ?_;(case hd=>rfl);(case hg=>rfl);(case hr=>first|(go_simp;done)|(go_simp;rfl));(case hp=>exact (Reps.one (show Kd.M (Kd.int .i64) _ _ _ (-1) [.int .i64 (-1)] from rfl) (Reps.one (show Kd.M (Kd.int .i64) _ _ _ 10000 [.int .i64 10000] from rfl) (Reps.one (show Kd.M (Kd.int .i64) _ _ _ (wrap64 (Ae+1)) [.int .i64 (wrap64 (Ae+1))] from rfl) (Reps.none _ _)))))
           intro v463 Ca ho101 hb hg_ hnew_
           clear hg_ hnew_
           (first|rw [← Ny462.out] at ho101|(simp only [Int.reduceToNat] at ho101;rw [← Ny462.out] at ho101))
           replace Ab:=mk_ (Kd.N_elder' (mN Ab.out) (Kd.R_base ho101) hb)
           have Ay:=mk_ (Kd.R_lower (Kd.R_newM (M:=fun k_=>(w.heap.size≤k_)) ho101 (keep_size (w:=w) (g:=g) (row:=none) (yu12 HK.out)) (fun k_ h_=>h_)) (keep_size (w:=w) (g:=g) (row:=none) (yu12 HK.out)))
           replace Ac:=mk_ (zq6 (by exact Ac.out) hb)
           replace Ah:=mk_ (zq6 (by exact Ah.out) hb)
           replace Aa:=mk_ (zq6 (by exact Aa.out) hb)
           replace HK:=mk_ (KeepBut.trans (yu12 HK.out) (KeepBut.of_below hb g none) (.inl rfl))
           replace HB:=mk_ (zr3 (yu11 HB.out HI0.out) hb)
           replace HI0:=mk_ (IsS113.below (yu7 HI0.out) hb)
           clear hb ho101
           obtain ⟨Ao102,co102,eo102⟩:=Kd.R_slice Ay.out
           subst eo102
           obtain ⟨ado102,fo102,_⟩:=Kd.at_int (Kd.R_reads' Ay.out).2.2 0 (by decide) (by rw [Ny462.out];simp)
           cases fo102
           refine hK.out _ _ ⟨(zr4 Aa.out 0).trans rfl,(zr4 Aa.out 1).trans rfl,(zr4 Aa.out 2).trans rfl,(zr4 Aa.out 3).trans rfl,(zr4 Aa.out 4).trans rfl⟩ (fun hHeld=>?_)
           clear hK K
           refine norm_ (a':=?_) ?_ ?_
           rotate_left
           ·show Act.put _ (some 81) _=_
            simp only [Act.put,zs1,zs2,zs3,i64_w,i32_w]
            rfl
           refine one_ (i:=5) (N:=some 83) (bm 10 63) rfl rfl (one_of HT_.out (by kernel_rfl)) (by decide) (fun K hK=>?_)
           refine goes_ Try.func70 (by kernel_rfl) rfl #[.pointer (some ⟨g,0,none⟩),.int .i64 3] (by rfl) rfl rfl am ?_
           with_reducible refine (spec_l20Rd_pick.calls k1 g s0_0 t455 3 t465 t466 w0 _ ?side1 ?side2 B9.out).mono ?_
           (case side1=>exact yu7 HI0.out)
           (case side2=>exact yu11 HB.out HI0.out)
           rintro e If ⟨rfl,hi,hb,hk⟩
           refine ⟨_,rfl,?_⟩
           replace Ab:=mk_ (Kd.N_mono (Kd.N_keep (Kd.N_mono (ok:=fun k_=>((((w.heap.size≤k_))∧(k_≠gb397∧(k_≠gb398∧(k_≠gb399∧k_≠g))))∧some k_≠(.slice (some ado102) y462.length co102:Value).ownBlock)) (mN Ab.out) (fun k_ hk_=>(⟨hk_,hk_.1.2.2.2.2⟩:_∧k_≠g))) hk (fun _ h=>h.2)) (fun _ h=>h.1))
           replace Ac:=mk_ (KeepBut.blk hk (g':=gb397) (o:=.cells #[.int .i64 a1_0,.int .i64 a1_1,.int .i64 a1_2,.int .i64 a1_3,.int .i64 a1_4] 66 (0,0)) (by exact Ac.out) Ap.out (by simp))
           replace Ah:=mk_ (KeepBut.blk hk (g':=gb398) (o:=.cells #[.int .i64 0,.slice none 0 0,.int .i64 0,.int .i64 0,.bool false] 78 (0,0)) (by exact Ah.out) Am.out (by simp))
           replace Aa:=mk_ (KeepBut.blk hk (g':=gb399) (o:=.cells #[.int .i64 Ad,u400001,.int .i64 Ag,.int .i64 Ae,.bool Af] 78 (0,0)) (by exact Aa.out) Al.out (by simp))
           replace Ay:=mk_ (Kd.R_mono (Kd.R_keep (IsS113.apart (show IsS113 w0 _ g s0_0 t455 from by exact yu7 HI0.out) (mR Ay.out) (by decide)) hk (fun _ h=>h.2)) (fun _ h=>h.1))
           replace HK:=mk_ (KeepBut.trans (yu12 HK.out) hk (.inl rfl))
           replace HB:=mk_ (hb)
           replace HI0:=mk_ (hi)
           (try clear hb)
           (try clear hb2)
           (try clear hk)
           (try clear hi)
           refine hK.out _ _ ⟨(zr4 Aa.out 0).trans rfl,(zr4 Aa.out 1).trans rfl,(zr4 Aa.out 2).trans rfl,(zr4 Aa.out 3).trans rfl,(zr4 Aa.out 4).trans rfl⟩ (fun hHeld=>?_)
           clear hK K
           refine norm_ (a':=?_) ?_ ?_
           rotate_left
           ·show Act.put _ (some 83) _=_
            simp only [Act.put,zs1,zs2,zs3,i64_w,i32_w]
            rfl
           exact norm_ (by simp only [putAll,Act.put,List.setIfInBounds_toArray,List.set_cons_zero,List.set_cons_succ]) (hCont (.slice (some ado102) y462.length co102,ado102) _ ⟨hHeld,(by (with_reducible repeat (first|apply Kd.R_alloc|apply Kd.R_drewN|apply Kd.R_drew));exact Kd.R_mono Ay.out (fun _ hk=>hk.1)),(by (with_reducible repeat (first|apply Kd.N_alloc|apply Kd.N_drewN|apply Kd.N_drew));exact Kd.N_mono Ab.out (fun _ hk=>⟨hk.1.1,⟨hk.2,⟨hk.1.2.2.2.2,⟨hk.1.2.1,⟨hk.1.2.2.1,hk.1.2.2.2.1⟩⟩⟩⟩⟩)),⟨_,rfl⟩,(by exact Ac.out),(by exact Ah.out),(by exact Aa.out),(yu7 HI0.out),(yu12 HK.out),(yu11 HB.out HI0.out)⟩)
          ·skip
           refine goes_ Try.func70 (by kernel_rfl) rfl #[.pointer (some ⟨g,0,none⟩),.int .i64 3] (by rfl) rfl rfl am ?_
           with_reducible refine (spec_l20Rd_pick.calls k1 g s0_0 t455 3 t465 t466 w0 _ ?side1 ?side2 B9.out).mono ?_
           (case side1=>exact yu7 HI0.out)
           (case side2=>exact yu11 HB.out HI0.out)
           rintro e Ca ⟨rfl,hi,hb,hk⟩
           refine ⟨_,rfl,?_⟩
           replace Ab:=mk_ (Kd.N_mono (Kd.N_keep (Kd.N_mono (ok:=fun k_=>(((w.heap.size≤k_))∧(k_≠gb397∧(k_≠gb398∧(k_≠gb399∧k_≠g))))) (mN Ab.out) (fun k_ hk_=>(⟨hk_,hk_.2.2.2.2⟩:_∧k_≠g))) hk (fun _ h=>h.2)) (fun _ h=>h.1))
           replace Ac:=mk_ (KeepBut.blk hk (g':=gb397) (o:=.cells #[.int .i64 a1_0,.int .i64 a1_1,.int .i64 a1_2,.int .i64 a1_3,.int .i64 a1_4] 66 (0,0)) (by exact Ac.out) Ap.out (by simp))
           replace Ah:=mk_ (KeepBut.blk hk (g':=gb398) (o:=.cells #[.int .i64 0,.slice none 0 0,.int .i64 0,.int .i64 0,.bool false] 78 (0,0)) (by exact Ah.out) Am.out (by simp))
           replace Aa:=mk_ (KeepBut.blk hk (g':=gb399) (o:=.cells #[.int .i64 Ad,u400001,.int .i64 Ag,.int .i64 Ae,.bool Af] 78 (0,0)) (by exact Aa.out) Al.out (by simp))
           replace HK:=mk_ (KeepBut.trans (yu12 HK.out) hk (.inl rfl))
           replace HB:=mk_ (hb)
           replace HI0:=mk_ (hi)
           (try clear hb)
           (try clear hb2)
           (try clear hk)
           (try clear hi)
           refine hK.out _ _ ⟨(zr4 Aa.out 0).trans rfl,(zr4 Aa.out 1).trans rfl,(zr4 Aa.out 2).trans rfl,(zr4 Aa.out 3).trans rfl,(zr4 Aa.out 4).trans rfl⟩ (fun hHeld=>?_)
           clear hK K
           refine norm_ (a':=?_) ?_ ?_
           rotate_left
           ·show Act.put _ (some 83) _=_
            simp only [Act.put,zs1,zs2,zs3,i64_w,i32_w]
            rfl
           refine one_ (i:=3) (N:=some 81) (bm 10 63) rfl rfl (one_of HT_.out (by kernel_rfl)) (by decide) (fun K hK=>?_)
           refine Kd.R_lit_step (Kd.int .i64) _ 3 ?hg (N:=81) ?hd (xs:=([(-1),10000,wrap64 (Ae+1)]:List Int)) (inner:=[.int .i64 (-1),.int .i64 10000,.int .i64 (wrap64 (Ae+1))]) (ok:=fun _=>True) (okp:=fun _=>True) ?hr ?hp (fun _ hk=>hk) trivial (Below.refl _ _) (Nat.le_refl _) (by simp) ?_;(case hd=>rfl);(case hg=>rfl);(case hr=>first|(go_simp;done)|(go_simp;rfl));(case hp=>exact (Reps.one (show Kd.M (Kd.int .i64) _ _ _ (-1) [.int .i64 (-1)] from rfl) (Reps.one (show Kd.M (Kd.int .i64) _ _ _ 10000 [.int .i64 10000] from rfl) (Reps.one (show Kd.M (Kd.int .i64) _ _ _ (wrap64 (Ae+1)) [.int .i64 (wrap64 (Ae+1))] from rfl) (Reps.none _ _)))))
           intro v463 Ig ho102 hb hg_ hnew_
           clear hg_ hnew_
           (first|rw [← Ny462.out] at ho102|(simp only [Int.reduceToNat] at ho102;rw [← Ny462.out] at ho102))
           replace Ab:=mk_ (Kd.N_elder' (mN Ab.out) (Kd.R_base ho102) hb)
           have Ay:=mk_ (Kd.R_lower (Kd.R_newM (M:=fun k_=>(w.heap.size≤k_)) ho102 (keep_size (w:=w) (g:=g) (row:=none) (yu12 HK.out)) (fun k_ h_=>h_)) (keep_size (w:=w) (g:=g) (row:=none) (yu12 HK.out)))
           replace Ac:=mk_ (zq6 (by exact Ac.out) hb)
           replace Ah:=mk_ (zq6 (by exact Ah.out) hb)
           replace Aa:=mk_ (zq6 (by exact Aa.out) hb)
           replace HK:=mk_ (KeepBut.trans (yu12 HK.out) (KeepBut.of_below hb g none) (.inl rfl))
           replace HB:=mk_ (zr3 (yu11 HB.out HI0.out) hb)
           replace HI0:=mk_ (IsS113.below (yu7 HI0.out) hb)
           clear hb ho102
           obtain ⟨Ao103,co103,eo103⟩:=Kd.R_slice Ay.out
           subst eo103
           obtain ⟨ado103,fo103,_⟩:=Kd.at_int (Kd.R_reads' Ay.out).2.2 0 (by decide) (by rw [Ny462.out];simp)
           cases fo103
           refine hK.out _ _ ⟨(zr4 Aa.out 0).trans rfl,(zr4 Aa.out 1).trans rfl,(zr4 Aa.out 2).trans rfl,(zr4 Aa.out 3).trans rfl,(zr4 Aa.out 4).trans rfl⟩ (fun hHeld=>?_)
           clear hK K
           refine norm_ (a':=?_) ?_ ?_
           rotate_left
           ·show Act.put _ (some 81) _=_
            simp only [Act.put,zs1,zs2,zs3,i64_w,i32_w]
            rfl
           exact norm_ (by simp only [putAll,Act.put,List.setIfInBounds_toArray,List.set_cons_zero,List.set_cons_succ]) (hCont (.slice (some ado103) y462.length co103,ado103) _ ⟨hHeld,(by (with_reducible repeat (first|apply Kd.R_alloc|apply Kd.R_drewN|apply Kd.R_drew));exact Kd.R_mono Ay.out (fun _ hk=>hk.1)),(by (with_reducible repeat (first|apply Kd.N_alloc|apply Kd.N_drewN|apply Kd.N_drew));exact Kd.N_mono Ab.out (fun _ hk=>⟨hk.1.1,⟨hk.2,⟨hk.1.2.2.2.2,⟨hk.1.2.1,⟨hk.1.2.2.1,hk.1.2.2.2.1⟩⟩⟩⟩⟩)),⟨_,rfl⟩,(by exact Ac.out),(by exact Ah.out),(by exact Aa.out),(yu7 HI0.out),(yu12 HK.out),(yu11 HB.out HI0.out)⟩)
         rintro ⟨v463,adz_v463⟩ Az ⟨hS_,h0_,h1_,h2_,h3_,h4_,h5_,h6_,h7_,h8_⟩
         have n0_:Aside0 (Kd.R (Kd.int .i64) 3 Az w.heap.size (fun k_=>(w.heap.size≤k_)) v463 y462):=⟨h0_⟩
         have n1_:Aside0 (Kd.N k39 39 Az w.heap.size (fun k_=>(w.heap.size≤k_)∧some k_≠(v463:Value).ownBlock∧k_≠g∧k_≠gb397∧k_≠gb398∧k_≠gb399) u400001 Ai):=⟨h1_⟩
         have n2_:Aside0 (∃ c_,(v463:Value)=.slice (some adz_v463) y462.length c_):=⟨h2_⟩
         have n3_:Aside0 (Az.heap[gb397]? =some (.cells #[.int .i64 a1_0,.int .i64 a1_1,.int .i64 a1_2,.int .i64 a1_3,.int .i64 a1_4] 66 (0,0))):=⟨h3_⟩
         have n4_:Aside0 (Az.heap[gb398]? =some (.cells #[.int .i64 0,.slice none 0 0,.int .i64 0,.int .i64 0,.bool false] 78 (0,0))):=⟨h4_⟩
         have n5_:Aside0 (Az.heap[gb399]? =some (.cells #[.int .i64 Ad,u400001,.int .i64 Ag,.int .i64 Ae,.bool Af] 78 (0,0))):=⟨h5_⟩
         have n6_:Aside0 (IsS113 w0 Az g s0_0 t466):=⟨h6_⟩
         have n7_:Aside0 (KeepBut w Az g none):=⟨h7_⟩
         have n8_:Aside0 (Below w0.heap.size w0 Az):=⟨h8_⟩
         clear Ab
         clear Ac
         clear Ah
         clear Aa
         clear HI0
         clear HK
         clear HB
         clear h0_ h1_ h2_ h3_ h4_ h5_ h6_ h7_ h8_
         have Ay:=n0_
         have Ab:=n1_
         have HA_HO464:=n2_
         have Ac:=n3_
         have Ah:=n4_
         have Aa:=n5_
         have HI0:=n6_
         have HK:=n7_
         have HB:=n8_
         clear n0_ n1_ n2_ n3_ n4_ n5_ n6_ n7_ n8_
         have hHeld:Az.cell? ⟨gb399,0,none⟩=some (.int .i64 Ad)∧Az.cell? ⟨gb399,1,none⟩=some (u400001)∧Az.cell? ⟨gb399,2,none⟩=some (.int .i64 Ag)∧Az.cell? ⟨gb399,3,none⟩=some (.int .i64 Ae)∧Az.cell? ⟨gb399,4,none⟩=some (.bool Af):=hS_
         obtain ⟨co105,eo105⟩:=HA_HO464.out
         clear HA_HO464
         subst eo105
         refine norm_ (a':=?_) ?_ ?_
         rotate_left
         ·simp only [putAll,Act.put,List.setIfInBounds_toArray,List.set_cons_zero,List.set_cons_succ]
          rfl
         refine pA 6 (some 84) (bm 10 127) rfl rfl HT_.out (by kernel_rfl) (fun _ _ _ h=>h) (by rfl) (by intro w';go_simp;with_reducible rfl) (by simp only [Act.put,zs1,zs2,zs3,i64_w,i32_w];rfl) ?_
         refine one_ (i:=7) (N:=some 85) (bm 10 255) rfl rfl (one_of HT_.out (by kernel_rfl)) (by decide) (fun K hK=>?_)
         (have p467:0≤(t465:Int):=of_decide_eq_true (by first|(with_reducible assumption)|assumption);have q467:t465<(y462.length:Int):=of_decide_eq_true (by first|(with_reducible assumption)|assumption);obtain ⟨ad467,e467,hx467_0⟩:=Kd.at_int (Kd.R_reads' Ay.out).2.2 t465 p467 q467;obtain rfl:adz_v463=ad467:=(by injection e467))
         refine value_ (w1:=?_) (v:=?_) (by rfl) rfl ?_ ?_
         rotate_left 2
         ·go_simp
          constructor
          ·rfl
          ·rfl
         clear hx467_0
         refine hK.out _ _ ⟨(zr4 Aa.out 0).trans rfl,(zr4 Aa.out 1).trans rfl,(zr4 Aa.out 2).trans rfl,(zr4 Aa.out 3).trans rfl,(zr4 Aa.out 4).trans rfl⟩ (fun hHeld=>?_)
         clear hK K
         refine norm_ (a':=?_) ?_ ?_
         rotate_left
         ·show Act.put _ (some 85) _=_
          simp only [Act.put,zs1,zs2,zs3,i64_w,i32_w]
          rfl
         refine pA 8 (some 86) (bm 10 511) rfl rfl HT_.out (by kernel_rfl) (fun _ _ _ h=>h) (by rfl) (by intro w';go_simp;with_reducible rfl) (by simp only [Act.put,zs1,zs2,zs3,i64_w,i32_w];rfl) ?_
         refine last_ (i:=9) (N:=none) (bm 10 1023) rfl rfl (one_of HT_.out (by kernel_rfl)) (by decide) (fun K hK=>?_)
         have hs106:Az.cell? ⟨gb399,3,none⟩=some (.int .i64 Ae):=(zr4 Aa.out 3).trans rfl
         have hfs106:=zr5 Aa.out 3
         have hns106_0:=Ak.out
         have hns106_1:=Aj.out
         have hms106_0:=An.out
         have hms106_1:=Ao.out
         refine skip_ (w1:=?_) (by rfl) rfl ?_ ?_
         rotate_left
         ·go_simp
          rfl
         refine hK.out _ _ ?_
         clear hK K
         refine done_ (done_of HT_.out (by kernel_rfl)) ?_
         have Gc:=An.out
         have Gd:=Ak.out
         have Ge:=Ao.out
         have Gf:=Aj.out
         have Gg:=Al.out
         have Gh:=Av.out
         obtain ⟨Cb,Cc,Cd,Ce,Cf⟩:=cz5 Aa.out
         obtain ⟨Cg,Ch,Ci,Cj,Ck⟩:=fz5 Aa.out
         have Gi:=Au.out
         have Gj:=As.out
         have Gk:=Am.out
         have Gl:=A1.out
         obtain ⟨Cl,Cm,Cn,Co,Cp⟩:=cz5 Ah.out
         obtain ⟨Cq,Cr,Cs,Ct,Cu⟩:=fz5 Ah.out
         obtain ⟨Ao114,co114,eo114⟩:=Kd.N_slice Ab.out
         subst eo114
         try go_wp2
         refine bodyPost_ret (results_cell_row rfl _ _ gb398 78 #[.int .i64 Ad,.slice Ao114 Ai.length co114,.int .i64 Ag,.int .i64 (rd y462 t465),.bool Af] (0,0) _ rfl (yv7 Aj.out Ah.out) Try.underlying78 rfl (by kernel_rfl)) rfl ?_
         exact ⟨_,by first|rfl|(simp [errW_none,errW_some] <;> rfl)|(simp [*,errW_none,errW_some] <;> rfl),by (with_reducible repeat (first|apply Kd.N_alloc|apply Kd.N_drewN|apply Kd.N_drew));exact Kd.N_mono (Kd.N_far (p:=⟨gb398,4,none⟩) (Kd.N_far (p:=⟨gb398,3,none⟩) (Kd.N_far (p:=⟨gb398,2,none⟩) (Kd.N_far (p:=⟨gb398,1,none⟩) (Kd.N_far (p:=⟨gb398,0,none⟩) (Kd.N_far (p:=⟨gb399,3,none⟩) (Kd.N_mono (Kd.N_mono Ab.out (fun k_ hk=>(⟨hk,hk.2.2.2.2.2⟩:_∧k_≠gb399))) (fun k_ hk=>(⟨hk,hk.1.2.2.2.2.1⟩:_∧k_≠gb398))) (fun _ hk=>hk.1.2) (.int .i64 (rd y462 t465))) (fun _ hk=>hk.2) (.int .i64 Ad)) (fun _ hk=>hk.2) (.slice Ao114 Ai.length co114)) (fun _ hk=>hk.2) (.int .i64 Ag)) (fun _ hk=>hk.2) (.int .i64 (rd y462 t465))) (fun _ hk=>hk.2) (.bool Af)) (fun _ hk=>hk.1.1.1),by exact yu7 HI0.out,by exact yu11 HB.out HI0.out,by exact yu12 HK.out⟩
        ·rw [if_neg c96] at H
         exact absurd H (by simp)
       ·rw [if_neg c95] at H
        exact absurd H (by simp)
      ·rw [if_neg c93] at H
       have c93b0:(t454 == 1)=false:=beq_eq_false_iff_ne.mpr c93
       have c93b1:(t454 != 1)=true:=bne_iff_ne.mpr c93
       by_cases c115:t454=2
       ·rw [if_pos c115] at H
        have c115b0:(t454 == 2)=true:=beq_iff_eq.mpr c115
        have c115b1:(t454 != 2)=false:=bne_eq_false_iff_eq.mpr c115
        clear c115
        replace H:=Option.bind_eq_some_iff.mp H
        obtain ⟨⟨t468,t469,t470,t473⟩,Br,H⟩:=H
        try dsimp only at H
        have Cv:=mk_ Br
        clear Br
        by_cases c117:Ai.length<3518437208883
        ·rw [if_pos c117] at H
         have LMc117:=mk_ c117
         clear c117
         obtain ⟨y474,hy474⟩:∃ y_:List (S39),y_=(Ai++[(⟨t468,t469,t470⟩:S39)]):=⟨_,rfl⟩
         replace H:(some (Ad,y474,Ag,Ae,Af,t473))=some (r1,r2,r3,r4,r5,r6):=by first|(rw [hy474];with_reducible exact H)|(have H2_:=(Option.bind_some _ _).symm.trans H;rw [hy474];with_reducible exact H2_)|(have H2_:=(Option.bind_some _ _).symm.trans H;with_reducible exact H2_)|with_reducible exact H|(rw [hy474];exact H)|exact H
         have Ny474:=mk_ hy474
         clear hy474
         simp only [Option.some.injEq,Prod.mk.injEq] at H
         obtain ⟨rfl,rfl,rfl,rfl,rfl,rfl⟩:=H
         try go_wp2_with (first|((with_reducible refine gate_callee (f:=98) rfl ?_);refine goesL_ (some 56) rfl rfl Try.func98 (by kernel_rfl) rfl #[.pointer (some ⟨g,0,none⟩),.int .i64 a2] rfl am ?_;(with_reducible refine (spec_l20Rd_odd.calls k1 g s0_0 At a2 true t453 w0 _ ?side1 ?side2 Bl.out).mono ?_);(case side1=>exact yu7 HI0.out);(case side2=>exact yu11 HB.out HI0.out);rintro e Ih ⟨rfl,hi,hb,hk⟩;refine ⟨_,rfl,?_⟩;replace Ab:=mk_ (Kd.N_mono (Kd.N_keep (Kd.N_mono (ok:=fun k_=>(((w.heap.size≤k_))∧(k_≠gb397∧(k_≠gb398∧(k_≠gb399∧k_≠g))))) (mN Ab.out) (fun k_ hk_=>(⟨hk_,hk_.2.2.2.2⟩:_∧k_≠g))) hk (fun _ h=>h.2)) (fun _ h=>h.1));replace Ac:=mk_ (KeepBut.blk hk (g':=gb397) (o:=.cells #[.int .i64 a1_0,.int .i64 a1_1,.int .i64 a1_2,.int .i64 a1_3,.int .i64 a1_4] 66 (0,0)) (by exact Ac.out) Ap.out (by simp));replace Ah:=mk_ (KeepBut.blk hk (g':=gb398) (o:=.cells #[.int .i64 0,.slice none 0 0,.int .i64 0,.int .i64 0,.bool false] 78 (0,0)) (by exact Ah.out) Am.out (by simp));replace Aa:=mk_ (KeepBut.blk hk (g':=gb399) (o:=.cells #[.int .i64 Ad,u400001,.int .i64 Ag,.int .i64 Ae,.bool Af] 78 (0,0)) (by exact Aa.out) Al.out (by simp));replace HK:=mk_ (KeepBut.trans (yu12 HK.out) hk (.inl rfl));replace HB:=mk_ (hb);replace HI0:=mk_ (hi);(try clear hb);(try clear hb2);(try clear hk);(try clear hi))|((with_reducible refine gate_callee (f:=70) rfl ?_);refine goesL_ (some 58) rfl rfl Try.func70 (by kernel_rfl) rfl #[.pointer (some ⟨g,0,none⟩),.int .i64 4] rfl am ?_;(with_reducible refine (spec_l20Rd_pick.calls k1 g s0_0 t453 4 t454 t455 w0 _ ?side1 ?side2 Bq.out).mono ?_);(case side1=>exact yu7 HI0.out);(case side2=>exact yu11 HB.out HI0.out);rintro e Cw ⟨rfl,hi,hb,hk⟩;refine ⟨_,rfl,?_⟩;replace Ab:=mk_ (Kd.N_mono (Kd.N_keep (Kd.N_mono (ok:=fun k_=>(((w.heap.size≤k_))∧(k_≠gb397∧(k_≠gb398∧(k_≠gb399∧k_≠g))))) (mN Ab.out) (fun k_ hk_=>(⟨hk_,hk_.2.2.2.2⟩:_∧k_≠g))) hk (fun _ h=>h.2)) (fun _ h=>h.1));replace Ac:=mk_ (KeepBut.blk hk (g':=gb397) (o:=.cells #[.int .i64 a1_0,.int .i64 a1_1,.int .i64 a1_2,.int .i64 a1_3,.int .i64 a1_4] 66 (0,0)) (by exact Ac.out) Ap.out (by simp));replace Ah:=mk_ (KeepBut.blk hk (g':=gb398) (o:=.cells #[.int .i64 0,.slice none 0 0,.int .i64 0,.int .i64 0,.bool false] 78 (0,0)) (by exact Ah.out) Am.out (by simp));replace Aa:=mk_ (KeepBut.blk hk (g':=gb399) (o:=.cells #[.int .i64 Ad,u400001,.int .i64 Ag,.int .i64 Ae,.bool Af] 78 (0,0)) (by exact Aa.out) Al.out (by simp));replace HK:=mk_ (KeepBut.trans (yu12 HK.out) hk (.inl rfl));replace HB:=mk_ (hb);replace HI0:=mk_ (hi);(try clear hb);(try clear hb2);(try clear hk);(try clear hi)))
         replace Ab:=mk_ (Kd.N_drew Ab.out)
         replace Ac:=mk_ (zq2 Ac.out)
         replace Ah:=mk_ (zq2 Ah.out)
         replace Aa:=mk_ (zq2 Aa.out)
         replace HI0:=mk_ (IsS113.drew HI0.out)
         replace HK:=mk_ (zr8 HK.out)
         replace HB:=mk_ (zq9 HB.out)
         refine start_ (n:=8) (S:=fun w'=>w'.cell? ⟨gb399,0,none⟩=some (.int .i64 Ad)∧w'.cell? ⟨gb399,1,none⟩=some (u400001)∧w'.cell? ⟨gb399,2,none⟩=some (.int .i64 Ag)∧w'.cell? ⟨gb399,3,none⟩=some (.int .i64 Ae)∧w'.cell? ⟨gb399,4,none⟩=some (.bool Af)) (ds:=[7]) (bm 8 0) (by kernel_rfl) rfl rfl ⟨(zr4 Aa.out 0).trans rfl,(zr4 Aa.out 1).trans rfl,(zr4 Aa.out 2).trans rfl,(zr4 Aa.out 3).trans rfl,(zr4 Aa.out 4).trans rfl⟩ (fun hHeld=>?_);refine with_tabW spec_l20Ctx.tab20 spec_l20Ctx.bits20 (fun HT_ HW_=>?_)
         generalize Cw.drew=Ii at Ab Ac Ah Aa HI0 HK HB hHeld ⊢
         refine pA 0 (some 89) (bm 8 1) rfl rfl HT_.out (by kernel_rfl) (fun _ _ _ h=>h) (by rfl) (by intro w';go_simp;with_reducible rfl) (by simp only [Act.put,zs1,zs2,zs3,i64_w,i32_w];rfl) ?_
         refine pA 2 (some 91) (bm 8 5) rfl rfl HT_.out (by kernel_rfl) (fun _ _ _ h=>h) (by rfl) (by intro w';go_simp;with_reducible rfl) (by simp only [Act.put,zs1,zs2,zs3,i64_w,i32_w];rfl) ?_
         refine tA 1 (some 90) (bm 8 7) rfl rfl HT_.out HW_.out (by kernel_rfl) (fun _ _ _ h=>h) (by rfl) hHeld (by rintro w' ⟨s0,s1,s2,s3,s4⟩;go_simp;with_reducible rfl) (by simp only [Act.put,zs1,zs2,zs3,i64_w,i32_w];rfl) ?_
         refine one_ (i:=3) (N:=some 92) (bm 8 15) rfl rfl (one_of HT_.out (by kernel_rfl)) (by decide) (fun K hK=>?_)
         refine goes_ Try.func78 (by kernel_rfl) rfl #[.pointer (some ⟨g,0,none⟩),.int .i64 2] (by rfl) rfl rfl am ?_
         with_reducible refine (spec_l20PartOr.calls k1 g s0_0 t455 2 t468 t469 t470 t473 w0 _ ?side1 ?side2 Cv.out).mono ?_
         (case side1=>exact yu7 HI0.out)
         (case side2=>exact yu11 HB.out HI0.out)
         rintro e Ij ⟨v471,rfl,ho0,hi,hb,hk⟩
         refine ⟨_,rfl,?_⟩
         replace Ab:=mk_ (Kd.N_mono (Kd.N_told (Kd.N_oldK (Kd.N_mono (ok:=fun k_=>(((w.heap.size≤k_))∧(k_≠gb397∧(k_≠gb398∧(k_≠gb399∧k_≠g))))) (mN Ab.out) (fun k_ hk_=>(⟨hk_,hk_.2.2.2.2⟩:_∧k_≠g))) hk) (Kd.R_base ho0)) (fun _ h_=>h_.1))
         replace Ac:=mk_ (KeepBut.blk hk (g':=gb397) (o:=.cells #[.int .i64 a1_0,.int .i64 a1_1,.int .i64 a1_2,.int .i64 a1_3,.int .i64 a1_4] 66 (0,0)) (by exact Ac.out) Ap.out (by simp))
         replace Ah:=mk_ (KeepBut.blk hk (g':=gb398) (o:=.cells #[.int .i64 0,.slice none 0 0,.int .i64 0,.int .i64 0,.bool false] 78 (0,0)) (by exact Ah.out) Am.out (by simp))
         replace Aa:=mk_ (KeepBut.blk hk (g':=gb399) (o:=.cells #[.int .i64 Ad,u400001,.int .i64 Ag,.int .i64 Ae,.bool Af] 78 (0,0)) (by exact Aa.out) Al.out (by simp))
         have A6:=mk_ (Kd.R_lower (Kd.R_newM (M:=fun k_=>(w.heap.size≤k_)) ho0 (keep_size (w:=w) (g:=g) (row:=none) (yu12 HK.out)) (fun k_ h_=>h_)) (keep_size (w:=w) (g:=g) (row:=none) (yu12 HK.out)))
         replace HK:=mk_ (KeepBut.trans (yu12 HK.out) hk (.inl rfl))
         replace HB:=mk_ (hb)
         replace HI0:=mk_ (hi)
         (try clear hb)
         (try clear hb2)
         (try clear hk)
         (try clear hi)
         (try clear ho0)
         obtain ⟨Ao123,co123,eo123⟩:=Kd.R_slice A6.out
         (first|subst eo123|(injection eo123 with f1_ f2_ f3_;have f4_:=f1_.symm;have f5_:=f3_.symm;clear f1_ f2_ f3_;subst f4_;subst f5_))
         refine hK.out _ _ ⟨(zr4 Aa.out 0).trans rfl,(zr4 Aa.out 1).trans rfl,(zr4 Aa.out 2).trans rfl,(zr4 Aa.out 3).trans rfl,(zr4 Aa.out 4).trans rfl⟩ (fun hHeld=>?_)
         clear hK K
         refine norm_ (a':=?_) ?_ ?_
         rotate_left
         ·show Act.put _ (some 92) _=_
          simp only [Act.put,zs1,zs2,zs3,i64_w,i32_w]
          rfl
         refine one_ (i:=4) (N:=some 93) (bm 8 31) rfl rfl (one_of HT_.out (by kernel_rfl)) (by decide) (fun K hK=>?_)
         refine value_ (w1:=?_) (v:=?_) (by rfl) rfl ?_ ?_
         rotate_left 2
         ·go_simp
          constructor
          ·rfl
          ·rfl
         refine hK.out _ _ ⟨(zr4 (zq3 Aa.out _) 0).trans rfl,(zr4 (zq3 Aa.out _) 1).trans rfl,(zr4 (zq3 Aa.out _) 2).trans rfl,(zr4 (zq3 Aa.out _) 3).trans rfl,(zr4 (zq3 Aa.out _) 4).trans rfl⟩ (fun hHeld=>?_)
         clear hK K
         refine norm_ (a':=?_) ?_ ?_
         rotate_left
         ·show Act.put _ (some 93) _=_
          simp only [Act.put,zs1,zs2,zs3,i64_w,i32_w]
          rfl
         refine one_ (i:=5) (N:=some 94) (bm 8 63) rfl rfl (one_of HT_.out (by kernel_rfl)) (by decide) (fun K hK=>?_)
         refine Kd.N_append_step k39 w.heap.size (by rfl) (.tmp 90) (.tmp 93) 23 39 (.agg #[(.int .i64 0),(.int .i64 0),(.slice none 0 0)]) 40 rfl Try.underlying23 info39 rfl (by decide) (by omega) u400001 Ai (⟨t468,t469,t470⟩:S39) [.int .i64 t468,.int .i64 t469,.slice Ao123 t470.length co123] (fun k_=>(w.heap.size≤k_)∧k_≠gb397∧k_≠gb398∧k_≠gb399∧k_≠g) (fun k_=>((fun k_=>(w.heap.size≤k_)∧k_≠gb397∧k_≠gb398∧k_≠gb399∧k_≠g)) k_∧some k_≠(u400001:Value).ownBlock) rfl rfl ?aP (fun _ hk=>hk) ?aF ?aO (Below.refl _ _) ?aS ?aL ?_
         (case aP=>exact (k39_mkF _ _ (⟨t468,t469,t470⟩:S39) (Kd.R_reads' (Kd.R_mono (ok':=(fun k_=>((fun k_=>(w.heap.size≤k_)∧k_≠gb397∧k_≠gb398∧k_≠gb399∧k_≠g)) k_∧some k_≠(u400001:Value).ownBlock)) (IsS113.apart HI0.out (Kd.R_types (Kd.R_types (Kd.R_types (Kd.R_apart' (A6.out) (Kd.N_typed Ab.out) (by decide)) Ac.out (by decide)) Ah.out (by decide)) Aa.out (by decide)) (by decide)) (fun k_ hk=>⟨⟨hk.1.1.1.1.1.1,⟨hk.1.1.1.2,⟨hk.1.1.2,⟨hk.1.2,hk.2⟩⟩⟩⟩,hk.1.1.1.1.2⟩))).2.1 (Kd.R_F (Kd.R_mono (ok':=(fun k_=>((fun k_=>(w.heap.size≤k_)∧k_≠gb397∧k_≠gb398∧k_≠gb399∧k_≠g)) k_∧some k_≠(u400001:Value).ownBlock)) (IsS113.apart HI0.out (Kd.R_types (Kd.R_types (Kd.R_types (Kd.R_apart' (A6.out) (Kd.N_typed Ab.out) (by decide)) Ac.out (by decide)) Ah.out (by decide)) Aa.out (by decide)) (by decide)) (fun k_ hk=>⟨⟨hk.1.1.1.1.1.1,⟨hk.1.1.1.2,⟨hk.1.1.2,⟨hk.1.2,hk.2⟩⟩⟩⟩,hk.1.1.1.1.2⟩)))))
         (case aF=>exact (fun k_ hk=>⟨(Nat.le_trans (keep_size (w:=w) (g:=g) (row:=none) (yu12 HK.out)) hk),Kd.freshB (g:=gb397) (o:=.cells #[.int .i64 a1_0,.int .i64 a1_1,.int .i64 a1_2,.int .i64 a1_3,.int .i64 a1_4] 66 (0,0)) (by exact Ac.out) k_ hk,Kd.freshB (g:=gb398) (o:=.cells #[.int .i64 0,.slice none 0 0,.int .i64 0,.int .i64 0,.bool false] 78 (0,0)) (by exact Ah.out) k_ hk,Kd.freshB (g:=gb399) (o:=.cells #[.int .i64 Ad,u400001,.int .i64 Ag,.int .i64 Ae,.bool Af] 78 (0,0)) (by exact Aa.out) k_ hk,IsS113.fresh (yu7 HI0.out) k_ hk⟩))
         (case aO=>exact (by (with_reducible repeat (first|apply Kd.N_alloc|apply Kd.N_drewN|apply Kd.N_drew));exact Kd.N_mono Ab.out (fun _ hk=>⟨hk.1.1,⟨hk.1.2.1,⟨hk.1.2.2.1,⟨hk.1.2.2.2.1,hk.1.2.2.2.2⟩⟩⟩⟩)))
         (case aS=>exact (keep_size (w:=w) (g:=g) (row:=none) (yu12 HK.out)))
         (case aL=>have:=LMc117.out;omega)
         intro v475 Cx ho hb hg hat
         rw [← Ny474.out] at ho
         have n0_:=mk_ (blk_grown (g:=gb397) (o:=.cells #[.int .i64 a1_0,.int .i64 a1_1,.int .i64 a1_2,.int .i64 a1_3,.int .i64 a1_4] 66 (0,0)) (by exact Ac.out) hg (Kd.N_ne Ab.out Ac.out (by decide)))
         have n1_:=mk_ (blk_grown (g:=gb398) (o:=.cells #[.int .i64 0,.slice none 0 0,.int .i64 0,.int .i64 0,.bool false] 78 (0,0)) (by exact Ah.out) hg (Kd.N_ne Ab.out Ah.out (by decide)))
         have n2_:=mk_ (blk_grown (g:=gb399) (o:=.cells #[.int .i64 Ad,u400001,.int .i64 Ag,.int .i64 Ae,.bool Af] 78 (0,0)) (by exact Aa.out) hg (Kd.N_ne Ab.out Aa.out (by decide)))
         have n3_:=mk_ (IsS113.grown (yu7 HI0.out) hg (IsS113.own_neN HI0.out Ab.out (by decide)))
         have n4_:=mk_ (below_weaken (yu11 HB.out HI0.out) HL.out hb)
         have n5_:=mk_ (KeepBut.trans (yu12 HK.out) (KeepBut.of_grown hg g) (Kd.N_base2 Ab.out))
         have n6_:=mk_ (ho)
         clear Ac
         clear Ah
         clear Aa
         clear HI0
         clear HB
         clear HK
         clear Ab
         clear A6
         have Ac:=n0_
         have Ah:=n1_
         have Aa:=n2_
         have HI0:=n3_
         have HB:=n4_
         have HK:=n5_
         have Bs:=n6_
         clear n0_ n1_ n2_ n3_ n4_ n5_ n6_
         clear ho hb hg hat
         obtain ⟨Ao124,co124,eo124⟩:=Kd.N_slice Bs.out
         (first|subst eo124|(injection eo124 with f1_ f2_ f3_;have f4_:=f1_.symm;have f5_:=f3_.symm;clear f1_ f2_ f3_;subst f4_;subst f5_))
         refine hK.out _ _ ⟨(zr4 Aa.out 0).trans rfl,(zr4 Aa.out 1).trans rfl,(zr4 Aa.out 2).trans rfl,(zr4 Aa.out 3).trans rfl,(zr4 Aa.out 4).trans rfl⟩ (fun hHeld=>?_)
         clear hK K
         refine norm_ (a':=?_) ?_ ?_
         rotate_left
         ·show Act.put _ (some 94) _=_
          simp only [Act.put,zs1,zs2,zs3,i64_w,i32_w]
          rfl
         refine pA 6 (some 95) (bm 8 127) rfl rfl HT_.out (by kernel_rfl) (fun _ _ _ h=>h) (by rfl) (by intro w';go_simp;with_reducible rfl) (by simp only [Act.put,zs1,zs2,zs3,i64_w,i32_w];rfl) ?_
         refine last_ (i:=7) (N:=none) (bm 8 255) rfl rfl (one_of HT_.out (by kernel_rfl)) (by decide) (fun K hK=>?_)
         have hs125:Cx.cell? ⟨gb399,1,none⟩=some (u400001):=(zr4 Aa.out 1).trans rfl
         have hfs125:=zr5 Aa.out 1
         have hns125_0:=Ak.out
         have hns125_1:=Aj.out
         have hms125_0:=An.out
         have hms125_1:=Ao.out
         refine skip_ (w1:=?_) (by rfl) rfl ?_ ?_
         rotate_left
         ·go_simp
          rfl
         refine hK.out _ _ ?_
         clear hK K
         refine done_ (done_of HT_.out (by kernel_rfl)) ?_
         have Gm:=An.out
         have Gn:=Ak.out
         have Gp:=Ao.out
         have Gq:=Aj.out
         have Gr:=Al.out
         have Gs:=Av.out
         obtain ⟨Cy,Cz,C0,C1,C2⟩:=cz5 Aa.out
         obtain ⟨C3,C4,C5,C6,C7⟩:=fz5 Aa.out
         have Gt:=Au.out
         have Gu:=As.out
         have Gv:=Am.out
         have Gw:=A1.out
         obtain ⟨C8,C9,Da,Db,Dc⟩:=cz5 Ah.out
         obtain ⟨Dd,De,Df,Dg,Dh⟩:=fz5 Ah.out
         try go_wp2
         refine bodyPost_ret (results_cell_row rfl _ _ gb398 78 #[.int .i64 Ad,.slice Ao124 y474.length co124,.int .i64 Ag,.int .i64 Ae,.bool Af] (0,0) _ rfl (yv7 Aj.out Ah.out) Try.underlying78 rfl (by kernel_rfl)) rfl ?_
         exact ⟨_,by first|rfl|(simp [errW_none,errW_some] <;> rfl)|(simp [*,errW_none,errW_some] <;> rfl),by (with_reducible repeat (first|apply Kd.N_alloc|apply Kd.N_drewN|apply Kd.N_drew));exact Kd.N_mono (Kd.N_far (p:=⟨gb398,4,none⟩) (Kd.N_far (p:=⟨gb398,3,none⟩) (Kd.N_far (p:=⟨gb398,2,none⟩) (Kd.N_far (p:=⟨gb398,1,none⟩) (Kd.N_far (p:=⟨gb398,0,none⟩) (Kd.N_far (p:=⟨gb399,1,none⟩) (Kd.N_mono (Kd.N_mono Bs.out (fun k_ hk=>(⟨hk,hk.2.2.2.1⟩:_∧k_≠gb399))) (fun k_ hk=>(⟨hk,hk.1.2.2.1⟩:_∧k_≠gb398))) (fun _ hk=>hk.1.2) (.slice Ao124 y474.length co124)) (fun _ hk=>hk.2) (.int .i64 Ad)) (fun _ hk=>hk.2) (.slice Ao124 y474.length co124)) (fun _ hk=>hk.2) (.int .i64 Ag)) (fun _ hk=>hk.2) (.int .i64 Ae)) (fun _ hk=>hk.2) (.bool Af)) (fun _ hk=>hk.1.1.1),by exact yu7 HI0.out,by exact yu11 HB.out HI0.out,by exact yu12 HK.out⟩
        ·rw [if_neg c117] at H
         exact absurd H (by simp)
       ·rw [if_neg c115] at H
        have c115b0:(t454 == 2)=false:=beq_eq_false_iff_ne.mpr c115
        have c115b1:(t454 != 2)=true:=bne_iff_ne.mpr c115
        obtain ⟨y477,hy477⟩:∃ y_:List Int,y_=(([(-1),10000]:List Int)):=⟨_,rfl⟩
        replace H:((spec_l20Rd_pick.f k1 s0_0 t455 2).bind fun bt480=>(if 0≤bt480.1 then (if bt480.1<(y477.length:Int) then (some (Ad,Ai,rd y477 bt480.1,Ae,Af,bt480.2)) else (none)) else (none)))=some (r1,r2,r3,r4,r5,r6):=by first|(rw [hy477];with_reducible exact H)|(have H2_:=(Option.bind_some _ _).symm.trans H;rw [hy477];with_reducible exact H2_)|(have H2_:=(Option.bind_some _ _).symm.trans H;with_reducible exact H2_)|with_reducible exact H|(rw [hy477];exact H)|exact H
        have Ny477:=mk_ hy477
        clear hy477
        replace H:=Option.bind_eq_some_iff.mp H
        obtain ⟨⟨t480,t481⟩,Bt,H⟩:=H
        try dsimp only at H
        have Di:=mk_ Bt
        clear Bt
        by_cases c134:0≤t480
        ·rw [if_pos c134] at H
         have c134b0:decide (0≤t480)=true:=decide_eq_true c134
         clear c134
         by_cases c135:t480<(y477.length:Int)
         ·rw [if_pos c135] at H
          have c135b0:decide (t480<(y477.length:Int))=true:=decide_eq_true c135
          clear c135
          simp only [Option.some.injEq,Prod.mk.injEq] at H
          obtain ⟨rfl,rfl,rfl,rfl,rfl,rfl⟩:=H
          go_wp2_with (first|((with_reducible refine gate_callee (f:=98) rfl ?_);refine goesL_ (some 56) rfl rfl Try.func98 (by kernel_rfl) rfl #[.pointer (some ⟨g,0,none⟩),.int .i64 a2] rfl am ?_;(with_reducible refine (spec_l20Rd_odd.calls k1 g s0_0 At a2 true t453 w0 _ ?side1 ?side2 Bl.out).mono ?_);(case side1=>exact yu7 HI0.out);(case side2=>exact yu11 HB.out HI0.out);rintro e Ik ⟨rfl,hi,hb,hk⟩;refine ⟨_,rfl,?_⟩;replace Ab:=mk_ (Kd.N_mono (Kd.N_keep (Kd.N_mono (ok:=fun k_=>(((w.heap.size≤k_))∧(k_≠gb397∧(k_≠gb398∧(k_≠gb399∧k_≠g))))) (mN Ab.out) (fun k_ hk_=>(⟨hk_,hk_.2.2.2.2⟩:_∧k_≠g))) hk (fun _ h=>h.2)) (fun _ h=>h.1));replace Ac:=mk_ (KeepBut.blk hk (g':=gb397) (o:=.cells #[.int .i64 a1_0,.int .i64 a1_1,.int .i64 a1_2,.int .i64 a1_3,.int .i64 a1_4] 66 (0,0)) (by exact Ac.out) Ap.out (by simp));replace Ah:=mk_ (KeepBut.blk hk (g':=gb398) (o:=.cells #[.int .i64 0,.slice none 0 0,.int .i64 0,.int .i64 0,.bool false] 78 (0,0)) (by exact Ah.out) Am.out (by simp));replace Aa:=mk_ (KeepBut.blk hk (g':=gb399) (o:=.cells #[.int .i64 Ad,u400001,.int .i64 Ag,.int .i64 Ae,.bool Af] 78 (0,0)) (by exact Aa.out) Al.out (by simp));replace HK:=mk_ (KeepBut.trans (yu12 HK.out) hk (.inl rfl));replace HB:=mk_ (hb);replace HI0:=mk_ (hi);(try clear hb);(try clear hb2);(try clear hk);(try clear hi))|((with_reducible refine gate_callee (f:=70) rfl ?_);refine goesL_ (some 58) rfl rfl Try.func70 (by kernel_rfl) rfl #[.pointer (some ⟨g,0,none⟩),.int .i64 4] rfl am ?_;(with_reducible refine (spec_l20Rd_pick.calls k1 g s0_0 t453 4 t454 t455 w0 _ ?side1 ?side2 Bq.out).mono ?_);(case side1=>exact yu7 HI0.out);(case side2=>exact yu11 HB.out HI0.out);rintro e Il ⟨rfl,hi,hb,hk⟩;refine ⟨_,rfl,?_⟩;replace Ab:=mk_ (Kd.N_mono (Kd.N_keep (Kd.N_mono (ok:=fun k_=>(((w.heap.size≤k_))∧(k_≠gb397∧(k_≠gb398∧(k_≠gb399∧k_≠g))))) (mN Ab.out) (fun k_ hk_=>(⟨hk_,hk_.2.2.2.2⟩:_∧k_≠g))) hk (fun _ h=>h.2)) (fun _ h=>h.1));replace Ac:=mk_ (KeepBut.blk hk (g':=gb397) (o:=.cells #[.int .i64 a1_0,.int .i64 a1_1,.int .i64 a1_2,.int .i64 a1_3,.int .i64 a1_4] 66 (0,0)) (by exact Ac.out) Ap.out (by simp));replace Ah:=mk_ (KeepBut.blk hk (g':=gb398) (o:=.cells #[.int .i64 0,.slice none 0 0,.int .i64 0,.int .i64 0,.bool false] 78 (0,0)) (by exact Ah.out) Am.out (by simp));replace Aa:=mk_ (KeepBut.blk hk (g':=gb399) (o:=.cells #[.int .i64 Ad,u400001,.int .i64 Ag,.int .i64 Ae,.bool Af] 78 (0,0)) (by exact Aa.out) Al.out (by simp));replace HK:=mk_ (KeepBut.trans (yu12 HK.out) hk (.inl rfl));replace HB:=mk_ (hb);replace HI0:=mk_ (hi);(try clear hb);(try clear hb2);(try clear hk);(try clear hi))|((with_reducible refine gate_dst (N:=59) rfl ?_);refine Kd.R_lit (Kd.int .i64) _ 3 ?hg (N:=59) ?hd (xs:=([(-1),10000]:List Int)) (inner:=[.int .i64 (-1),.int .i64 10000]) (ok:=fun _=>True) (okp:=fun _=>True) ?hr ?hp (fun _ hk=>hk) trivial (Below.refl _ _) (Nat.le_refl _) (by simp) ?_;(case hd=>rfl);(case hg=>rfl);(case hr=>first|(go_simp;done)|(go_simp;rfl));(case hp=>exact (Reps.one (show Kd.M (Kd.int .i64) _ _ _ (-1) [.int .i64 (-1)] from rfl) (Reps.one (show Kd.M (Kd.int .i64) _ _ _ 10000 [.int .i64 10000] from rfl) (Reps.none _ _))));intro v478 Im ho139 hb hg_ hnew_;clear hg_ hnew_;(first|rw [← Ny477.out] at ho139|(simp only [Int.reduceToNat] at ho139;rw [← Ny477.out] at ho139));replace Ab:=mk_ (Kd.N_elder' (mN Ab.out) (Kd.R_base ho139) hb);have A7:=mk_ (Kd.R_lower (Kd.R_newM (M:=fun k_=>(w.heap.size≤k_)) ho139 (keep_size (w:=w) (g:=g) (row:=none) (yu12 HK.out)) (fun k_ h_=>h_)) (keep_size (w:=w) (g:=g) (row:=none) (yu12 HK.out)));replace Ac:=mk_ (zq6 (by exact Ac.out) hb);replace Ah:=mk_ (zq6 (by exact Ah.out) hb);replace Aa:=mk_ (zq6 (by exact Aa.out) hb);replace HK:=mk_ (KeepBut.trans (yu12 HK.out) (KeepBut.of_below hb g none) (.inl rfl));replace HB:=mk_ (zr3 (yu11 HB.out HI0.out) hb);replace HI0:=mk_ (IsS113.below (yu7 HI0.out) hb);clear hb ho139)|((with_reducible refine gate_callee (f:=70) rfl ?_);refine goesL_ (some 61) rfl rfl Try.func70 (by kernel_rfl) rfl #[.pointer (some ⟨g,0,none⟩),.int .i64 2] rfl am ?_;(with_reducible refine (spec_l20Rd_pick.calls k1 g s0_0 t455 2 t480 t481 w0 _ ?side1 ?side2 Di.out).mono ?_);(case side1=>exact yu7 HI0.out);(case side2=>exact yu11 HB.out HI0.out);rintro e In ⟨rfl,hi,hb,hk⟩;refine ⟨_,rfl,?_⟩;replace Ab:=mk_ (Kd.N_mono (Kd.N_keep (Kd.N_mono (ok:=fun k_=>((((w.heap.size≤k_))∧(k_≠gb397∧(k_≠gb398∧(k_≠gb399∧k_≠g))))∧some k_≠(v478:Value).ownBlock)) (mN Ab.out) (fun k_ hk_=>(⟨hk_,hk_.1.2.2.2.2⟩:_∧k_≠g))) hk (fun _ h=>h.2)) (fun _ h=>h.1));replace Ac:=mk_ (KeepBut.blk hk (g':=gb397) (o:=.cells #[.int .i64 a1_0,.int .i64 a1_1,.int .i64 a1_2,.int .i64 a1_3,.int .i64 a1_4] 66 (0,0)) (by exact Ac.out) Ap.out (by simp));replace Ah:=mk_ (KeepBut.blk hk (g':=gb398) (o:=.cells #[.int .i64 0,.slice none 0 0,.int .i64 0,.int .i64 0,.bool false] 78 (0,0)) (by exact Ah.out) Am.out (by simp));replace Aa:=mk_ (KeepBut.blk hk (g':=gb399) (o:=.cells #[.int .i64 Ad,u400001,.int .i64 Ag,.int .i64 Ae,.bool Af] 78 (0,0)) (by exact Aa.out) Al.out (by simp));replace A7:=mk_ (Kd.R_mono (Kd.R_keep (IsS113.apart (show IsS113 w0 _ g s0_0 t455 from by exact yu7 HI0.out) (mR A7.out) (by decide)) hk (fun _ h=>h.2)) (fun _ h=>h.1));replace HK:=mk_ (KeepBut.trans (yu12 HK.out) hk (.inl rfl));replace HB:=mk_ (hb);replace HI0:=mk_ (hi);(try clear hb);(try clear hb2);(try clear hk);(try clear hi);obtain ⟨Ao141,co141,eo141⟩:=Kd.R_slice A7.out;subst eo141;have p482:0≤(t480:Int):=of_decide_eq_true (by first|(with_reducible assumption)|assumption);have q482:t480<(y477.length:Int):=of_decide_eq_true (by first|(with_reducible assumption)|assumption);obtain ⟨ad482,e482,hx482_0⟩:=Kd.at_int (Kd.R_reads' A7.out).2.2 t480 p482 q482;cases e482;replace p482:=eq_true p482;replace q482:=eq_true q482;have Gx:=An.out;have Gy:=Ak.out;have Gz:=Ao.out;have G0:=Aj.out;have G1:=Al.out;have G2:=Av.out;obtain ⟨Dj,Dk,Dl,Dm,Dn⟩:=cz5 Aa.out;obtain ⟨Do,Dp,Dq,Dr,Ds⟩:=fz5 Aa.out;have G3:=Au.out;have G4:=As.out;have G5:=Am.out;have G6:=A1.out;obtain ⟨Dt,Du,Dv,Dw,Dx⟩:=cz5 Ah.out;obtain ⟨Dy,Dz,D0,D1,D2⟩:=fz5 Ah.out;obtain ⟨Ao149,co149,eo149⟩:=Kd.N_slice Ab.out;subst eo149))
          refine bodyPost_ret (results_cell_row rfl _ _ gb398 78 #[.int .i64 Ad,.slice Ao149 Ai.length co149,.int .i64 (rd y477 t480),.int .i64 Ae,.bool Af] (0,0) _ rfl (yv7 Aj.out Ah.out) Try.underlying78 rfl (by kernel_rfl)) rfl ?_
          exact ⟨_,by first|rfl|(simp [errW_none,errW_some] <;> rfl)|(simp [*,errW_none,errW_some] <;> rfl),by (with_reducible repeat (first|apply Kd.N_alloc|apply Kd.N_drewN|apply Kd.N_drew));exact Kd.N_mono (Kd.N_far (p:=⟨gb398,4,none⟩) (Kd.N_far (p:=⟨gb398,3,none⟩) (Kd.N_far (p:=⟨gb398,2,none⟩) (Kd.N_far (p:=⟨gb398,1,none⟩) (Kd.N_far (p:=⟨gb398,0,none⟩) (Kd.N_far (p:=⟨gb399,2,none⟩) (Kd.N_mono (Kd.N_mono Ab.out (fun k_ hk=>(⟨hk,hk.1.2.2.2.1⟩:_∧k_≠gb399))) (fun k_ hk=>(⟨hk,hk.1.1.2.2.1⟩:_∧k_≠gb398))) (fun _ hk=>hk.1.2) (.int .i64 (rd y477 t480))) (fun _ hk=>hk.2) (.int .i64 Ad)) (fun _ hk=>hk.2) (.slice Ao149 Ai.length co149)) (fun _ hk=>hk.2) (.int .i64 (rd y477 t480))) (fun _ hk=>hk.2) (.int .i64 Ae)) (fun _ hk=>hk.2) (.bool Af)) (fun _ hk=>hk.1.1.1.1),by exact yu7 HI0.out,by exact yu11 HB.out HI0.out,by exact yu12 HK.out⟩
         ·rw [if_neg c135] at H
          exact absurd H (by simp)
        ·rw [if_neg c134] at H
         exact absurd H (by simp)
    ·replace c69:=Bool.eq_false_iff.mpr c69
     subst c69
     have H1:(some (Ad,Ai,Ag,Ae,Af,t453))=some (r1,r2,r3,r4,r5,r6):=by rw [if_neg (show ¬ (false=true) by decide)] at H;exact H
     clear H
     have H:=H1
     clear H1
     simp only [Option.some.injEq,Prod.mk.injEq] at H
     obtain ⟨rfl,rfl,rfl,rfl,rfl,rfl⟩:=H
     go_wp2_with (first|((with_reducible refine gate_callee (f:=98) rfl ?_);refine goesL_ (some 56) rfl rfl Try.func98 (by kernel_rfl) rfl #[.pointer (some ⟨g,0,none⟩),.int .i64 a2] rfl am ?_;(with_reducible refine (spec_l20Rd_odd.calls k1 g s0_0 At a2 false t453 w0 _ ?side1 ?side2 Bl.out).mono ?_);(case side1=>exact yu7 HI0.out);(case side2=>exact yu11 HB.out HI0.out);rintro e Io ⟨rfl,hi,hb,hk⟩;refine ⟨_,rfl,?_⟩;replace Ab:=mk_ (Kd.N_mono (Kd.N_keep (Kd.N_mono (ok:=fun k_=>(((w.heap.size≤k_))∧(k_≠gb397∧(k_≠gb398∧(k_≠gb399∧k_≠g))))) (mN Ab.out) (fun k_ hk_=>(⟨hk_,hk_.2.2.2.2⟩:_∧k_≠g))) hk (fun _ h=>h.2)) (fun _ h=>h.1));replace Ac:=mk_ (KeepBut.blk hk (g':=gb397) (o:=.cells #[.int .i64 a1_0,.int .i64 a1_1,.int .i64 a1_2,.int .i64 a1_3,.int .i64 a1_4] 66 (0,0)) (by exact Ac.out) Ap.out (by simp));replace Ah:=mk_ (KeepBut.blk hk (g':=gb398) (o:=.cells #[.int .i64 0,.slice none 0 0,.int .i64 0,.int .i64 0,.bool false] 78 (0,0)) (by exact Ah.out) Am.out (by simp));replace Aa:=mk_ (KeepBut.blk hk (g':=gb399) (o:=.cells #[.int .i64 Ad,u400001,.int .i64 Ag,.int .i64 Ae,.bool Af] 78 (0,0)) (by exact Aa.out) Al.out (by simp));replace HK:=mk_ (KeepBut.trans (yu12 HK.out) hk (.inl rfl));replace HB:=mk_ (hb);replace HI0:=mk_ (hi);(try clear hb);(try clear hb2);(try clear hk);(try clear hi);have G7:=An.out;have G8:=Ak.out;have G9:=Ao.out;have Ha:=Aj.out;have Hb:=Al.out;have Hc:=Av.out;obtain ⟨D3,D4,D5,D6,D7⟩:=cz5 Aa.out;obtain ⟨D8,D9,Ea,Eb,Ec⟩:=fz5 Aa.out;have Hd:=Au.out;have He:=As.out;have Hf:=Am.out;have Hg:=A1.out;obtain ⟨Ed,Ee,Ef,Eg,Eh⟩:=cz5 Ah.out;obtain ⟨Ei,Ej,Ek,El,Em⟩:=fz5 Ah.out;obtain ⟨Ao158,co158,eo158⟩:=Kd.N_slice Ab.out;subst eo158))
     refine bodyPost_ret (results_cell_row rfl _ _ gb398 78 #[.int .i64 Ad,.slice Ao158 Ai.length co158,.int .i64 Ag,.int .i64 Ae,.bool Af] (0,0) _ rfl (yv6 Ah.out) Try.underlying78 rfl (by kernel_rfl)) rfl ?_
     exact ⟨_,by first|rfl|(simp [errW_none,errW_some] <;> rfl)|(simp [*,errW_none,errW_some] <;> rfl),by (with_reducible repeat (first|apply Kd.N_alloc|apply Kd.N_drewN|apply Kd.N_drew));exact Kd.N_mono (Kd.N_far (p:=⟨gb398,4,none⟩) (Kd.N_far (p:=⟨gb398,3,none⟩) (Kd.N_far (p:=⟨gb398,2,none⟩) (Kd.N_far (p:=⟨gb398,1,none⟩) (Kd.N_far (p:=⟨gb398,0,none⟩) (Kd.N_mono Ab.out (fun k_ hk=>(⟨hk,hk.2.2.1⟩:_∧k_≠gb398))) (fun _ hk=>hk.2) (.int .i64 Ad)) (fun _ hk=>hk.2) (.slice Ao158 Ai.length co158)) (fun _ hk=>hk.2) (.int .i64 Ag)) (fun _ hk=>hk.2) (.int .i64 Ae)) (fun _ hk=>hk.2) (.bool Af)) (fun _ hk=>hk.1.1),by exact yu7 HI0.out,by exact yu11 HB.out HI0.out,by exact yu12 HK.out⟩

end Go.Proofs.Yteknaofnageihaa.QFnCrdTxOk
