-- Written by a program of this session, a turned copy of the print (not by print.sh itself). Lean checks it.
import Derived.Test.YteknaofnageihaaQFnExactSegPutx0
import Derived.Test.YteknaofnageihaaQFnExactSegPutx7
namespace Go.Proofs.Yteknaofnageihaa.QFnExactSegPut
open Go.RowKit Go.Proofs.YteknaofnageihaaW.PrintWords Go.Proofs.YteknaofnageihaaW.PrintLast Go.Proofs.YteknaofnageihaaW.PrintMore Go.Proofs.YteknaofnageihaaLoc
attribute [local go_sem] max2_int min2_int max_two min_two max_three min_three max_four min_four   -- for this text's walks alone
set_option linter.unusedVariables false
set_option linter.unusedSimpArgs false

/-! ### impl_SegJoin_put: function 73 -/
mutual
def impl_SegJoin_put.j0 : Nat → List Int → Bool → Int → List Int → Int → Int → List Int → Option (Int × List Int × List Int × Int)
  | 0, _, _, _, _, _, _, _ => none
  | k + 1, x7, x15, x116000, x116001, x117000, x117001, x117002 => if x15 = true then (some (0, ([] : List Int), x7, 2)) else (if x117000 = 1 then (impl_SegJoin_put.j1 k x7 (x116000 == 0) x116000 x116001 x117000 x117001 x117002) else (impl_SegJoin_put.j1 k x7 false x116000 x116001 x117000 x117001 x117002))
def impl_SegJoin_put.j1 : Nat → List Int → Bool → Int → List Int → Int → Int → List Int → Option (Int × List Int × List Int × Int)
  | 0, _, _, _, _, _, _, _ => none
  | k + 1, x7, x26, x116000, x116001, x117000, x117001, x117002 => if x26 = true then (some (x117001, x7, ([] : List Int), 1)) else (if x117000 = 2 then (if x116000 > 0 then (impl_SegJoin_put.j2 k x7 (decide ((x7.length : Int) < x116000)) x116000 x116001 x117000 x117001 x117002) else (impl_SegJoin_put.j2 k x7 false x116000 x116001 x117000 x117001 x117002)) else (impl_SegJoin_put.j2 k x7 false x116000 x116001 x117000 x117001 x117002))
def impl_SegJoin_put.j2 : Nat → List Int → Bool → Int → List Int → Int → Int → List Int → Option (Int × List Int × List Int × Int)
  | 0, _, _, _, _, _, _, _ => none
  | k + 1, x7, x39, x116000, x116001, x117000, x117001, x117002 => if x39 = true then (some (x116000, x7, ([] : List Int), 1)) else (if x117000 = 3 then (if x116000 > 0 then (if (x7.length : Int) = x116000 then (some (0, ([] : List Int), x7, 2)) else (some (0, ([] : List Int), ([] : List Int), 3))) else (some (0, ([] : List Int), ([] : List Int), 3))) else (some (0, ([] : List Int), ([] : List Int), 3)))
end
def impl_SegJoin_put.f (k : Nat) (a0_0 : Int) (l0_1 : List Int) (a1_0 : Int) (a1_1 : Int) (l1_2 : List Int) : Option (Int × List Int × List Int × Int) := (impl_clone_byte.f l0_1).bind fun t118 => (if t118.length + l1_2.length < 140737488355328 then ((impl_clone_byte.f (t118 ++ l1_2)).bind fun t124 => (if a1_0 = 0 then (impl_SegJoin_put.j0 k t124 (a0_0 == 0) a0_0 l0_1 a1_0 a1_1 l1_2) else (impl_SegJoin_put.j0 k t124 false a0_0 l0_1 a1_0 a1_1 l1_2))) else (none))
theorem impl_SegJoin_put.mono_l : ∀ k, (∀ y0 y1 y2 y3 y4 y5 y6, LeO (impl_SegJoin_put.j0 k y0 y1 y2 y3 y4 y5 y6) (impl_SegJoin_put.j0 (k + 1) y0 y1 y2 y3 y4 y5 y6)) ∧ (∀ y0 y1 y2 y3 y4 y5 y6, LeO (impl_SegJoin_put.j1 k y0 y1 y2 y3 y4 y5 y6) (impl_SegJoin_put.j1 (k + 1) y0 y1 y2 y3 y4 y5 y6)) ∧ (∀ y0 y1 y2 y3 y4 y5 y6, LeO (impl_SegJoin_put.j2 k y0 y1 y2 y3 y4 y5 y6) (impl_SegJoin_put.j2 (k + 1) y0 y1 y2 y3 y4 y5 y6))
  | 0 => ⟨fun _ _ _ _ _ _ _ r h => by simp [impl_SegJoin_put.j0] at h, fun _ _ _ _ _ _ _ r h => by simp [impl_SegJoin_put.j1] at h, fun _ _ _ _ _ _ _ r h => by simp [impl_SegJoin_put.j2] at h⟩
  | k + 1 => by
    obtain ⟨ih0, ih1, ih2⟩ := impl_SegJoin_put.mono_l k
    refine ⟨?_, ?_, ?_⟩
    · intro y0 y1 y2 y3 y4 y5 y6
      unfold impl_SegJoin_put.j0
      repeat' first
      | (with_reducible exact ih0 _ _ _ _ _ _ _)
      | (with_reducible exact ih1 _ _ _ _ _ _ _)
      | (with_reducible exact ih2 _ _ _ _ _ _ _)
      | (with_reducible exact LeO.refl _)
      | (with_reducible exact LeO.none _)
      | (with_reducible refine LeO.ite ?_ ?_)
      | (with_reducible refine LeO.bind ?_ (fun _ => ?_))
      | exact ih0 _ _ _ _ _ _ _
      | exact ih1 _ _ _ _ _ _ _
      | exact ih2 _ _ _ _ _ _ _
      | exact LeO.none _
      | refine LeO.ite ?_ ?_
      | refine LeO.bind ?_ (fun _ => ?_)
    · intro y0 y1 y2 y3 y4 y5 y6
      unfold impl_SegJoin_put.j1
      repeat' first
      | (with_reducible exact ih0 _ _ _ _ _ _ _)
      | (with_reducible exact ih1 _ _ _ _ _ _ _)
      | (with_reducible exact ih2 _ _ _ _ _ _ _)
      | (with_reducible exact LeO.refl _)
      | (with_reducible exact LeO.none _)
      | (with_reducible refine LeO.ite ?_ ?_)
      | (with_reducible refine LeO.bind ?_ (fun _ => ?_))
      | exact ih0 _ _ _ _ _ _ _
      | exact ih1 _ _ _ _ _ _ _
      | exact ih2 _ _ _ _ _ _ _
      | exact LeO.none _
      | refine LeO.ite ?_ ?_
      | refine LeO.bind ?_ (fun _ => ?_)
    · intro y0 y1 y2 y3 y4 y5 y6
      unfold impl_SegJoin_put.j2
      repeat' first
      | (with_reducible exact ih0 _ _ _ _ _ _ _)
      | (with_reducible exact ih1 _ _ _ _ _ _ _)
      | (with_reducible exact ih2 _ _ _ _ _ _ _)
      | (with_reducible exact LeO.refl _)
      | (with_reducible exact LeO.none _)
      | (with_reducible refine LeO.ite ?_ ?_)
      | (with_reducible refine LeO.bind ?_ (fun _ => ?_))
      | exact ih0 _ _ _ _ _ _ _
      | exact ih1 _ _ _ _ _ _ _
      | exact ih2 _ _ _ _ _ _ _
      | exact LeO.none _
      | refine LeO.ite ?_ ?_
      | refine LeO.bind ?_ (fun _ => ?_)
theorem impl_SegJoin_put.mono : ∀ a0 a1 a2 a3 a4 k, LeO (impl_SegJoin_put.f k a0 a1 a2 a3 a4) (impl_SegJoin_put.f (k + 1) a0 a1 a2 a3 a4) := by
 intro a0 a1 a2 a3 a4 k
 obtain ⟨ih0, ih1, ih2⟩ := impl_SegJoin_put.mono_l k
 unfold impl_SegJoin_put.f
 repeat' first
     | (with_reducible exact ih0 _ _ _ _ _ _ _)
     | (with_reducible exact ih1 _ _ _ _ _ _ _)
     | (with_reducible exact ih2 _ _ _ _ _ _ _)
     | (with_reducible exact LeO.refl _)
     | (with_reducible exact LeO.none _)
     | (with_reducible refine LeO.ite ?_ ?_)
     | (with_reducible refine LeO.bind ?_ (fun _ => ?_))
     | exact ih0 _ _ _ _ _ _ _
     | exact ih1 _ _ _ _ _ _ _
     | exact ih2 _ _ _ _ _ _ _
     | exact LeO.none _
     | refine LeO.ite ?_ ?_
     | refine LeO.bind ?_ (fun _ => ?_)
/-- An append of bytes to a slice without room: what comes out is read. -/
theorem impl_SegJoin_put.app {P : Program} {ops : Array Oper} {Q : Exit → Act → World → Prop} {Kc : Act → World → Prop} {o : Oper} {a : Act} {w0 W : World} (base : Nat) (hw : Region.wanted o (yielded ops a.tmps) = true) (s x : Operand)
    (ho : o.op = .call { callee := .builtin .append, args := #[s, x], argTypes := #[22, 22] })
    (ht : P.underlying 22 = some (.slice 5)) (hinfo : (P.info? 5).map (fun i => (i.zero, i.size, i.bytes)) = some (some (.int .u8 0), 1, 1))
    (A0 : Option Addr) (xs ys : List Int) (A : Option Addr) (m c : Nat) (hs : a.eval s = .slice A0 xs.length xs.length) (hx : a.eval x = .slice A m c)
    (HO : Kd.C (Kd.int .u8) W A0 xs.length xs) (HR : Kd.C (Kd.int .u8) W A m ys)
    (HB : Below base w0 W) (hbase : base ≤ W.heap.size) (hl : (xs.length + m) * 1 ≤ 140737488355328)
    (h : ∀ A1 c1 w1, (xs ++ ys).length ≤ c1 → Kd.C (Kd.int .u8) w1 A1 (xs ++ ys).length (xs ++ ys) → Below base w0 w1 → W.grownBy w1 none → Kc (a.put o.dst (.slice A1 (xs ++ ys).length c1)) w1) :
    if Region.wanted o (yielded ops a.tmps) = true then Oper.wp P o a W Kc Q else Kc (a.put o.dst undef) W := by
  rcases A0 with _ | b
  · have h0 : xs = [] := by
      rcases xs with _ | ⟨y, zs⟩
      · rfl
      · obtain ⟨ad, e, _⟩ := HO.2.2 (by simp)
        exact absurd e (by simp)
    subst h0
    refine Kd.R_append_rows_step (Kd.int .u8) (w0 := w0) base hw s x 22 5 (.int .u8 0) 1 ho ht hinfo rfl (by decide) (by omega) (.slice none 0 0) ([] : List Int) ys A m c (fun _ => True) (fun _ => False) hs hx (Kd.R_nil _ _ _ _ _) HR (fun _ _ h => h) (fun _ h => h.elim) (fun _ _ => trivial) HB hbase hl ?_
    intro v1 w1 hv hb hg _
    obtain ⟨A1, c1, rfl⟩ := Kd.R_slice hv
    exact h A1 c1 w1 (Kd.R_reads' hv).2.1 (Kd.R_reads' hv).2.2 hb hg
  · obtain ⟨i0, hi, hzz⟩ := Option.map_eq_some_iff.1 hinfo
    simp only [Prod.mk.injEq] at hzz
    obtain ⟨hz0, hz1, hz2⟩ := hzz
    have hm : ys.length = m := HR.1
    have hrun : ∃ A1 c1 w1, (Builtin.append_ #[22, 22] o.type #[.slice (some b) xs.length xs.length, .slice A m c]).run P W = .ok (.slice A1 (xs ++ ys).length c1) w1 ∧ (xs ++ ys).length ≤ c1 ∧ Kd.C (Kd.int .u8) w1 A1 (xs ++ ys).length (xs ++ ys) ∧ W.grownBy w1 none := by
      rcases Nat.eq_zero_or_pos m with h0 | h0
      · subst h0
        obtain rfl : ys = [] := List.eq_nil_of_length_eq_zero hm
        refine ⟨some b, xs.length, W, ?_, by simp, by rw [List.append_nil]; exact HO, World.grownBy.refl W _⟩
        rcases A with _ | ad
        · simp [Builtin.append_, run_underlying ht, sizeOf, typeInfo, hi, Builtin.lenOf, Builtin.firstCells, storeCells]
        · have hfc := run_firstCells_some (P := P) W i0.size 0 ad 0 c [] (by simp) (by simp)
          simp [Builtin.append_, run_underlying ht, sizeOf, typeInfo, hi, Builtin.lenOf, hfc, storeCells]
      · obtain ⟨ad, rfl, _⟩ := HR.2.2 h0
        obtain ⟨olds, hor, hoc⟩ := ReadsRow.inner_ HO
        obtain ⟨news, hnr, hnc⟩ := ReadsRow.inner_ HR
        have hol : olds.length = xs.length * 1 := hor.1
        have hnl : news.length = m * 1 := by rw [← hm]; exact hnr.1
        obtain ⟨v', w', hr, h2, hg⟩ := run_append_arg_grows (P := P) W 22 o.type 5 i0 (.int .u8 0) 1 1 ht hi hz0 hz1 hz2 rfl (by decide) b xs.length xs.length olds hol hoc ad m c news hnl hnc (by omega) (by simp only [maxLen]; omega) hl
        have hR : Kd.R (Kd.int .u8) 5 w' W.heap.size (fun _ => True) v' (xs ++ ys) := ⟨fun _ _ => trivial, olds ++ news, by rw [List.length_append, hm]; exact h2, Kd.reps_append hor hnr⟩
        obtain ⟨A1, c1, rfl⟩ := Kd.R_slice hR
        exact ⟨A1, c1, w', hr, (Kd.R_reads' hR).2.1, (Kd.R_reads' hR).2.2, hg⟩
    obtain ⟨A1, c1, w1, hr1, h1, h2, hg⟩ := hrun
    rw [if_pos hw]
    unfold Oper.wp execOp
    simp only [ho, resolve, invoke, builtin, Sem.run_bind, Sem.run_pure, Result.andThen_ok, List.map_toArray, List.map_cons, List.map_nil, hs, hx, hr1]
    exact h A1 c1 w1 h1 h2 (HB.grown hg hbase (by simp)) hg
def impl_SegJoin_put.T1 : Bool × List (List Nat × List Nat) := (true, [([], []), ([0], [0]), ([1], [1]), ([], []), ([3], [3]), ([2, 4, 2], [2, 4]), ([5, 5], [5]), ([6, 6, 0, 1, 2, 3, 4, 5, 6], [6])])
def impl_SegJoin_put.B1 : List Nat := [0, 1, 3, 0, 8, 31, 63, 127]
theorem impl_SegJoin_put.tab1 : rtab .any (opsOf Try.f73 1) = impl_SegJoin_put.T1 := by kernel_rfl
theorem impl_SegJoin_put.bits1 : waitsOk impl_SegJoin_put.T1.2 impl_SegJoin_put.B1 = true := by kernel_rfl
set_option maxHeartbeats 60000000 in
set_option maxRecDepth 100000 in
theorem impl_SegJoin_put.callsw (k : Nat) (a0_0 : Int) (A0_1 : Option Addr) (c0_1 : Nat) (l0_1 : List Int) (a1_0 : Int) (a1_1 : Int) (A1_2 : Option Addr) (c1_2 : Nat) (l1_2 : List Int) (r1 : Int) (r2 : List Int) (r3 : List Int) (r4 : Int) (w : World) (hr0_1 : Kd.C (Kd.int .u8) w A0_1 l0_1.length l0_1) (hc0_1 : l0_1.length ≤ c0_1) (hr1_2 : Kd.C (Kd.int .u8) w A1_2 l1_2.length l1_2) (hc1_2 : l1_2.length ≤ c1_2) (h : impl_SegJoin_put.f k a0_0 l0_1 a1_0 a1_1 l1_2 = some (r1, r2, r3, r4)) :
    Calls Try.prog 73 #[.agg #[.int .i64 a0_0, .slice A0_1 l0_1.length c0_1], .agg #[.int .i64 a1_0, .int .i64 a1_1, .slice A1_2 l1_2.length c1_2]] w fun e w' => ∃ v1_ v2_ : Value, e = .returned (.tuple #[.agg #[.int .i64 r1, v1_], v2_, .int .i64 r4]) ∧ (v1_ = .slice none 0 0 ∨ v2_ = .slice none 0 0) ∧ RR (Kd.int .u8) 5 w' w.heap.size (fun k_ => (w.heap.size ≤ k_)) v1_ r2 ∧ RR (Kd.int .u8) 5 w' w.heap.size (fun k_ => (w.heap.size ≤ k_)) v2_ r3 ∧ Below w.heap.size w w' := by
  have hu35 := Try.underlying35
  have hu39 := Try.underlying39
  have HR0_1 := mk_ hr0_1
  have HC0_1 := mk_ hc0_1
  clear hr0_1 hc0_1
  have HR1_2 := mk_ hr1_2
  have HC1_2 := mk_ hc1_2
  clear hr1_2 hc1_2
  have HB := mk_ (Below.refl w.heap.size w)
  have H : ((impl_clone_byte.f l0_1).bind fun t118 => (if t118.length + l1_2.length < 140737488355328 then ((impl_clone_byte.f (t118 ++ l1_2)).bind fun t124 => (if a1_0 = 0 then (impl_SegJoin_put.j0 k t124 (a0_0 == 0) a0_0 l0_1 a1_0 a1_1 l1_2) else (impl_SegJoin_put.j0 k t124 false a0_0 l0_1 a1_0 a1_1 l1_2))) else (none))) = some (r1, r2, r3, r4) := h
  clear h
  replace H := Option.bind_eq_some_iff.mp H
  obtain ⟨t118, A30, H⟩ := H
  try dsimp only at H
  have A3 := mk_ A30
  clear A30
  by_cases c4 : t118.length + l1_2.length < 140737488355328
  · rw [if_pos c4] at H
    have LMc4 := mk_ c4
    clear c4
    obtain ⟨y121, hy121⟩ : ∃ y_ : List Int, y_ = (t118 ++ l1_2) := ⟨_, rfl⟩
    replace H : ((impl_clone_byte.f y121).bind fun t124 => (if a1_0 = 0 then (impl_SegJoin_put.j0 k t124 (a0_0 == 0) a0_0 l0_1 a1_0 a1_1 l1_2) else (impl_SegJoin_put.j0 k t124 false a0_0 l0_1 a1_0 a1_1 l1_2))) = some (r1, r2, r3, r4) := by first | (rw [hy121]; with_reducible exact H) | (have H2_ := (Option.bind_some _ _).symm.trans H; rw [hy121]; with_reducible exact H2_) | (have H2_ := (Option.bind_some _ _).symm.trans H; with_reducible exact H2_) | with_reducible exact H | (rw [hy121]; exact H) | exact H
    have Ny121 := mk_ hy121
    clear hy121
    replace H := Option.bind_eq_some_iff.mp H
    obtain ⟨t124, A50, H⟩ := H
    try dsimp only at H
    have A5 := mk_ A50
    clear A50
    have HC6 := mk_ H
    clear H
    go_enter Try.func73, Try.ntmps73
    try go_wp2_with (first | ((with_reducible refine gate_dst (N := 2) rfl ?_); (try (refine gate_guard (by rfl) ?_; dsimp only)); refine box_event ?hg (N := 2) ?hd (cs := #[.int .i64 a0_0, .slice A0_1 l0_1.length c0_1]) (t := 35) ?hr ?_; (case hd => rfl); (case hg => rfl); (case hr => first | (go_simp; done) | (go_simp; rfl)); intro gb115 hg w7 hbox hb; have BK115 := mk_ (hbox); have GW115 := mk_ ((by rw [hg]; exact (zr2 (by repeat (first | (with_reducible first | exact HB.out | apply zq7 | apply zq8 | apply zq9) | exact HB.out))) : w.heap.size ≤ gb115)); have GE115 := GW115; replace HB := mk_ (zr3 (by repeat (first | (with_reducible first | exact HB.out | apply zq7 | apply zq8 | apply zq9) | exact HB.out)) hb); clear hb hbox hg) | ((with_reducible refine gate_dst (N := 3) rfl ?_); (try (refine gate_guard (by rfl) ?_; dsimp only)); refine box_event ?hg (N := 3) ?hd (cs := #[.int .i64 a1_0, .int .i64 a1_1, .slice A1_2 l1_2.length c1_2]) (t := 39) ?hr ?_; (case hd => rfl); (case hg => rfl); (case hr => first | (go_simp; done) | (go_simp; rfl)); intro gb116 hg w8 hbox hb; have BK116 := mk_ (hbox); have GW116 := mk_ ((by rw [hg]; exact (zr2 (by repeat (first | (with_reducible first | exact HB.out | apply zq7 | apply zq8 | apply zq9 | refine zr1 ?_ GE115.out) | exact HB.out))) : w.heap.size ≤ gb116)); have GE116 := GW116; replace HB := mk_ (zr3 (by repeat (first | (with_reducible first | exact HB.out | apply zq7 | apply zq8 | apply zq9 | refine zr1 ?_ GE115.out) | exact HB.out)) hb); have NB115_116 := mk_ ((by rw [hg]; exact zm2 (zr6 (by exact BK115.out)) : gb115 ≠ gb116)); replace BK115 := mk_ (zq6 (by exact BK115.out) hb); have NB116_115 := mk_ NB115_116.out.symm; clear hb hbox hg) | ((with_reducible refine gate_dst (N := 4) rfl ?_); (try (refine gate_guard (by rfl) ?_; dsimp only)); refine box_event ?hg (N := 4) ?hd (cs := #[.int .i64 0, .slice none 0 0]) (t := 35) ?hr ?_; (case hd => rfl); (case hg => rfl); (case hr => first | (go_simp; done) | (go_simp; rfl)); intro gb117 hg w9 hbox hb; have BK117 := mk_ (hbox); have GW117 := mk_ ((by rw [hg]; exact (zr2 (by repeat (first | (with_reducible first | exact HB.out | apply zq7 | apply zq8 | apply zq9 | refine zr1 ?_ GE115.out | refine zr1 ?_ GE116.out) | exact HB.out))) : w.heap.size ≤ gb117)); have GE117 := GW117; replace HB := mk_ (zr3 (by repeat (first | (with_reducible first | exact HB.out | apply zq7 | apply zq8 | apply zq9 | refine zr1 ?_ GE115.out | refine zr1 ?_ GE116.out) | exact HB.out)) hb); have NB115_117 := mk_ ((by rw [hg]; exact zm2 (zr6 (by exact BK115.out)) : gb115 ≠ gb117)); replace BK115 := mk_ (zq6 (by exact BK115.out) hb); have NB117_115 := mk_ NB115_117.out.symm; have NB116_117 := mk_ ((by rw [hg]; exact zm2 (zr6 (by exact BK116.out)) : gb116 ≠ gb117)); replace BK116 := mk_ (zq6 (by exact BK116.out) hb); have NB117_116 := mk_ NB116_117.out.symm; clear hb hbox hg))
    replace BK115 := mk_ (zq2 BK115.out)
    replace BK116 := mk_ (zq2 BK116.out)
    replace BK117 := mk_ (zq2 BK117.out)
    replace HB := mk_ (zq9 HB.out)
    refine start_ (n := 8) (S := fun w' => w'.cell? ⟨gb115, 0, none⟩ = some (.int .i64 a0_0) ∧ w'.cell? ⟨gb115, 1, none⟩ = some (.slice A0_1 l0_1.length c0_1) ∧ w'.cell? ⟨gb116, 0, none⟩ = some (.int .i64 a1_0) ∧ w'.cell? ⟨gb116, 1, none⟩ = some (.int .i64 a1_1) ∧ w'.cell? ⟨gb116, 2, none⟩ = some (.slice A1_2 l1_2.length c1_2)) (ds := []) (bm 8 0) (by kernel_rfl) rfl rfl ⟨(zr4 BK115.out 0).trans rfl, (zr4 BK115.out 1).trans rfl, (zr4 BK116.out 0).trans rfl, (zr4 BK116.out 1).trans rfl, (zr4 BK116.out 2).trans rfl⟩ (fun hHeld => ?_); refine with_tabW impl_SegJoin_put.tab1 impl_SegJoin_put.bits1 (fun HT_ HW_ => ?_)
    generalize w9.drew = w10 at BK115 BK116 BK117 HB hHeld ⊢
    refine pA 0 (some 8) (bm 8 1) rfl rfl HT_.out (by kernel_rfl) (fun _ _ _ h => h) (by rfl) (by intro w'; go_simp; with_reducible rfl) (by simp only [Act.put, zs1, zs2, zs3, i64_w, i32_w]; rfl) ?_
    refine pA 3 (some 11) (bm 8 9) rfl rfl HT_.out (by kernel_rfl) (fun _ _ _ h => h) (by rfl) (by intro w'; go_simp; with_reducible rfl) (by simp only [Act.put, zs1, zs2, zs3, i64_w, i32_w]; rfl) ?_
    refine tA 1 (some 9) (bm 8 11) rfl rfl HT_.out HW_.out (by kernel_rfl) (fun _ _ _ h => h) (by rfl) hHeld (by rintro w' ⟨s0, s1, s2, s3, s4⟩; go_simp; with_reducible rfl) (by simp only [Act.put, zs1, zs2, zs3, i64_w, i32_w]; rfl) ?_
    refine tA 4 (some 12) (bm 8 27) rfl rfl HT_.out HW_.out (by kernel_rfl) (fun _ _ _ h => h) (by rfl) hHeld (by rintro w' ⟨s0, s1, s2, s3, s4⟩; go_simp; with_reducible rfl) (by simp only [Act.put, zs1, zs2, zs3, i64_w, i32_w]; rfl) ?_
    refine one_ (i := 2) (N := some 10) (bm 8 31) rfl rfl (one_of HT_.out (by kernel_rfl)) (by decide) (fun K hK => ?_)
    refine goes_ Try.func66 (by kernel_rfl) rfl #[.slice A0_1 l0_1.length c0_1] (by rfl) rfl rfl (by (try simp only [List.map_toArray, List.map_cons, List.map_nil]); first | done | rfl | (simp only [List.length_drop, List.length_take]; rfl)) ?_
    with_reducible refine (impl_clone_byte.tight _ _ l0_1 t118 _ ?side1 ?side2 A3.out).mono ?_
    (case side1 => repeat (first | exact (Kd.C_below HR0_1.out HB.out) | (with_reducible refine Kd.C_alloc ?_ _) | (with_reducible refine Kd.C_drewN ?_ _) | (with_reducible refine Kd.C_drew ?_)))
    (case side2 => exact HC0_1.out)
    rintro e w11 ⟨A119, rfl, ho0, hb⟩
    refine ⟨_, rfl, ?_⟩
    have HO120 := mk_ ho0
    replace BK115 := mk_ (zq6 (by exact BK115.out) hb)
    replace BK116 := mk_ (zq6 (by exact BK116.out) hb)
    replace BK117 := mk_ (zq6 (by exact BK117.out) hb)
    replace HB := mk_ (zr3 (by repeat (first | (with_reducible first | exact HB.out | apply zq7 | apply zq8 | apply zq9 | refine zr1 ?_ GE115.out | refine zr1 ?_ GE116.out | refine zr1 ?_ GE117.out) | exact HB.out)) hb)
    (try clear hb)
    (try clear hb2)
    (try clear hk)
    (try clear hi)
    (try clear ho0)
    refine hK.out _ _ ⟨(zr4 BK115.out 0).trans rfl, (zr4 BK115.out 1).trans rfl, (zr4 BK116.out 0).trans rfl, (zr4 BK116.out 1).trans rfl, (zr4 BK116.out 2).trans rfl⟩ (fun hHeld => ?_)
    clear hK K
    refine norm_ (a' := ?_) ?_ ?_
    rotate_left
    · show Act.put _ (some 10) _ = _
      simp only [Act.put, zs1, zs2, zs3, i64_w, i32_w]
      rfl
    refine one_ (i := 5) (N := some 13) (bm 8 63) rfl rfl (one_of HT_.out (by kernel_rfl)) (by decide) (fun K hK => ?_)
    refine impl_SegJoin_put.app (w0 := w) w.heap.size (by rfl) (.tmp 10) (.tmp 12) rfl Try.underlying22 info5 A119 t118 l1_2 _ _ _ rfl rfl ?aO ?aR ?aB ?aS ?aL ?_
    (case aR => repeat (first | exact (Kd.C_below HR1_2.out HB.out) | (with_reducible refine Kd.C_alloc ?_ _) | (with_reducible refine Kd.C_drewN ?_ _) | (with_reducible refine Kd.C_drew ?_)))
    (case aB => exact (by repeat (first | (with_reducible first | exact HB.out | apply zq7 | apply zq8 | apply zq9 | refine zr1 ?_ GE115.out | refine zr1 ?_ GE116.out | refine zr1 ?_ GE117.out) | exact HB.out)))
    (case aO => exact HO120.out)
    (case aS => exact (zr2 (by repeat (first | (with_reducible first | exact HB.out | apply zq7 | apply zq8 | apply zq9 | refine zr1 ?_ GE115.out | refine zr1 ?_ GE116.out | refine zr1 ?_ GE117.out) | exact HB.out))))
    (case aL => have := LMc4.out; omega)
    rw [← Ny121.out]
    intro Ao13 co13 w12 hl hb0 hb hg
    have ho := And.intro hl hb0
    have n0_ := mk_ (blk_grown (g := gb115) (o := .cells #[.int .i64 a0_0, .slice A0_1 l0_1.length c0_1] 35 (0, 0)) (by exact BK115.out) hg (by simp))
    have n1_ := mk_ (blk_grown (g := gb116) (o := .cells #[.int .i64 a1_0, .int .i64 a1_1, .slice A1_2 l1_2.length c1_2] 39 (0, 0)) (by exact BK116.out) hg (by simp))
    have n2_ := mk_ (blk_grown (g := gb117) (o := .cells #[.int .i64 0, .slice none 0 0] 35 (0, 0)) (by exact BK117.out) hg (by simp))
    have n3_ := mk_ (hb)
    have n4_ := mk_ (ho)
    clear BK115
    clear BK116
    clear BK117
    clear HB
    clear HO120
    have BK115 := n0_
    have BK116 := n1_
    have BK117 := n2_
    have HB := n3_
    have HO123 := n4_
    clear n0_ n1_ n2_ n3_ n4_
    clear ho hb hg hl hb0
    refine hK.out _ _ ⟨(zr4 BK115.out 0).trans rfl, (zr4 BK115.out 1).trans rfl, (zr4 BK116.out 0).trans rfl, (zr4 BK116.out 1).trans rfl, (zr4 BK116.out 2).trans rfl⟩ (fun hHeld => ?_)
    clear hK K
    refine norm_ (a' := ?_) ?_ ?_
    rotate_left
    · show Act.put _ (some 13) _ = _
      simp only [Act.put, zs1, zs2, zs3, i64_w, i32_w]
      rfl
    refine one_ (i := 6) (N := some 14) (bm 8 127) rfl rfl (one_of HT_.out (by kernel_rfl)) (by decide) (fun K hK => ?_)
    refine goes_ Try.func66 (by kernel_rfl) rfl #[.slice Ao13 y121.length co13] (by rfl) rfl rfl (by (try simp only [List.map_toArray, List.map_cons, List.map_nil]); first | done | rfl | (simp only [List.length_drop, List.length_take]; rfl)) ?_
    with_reducible refine (impl_clone_byte.callsw _ _ y121 t124 _ ?side1 ?side2 A5.out).mono ?_
    (case side1 => repeat (first | exact HO123.out.2 | (with_reducible refine Kd.C_alloc ?_ _) | (with_reducible refine Kd.C_drewN ?_ _) | (with_reducible refine Kd.C_drew ?_)))
    (case side2 => exact HO123.out.1)
    rintro e w14 ⟨v125, rfl, ho0, hb⟩
    refine ⟨_, rfl, ?_⟩
    have HO126 := mk_ (RR_lower (RR_mono (ok' := fun k_ => w.heap.size ≤ k_ ∧ k_ ≠ gb117) ho0 (fun k_ hk_ => ⟨Nat.le_trans (zr2 (by repeat (first | (with_reducible first | exact HB.out | apply zq7 | apply zq8 | apply zq9 | refine zr1 ?_ GE115.out | refine zr1 ?_ GE116.out | refine zr1 ?_ GE117.out) | exact HB.out))) hk_, Nat.ne_of_gt (Nat.lt_of_lt_of_le (blk_lt BK117.out) hk_)⟩)) (zr2 (by repeat (first | (with_reducible first | exact HB.out | apply zq7 | apply zq8 | apply zq9 | refine zr1 ?_ GE115.out | refine zr1 ?_ GE116.out | refine zr1 ?_ GE117.out) | exact HB.out))))
    clear HO123
    replace BK115 := mk_ (zq6 (by exact BK115.out) hb)
    replace BK116 := mk_ (zq6 (by exact BK116.out) hb)
    replace BK117 := mk_ (zq6 (by exact BK117.out) hb)
    replace HB := mk_ (zr3 (by repeat (first | (with_reducible first | exact HB.out | apply zq7 | apply zq8 | apply zq9 | refine zr1 ?_ GE115.out | refine zr1 ?_ GE116.out | refine zr1 ?_ GE117.out) | exact HB.out)) hb)
    (try clear hb)
    (try clear hb2)
    (try clear hk)
    (try clear hi)
    (try clear ho0)
    refine hK.out _ _ ⟨(zr4 BK115.out 0).trans rfl, (zr4 BK115.out 1).trans rfl, (zr4 BK116.out 0).trans rfl, (zr4 BK116.out 1).trans rfl, (zr4 BK116.out 2).trans rfl⟩ (fun hHeld => ?_)
    clear hK K
    refine norm_ (a' := ?_) ?_ ?_
    rotate_left
    · show Act.put _ (some 14) _ = _
      simp only [Act.put, zs1, zs2, zs3, i64_w, i32_w]
      rfl
    refine pA 7 (some 7) (bm 8 255) rfl rfl HT_.out (by kernel_rfl) (fun _ _ _ h => h) (by rfl) (by intro w'; go_simp; with_reducible rfl) (by simp only [Act.put, zs1, zs2, zs3, i64_w, i32_w]; rfl) ?_
    refine done_ (done_of HT_.out (by kernel_rfl)) ?_
    go_upto_region 2 with (fail)
    go_cut [15] (fun v15 wc => ∃ (kq : Nat) (x15_5 : Bool), v15 = .bool x15_5 ∧ Aside0 (impl_SegJoin_put.j0 kq t124 x15_5 a0_0 l0_1 a1_0 a1_1 l1_2 = some (r1, r2, r3, r4)) ∧ Aside0 (kq ≤ k) ∧ Aside0 (RR (Kd.int .u8) 5 wc w.heap.size (fun k_ => w.heap.size ≤ k_ ∧ k_ ≠ gb117) v125 t124) ∧ Aside0 (wc.heap[gb115]? = some (.cells #[.int .i64 a0_0, (.slice A0_1 l0_1.length c0_1)] 35 (0, 0))) ∧ Aside0 (wc.heap[gb116]? = some (.cells #[.int .i64 a1_0, .int .i64 a1_1, (.slice A1_2 l1_2.length c1_2)] 39 (0, 0))) ∧ Aside0 (wc.heap[gb117]? = some (.cells #[.int .i64 0, (.slice none 0 0)] 35 (0, 0))) ∧ Aside0 (Below w.heap.size w wc))
    case first =>
      have H := HC6.out
      clear HC6
      by_cases c15 : a1_0 = 0
      · rw [if_pos c15] at H
        have c15b0 : (a1_0 == 0) = true := beq_iff_eq.mpr c15
        have c15b1 : (a1_0 != 0) = false := bne_eq_false_iff_eq.mpr c15
        clear c15
        (first | rw [c15b0] | (simp only [i64_w, i32_w]; rw [c15b0]) | skip)
        have H' := mk_ H
        clear H
        have hnb16 := NB116_115.out
        have hnc16 := NB115_116.out
        have hnb17 := NB116_117.out
        have hnc17 := NB117_116.out
        obtain ⟨hcz18_0, hcz18_1, hcz18_2⟩ := cz3 BK116.out
        obtain ⟨hfz18_0, hfz18_1, hfz18_2⟩ := fz3 BK116.out
        have hnb19 := NB115_117.out
        have hnc19 := NB117_115.out
        obtain ⟨hcz20_0, hcz20_1⟩ := cz2 BK115.out
        obtain ⟨hfz20_0, hfz20_1⟩ := fz2 BK115.out
        go_wp2
        go_meet
        case rel => exact ⟨_, ((a0_0 == 0)), (by first | rfl | (simp; done) | (simp [*]; done)), H', ⟨by first | omega | exact Nat.le_refl _⟩, ⟨by (with_reducible repeat (first | apply RR_alloc | apply RR_drewN | apply RR_drew)); exact HO126.out⟩, ⟨by (with_reducible repeat (first | refine zq1 ?_ _ | refine zq2 ?_ | refine zq3 ?_ _)); exact BK115.out⟩, ⟨by (with_reducible repeat (first | refine zq1 ?_ _ | refine zq2 ?_ | refine zq3 ?_ _)); exact BK116.out⟩, ⟨by (with_reducible repeat (first | refine zq1 ?_ _ | refine zq2 ?_ | refine zq3 ?_ _)); exact BK117.out⟩, ⟨by repeat (first | (with_reducible first | exact HB.out | apply zq7 | apply zq8 | apply zq9 | refine zr1 ?_ GE115.out | refine zr1 ?_ GE116.out | refine zr1 ?_ GE117.out) | exact HB.out)⟩⟩
      · rw [if_neg c15] at H
        have c15b0 : (a1_0 == 0) = false := beq_eq_false_iff_ne.mpr c15
        have c15b1 : (a1_0 != 0) = true := bne_iff_ne.mpr c15
        (first | rw [c15b0] | (simp only [i64_w, i32_w]; rw [c15b0]) | skip)
        have H' := mk_ H
        clear H
        have hnb21 := NB116_115.out
        have hnc21 := NB115_116.out
        have hnb22 := NB116_117.out
        have hnc22 := NB117_116.out
        obtain ⟨hcz23_0, hcz23_1, hcz23_2⟩ := cz3 BK116.out
        obtain ⟨hfz23_0, hfz23_1, hfz23_2⟩ := fz3 BK116.out
        go_wp2
        go_meet
        case rel => exact ⟨_, (false), (by first | rfl | (simp; done) | (simp [*]; done)), H', ⟨by first | omega | exact Nat.le_refl _⟩, ⟨by (with_reducible repeat (first | apply RR_alloc | apply RR_drewN | apply RR_drew)); exact HO126.out⟩, ⟨by (with_reducible repeat (first | refine zq1 ?_ _ | refine zq2 ?_ | refine zq3 ?_ _)); exact BK115.out⟩, ⟨by (with_reducible repeat (first | refine zq1 ?_ _ | refine zq2 ?_ | refine zq3 ?_ _)); exact BK116.out⟩, ⟨by (with_reducible repeat (first | refine zq1 ?_ _ | refine zq2 ?_ | refine zq3 ?_ _)); exact BK117.out⟩, ⟨by repeat (first | (with_reducible first | exact HB.out | apply zq7 | apply zq8 | apply zq9 | refine zr1 ?_ GE115.out | refine zr1 ?_ GE116.out | refine zr1 ?_ GE117.out) | exact HB.out)⟩⟩
    case rest =>
      clear HC6
      try clear c1
      try clear c2
      try clear p2
      try clear c4
      try clear c6
      try clear c7
      try clear c15
      try clear c15b0
      try clear c15b1
      try clear c16
      try clear c17
      try clear c19
      try clear c21
      try clear c22
      try clear hcz18_0 hcz18_1 hcz18_2
      try clear hcz20_0 hcz20_1
      try clear hcz23_0 hcz23_1 hcz23_2
      try clear hfz18_0 hfz18_1 hfz18_2
      try clear hfz20_0 hfz20_1
      try clear hfz23_0 hfz23_1 hfz23_2
      obtain ⟨kq, x15_5, rfl, HA, HJ5, HO_7, BK115, BK116, BK117, HB⟩ := hcut
      cases kq with
      | zero => exact absurd HA.out (by simp [impl_SegJoin_put.j0])
      | succ kj5 =>
        have H := HA.out
        clear HA
        simp only [impl_SegJoin_put.j0] at H
        by_cases c24 : x15_5 = true
        · subst c24
          have H1 : (some (0, ([] : List Int), t124, 2)) = some (r1, r2, r3, r4) := by rw [if_pos rfl] at H; exact H
          clear H
          have H := H1
          clear H1
          simp only [Option.some.injEq, Prod.mk.injEq] at H
          obtain ⟨rfl, rfl, rfl, rfl⟩ := H
          have hnb25 := NB117_115.out
          have hnc25 := NB115_117.out
          have hnb26 := NB117_116.out
          have hnc26 := NB116_117.out
          obtain ⟨hcz27_0, hcz27_1⟩ := cz2 BK117.out
          obtain ⟨hfz27_0, hfz27_1⟩ := fz2 BK117.out
          go_wp2
          refine bodyPost_ret (results_ctt rfl _ _ gb117 35 #[.int .i64 0, .slice none 0 0] (0, 0) _ rfl (by (with_reducible repeat (first | refine zq1 ?_ _ | refine zq2 ?_ | refine zq3 ?_ _)); apply pu2; (with_reducible repeat (first | refine zq1 ?_ _ | refine zq2 ?_ | refine zq3 ?_ _)); exact BK117.out) Try.underlying35 rfl (by kernel_rfl)) rfl ?_
          exact ⟨_, _, by first | rfl | (simp [errW_none, errW_some] <;> rfl) | (simp [*, errW_none, errW_some] <;> rfl), by first | exact .inl rfl | exact .inr rfl, by first | exact Kd.R_nil _ _ _ _ _ | exact Kd.N_nil _ _ _ _ _ | exact RR_nil _ _ _ _ _ | exact Kd.Q_nil _ _ _ _ _ | exact Kd.S_nil _ _ _ _ _, by (with_reducible repeat (first | apply RR_alloc | apply RR_drewN | apply RR_drew)); exact RR_mono (RR_far (p := ⟨gb117, 1, none⟩) (RR_far (p := ⟨gb117, 0, none⟩) HO_7.out (fun _ hk => hk.2) (.int .i64 0)) (fun _ hk => hk.2) (.slice none 0 0)) (fun _ hk => hk.1), by repeat (first | (with_reducible first | exact HB.out | apply zq7 | apply zq8 | apply zq9 | refine zr1 ?_ GE115.out | refine zr1 ?_ GE116.out | refine zr1 ?_ GE117.out) | exact HB.out)⟩
        · replace c24 := Bool.eq_false_iff.mpr c24
          subst c24
          have H1 : (if a1_0 = 1 then (impl_SegJoin_put.j1 kj5 t124 (a0_0 == 0) a0_0 l0_1 a1_0 a1_1 l1_2) else (impl_SegJoin_put.j1 kj5 t124 false a0_0 l0_1 a1_0 a1_1 l1_2)) = some (r1, r2, r3, r4) := by rw [if_neg (show ¬ (false = true) by decide)] at H; exact H
          clear H
          have H := H1
          clear H1
          have HC28 := mk_ H
          clear H
          go_upto_region 4 with (fail)
          go_cut [26] (fun v26 wc => ∃ (kq : Nat) (x26_27 : Bool), v26 = .bool x26_27 ∧ Aside0 (impl_SegJoin_put.j1 kq t124 x26_27 a0_0 l0_1 a1_0 a1_1 l1_2 = some (r1, r2, r3, r4)) ∧ Aside0 (kq ≤ kj5) ∧ Aside0 (RR (Kd.int .u8) 5 wc w.heap.size (fun k_ => w.heap.size ≤ k_ ∧ k_ ≠ gb117) v125 t124) ∧ Aside0 (wc.heap[gb115]? = some (.cells #[.int .i64 a0_0, (.slice A0_1 l0_1.length c0_1)] 35 (0, 0))) ∧ Aside0 (wc.heap[gb116]? = some (.cells #[.int .i64 a1_0, .int .i64 a1_1, (.slice A1_2 l1_2.length c1_2)] 39 (0, 0))) ∧ Aside0 (wc.heap[gb117]? = some (.cells #[.int .i64 0, (.slice none 0 0)] 35 (0, 0))) ∧ Aside0 (Below w.heap.size w wc))
          case first =>
            have H := HC28.out
            clear HC28
            by_cases c29 : a1_0 = 1
            · rw [if_pos c29] at H
              have c29b0 : (a1_0 == 1) = true := beq_iff_eq.mpr c29
              have c29b1 : (a1_0 != 1) = false := bne_eq_false_iff_eq.mpr c29
              clear c29
              (first | rw [c29b0] | (simp only [i64_w, i32_w]; rw [c29b0]) | skip)
              have H' := mk_ H
              clear H
              have hnb30 := NB116_115.out
              have hnc30 := NB115_116.out
              have hnb31 := NB116_117.out
              have hnc31 := NB117_116.out
              obtain ⟨hcz32_0, hcz32_1, hcz32_2⟩ := cz3 BK116.out
              obtain ⟨hfz32_0, hfz32_1, hfz32_2⟩ := fz3 BK116.out
              have hnb33 := NB115_117.out
              have hnc33 := NB117_115.out
              obtain ⟨hcz34_0, hcz34_1⟩ := cz2 BK115.out
              obtain ⟨hfz34_0, hfz34_1⟩ := fz2 BK115.out
              go_wp2
              go_meet
              case rel => exact ⟨_, ((a0_0 == 0)), (by first | rfl | (simp; done) | (simp [*]; done)), H', ⟨by have := HJ5.out; first | omega | exact Nat.le_refl _⟩, ⟨by (with_reducible repeat (first | apply RR_alloc | apply RR_drewN | apply RR_drew)); exact HO_7.out⟩, ⟨by (with_reducible repeat (first | refine zq1 ?_ _ | refine zq2 ?_ | refine zq3 ?_ _)); exact BK115.out⟩, ⟨by (with_reducible repeat (first | refine zq1 ?_ _ | refine zq2 ?_ | refine zq3 ?_ _)); exact BK116.out⟩, ⟨by (with_reducible repeat (first | refine zq1 ?_ _ | refine zq2 ?_ | refine zq3 ?_ _)); exact BK117.out⟩, ⟨by repeat (first | (with_reducible first | exact HB.out | apply zq7 | apply zq8 | apply zq9 | refine zr1 ?_ GE115.out | refine zr1 ?_ GE116.out | refine zr1 ?_ GE117.out) | exact HB.out)⟩⟩
            · rw [if_neg c29] at H
              have c29b0 : (a1_0 == 1) = false := beq_eq_false_iff_ne.mpr c29
              have c29b1 : (a1_0 != 1) = true := bne_iff_ne.mpr c29
              (first | rw [c29b0] | (simp only [i64_w, i32_w]; rw [c29b0]) | skip)
              have H' := mk_ H
              clear H
              have hnb35 := NB116_115.out
              have hnc35 := NB115_116.out
              have hnb36 := NB116_117.out
              have hnc36 := NB117_116.out
              obtain ⟨hcz37_0, hcz37_1, hcz37_2⟩ := cz3 BK116.out
              obtain ⟨hfz37_0, hfz37_1, hfz37_2⟩ := fz3 BK116.out
              go_wp2
              go_meet
              case rel => exact ⟨_, (false), (by first | rfl | (simp; done) | (simp [*]; done)), H', ⟨by have := HJ5.out; first | omega | exact Nat.le_refl _⟩, ⟨by (with_reducible repeat (first | apply RR_alloc | apply RR_drewN | apply RR_drew)); exact HO_7.out⟩, ⟨by (with_reducible repeat (first | refine zq1 ?_ _ | refine zq2 ?_ | refine zq3 ?_ _)); exact BK115.out⟩, ⟨by (with_reducible repeat (first | refine zq1 ?_ _ | refine zq2 ?_ | refine zq3 ?_ _)); exact BK116.out⟩, ⟨by (with_reducible repeat (first | refine zq1 ?_ _ | refine zq2 ?_ | refine zq3 ?_ _)); exact BK117.out⟩, ⟨by repeat (first | (with_reducible first | exact HB.out | apply zq7 | apply zq8 | apply zq9 | refine zr1 ?_ GE115.out | refine zr1 ?_ GE116.out | refine zr1 ?_ GE117.out) | exact HB.out)⟩⟩
          case rest =>
            clear HC28
            try clear c1
            try clear c2
            try clear p2
            try clear c3
            try clear c4
            try clear c6
            try clear c7
            try clear c15
            try clear c15b0
            try clear c15b1
            try clear c16
            try clear c17
            try clear c19
            try clear c21
            try clear c22
            try clear c24
            try clear c25
            try clear c26
            try clear c29
            try clear c29b0
            try clear c29b1
            try clear c30
            try clear c31
            try clear c33
            try clear c35
            try clear c36
            try clear hcz18_0 hcz18_1 hcz18_2
            try clear hcz20_0 hcz20_1
            try clear hcz23_0 hcz23_1 hcz23_2
            try clear hcz27_0 hcz27_1
            try clear hcz32_0 hcz32_1 hcz32_2
            try clear hcz34_0 hcz34_1
            try clear hcz37_0 hcz37_1 hcz37_2
            try clear hfz18_0 hfz18_1 hfz18_2
            try clear hfz20_0 hfz20_1
            try clear hfz23_0 hfz23_1 hfz23_2
            try clear hfz27_0 hfz27_1
            try clear hfz32_0 hfz32_1 hfz32_2
            try clear hfz34_0 hfz34_1
            try clear hfz37_0 hfz37_1 hfz37_2
            try clear p2
            obtain ⟨kq, x26_27, rfl, HA, HJ27, HO_7, BK115, BK116, BK117, HB⟩ := hcut
            cases kq with
            | zero => exact absurd HA.out (by simp [impl_SegJoin_put.j1])
            | succ kj27 =>
              have H := HA.out
              clear HA
              simp only [impl_SegJoin_put.j1] at H
              by_cases c38 : x26_27 = true
              · subst c38
                have H1 : (some (a1_1, t124, ([] : List Int), 1)) = some (r1, r2, r3, r4) := by rw [if_pos rfl] at H; exact H
                clear H
                have H := H1
                clear H1
                simp only [Option.some.injEq, Prod.mk.injEq] at H
                obtain ⟨rfl, rfl, rfl, rfl⟩ := H
                have hnb39 := NB116_115.out
                have hnc39 := NB115_116.out
                have hnb40 := NB116_117.out
                have hnc40 := NB117_116.out
                obtain ⟨hcz41_0, hcz41_1, hcz41_2⟩ := cz3 BK116.out
                obtain ⟨hfz41_0, hfz41_1, hfz41_2⟩ := fz3 BK116.out
                obtain ⟨Ao42, co42, eo42⟩ := RR_slice HO_7.out
                subst eo42
                have hnb43 := NB117_115.out
                have hnc43 := NB115_117.out
                obtain ⟨hcz44_0, hcz44_1⟩ := cz2 BK117.out
                obtain ⟨hfz44_0, hfz44_1⟩ := fz2 BK117.out
                go_wp2
                refine bodyPost_ret (results_ctt rfl _ _ gb117 35 #[.int .i64 a1_1, .slice Ao42 t124.length co42] (0, 0) _ rfl (by (with_reducible repeat (first | refine zq1 ?_ _ | refine zq2 ?_ | refine zq3 ?_ _)); apply pu2; (with_reducible repeat (first | refine zq1 ?_ _ | refine zq2 ?_ | refine zq3 ?_ _)); exact BK117.out) Try.underlying35 rfl (by kernel_rfl)) rfl ?_
                exact ⟨_, _, by first | rfl | (simp [errW_none, errW_some] <;> rfl) | (simp [*, errW_none, errW_some] <;> rfl), by first | exact .inl rfl | exact .inr rfl, by (with_reducible repeat (first | apply RR_alloc | apply RR_drewN | apply RR_drew)); exact RR_mono (RR_far (p := ⟨gb117, 1, none⟩) (RR_far (p := ⟨gb117, 0, none⟩) HO_7.out (fun _ hk => hk.2) (.int .i64 a1_1)) (fun _ hk => hk.2) (.slice Ao42 t124.length co42)) (fun _ hk => hk.1), by first | exact Kd.R_nil _ _ _ _ _ | exact Kd.N_nil _ _ _ _ _ | exact RR_nil _ _ _ _ _ | exact Kd.Q_nil _ _ _ _ _ | exact Kd.S_nil _ _ _ _ _, by repeat (first | (with_reducible first | exact HB.out | apply zq7 | apply zq8 | apply zq9 | refine zr1 ?_ GE115.out | refine zr1 ?_ GE116.out | refine zr1 ?_ GE117.out) | exact HB.out)⟩
              · replace c38 := Bool.eq_false_iff.mpr c38
                subst c38
                have H1 : (if a1_0 = 2 then (if a0_0 > 0 then (impl_SegJoin_put.j2 kj27 t124 (decide ((t124.length : Int) < a0_0)) a0_0 l0_1 a1_0 a1_1 l1_2) else (impl_SegJoin_put.j2 kj27 t124 false a0_0 l0_1 a1_0 a1_1 l1_2)) else (impl_SegJoin_put.j2 kj27 t124 false a0_0 l0_1 a1_0 a1_1 l1_2)) = some (r1, r2, r3, r4) := by rw [if_neg (show ¬ (false = true) by decide)] at H; exact H
                clear H
                have H := H1
                clear H1
                have HC45 := mk_ H
                clear H
                go_upto_region 6 with (fail)
                go_cut [39] (fun v39 wc => ∃ (kq : Nat) (x39_44 : Bool), v39 = .bool x39_44 ∧ Aside0 (impl_SegJoin_put.j2 kq t124 x39_44 a0_0 l0_1 a1_0 a1_1 l1_2 = some (r1, r2, r3, r4)) ∧ Aside0 (kq ≤ kj27) ∧ Aside0 (RR (Kd.int .u8) 5 wc w.heap.size (fun k_ => w.heap.size ≤ k_ ∧ k_ ≠ gb117) v125 t124) ∧ Aside0 (wc.heap[gb115]? = some (.cells #[.int .i64 a0_0, (.slice A0_1 l0_1.length c0_1)] 35 (0, 0))) ∧ Aside0 (wc.heap[gb116]? = some (.cells #[.int .i64 a1_0, .int .i64 a1_1, (.slice A1_2 l1_2.length c1_2)] 39 (0, 0))) ∧ Aside0 (wc.heap[gb117]? = some (.cells #[.int .i64 0, (.slice none 0 0)] 35 (0, 0))) ∧ Aside0 (Below w.heap.size w wc))
                case first =>
                  have H := HC45.out
                  clear HC45
                  by_cases c46 : a1_0 = 2
                  · rw [if_pos c46] at H
                    have c46b0 : (a1_0 == 2) = true := beq_iff_eq.mpr c46
                    have c46b1 : (a1_0 != 2) = false := bne_eq_false_iff_eq.mpr c46
                    clear c46
                    (first | rw [c46b0] | (simp only [i64_w, i32_w]; rw [c46b0]) | skip)
                    by_cases c47 : a0_0 > 0
                    · rw [if_pos c47] at H
                      have c47b0 : decide (0 < a0_0) = true := decide_eq_true c47
                      clear c47
                      have H' := mk_ H
                      clear H
                      have hnb48 := NB116_115.out
                      have hnc48 := NB115_116.out
                      have hnb49 := NB116_117.out
                      have hnc49 := NB117_116.out
                      obtain ⟨hcz50_0, hcz50_1, hcz50_2⟩ := cz3 BK116.out
                      obtain ⟨hfz50_0, hfz50_1, hfz50_2⟩ := fz3 BK116.out
                      have hnb51 := NB115_117.out
                      have hnc51 := NB117_115.out
                      obtain ⟨hcz52_0, hcz52_1⟩ := cz2 BK115.out
                      obtain ⟨hfz52_0, hfz52_1⟩ := fz2 BK115.out
                      obtain ⟨Ao53, co53, eo53⟩ := RR_slice HO_7.out
                      subst eo53
                      go_wp2
                      go_meet
                      case rel => exact ⟨_, (decide ((t124.length : Int) < a0_0)), (by first | rfl | (simp; done) | (simp [*]; done)), H', ⟨by have := HJ5.out; have := HJ27.out; first | omega | exact Nat.le_refl _⟩, ⟨by (with_reducible repeat (first | apply RR_alloc | apply RR_drewN | apply RR_drew)); exact HO_7.out⟩, ⟨by (with_reducible repeat (first | refine zq1 ?_ _ | refine zq2 ?_ | refine zq3 ?_ _)); exact BK115.out⟩, ⟨by (with_reducible repeat (first | refine zq1 ?_ _ | refine zq2 ?_ | refine zq3 ?_ _)); exact BK116.out⟩, ⟨by (with_reducible repeat (first | refine zq1 ?_ _ | refine zq2 ?_ | refine zq3 ?_ _)); exact BK117.out⟩, ⟨by repeat (first | (with_reducible first | exact HB.out | apply zq7 | apply zq8 | apply zq9 | refine zr1 ?_ GE115.out | refine zr1 ?_ GE116.out | refine zr1 ?_ GE117.out) | exact HB.out)⟩⟩
                    · rw [if_neg c47] at H
                      have c47b0 : decide (0 < a0_0) = false := decide_eq_false c47
                      clear c47
                      have H' := mk_ H
                      clear H
                      have hnb54 := NB116_115.out
                      have hnc54 := NB115_116.out
                      have hnb55 := NB116_117.out
                      have hnc55 := NB117_116.out
                      obtain ⟨hcz56_0, hcz56_1, hcz56_2⟩ := cz3 BK116.out
                      obtain ⟨hfz56_0, hfz56_1, hfz56_2⟩ := fz3 BK116.out
                      have hnb57 := NB115_117.out
                      have hnc57 := NB117_115.out
                      obtain ⟨hcz58_0, hcz58_1⟩ := cz2 BK115.out
                      obtain ⟨hfz58_0, hfz58_1⟩ := fz2 BK115.out
                      go_wp2
                      go_meet
                      case rel => exact ⟨_, (false), (by first | rfl | (simp; done) | (simp [*]; done)), H', ⟨by have := HJ5.out; have := HJ27.out; first | omega | exact Nat.le_refl _⟩, ⟨by (with_reducible repeat (first | apply RR_alloc | apply RR_drewN | apply RR_drew)); exact HO_7.out⟩, ⟨by (with_reducible repeat (first | refine zq1 ?_ _ | refine zq2 ?_ | refine zq3 ?_ _)); exact BK115.out⟩, ⟨by (with_reducible repeat (first | refine zq1 ?_ _ | refine zq2 ?_ | refine zq3 ?_ _)); exact BK116.out⟩, ⟨by (with_reducible repeat (first | refine zq1 ?_ _ | refine zq2 ?_ | refine zq3 ?_ _)); exact BK117.out⟩, ⟨by repeat (first | (with_reducible first | exact HB.out | apply zq7 | apply zq8 | apply zq9 | refine zr1 ?_ GE115.out | refine zr1 ?_ GE116.out | refine zr1 ?_ GE117.out) | exact HB.out)⟩⟩
                  · rw [if_neg c46] at H
                    have c46b0 : (a1_0 == 2) = false := beq_eq_false_iff_ne.mpr c46
                    have c46b1 : (a1_0 != 2) = true := bne_iff_ne.mpr c46
                    (first | rw [c46b0] | (simp only [i64_w, i32_w]; rw [c46b0]) | skip)
                    have H' := mk_ H
                    clear H
                    have hnb59 := NB116_115.out
                    have hnc59 := NB115_116.out
                    have hnb60 := NB116_117.out
                    have hnc60 := NB117_116.out
                    obtain ⟨hcz61_0, hcz61_1, hcz61_2⟩ := cz3 BK116.out
                    obtain ⟨hfz61_0, hfz61_1, hfz61_2⟩ := fz3 BK116.out
                    go_wp2
                    go_meet
                    case rel => exact ⟨_, (false), (by first | rfl | (simp; done) | (simp [*]; done)), H', ⟨by have := HJ5.out; have := HJ27.out; first | omega | exact Nat.le_refl _⟩, ⟨by (with_reducible repeat (first | apply RR_alloc | apply RR_drewN | apply RR_drew)); exact HO_7.out⟩, ⟨by (with_reducible repeat (first | refine zq1 ?_ _ | refine zq2 ?_ | refine zq3 ?_ _)); exact BK115.out⟩, ⟨by (with_reducible repeat (first | refine zq1 ?_ _ | refine zq2 ?_ | refine zq3 ?_ _)); exact BK116.out⟩, ⟨by (with_reducible repeat (first | refine zq1 ?_ _ | refine zq2 ?_ | refine zq3 ?_ _)); exact BK117.out⟩, ⟨by repeat (first | (with_reducible first | exact HB.out | apply zq7 | apply zq8 | apply zq9 | refine zr1 ?_ GE115.out | refine zr1 ?_ GE116.out | refine zr1 ?_ GE117.out) | exact HB.out)⟩⟩
                case rest =>
                  clear HC45
                  try clear c1
                  try clear c2
                  try clear p2
                  try clear c3
                  try clear c4
                  try clear c5
                  try clear c6
                  try clear c7
                  try clear c15
                  try clear c15b0
                  try clear c15b1
                  try clear c16
                  try clear c17
                  try clear c19
                  try clear c21
                  try clear c22
                  try clear c24
                  try clear c25
                  try clear c26
                  try clear c29
                  try clear c29b0
                  try clear c29b1
                  try clear c30
                  try clear c31
                  try clear c33
                  try clear c35
                  try clear c36
                  try clear c38
                  try clear c39
                  try clear c40
                  try clear c43
                  try clear c46
                  try clear c46b0
                  try clear c46b1
                  try clear c47
                  try clear c47b0
                  try clear c48
                  try clear c49
                  try clear c51
                  try clear c54
                  try clear c55
                  try clear c57
                  try clear c59
                  try clear c60
                  try clear hcz18_0 hcz18_1 hcz18_2
                  try clear hcz20_0 hcz20_1
                  try clear hcz23_0 hcz23_1 hcz23_2
                  try clear hcz27_0 hcz27_1
                  try clear hcz32_0 hcz32_1 hcz32_2
                  try clear hcz34_0 hcz34_1
                  try clear hcz37_0 hcz37_1 hcz37_2
                  try clear hcz41_0 hcz41_1 hcz41_2
                  try clear hcz44_0 hcz44_1
                  try clear hcz50_0 hcz50_1 hcz50_2
                  try clear hcz52_0 hcz52_1
                  try clear hcz56_0 hcz56_1 hcz56_2
                  try clear hcz58_0 hcz58_1
                  try clear hcz61_0 hcz61_1 hcz61_2
                  try clear hfz18_0 hfz18_1 hfz18_2
                  try clear hfz20_0 hfz20_1
                  try clear hfz23_0 hfz23_1 hfz23_2
                  try clear hfz27_0 hfz27_1
                  try clear hfz32_0 hfz32_1 hfz32_2
                  try clear hfz34_0 hfz34_1
                  try clear hfz37_0 hfz37_1 hfz37_2
                  try clear hfz41_0 hfz41_1 hfz41_2
                  try clear hfz44_0 hfz44_1
                  try clear hfz50_0 hfz50_1 hfz50_2
                  try clear hfz52_0 hfz52_1
                  try clear hfz56_0 hfz56_1 hfz56_2
                  try clear hfz58_0 hfz58_1
                  try clear hfz61_0 hfz61_1 hfz61_2
                  try clear p2
                  obtain ⟨kq, x39_44, rfl, HA, HJ44, HO_7, BK115, BK116, BK117, HB⟩ := hcut
                  cases kq with
                  | zero => exact absurd HA.out (by simp [impl_SegJoin_put.j2])
                  | succ kj44 =>
                    have H := HA.out
                    clear HA
                    simp only [impl_SegJoin_put.j2] at H
                    by_cases c62 : x39_44 = true
                    · subst c62
                      have H1 : (some (a0_0, t124, ([] : List Int), 1)) = some (r1, r2, r3, r4) := by rw [if_pos rfl] at H; exact H
                      clear H
                      have H := H1
                      clear H1
                      simp only [Option.some.injEq, Prod.mk.injEq] at H
                      obtain ⟨rfl, rfl, rfl, rfl⟩ := H
                      have hnb63 := NB115_116.out
                      have hnc63 := NB116_115.out
                      have hnb64 := NB115_117.out
                      have hnc64 := NB117_115.out
                      obtain ⟨hcz65_0, hcz65_1⟩ := cz2 BK115.out
                      obtain ⟨hfz65_0, hfz65_1⟩ := fz2 BK115.out
                      obtain ⟨Ao66, co66, eo66⟩ := RR_slice HO_7.out
                      subst eo66
                      have hnb67 := NB117_116.out
                      have hnc67 := NB116_117.out
                      obtain ⟨hcz68_0, hcz68_1⟩ := cz2 BK117.out
                      obtain ⟨hfz68_0, hfz68_1⟩ := fz2 BK117.out
                      go_wp2
                      refine bodyPost_ret (results_ctt rfl _ _ gb117 35 #[.int .i64 a0_0, .slice Ao66 t124.length co66] (0, 0) _ rfl (by (with_reducible repeat (first | refine zq1 ?_ _ | refine zq2 ?_ | refine zq3 ?_ _)); apply pu2; (with_reducible repeat (first | refine zq1 ?_ _ | refine zq2 ?_ | refine zq3 ?_ _)); exact BK117.out) Try.underlying35 rfl (by kernel_rfl)) rfl ?_
                      exact ⟨_, _, by first | rfl | (simp [errW_none, errW_some] <;> rfl) | (simp [*, errW_none, errW_some] <;> rfl), by first | exact .inl rfl | exact .inr rfl, by (with_reducible repeat (first | apply RR_alloc | apply RR_drewN | apply RR_drew)); exact RR_mono (RR_far (p := ⟨gb117, 1, none⟩) (RR_far (p := ⟨gb117, 0, none⟩) HO_7.out (fun _ hk => hk.2) (.int .i64 a0_0)) (fun _ hk => hk.2) (.slice Ao66 t124.length co66)) (fun _ hk => hk.1), by first | exact Kd.R_nil _ _ _ _ _ | exact Kd.N_nil _ _ _ _ _ | exact RR_nil _ _ _ _ _ | exact Kd.Q_nil _ _ _ _ _ | exact Kd.S_nil _ _ _ _ _, by repeat (first | (with_reducible first | exact HB.out | apply zq7 | apply zq8 | apply zq9 | refine zr1 ?_ GE115.out | refine zr1 ?_ GE116.out | refine zr1 ?_ GE117.out) | exact HB.out)⟩
                    · replace c62 := Bool.eq_false_iff.mpr c62
                      subst c62
                      have H1 : (if a1_0 = 3 then (if a0_0 > 0 then (if (t124.length : Int) = a0_0 then (some (0, ([] : List Int), t124, 2)) else (some (0, ([] : List Int), ([] : List Int), 3))) else (some (0, ([] : List Int), ([] : List Int), 3))) else (some (0, ([] : List Int), ([] : List Int), 3))) = some (r1, r2, r3, r4) := by rw [if_neg (show ¬ (false = true) by decide)] at H; exact H
                      clear H
                      have H := H1
                      clear H1
                      by_cases c69 : a1_0 = 3
                      · rw [if_pos c69] at H
                        have c69b0 : (a1_0 == 3) = true := beq_iff_eq.mpr c69
                        have c69b1 : (a1_0 != 3) = false := bne_eq_false_iff_eq.mpr c69
                        clear c69
                        by_cases c70 : a0_0 > 0
                        · rw [if_pos c70] at H
                          have c70b0 : decide (0 < a0_0) = true := decide_eq_true c70
                          clear c70
                          by_cases c71 : (t124.length : Int) = a0_0
                          · rw [if_pos c71] at H
                            have c71b0 : ((t124.length : Int) == a0_0) = true := beq_iff_eq.mpr c71
                            have c71b1 : ((t124.length : Int) != a0_0) = false := bne_eq_false_iff_eq.mpr c71
                            clear c71
                            simp only [Option.some.injEq, Prod.mk.injEq] at H
                            obtain ⟨rfl, rfl, rfl, rfl⟩ := H
                            have hnb72 := NB116_115.out
                            have hnc72 := NB115_116.out
                            have hnb73 := NB116_117.out
                            have hnc73 := NB117_116.out
                            obtain ⟨hcz74_0, hcz74_1, hcz74_2⟩ := cz3 BK116.out
                            obtain ⟨hfz74_0, hfz74_1, hfz74_2⟩ := fz3 BK116.out
                            have hnb75 := NB115_117.out
                            have hnc75 := NB117_115.out
                            obtain ⟨hcz76_0, hcz76_1⟩ := cz2 BK115.out
                            obtain ⟨hfz76_0, hfz76_1⟩ := fz2 BK115.out
                            obtain ⟨Ao77, co77, eo77⟩ := RR_slice HO_7.out
                            subst eo77
                            obtain ⟨hcz78_0, hcz78_1⟩ := cz2 BK117.out
                            obtain ⟨hfz78_0, hfz78_1⟩ := fz2 BK117.out
                            go_wp2
                            refine bodyPost_ret (results_ctt rfl _ _ gb117 35 #[.int .i64 0, .slice none 0 0] (0, 0) _ rfl (by (with_reducible repeat (first | refine zq1 ?_ _ | refine zq2 ?_ | refine zq3 ?_ _)); apply pu2; (with_reducible repeat (first | refine zq1 ?_ _ | refine zq2 ?_ | refine zq3 ?_ _)); exact BK117.out) Try.underlying35 rfl (by kernel_rfl)) rfl ?_
                            exact ⟨_, _, by first | rfl | (simp [errW_none, errW_some] <;> rfl) | (simp [*, errW_none, errW_some] <;> rfl), by first | exact .inl rfl | exact .inr rfl, by first | exact Kd.R_nil _ _ _ _ _ | exact Kd.N_nil _ _ _ _ _ | exact RR_nil _ _ _ _ _ | exact Kd.Q_nil _ _ _ _ _ | exact Kd.S_nil _ _ _ _ _, by (with_reducible repeat (first | apply RR_alloc | apply RR_drewN | apply RR_drew)); exact RR_mono (RR_far (p := ⟨gb117, 1, none⟩) (RR_far (p := ⟨gb117, 0, none⟩) HO_7.out (fun _ hk => hk.2) (.int .i64 0)) (fun _ hk => hk.2) (.slice none 0 0)) (fun _ hk => hk.1), by repeat (first | (with_reducible first | exact HB.out | apply zq7 | apply zq8 | apply zq9 | refine zr1 ?_ GE115.out | refine zr1 ?_ GE116.out | refine zr1 ?_ GE117.out) | exact HB.out)⟩
                          · rw [if_neg c71] at H
                            have c71b0 : ((t124.length : Int) == a0_0) = false := beq_eq_false_iff_ne.mpr c71
                            have c71b1 : ((t124.length : Int) != a0_0) = true := bne_iff_ne.mpr c71
                            simp only [Option.some.injEq, Prod.mk.injEq] at H
                            obtain ⟨rfl, rfl, rfl, rfl⟩ := H
                            have hnb79 := NB116_115.out
                            have hnc79 := NB115_116.out
                            have hnb80 := NB116_117.out
                            have hnc80 := NB117_116.out
                            obtain ⟨hcz81_0, hcz81_1, hcz81_2⟩ := cz3 BK116.out
                            obtain ⟨hfz81_0, hfz81_1, hfz81_2⟩ := fz3 BK116.out
                            have hnb82 := NB115_117.out
                            have hnc82 := NB117_115.out
                            obtain ⟨hcz83_0, hcz83_1⟩ := cz2 BK115.out
                            obtain ⟨hfz83_0, hfz83_1⟩ := fz2 BK115.out
                            obtain ⟨Ao84, co84, eo84⟩ := RR_slice HO_7.out
                            subst eo84
                            obtain ⟨hcz85_0, hcz85_1⟩ := cz2 BK117.out
                            obtain ⟨hfz85_0, hfz85_1⟩ := fz2 BK117.out
                            go_wp2
                            refine bodyPost_ret (results_ctt rfl _ _ gb117 35 #[.int .i64 0, .slice none 0 0] (0, 0) _ rfl (by (with_reducible repeat (first | refine zq1 ?_ _ | refine zq2 ?_ | refine zq3 ?_ _)); apply pu2; (with_reducible repeat (first | refine zq1 ?_ _ | refine zq2 ?_ | refine zq3 ?_ _)); exact BK117.out) Try.underlying35 rfl (by kernel_rfl)) rfl ?_
                            exact ⟨_, _, by first | rfl | (simp [errW_none, errW_some] <;> rfl) | (simp [*, errW_none, errW_some] <;> rfl), by first | exact .inl rfl | exact .inr rfl, by first | exact Kd.R_nil _ _ _ _ _ | exact Kd.N_nil _ _ _ _ _ | exact RR_nil _ _ _ _ _ | exact Kd.Q_nil _ _ _ _ _ | exact Kd.S_nil _ _ _ _ _, by first | exact Kd.R_nil _ _ _ _ _ | exact Kd.N_nil _ _ _ _ _ | exact RR_nil _ _ _ _ _ | exact Kd.Q_nil _ _ _ _ _ | exact Kd.S_nil _ _ _ _ _, by repeat (first | (with_reducible first | exact HB.out | apply zq7 | apply zq8 | apply zq9 | refine zr1 ?_ GE115.out | refine zr1 ?_ GE116.out | refine zr1 ?_ GE117.out) | exact HB.out)⟩
                        · rw [if_neg c70] at H
                          have c70b0 : decide (0 < a0_0) = false := decide_eq_false c70
                          clear c70
                          simp only [Option.some.injEq, Prod.mk.injEq] at H
                          obtain ⟨rfl, rfl, rfl, rfl⟩ := H
                          have hnb86 := NB116_115.out
                          have hnc86 := NB115_116.out
                          have hnb87 := NB116_117.out
                          have hnc87 := NB117_116.out
                          obtain ⟨hcz88_0, hcz88_1, hcz88_2⟩ := cz3 BK116.out
                          obtain ⟨hfz88_0, hfz88_1, hfz88_2⟩ := fz3 BK116.out
                          have hnb89 := NB115_117.out
                          have hnc89 := NB117_115.out
                          obtain ⟨hcz90_0, hcz90_1⟩ := cz2 BK115.out
                          obtain ⟨hfz90_0, hfz90_1⟩ := fz2 BK115.out
                          obtain ⟨hcz91_0, hcz91_1⟩ := cz2 BK117.out
                          obtain ⟨hfz91_0, hfz91_1⟩ := fz2 BK117.out
                          go_wp2
                          refine bodyPost_ret (results_ctt rfl _ _ gb117 35 #[.int .i64 0, .slice none 0 0] (0, 0) _ rfl (by (with_reducible repeat (first | refine zq1 ?_ _ | refine zq2 ?_ | refine zq3 ?_ _)); apply pu2; (with_reducible repeat (first | refine zq1 ?_ _ | refine zq2 ?_ | refine zq3 ?_ _)); exact BK117.out) Try.underlying35 rfl (by kernel_rfl)) rfl ?_
                          exact ⟨_, _, by first | rfl | (simp [errW_none, errW_some] <;> rfl) | (simp [*, errW_none, errW_some] <;> rfl), by first | exact .inl rfl | exact .inr rfl, by first | exact Kd.R_nil _ _ _ _ _ | exact Kd.N_nil _ _ _ _ _ | exact RR_nil _ _ _ _ _ | exact Kd.Q_nil _ _ _ _ _ | exact Kd.S_nil _ _ _ _ _, by first | exact Kd.R_nil _ _ _ _ _ | exact Kd.N_nil _ _ _ _ _ | exact RR_nil _ _ _ _ _ | exact Kd.Q_nil _ _ _ _ _ | exact Kd.S_nil _ _ _ _ _, by repeat (first | (with_reducible first | exact HB.out | apply zq7 | apply zq8 | apply zq9 | refine zr1 ?_ GE115.out | refine zr1 ?_ GE116.out | refine zr1 ?_ GE117.out) | exact HB.out)⟩
                      · rw [if_neg c69] at H
                        have c69b0 : (a1_0 == 3) = false := beq_eq_false_iff_ne.mpr c69
                        have c69b1 : (a1_0 != 3) = true := bne_iff_ne.mpr c69
                        simp only [Option.some.injEq, Prod.mk.injEq] at H
                        obtain ⟨rfl, rfl, rfl, rfl⟩ := H
                        have hnb92 := NB116_115.out
                        have hnc92 := NB115_116.out
                        have hnb93 := NB116_117.out
                        have hnc93 := NB117_116.out
                        obtain ⟨hcz94_0, hcz94_1, hcz94_2⟩ := cz3 BK116.out
                        obtain ⟨hfz94_0, hfz94_1, hfz94_2⟩ := fz3 BK116.out
                        have hnb95 := NB117_115.out
                        have hnc95 := NB115_117.out
                        obtain ⟨hcz96_0, hcz96_1⟩ := cz2 BK117.out
                        obtain ⟨hfz96_0, hfz96_1⟩ := fz2 BK117.out
                        go_wp2
                        refine bodyPost_ret (results_ctt rfl _ _ gb117 35 #[.int .i64 0, .slice none 0 0] (0, 0) _ rfl (by (with_reducible repeat (first | refine zq1 ?_ _ | refine zq2 ?_ | refine zq3 ?_ _)); apply pu2; (with_reducible repeat (first | refine zq1 ?_ _ | refine zq2 ?_ | refine zq3 ?_ _)); exact BK117.out) Try.underlying35 rfl (by kernel_rfl)) rfl ?_
                        exact ⟨_, _, by first | rfl | (simp [errW_none, errW_some] <;> rfl) | (simp [*, errW_none, errW_some] <;> rfl), by first | exact .inl rfl | exact .inr rfl, by first | exact Kd.R_nil _ _ _ _ _ | exact Kd.N_nil _ _ _ _ _ | exact RR_nil _ _ _ _ _ | exact Kd.Q_nil _ _ _ _ _ | exact Kd.S_nil _ _ _ _ _, by first | exact Kd.R_nil _ _ _ _ _ | exact Kd.N_nil _ _ _ _ _ | exact RR_nil _ _ _ _ _ | exact Kd.Q_nil _ _ _ _ _ | exact Kd.S_nil _ _ _ _ _, by repeat (first | (with_reducible first | exact HB.out | apply zq7 | apply zq8 | apply zq9 | refine zr1 ?_ GE115.out | refine zr1 ?_ GE116.out | refine zr1 ?_ GE117.out) | exact HB.out)⟩
  · rw [if_neg c4] at H
    exact absurd H (by simp)
theorem impl_SegJoin_put.calls (k : Nat) (a0_0 : Int) (A0_1 : Option Addr) (c0_1 : Nat) (l0_1 : List Int) (a1_0 : Int) (a1_1 : Int) (A1_2 : Option Addr) (c1_2 : Nat) (l1_2 : List Int) (r1 : Int) (r2 : List Int) (r3 : List Int) (r4 : Int) (w : World) (hr0_1 : Kd.C (Kd.int .u8) w A0_1 l0_1.length l0_1) (hc0_1 : l0_1.length ≤ c0_1) (hr1_2 : Kd.C (Kd.int .u8) w A1_2 l1_2.length l1_2) (hc1_2 : l1_2.length ≤ c1_2) (h : impl_SegJoin_put.f k a0_0 l0_1 a1_0 a1_1 l1_2 = some (r1, r2, r3, r4)) :
  Calls Try.prog 73 #[.agg #[.int .i64 a0_0,.slice A0_1 l0_1.length c0_1],.agg #[.int .i64 a1_0,.int .i64 a1_1,.slice A1_2 l1_2.length c1_2]] w fun e w'=>∃ v1_ v2_:Value,e=.returned (.tuple #[.agg #[.int .i64 r1,v1_],v2_,.int .i64 r4])∧RR ku 5 w' w.heap.size (fun k_=>some k_≠(v2_:Value).ownBlock) v1_ r2∧RR ku 5 w' w.heap.size (fun k_=>some k_≠(v1_:Value).ownBlock) v2_ r3∧Below w.heap.size w w':=by
 refine (impl_SegJoin_put.callsw k a0_0 A0_1 c0_1 l0_1 a1_0 a1_1 A1_2 c1_2 l1_2 r1 r2 r3 r4 w hr0_1 hc0_1 hr1_2 hc1_2 h).mono ?_
 rintro e w' ⟨v1,v2,rfl,h0,h1,h2,hb⟩
 refine ⟨v1,v2,rfl,?_,?_,hb⟩
 ·rcases h0 with rfl|rfl
  ·refine RR_reok rfl h1 (fun k_ hk_=>?_)
   simp [Value.ownBlock] at hk_
  ·exact RR_mono h1 (fun k_ hk_=>by simp [Value.ownBlock])
 ·rcases h0 with rfl|rfl
  ·exact RR_mono h2 (fun k_ hk_=>by simp [Value.ownBlock])
  ·refine RR_reok rfl h2 (fun k_ hk_=>?_)
   simp [Value.ownBlock] at hk_

end Go.Proofs.Yteknaofnageihaa.QFnExactSegPut
