/- Blocks of a call's own, told as a list: laws of walking for functions whose memory is their own variables. -/
import Derived.Test.YteknaofnageihaaWMore
import Derived.Test.YteknaofnageihaaWInvWords
namespace Go.Proofs.YteknaofnageihaaLoc
open Go.RowKit Go.Proofs.YteknaofnageihaaW.PrintWords Go.Proofs.YteknaofnageihaaW.PrintLast Go.Proofs.YteknaofnageihaaW.PrintMore
set_option linter.unusedVariables false
abbrev Blk := Nat × List Value × TypeId
/-- w stands behind w0 (nothing elder has turned), and holds these blocks, each its own. -/
structure Lok (w0 w : World) (H : List Blk) : Prop where
  bel : Below w0.heap.size w0 w
  all : ∀ x ∈ H, w.heap[x.1]? = some (.cells x.2.1.toArray x.2.2 (0, 0)) ∧ w0.heap.size ≤ x.1
  ne : (H.map Prod.fst).Nodup
/-- cells from k on replaced by vs. -/
inductive Spl : Nat → List Value → List Value → List Value → Prop where
  | done {cs : List Value} : Spl 0 [] cs cs
  | put {v c : Value} {vs cs cs' : List Value} (h : Spl 0 vs cs cs') : Spl 0 (v :: vs) (c :: cs) (v :: cs')
  | skip {k : Nat} {c : Value} {vs cs cs' : List Value} (h : Spl k vs cs cs') : Spl (k + 1) vs (c :: cs) (c :: cs')
/-- n cells from k on. -/
inductive Sel : Nat → Nat → List Value → List Value → Prop where
  | done {cs : List Value} : Sel 0 0 cs []
  | take {n : Nat} {c : Value} {cs vs : List Value} (h : Sel 0 n cs vs) : Sel 0 (n + 1) (c :: cs) (c :: vs)
  | skip {k n : Nat} {c : Value} {cs vs : List Value} (h : Sel k n cs vs) : Sel (k + 1) n (c :: cs) vs
inductive Upd : List Blk → Nat → Nat → List Value → List Blk → Prop where
  | here {g k : Nat} {t : TypeId} {cs cs' vs : List Value} {H : List Blk} (h : Spl k vs cs cs') : Upd ((g, cs, t) :: H) g k vs ((g, cs', t) :: H)
  | next {g k : Nat} {x : Blk} {vs : List Value} {H H' : List Blk} (h : Upd H g k vs H') : Upd (x :: H) g k vs (x :: H')
inductive Has : List Blk → Nat → List Value → TypeId → Prop where
  | here {g : Nat} {t : TypeId} {cs : List Value} {H : List Blk} : Has ((g, cs, t) :: H) g cs t
  | next {g : Nat} {t : TypeId} {cs : List Value} {x : Blk} {H : List Blk} (h : Has H g cs t) : Has (x :: H) g cs t
inductive Get : List Blk → Nat → Nat → Nat → List Value → Prop where
  | here {g k n : Nat} {t : TypeId} {cs vs : List Value} {H : List Blk} (h : Sel k n cs vs) : Get ((g, cs, t) :: H) g k n vs
  | next {g k n : Nat} {x : Blk} {vs : List Value} {H : List Blk} (h : Get H g k n vs) : Get (x :: H) g k n vs
theorem Spl.whole : ∀ {cs vs : List Value}, cs.length = vs.length → Spl 0 vs cs vs
  | [], [], _ => .done
  | c :: cs, v :: vs, h => .put (Spl.whole (by simpa using h))
theorem Upd.whole {g : Nat} {t : TypeId} {cs vs : List Value} {H : List Blk} (h : cs.length = vs.length) : Upd ((g, cs, t) :: H) g 0 vs ((g, vs, t) :: H) := .here (Spl.whole h)
theorem Sel.spec : ∀ {k n : Nat} {cs vs : List Value}, Sel k n cs vs → vs.length = n ∧ ∀ j v, vs[j]? = some v → cs[k + j]? = some v := by
  intro k n cs vs h
  induction h with
  | done => exact ⟨rfl, fun j v h => by simp at h⟩
  | take h ih =>
    obtain ⟨h1, h2⟩ := ih
    refine ⟨by simp [h1], fun j v hv => ?_⟩
    cases j with
    | zero => simpa using hv
    | succ j =>
      have := h2 j v (by simpa using hv)
      simpa using this
  | skip h ih =>
    obtain ⟨h1, h2⟩ := ih
    refine ⟨h1, fun j v hv => ?_⟩
    have := h2 j v hv
    rw [Nat.add_right_comm]
    simpa using this
theorem Get.spec {H : List Blk} {g k n : Nat} {vs : List Value} (h : Get H g k n vs) : vs.length = n ∧ ∃ cs t, (g, cs, t) ∈ H ∧ ∀ j v, vs[j]? = some v → cs[k + j]? = some v := by
  induction h with
  | here h => exact ⟨h.spec.1, _, _, List.mem_cons_self, h.spec.2⟩
  | next h ih =>
    obtain ⟨h1, cs, t, h2, h3⟩ := ih
    exact ⟨h1, cs, t, List.mem_cons_of_mem _ h2, h3⟩
theorem Spl.len {k : Nat} {vs cs cs' : List Value} (h : Spl k vs cs cs') : cs'.length = cs.length ∧ k + vs.length ≤ cs.length := by
  induction h with
  | done => exact ⟨rfl, by simp⟩
  | put h ih => simp only [List.length_cons]; omega
  | skip h ih => simp only [List.length_cons]; omega
/-- The store of one cell more ahead: how a splice is set step by step. -/
theorem Spl.step {k : Nat} {v : Value} {vs cs cs' : List Value} (h : Spl k (v :: vs) cs cs') : ∃ c1, cs.toArray.setIfInBounds k v = c1.toArray ∧ Spl (k + 1) vs c1 cs' := by
  generalize e : v :: vs = us at h
  induction h generalizing v vs with
  | done => cases e
  | put h ih =>
    injection e with e1 e2
    subst e1 e2
    exact ⟨_ :: _, by simp, .skip h⟩
  | skip h ih =>
    obtain ⟨c1, h1, h2⟩ := ih e
    refine ⟨_ :: c1, ?_, .skip h2⟩
    have h3 := congrArg Array.toList h1
    simp only [Array.toList_setIfInBounds] at h3
    apply Array.ext'
    simp [h3]
section
variable {w0 w w1 : World} {H H' : List Blk} {g k n : Nat} {vs : List Value}
theorem Lok.start (w : World) : Lok w w [] := ⟨Below.refl _ _, fun _ h => by simp at h, by simp⟩
theorem Lok.get (h : Lok w0 w H) (hg : Get H g k n vs) : vs.length = n ∧ ∀ j v, vs[j]? = some v → w.cell? ⟨g, k + j, none⟩ = some v := by
  obtain ⟨h1, cs, t, h2, h3⟩ := hg.spec
  refine ⟨h1, fun j v hv => ?_⟩
  have h4 := (h.all _ h2).1
  have h5 := h3 j v hv
  simp only [World.cell?, h4]
  simpa using h5
theorem Lok.blk {cs : List Value} {t : TypeId} (h : Lok w0 w H) (hh : Has H g cs t) : w.heap[g]? = some (.cells cs.toArray t (0, 0)) := by
  refine (h.all (g, cs, t) ?_).1
  clear h
  induction hh with
  | here => exact List.mem_cons_self
  | next _ ih => exact List.mem_cons_of_mem _ ih
theorem Lok.drew (h : Lok w0 w H) : Lok w0 w.drew H := ⟨below_drew1 h.bel, h.all, h.ne⟩
theorem Lok.drewN (h : Lok w0 w H) (m : Nat) : Lok w0 (w.drewN m) H := ⟨pw_below_drewN h.bel m, h.all, h.ne⟩
theorem Lok.call (h : Lok w0 w H) (hb : Below w.heap.size w w1) : Lok w0 w1 H := ⟨below_step h.bel hb, fun x hx => ⟨blk_below (h.all x hx).1 hb, (h.all x hx).2⟩, h.ne⟩
theorem Lok.drawn (h : Lok w0 w H) (hb : Drawn0 w w1) : Lok w0 w1 H := by
  obtain ⟨m, rfl⟩ := hb.out
  exact h.drewN m
theorem Lok.new (h : Lok w0 w H) (cs : List Value) (t : TypeId) : Lok w0 (w.alloc (.cells cs.toArray t (0, 0))) ((w.heap.size, cs, t) :: H) := by
  refine ⟨below_alloc h.bel _, fun x hx => ?_, ?_⟩
  · rcases List.mem_cons.1 hx with rfl | hx
    · exact ⟨blk_new w _, h.bel.size⟩
    · exact ⟨blk_alloc (h.all x hx).1 _, (h.all x hx).2⟩
  · simp only [List.map_cons, List.nodup_cons]
    refine ⟨fun hm => ?_, h.ne⟩
    obtain ⟨x, hx, e⟩ := List.mem_map.1 hm
    have := blk_lt (h.all x hx).1
    omega
theorem Upd.spec (h : Upd H g k vs H') : ∃ A cs t B cs', H = A ++ (g, cs, t) :: B ∧ H' = A ++ (g, cs', t) :: B ∧ Spl k vs cs cs' := by
  induction h with
  | here h => exact ⟨[], _, _, _, _, rfl, rfl, h⟩
  | next _ ih =>
    obtain ⟨A, cs, t, B, cs', rfl, rfl, h⟩ := ih
    exact ⟨_ :: A, cs, t, B, cs', rfl, rfl, h⟩
/-- One cell is set. -/
theorem Lok.set1 {A B : List Blk} {cs : List Value} {t : TypeId} (h : Lok w0 w (A ++ (g, cs, t) :: B)) (u : Value) {c1 : List Value} (e : cs.toArray.setIfInBounds k u = c1.toArray) : Lok w0 (w.setCell ⟨g, k, none⟩ u) (A ++ (g, c1, t) :: B) := by
  have hm : (g, cs, t) ∈ A ++ (g, cs, t) :: B := by simp
  refine ⟨below_set h.bel (h.all _ hm).2, fun x hx => ?_, ?_⟩
  · rcases List.mem_append.1 hx with hx | hx
    · have hne : x.1 ≠ g := by
        intro e
        have hnd := h.ne
        rw [List.map_append, List.nodup_append] at hnd
        exact hnd.2.2 x.1 (List.mem_map.2 ⟨x, hx, rfl⟩) g (by simp) e
      have hx' := h.all x (List.mem_append.2 (.inl hx))
      exact ⟨blk_far hx'.1 hne u, hx'.2⟩
    · rcases List.mem_cons.1 hx with rfl | hx
      · exact ⟨blk_put (h.all _ hm).1 k u e, (h.all _ hm).2⟩
      · have hne : x.1 ≠ g := by
          intro e
          have hnd := h.ne
          rw [List.map_append, List.nodup_append, List.map_cons, List.nodup_cons] at hnd
          exact hnd.2.1.1 (e ▸ List.mem_map.2 ⟨x, hx, rfl⟩)
        have hx' := h.all x (List.mem_append.2 (.inr (List.mem_cons_of_mem _ hx)))
        exact ⟨blk_far hx'.1 hne u, hx'.2⟩
  · have := h.ne
    simpa using this
theorem setCells_loc : ∀ (vs : List Value) (k : Nat) {w : World} {A B : List Blk} {cs cs' : List Value} {t : TypeId}, Lok w0 w (A ++ (g, cs, t) :: B) → Spl k vs cs cs' → Lok w0 (w.setCells g k vs) (A ++ (g, cs', t) :: B)
  | [], k, w, A, B, cs, cs', t, h, hs => by
    have e : cs' = cs := by
      clear h
      generalize e : ([] : List Value) = us at hs
      induction hs with
      | done => rfl
      | put h ih => cases e
      | skip h ih => rw [ih e]
    subst e
    exact h
  | v :: vs, k, w, A, B, cs, cs', t, h, hs => by
    obtain ⟨c1, h1, h2⟩ := hs.step
    exact setCells_loc vs (k + 1) (h.set1 v h1) h2
theorem Lok.upd (h : Lok w0 w H) (hu : Upd H g k vs H') : Lok w0 (w.setCells g k vs) H' := by
  obtain ⟨A, cs, t, B, cs', rfl, rfl, hs⟩ := hu.spec
  exact setCells_loc vs k h hs
theorem Lok.upd_there (h : Lok w0 w H) (hu : Upd H g k vs H') : (∀ j, j < vs.length → (w.cell? ⟨g, k + j, none⟩).isSome = true) ∧ (∀ j, j < vs.length → w.frozen? ⟨g, k + j, none⟩ = false) := by
  obtain ⟨A, cs, t, B, cs', rfl, rfl, hs⟩ := hu.spec
  have hl := hs.len.2
  have hm : (g, cs, t) ∈ A ++ (g, cs, t) :: B := by simp
  have hb := (h.all _ hm).1
  refine ⟨fun j hj => ?_, fun j hj => blk_frozen hb _⟩
  simp only [World.cell?, hb]
  simp
  omega
end
section
variable {P : Program} {w0 w w1 : World} {H H' : List Blk} {g k n : Nat} {vs : List Value} {o : Oper} {a : Act} {ty : TypeId} {x y : Operand} {ops : Array Oper} {rest : List Oper} {Q : Exit → Act → World → Prop}
theorem addr_add (g k j : Nat) : (⟨g, k, none⟩ : Addr).add j = ⟨g, k + j, none⟩ := by unfold Addr.add; split <;> simp_all
/-- Is this type's variable several cells? -/
def aggB (P : Program) (t : TypeId) : Bool := match P.underlying t with
  | some (.struct _) | some (.array _ _) => true
  | _ => false
theorem agg_run (h : (P.underlying ty).isSome = true) (w : World) : (isAgg ty).run P w = .ok (aggB P ty) w := by
  cases hu : P.underlying ty with
  | none => simp [hu] at h
  | some d =>
    unfold isAgg aggB
    rw [Sem.run_bind, run_underlying hu w, hu]
    cases d <;> simp
theorem loc_load_run (hN : (aggB P ty && (P.underlying ty).isSome) = true) (ho : o.op = .load ty x) (hx : a.eval x = .pointer (some ⟨g, k, none⟩)) (hi : (P.info? ty).map (·.size) = some n) (HL : Lok w0 w H) (hg : Get H g k n vs) : (execOp a.eval o).run P w = .ok (.value (.agg vs.toArray)) w := by
  simp only [Bool.and_eq_true] at hN
  obtain ⟨hlen, hc⟩ := HL.get hg
  have hl : (loadCells ⟨g, k, none⟩ n).run P w = .ok vs.toArray w := by
    rw [← hlen]
    exact run_loadCells_list (P := P) w ⟨g, k, none⟩ vs (fun j v hv => by rw [addr_add]; exact hc j v hv)
  cases hq : P.info? ty with
  | none => simp [hq] at hi
  | some i =>
    have hs : i.size = n := by simpa [hq] using hi
    have hz : (loadVar ty ⟨g, k, none⟩).run P w = .ok (.agg vs.toArray) w := by
      simp [loadVar, Sem.run_bind, agg_run hN.2, hN.1, sizeOf, typeInfo, hq, hs, hl]
    unfold execOp
    simp only [ho, hx, Instr.loadAt, Instr.sureAddr, Sem.run_bind, Sem.run_pure, Result.andThen_ok, hz]
theorem loc_load1_run {v : Value} (hN : (!aggB P ty && (P.underlying ty).isSome) = true) (ho : o.op = .load ty x) (hx : a.eval x = .pointer (some ⟨g, k, none⟩)) (HL : Lok w0 w H) (hg : Get H g k 1 [v]) : (execOp a.eval o).run P w = .ok (.value v) w := by
  simp only [Bool.and_eq_true, Bool.not_eq_true'] at hN
  have hc := (HL.get hg).2 0 v rfl
  rw [Nat.add_zero] at hc
  have hz : (loadVar ty ⟨g, k, none⟩).run P w = .ok v w := by
    simp [loadVar, Sem.run_bind, agg_run hN.2, hN.1, hc]
  unfold execOp
  simp only [ho, hx, Instr.loadAt, Instr.sureAddr, Sem.run_bind, Sem.run_pure, Result.andThen_ok, hz]
theorem loc_store_run (ho : o.op = .store ty x y) (hx : a.eval x = .pointer (some ⟨g, k, none⟩)) (hy : (a.eval y).cells.toList = vs) (hi : (P.info? ty).map (·.size) = some vs.length) (h1 : vs.all (·.oneCell') = true) (HL : Lok w0 w H) (hu : Upd H g k vs H') : (execOp a.eval o).run P w = .ok .skip (w.setCells g k vs) := by
  obtain ⟨h2, h3⟩ := HL.upd_there hu
  have hst := run_storeCells_cells (P := P) g k vs 0 w (by simpa using h2) (by simpa using h3) (fun u hu => List.all_eq_true.1 h1 u hu)
  simp only [Nat.add_zero] at hst
  cases hq : P.info? ty with
  | none => simp [hq] at hi
  | some i =>
    have hs : i.size = vs.length := by simpa [hq] using hi
    have hsz : (a.eval y).cells.size = vs.length := by rw [← hy, Array.length_toList]
    have hz : (storeVar ty ⟨g, k, none⟩ (a.eval y)).run P w = .ok () (w.setCells g k vs) := by
      simp [storeVar, sizeOf, typeInfo, hq, hs, hsz, hy, hst]
    unfold execOp
    simp only [ho, hx, Instr.storeAt, Instr.sureAddr, Sem.run_bind, Sem.run_pure, Result.andThen_ok, hz]
theorem loc_load (hgd : o.guard = none) (ho : o.op = .load ty x) (hN : (aggB P ty && (P.underlying ty).isSome) = true) (hx : a.eval x = .pointer (some ⟨g, k, none⟩)) (hi : (P.info? ty).map (·.size) = some n) (HL : Lok w0 w H) (hg : Get H g k n vs) (h : wpList P ops Q rest (a.put o.dst (.agg vs.toArray)) w) : wpList P ops Q (o :: rest) a w := Kd.event_run hgd (loc_load_run hN ho hx hi HL hg) h
theorem loc_load1 {v : Value} (hgd : o.guard = none) (ho : o.op = .load ty x) (hN : (!aggB P ty && (P.underlying ty).isSome) = true) (hx : a.eval x = .pointer (some ⟨g, k, none⟩)) (HL : Lok w0 w H) (hg : Get H g k 1 [v]) (h : wpList P ops Q rest (a.put o.dst v) w) : wpList P ops Q (o :: rest) a w := Kd.event_run hgd (loc_load1_run hN ho hx HL hg) h
theorem loc_store (hgd : o.guard = none) (ho : o.op = .store ty x y) (hx : a.eval x = .pointer (some ⟨g, k, none⟩)) (hy : (a.eval y).cells.toList = vs) (hi : (P.info? ty).map (·.size) = some vs.length) (h1 : vs.all (·.oneCell') = true) (HL : Lok w0 w H) (hu : Upd H g k vs H') (h : ∀ w', Lok w0 w' H' → wpList P ops Q rest (a.put o.dst undef) w') : wpList P ops Q (o :: rest) a w := by
  refine wpList_plain hgd fun K hK => ?_
  unfold Oper.wp
  rw [loc_store_run ho hx hy hi h1 HL hu]
  exact hK _ _ (h _ (HL.upd hu))
theorem loc_box_run {t : TypeId} {cs : List Value} (ho : o.op = .box t x) (hy : (a.eval x).cells.toList = cs) (w : World) : (execOp a.eval o).run P w = .ok (.value (.pointer (some ⟨w.heap.size, 0, none⟩))) (w.alloc (.cells cs.toArray t (0, 0))) := by
  subst hy
  unfold execOp
  simp [ho, Instr.box, newVar, newRow]
theorem loc_alloc_run {t : TypeId} {cs : List Value} (ho : o.op = .alloc t) (hy : ((P.info? t).bind (·.zero)).map (·.cells.toList) = some cs) (w : World) : (execOp a.eval o).run P w = .ok (.value (.pointer (some ⟨w.heap.size, 0, none⟩))) (w.alloc (.cells cs.toArray t (0, 0))) := by
  cases hq : P.info? t with
  | none => simp [hq] at hy
  | some i =>
    cases hz : i.zero with
    | none => simp [hq, hz] at hy
    | some z =>
      have e : z.cells.toList = cs := by simpa [hq, hz] using hy
      subst e
      unfold execOp
      simp [ho, Instr.alloc, zeroValue, typeInfo, hq, hz, newVar, newRow]
theorem loc_box {t : TypeId} {cs : List Value} (hgd : o.guard = none) (ho : o.op = .box t x) (hy : (a.eval x).cells.toList = cs) (HL : Lok w0 w H) (h : ∀ g w', Lok w0 w' ((g, cs, t) :: H) → wpList P ops Q rest (a.put o.dst (.pointer (some ⟨g, 0, none⟩))) w') : wpList P ops Q (o :: rest) a w :=
  Kd.event_run hgd (loc_box_run ho hy w) (h _ _ (HL.new cs t))
theorem loc_alloc {t : TypeId} {cs : List Value} (hgd : o.guard = none) (ho : o.op = .alloc t) (hy : ((P.info? t).bind (·.zero)).map (·.cells.toList) = some cs) (HL : Lok w0 w H) (h : ∀ g w', Lok w0 w' ((g, cs, t) :: H) → wpList P ops Q rest (a.put o.dst (.pointer (some ⟨g, 0, none⟩))) w') : wpList P ops Q (o :: rest) a w :=
  Kd.event_run hgd (loc_alloc_run ho hy w) (h _ _ (HL.new cs t))
theorem gate_gd {g : Nat × Bool} (_ho : o.guard = some g) (h : wpList P ops Q (o :: rest) a w) : wpList P ops Q (o :: rest) a w := h
theorem gd_on {j : Nat} {b : Bool} (hg : o.guard = some (j, b)) (hv : ((ops[j]?).bind (·.dst)).bind (a.tmps[·]?) = some (.bool b)) (h : wpList P ops Q ({ o with guard := none } :: rest) a w) : wpList P ops Q (o :: rest) a w := by
  have hw : Region.wanted o (yielded ops a.tmps) = true := by
    unfold Region.wanted yielded
    rw [hg]
    simp only
    rw [hv]
    simp
  have h1 : Region.wanted { o with guard := none } (yielded ops a.tmps) = true := rfl
  unfold wpList at h ⊢
  rw [if_pos h1] at h
  rw [if_pos hw]
  exact h
theorem gd_off {j : Nat} {b : Bool} (hg : o.guard = some (j, b)) (hv : ((ops[j]?).bind (·.dst)).bind (a.tmps[·]?) = some (.bool (!b))) (h : wpList P ops Q rest (a.put o.dst undef) w) : wpList P ops Q (o :: rest) a w := by
  have hw : Region.wanted o (yielded ops a.tmps) = false := by
    unfold Region.wanted yielded
    rw [hg]
    simp only
    rw [hv]
    simp
  unfold wpList
  rw [hw]
  exact h
theorem gate_ld0 {t : TypeId} (_ho : o.op = .load t x) (h : wpList P ops Q (o :: rest) a w) : wpList P ops Q (o :: rest) a w := h
theorem gate_st0 {t : TypeId} (_ho : o.op = .store t x y) (h : wpList P ops Q (o :: rest) a w) : wpList P ops Q (o :: rest) a w := h
theorem gate_box {t : TypeId} (_ho : o.op = .box t x) (h : wpList P ops Q (o :: rest) a w) : wpList P ops Q (o :: rest) a w := h
theorem gate_alloc {t : TypeId} (_ho : o.op = .alloc t) (h : wpList P ops Q (o :: rest) a w) : wpList P ops Q (o :: rest) a w := h
end
end Go.Proofs.YteknaofnageihaaLoc
