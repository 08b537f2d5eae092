/- Blocks of a call's own, told as a list, over any relation R that stands by making memory and by stores at or above m: Loc's laws for functions that are handed a state. -/
import Derived.Test.YteknaofnageihaaReg3
namespace Go.Proofs.YteknaofnageihaaLoc
open Go.RowKit Go.Proofs.YteknaofnageihaaW.PrintWords Go.Proofs.YteknaofnageihaaW.PrintLast Go.Proofs.YteknaofnageihaaW.PrintMore
set_option linter.unusedVariables false
structure Frm (R : World → Prop) (m : Nat) : Prop where
  drewN : ∀ {w : World} (n : Nat), R w → R (w.drewN n)
  drew : ∀ {w : World}, R w → R w.drew
  alloc : ∀ {w : World} (o : Obj), R w → R (w.alloc o)
  set : ∀ {w : World} {p : Addr} (u : Value), R w → m ≤ p.block → R (w.setCell p u)
  call : ∀ {w w' : World}, R w → Below w.heap.size w w' → R w'
  size : ∀ {w : World}, R w → m ≤ w.heap.size
structure LokR (R : World → Prop) (m : Nat) (w : World) (H : List Blk) : Prop where
  fr : Frm R m
  r : R w
  all : ∀ x ∈ H, w.heap[x.1]? = some (.cells x.2.1.toArray x.2.2 (0, 0)) ∧ m ≤ x.1
  ne : (H.map Prod.fst).Nodup
section
variable {R : World → Prop} {m : Nat} {w w1 : World} {A H H' : List Blk} {g k n : Nat} {vs : List Value}
theorem LokR.cast {R' : World → Prop} {H0 H1 : List Blk} (h : LokR R m w H0) (e : R = R') (e2 : H0 = H1) : LokR R' m w H1 := by subst e e2; exact h
theorem LokR.start (fr : Frm R m) (r : R w) : LokR R m w [] := ⟨fr, r, fun _ h => by simp at h, by simp⟩
theorem LokR.get (h : LokR R m w H) (hg : Get H g k n vs) : vs.length = n ∧ ∀ j v, vs[j]? = some v → w.cell? ⟨g, k + j, none⟩ = some v := by
  obtain ⟨h1, cs, t, h2, h3⟩ := hg.spec
  refine ⟨h1, fun j v hv => ?_⟩
  have h4 := (h.all _ h2).1
  have h5 := h3 j v hv
  simp only [World.cell?, h4]
  simpa using h5
theorem LokR.blk {cs : List Value} {t : TypeId} (h : LokR R m w H) (hh : Has H g cs t) : w.heap[g]? = some (.cells cs.toArray t (0, 0)) := by
  refine (h.all (g, cs, t) ?_).1
  clear h
  induction hh with
  | here => exact List.mem_cons_self
  | next _ ih => exact List.mem_cons_of_mem _ ih
theorem LokR.drew (h : LokR R m w H) : LokR R m w.drew H := ⟨h.fr, h.fr.drew h.r, h.all, h.ne⟩
theorem LokR.drewN (h : LokR R m w H) (j : Nat) : LokR R m (w.drewN j) H := ⟨h.fr, h.fr.drewN j h.r, h.all, h.ne⟩
theorem LokR.call (h : LokR R m w H) (hb : Below w.heap.size w w1) : LokR R m w1 H := ⟨h.fr, h.fr.call h.r hb, fun x hx => ⟨blk_below (h.all x hx).1 hb, (h.all x hx).2⟩, h.ne⟩
theorem LokR.drawn (h : LokR R m w H) (hb : Drawn0 w w1) : LokR R m w1 H := by
  obtain ⟨j, rfl⟩ := hb.out
  exact h.drewN j
theorem LokR.new (h : LokR R m w H) (cs : List Value) (t : TypeId) : LokR R m (w.alloc (.cells cs.toArray t (0, 0))) ((w.heap.size, cs, t) :: H) := by
  refine ⟨h.fr, h.fr.alloc _ h.r, fun x hx => ?_, ?_⟩
  · rcases List.mem_cons.1 hx with rfl | hx
    · exact ⟨blk_new w _, h.fr.size h.r⟩
    · exact ⟨blk_alloc (h.all x hx).1 _, (h.all x hx).2⟩
  · simp only [List.map_cons, List.nodup_cons]
    refine ⟨fun hm => ?_, h.ne⟩
    obtain ⟨x, hx, e⟩ := List.mem_map.1 hm
    have := blk_lt (h.all x hx).1
    omega
theorem LokR.set1 {A B : List Blk} {cs : List Value} {t : TypeId} (h : LokR R m w (A ++ (g, cs, t) :: B)) (u : Value) {c1 : List Value} (e : cs.toArray.setIfInBounds k u = c1.toArray) : LokR R m (w.setCell ⟨g, k, none⟩ u) (A ++ (g, c1, t) :: B) := by
  have hm : (g, cs, t) ∈ A ++ (g, cs, t) :: B := by simp
  refine ⟨h.fr, h.fr.set u h.r (h.all _ hm).2, fun x hx => ?_, ?_⟩
  · rcases List.mem_append.1 hx with hx | hx
    · have hne : x.1 ≠ g := by
        intro e
        have hnd := h.ne
        rw [List.map_append, List.nodup_append] at hnd
        exact hnd.2.2 x.1 (List.mem_map.2 ⟨x, hx, rfl⟩) g (by simp) e
      have hx' := h.all x (List.mem_append.2 (.inl hx))
      exact ⟨blk_far hx'.1 hne u, hx'.2⟩
    · rcases List.mem_cons.1 hx with rfl | hx
      · exact ⟨blk_put (h.all _ hm).1 k u e, (h.all _ hm).2⟩
      · have hne : x.1 ≠ g := by
          intro e
          have hnd := h.ne
          rw [List.map_append, List.nodup_append, List.map_cons, List.nodup_cons] at hnd
          exact hnd.2.1.1 (e ▸ List.mem_map.2 ⟨x, hx, rfl⟩)
        have hx' := h.all x (List.mem_append.2 (.inr (List.mem_cons_of_mem _ hx)))
        exact ⟨blk_far hx'.1 hne u, hx'.2⟩
  · have := h.ne
    simpa using this
theorem setCells_locR : ∀ (vs : List Value) (k : Nat) {w : World} {A B : List Blk} {cs cs' : List Value} {t : TypeId}, LokR R m w (A ++ (g, cs, t) :: B) → Spl k vs cs cs' → LokR R m (w.setCells g k vs) (A ++ (g, cs', t) :: B)
  | [], k, w, A, B, cs, cs', t, h, hs => by
    have e : cs' = cs := by
      clear h
      generalize e : ([] : List Value) = us at hs
      induction hs with
      | done => rfl
      | put h ih => cases e
      | skip h ih => rw [ih e]
    subst e
    exact h
  | v :: vs, k, w, A, B, cs, cs', t, h, hs => by
    obtain ⟨c1, h1, h2⟩ := hs.step
    exact setCells_locR vs (k + 1) (h.set1 v h1) h2
theorem LokR.upd (h : LokR R m w H) (hu : Upd H g k vs H') : LokR R m (w.setCells g k vs) H' := by
  obtain ⟨A, cs, t, B, cs', rfl, rfl, hs⟩ := hu.spec
  exact setCells_locR vs k h hs
theorem LokR.upd_there (h : LokR R m w H) (hu : Upd H g k vs H') : (∀ j, j < vs.length → (w.cell? ⟨g, k + j, none⟩).isSome = true) ∧ (∀ j, j < vs.length → w.frozen? ⟨g, k + j, none⟩ = false) := by
  obtain ⟨A, cs, t, B, cs', rfl, rfl, hs⟩ := hu.spec
  have hl := hs.len.2
  have hm : (g, cs, t) ∈ A ++ (g, cs, t) :: B := by simp
  have hb := (h.all _ hm).1
  refine ⟨fun j hj => ?_, fun j hj => blk_frozen hb _⟩
  simp only [World.cell?, hb]
  simp
  omega
theorem LokR.tl (h : LokR R m w (A ++ H)) : LokR R m w H := ⟨h.fr, h.r, fun x hx => h.all x (List.mem_append.2 (.inr hx)), by
  have := h.ne
  rw [List.map_append, List.nodup_append] at this
  exact this.2.1⟩
theorem LokR.drop (h : LokR R m w H) (j : Nat) : LokR R m w (H.drop j) := by
  have e : H.take j ++ H.drop j = H := List.take_append_drop j H
  rw [← e] at h
  exact h.tl
theorem LokR.perm {H' : List Blk} (h : LokR R m w H) (p : H.Perm H') : LokR R m w H' := ⟨h.fr, h.r, fun x hx => h.all x (p.mem_iff.2 hx), (p.map Prod.fst).nodup_iff.1 h.ne⟩
theorem LokR.newAt (cs : List Value) (t : TypeId) (h : LokR R m w (A ++ H)) {g : Nat} (hg : g = w.heap.size) : LokR R m (w.alloc (.cells cs.toArray t (0, 0))) (A ++ (g, cs, t) :: H) := by
  subst hg
  exact (h.new cs t).perm List.perm_middle.symm
end
section
variable {P : Program} {R : World → Prop} {m : Nat} {w w1 : World} {H H' : List Blk} {g k n : Nat} {vs : List Value} {o : Oper} {a : Act} {ty : TypeId} {x y : Operand} {ops : Array Oper} {rest : List Oper} {Q : Exit → Act → World → Prop}
theorem locr_load_run (hN : (aggB P ty && (P.underlying ty).isSome) = true) (ho : o.op = .load ty x) (hx : a.eval x = .pointer (some ⟨g, k, none⟩)) (hi : (P.info? ty).map (·.size) = some n) (HL : LokR R m w H) (hg : Get H g k n vs) : (execOp a.eval o).run P w = .ok (.value (.agg vs.toArray)) w := by
  simp only [Bool.and_eq_true] at hN
  obtain ⟨hlen, hc⟩ := HL.get hg
  have hl : (loadCells ⟨g, k, none⟩ n).run P w = .ok vs.toArray w := by
    rw [← hlen]
    exact run_loadCells_list (P := P) w ⟨g, k, none⟩ vs (fun j v hv => by rw [addr_add]; exact hc j v hv)
  cases hq : P.info? ty with
  | none => simp [hq] at hi
  | some i =>
    have hs : i.size = n := by simpa [hq] using hi
    have hz : (loadVar ty ⟨g, k, none⟩).run P w = .ok (.agg vs.toArray) w := by
      simp [loadVar, Sem.run_bind, agg_run hN.2, hN.1, sizeOf, typeInfo, hq, hs, hl]
    unfold execOp
    simp only [ho, hx, Instr.loadAt, Instr.sureAddr, Sem.run_bind, Sem.run_pure, Result.andThen_ok, hz]
theorem locr_load1_run {v : Value} (hN : (!aggB P ty && (P.underlying ty).isSome) = true) (ho : o.op = .load ty x) (hx : a.eval x = .pointer (some ⟨g, k, none⟩)) (HL : LokR R m w H) (hg : Get H g k 1 [v]) : (execOp a.eval o).run P w = .ok (.value v) w := by
  simp only [Bool.and_eq_true, Bool.not_eq_true'] at hN
  have hc := (HL.get hg).2 0 v rfl
  rw [Nat.add_zero] at hc
  have hz : (loadVar ty ⟨g, k, none⟩).run P w = .ok v w := by
    simp [loadVar, Sem.run_bind, agg_run hN.2, hN.1, hc]
  unfold execOp
  simp only [ho, hx, Instr.loadAt, Instr.sureAddr, Sem.run_bind, Sem.run_pure, Result.andThen_ok, hz]
theorem locr_store_run (ho : o.op = .store ty x y) (hx : a.eval x = .pointer (some ⟨g, k, none⟩)) (hy : (a.eval y).cells.toList = vs) (hi : (P.info? ty).map (·.size) = some vs.length) (h1 : vs.all (·.oneCell') = true) (HL : LokR R m w H) (hu : Upd H g k vs H') : (execOp a.eval o).run P w = .ok .skip (w.setCells g k vs) := by
  obtain ⟨h2, h3⟩ := HL.upd_there hu
  have hst := run_storeCells_cells (P := P) g k vs 0 w (by simpa using h2) (by simpa using h3) (fun u hu => List.all_eq_true.1 h1 u hu)
  simp only [Nat.add_zero] at hst
  cases hq : P.info? ty with
  | none => simp [hq] at hi
  | some i =>
    have hs : i.size = vs.length := by simpa [hq] using hi
    have hsz : (a.eval y).cells.size = vs.length := by rw [← hy, Array.length_toList]
    have hz : (storeVar ty ⟨g, k, none⟩ (a.eval y)).run P w = .ok () (w.setCells g k vs) := by
      simp [storeVar, sizeOf, typeInfo, hq, hs, hsz, hy, hst]
    unfold execOp
    simp only [ho, hx, Instr.storeAt, Instr.sureAddr, Sem.run_bind, Sem.run_pure, Result.andThen_ok, hz]
theorem locr_load (hgd : o.guard = none) (ho : o.op = .load ty x) (hN : (aggB P ty && (P.underlying ty).isSome) = true) (hx : a.eval x = .pointer (some ⟨g, k, none⟩)) (hi : (P.info? ty).map (·.size) = some n) (HL : LokR R m w H) (hg : Get H g k n vs) (h : wpList P ops Q rest (a.put o.dst (.agg vs.toArray)) w) : wpList P ops Q (o :: rest) a w := Kd.event_run hgd (locr_load_run hN ho hx hi HL hg) h
theorem locr_load1 {v : Value} (hgd : o.guard = none) (ho : o.op = .load ty x) (hN : (!aggB P ty && (P.underlying ty).isSome) = true) (hx : a.eval x = .pointer (some ⟨g, k, none⟩)) (HL : LokR R m w H) (hg : Get H g k 1 [v]) (h : wpList P ops Q rest (a.put o.dst v) w) : wpList P ops Q (o :: rest) a w := Kd.event_run hgd (locr_load1_run hN ho hx HL hg) h
theorem locr_store (hgd : o.guard = none) (ho : o.op = .store ty x y) (hx : a.eval x = .pointer (some ⟨g, k, none⟩)) (hy : (a.eval y).cells.toList = vs) (hi : (P.info? ty).map (·.size) = some vs.length) (h1 : vs.all (·.oneCell') = true) (HL : LokR R m w H) (hu : Upd H g k vs H') (h : ∀ w', LokR R m w' H' → wpList P ops Q rest (a.put o.dst undef) w') : wpList P ops Q (o :: rest) a w := by
  refine wpList_plain hgd fun K hK => ?_
  unfold Oper.wp
  rw [locr_store_run ho hx hy hi h1 HL hu]
  exact hK _ _ (h _ (HL.upd hu))
theorem locr_box {t : TypeId} {cs : List Value} (hgd : o.guard = none) (ho : o.op = .box t x) (hy : (a.eval x).cells.toList = cs) (HL : LokR R m w H) (h : ∀ g w', LokR R m w' ((g, cs, t) :: H) → wpList P ops Q rest (a.put o.dst (.pointer (some ⟨g, 0, none⟩))) w') : wpList P ops Q (o :: rest) a w :=
  Kd.event_run hgd (loc_box_run ho hy w) (h _ _ (HL.new cs t))
theorem locr_alloc {t : TypeId} {cs : List Value} (hgd : o.guard = none) (ho : o.op = .alloc t) (hy : ((P.info? t).bind (·.zero)).map (·.cells.toList) = some cs) (HL : LokR R m w H) (h : ∀ g w', LokR R m w' ((g, cs, t) :: H) → wpList P ops Q rest (a.put o.dst (.pointer (some ⟨g, 0, none⟩))) w') : wpList P ops Q (o :: rest) a w :=
  Kd.event_run hgd (loc_alloc_run ho hy w) (h _ _ (HL.new cs t))
end
/-- The relation of a call that is handed a state J at g: nothing elder than the call has turned but g, and g's state is s. -/
structure RS {σ : Type} (w0 w1 : World) (g : Nat) (J : σ → World → Prop) (s : σ) (w : World) : Prop where
  kp : KeepBut w1 w g none
  bel : Below w0.heap.size w0 w
  st : J s w
  lt : g < w1.heap.size
  ge : w0.heap.size ≤ g
  sees : ∀ s a b, b.heap[g]? = a.heap[g]? → J s a → J s b
section
variable {σ : Type} {w0 w1 : World} {g : Nat} {J : σ → World → Prop} {s s' : σ}
theorem RS.frm : Frm (RS w0 w1 g J s) w1.heap.size where
  drewN := fun {w} n h => ⟨keep_drewN h.kp n, pw_below_drewN h.bel n, h.sees _ w _ rfl h.st, h.lt, h.ge, h.sees⟩
  drew := fun {w} h => ⟨keep_drew h.kp, below_drew1 h.bel, h.sees _ w _ rfl h.st, h.lt, h.ge, h.sees⟩
  alloc := fun {w} o h => ⟨keep_alloc h.kp o, below_alloc h.bel o, h.sees _ w _ ((below_alloc (Below.refl w.heap.size w) o).block g (Nat.lt_of_lt_of_le h.lt h.kp.1)) h.st, h.lt, h.ge, h.sees⟩
  set := fun {w p} u h hp => ⟨keep_far h.kp hp u, Below.setCell h.bel (by have := h.lt; have := h.ge; omega) u, h.sees _ w _ (Below.heap_setCell w p u g (by have := h.lt; omega)) h.st, h.lt, h.ge, h.sees⟩
  call := fun {w w'} h hb => ⟨h.kp.trans (KeepBut.of_below hb g none) (.inl rfl), below_step h.bel hb, h.sees _ w _ (hb.block g (Nat.lt_of_lt_of_le h.lt h.kp.1)) h.st, h.lt, h.ge, h.sees⟩
  size := fun {w} h => h.kp.1
theorem LokR.ofS (hI : J s w1) (hB : Below w0.heap.size w0 w1) (lt : g < w1.heap.size) (ge : w0.heap.size ≤ g) (sees : ∀ s a b, b.heap[g]? = a.heap[g]? → J s a → J s b) : LokR (RS w0 w1 g J s) w1.heap.size w1 [] := LokR.start RS.frm ⟨KeepBut.refl w1 g none, hB, hI, lt, ge, sees⟩
/-- A call that is handed the state. -/
theorem LokR.st {w w' : World} {H : List Blk} (h : LokR (RS w0 w1 g J s) w1.heap.size w H) (hi : J s' w') (hb : Below w0.heap.size w0 w') (hk : KeepBut w w' g none) : LokR (RS w0 w1 g J s') w1.heap.size w' H := by
  refine ⟨RS.frm, ⟨h.r.kp.trans hk (.inl rfl), hb, hi, h.r.lt, h.r.ge, h.r.sees⟩, fun x hx => ⟨?_, (h.all x hx).2⟩, h.ne⟩
  have h1 := (h.all x hx).1
  have h2 := (h.all x hx).2
  exact (hk.2 x.1 (blk_lt h1) (by have := h.r.lt; omega) (by simp)).trans h1
end
end Go.Proofs.YteknaofnageihaaLoc
