/- A region that draws its order and makes variables, told in the text's order: Reg's laws, with a relation S that also looks at the frame (where the variables made lie). -/
import Derived.Test.YteknaofnageihaaReg
namespace Go.Proofs.YteknaofnageihaaLoc
open Go.RowKit Go.Proofs.YteknaofnageihaaW.PrintWords Go.Proofs.YteknaofnageihaaW.PrintLast Go.Proofs.YteknaofnageihaaW.PrintMore
set_option linter.unusedVariables false
abbrev Rel := Array Bool → Act → World → Prop
section
variable {P : Program} {ops : Array Oper} {Q : Exit → Act → World → Prop} {md : Region.Mode} {S : Rel}
def QuietV (P : Program) (ops : Array Oper) (S : Rel) (o : Oper) (v : Value) (a : Act) : Prop :=
  (Region.wanted o (yielded ops a.tmps) = true ∧ ∀ l b w, S l b w → Tells P (S l b) v ((execOp a.eval o).run P w)) ∨ (Region.wanted o (yielded ops a.tmps) = false ∧ v = undef)
def wpV (P : Program) (md : Region.Mode) (ops : Array Oper) (Q : Exit → Act → World → Prop) (S : Rel) : Nat → Array Bool → Act → Prop
  | 0, l, a => Region.ready md ops l = [] ∧ ∀ w, S l a w → Q .normal a w
  | f + 1, l, a => (Region.ready md ops l = [] → ∀ w, S l a w → Q .normal a w) ∧ ∀ i ∈ Region.ready md ops l, ∀ w, S l a w → wpOp P ops Q i (fun a' w' => S (l.setIfInBounds i true) a' w' ∧ wpV P md ops Q S f (l.setIfInBounds i true) a') a w
theorem wpV_any : ∀ (f : Nat) (l : Array Bool) (a : Act), wpV P md ops Q S f l a → ∀ w, S l a w → wpAny P md ops Q f l a w
  | 0, _, _, h, w, hS => ⟨h.1, h.2 w hS⟩
  | f + 1, l, a, h, w, hS => ⟨fun e => h.1 e w hS, fun i hi => wpOp_mono (fun a' w' h' => wpV_any f _ a' h'.2 w' h'.1) (h.2 i hi w hS)⟩
theorem QuietV.of_same {o : Oper} {v : Value} {a a' : Act} (hy : QuietV P ops S o v a) (he : execOp a'.eval o = execOp a.eval o) (hw : Region.wanted o (yielded ops a'.tmps) = Region.wanted o (yielded ops a.tmps)) : QuietV P ops S o v a' := by
  unfold QuietV at *
  rw [he, hw]
  exact hy
theorem QuietV.wpOp {i : Nat} {o : Oper} {v : Value} {a : Act} {l : Array Bool} (hi : ops[i]? = some o) (hy : QuietV P ops S o v a) {K : Act → World → Prop} {w : World} (hS : S l a w) (h : ∀ w', S l a w' → K (a.put o.dst v) w') : wpOp P ops Q i K a w := by
  unfold Go.wpOp
  simp only [hi]
  rcases hy with ⟨hw, hv⟩ | ⟨hw, rfl⟩
  · simp only [hw, if_true]
    have ht := hv l a w hS
    refine .inl ?_
    unfold Oper.wp
    generalize (execOp a.eval o).run P w = r at ht
    match r, ht with
    | .ok (.value u) w', ht =>
      obtain ⟨rfl, h2⟩ := ht
      exact h w' h2
    | .ok (.enter f args) w', ht =>
      refine Calls.mono ht fun e w'' he => ?_
      obtain ⟨rfl, h2⟩ := he
      exact h w'' h2
  · simp only [hw, Bool.false_eq_true, if_false]
    exact h w hS
theorem wpV_first {i : Nat} {oi : Oper} {v : Value} (hi : ops[i]? = some oi) (hsel : ∀ (j : Nat) (o : Oper) cs b, ops[j]? = some o → o.op ≠ .select cs b)
    (hQ : ∀ c a w, Q (.panic c) (a.put oi.dst v) w → Q (.panic c) a w) (hSi : ∀ l b w, S (l.setIfInBounds i true) (b.put oi.dst v) w ↔ S l b w) :
    ∀ (f : Nat) (l : Array Bool) (a : Act), (∀ j oj, ops[j]? = some oj → j ≠ i → l.getD j true = false → (∀ e ∈ oj.after, Region.binds md e = true → e.on ≠ i) → oi.apart ops oj = true) →
      i ∈ Region.ready md ops l → QuietV P ops S oi v a → wpV P md ops Q S f (l.setIfInBounds i true) (a.put oi.dst v) → wpV P md ops Q S (f + 1) l a := by
  intro f
  induction f with
  | zero =>
    intro l a _ hr hy H
    refine ⟨fun h => (by rw [h] at hr; cases hr), fun j hj w hS => ?_⟩
    by_cases hji : j = i
    · subst hji
      exact hy.wpOp hi hS fun w' h' => ⟨(hSi l a w').2 h', H⟩
    · have := ready_mono hj hji
      rw [H.1] at this
      cases this
  | succ f ih =>
    intro l a hfree hr hy H
    refine ⟨fun h => (by rw [h] at hr; cases hr), fun j hj w hS => ?_⟩
    by_cases hji : j = i
    · subst hji
      exact hy.wpOp hi hS fun w' h' => ⟨(hSi l a w').2 h', H⟩
    · have h1 := H.2 j (ready_mono hj hji) w ((hSi l a w).2 hS)
      obtain ⟨hjun, oj, hoj, hall⟩ := mem_ready.1 hj
      have hiun := (mem_ready.1 hr).1
      have hnot : ∀ e ∈ oj.after, Region.binds md e = true → e.on ≠ i := fun e he hb heq => by
        have h1 := hall e he hb
        rw [heq] at h1
        rcases Nat.lt_or_ge i l.size with h' | h'
        · simp [h'] at hiun h1; rw [hiun] at h1; cases h1
        · simp [Array.getElem?_eq_none h'] at h1
      have hap := hfree j oj hoj hji hjun hnot
      have hap3 := (Oper.apart_spec hap).2.2
      have h2 := wpOp_putU (R := QuietV P ops S oi v) hoj hap (fun cs b => hsel j oj cs b hoj) hQ
        (fun a u hR => hR.of_same (execOp_put oi (fun cs b => hsel i oi cs b hi) a oj.dst u hap3) (wanted_put oi a oj.dst u hap3)) (fun a d hR => hR.of_same rfl rfl) hy h1
      have hfree' : ∀ k ok, ops[k]? = some ok → k ≠ i → (l.setIfInBounds j true).getD k true = false →
          (∀ e ∈ ok.after, Region.binds md e = true → e.on ≠ i) → oi.apart ops ok = true := fun k ok hk hki hun hno => by
        refine hfree k ok hk hki ?_ hno
        by_cases hjk : j = k
        · subst hjk; exact hjun
        · rw [getD_set_ne true hjk] at hun; exact hun
      refine wpOp_mono (fun a' w' h3 => ?_) h2
      rw [Array.setIfInBounds_comm _ _ (Ne.symm hji)] at h3
      exact ⟨(hSi _ _ w').1 h3.2.1, ih (l.setIfInBounds j true) a' hfree' (ready_mono hr (Ne.symm hji)) h3.1 h3.2.2⟩
variable {T : Bool × List (List Nat × List Nat)} {f : Nat} {oi : Oper} {v : Value} {l : Array Bool} {a a' : Act} {w : World}
theorem v_take (i : Nat) (N : Option Tmp) (l' : Array Bool) (hi : ops[i]? = some oi) (hN : oi.dst = N) (hT : rtab md ops = T) (hc : anyT T l.toList l'.toList i = true) (hQ : ∀ c a w, Q (.panic c) (a.put oi.dst v) w → Q (.panic c) a w) (hSi : ∀ l b w, S (l.setIfInBounds i true) (b.put N v) w ↔ S l b w)
    (hy : QuietV P ops S oi v a) (ha : a.put N v = a') (h : wpV P md ops Q S f l' a') : wpV P md ops Q S (f + 1) l a := by
  subst ha
  subst hN
  have hc2 := any_of hT hc
  simp only [anyB, Bool.and_eq_true, beq_iff_eq] at hc2
  obtain ⟨⟨⟨h1, h2⟩, h3⟩, h6⟩ := hc2
  subst h6
  exact wpV_first hi (Region.noSelect_spec h1) hQ hSi f l a (Region.free_spec hi h2) (by simpa using h3) hy h
theorem vP (i : Nat) (N : Option Tmp) (l' : Array Bool) (hi : ops[i]? = some oi) (hN : oi.dst = N) (hT : rtab md ops = T) (hc : anyT T l.toList l'.toList i = true) (hQ : ∀ c a w, Q (.panic c) (a.put oi.dst v) w → Q (.panic c) a w) (hSi : ∀ l b w, S (l.setIfInBounds i true) (b.put N v) w ↔ S l b w)
    (hw : Region.wanted oi (yielded ops a.tmps) = true) (hy : ∀ w, (execOp a.eval oi).run P w = .ok (.value v) w) (ha : a.put N v = a') (h : wpV P md ops Q S f l' a') : wpV P md ops Q S (f + 1) l a :=
  v_take i N l' hi hN hT hc hQ hSi (.inl ⟨hw, fun l b w hS => by rw [hy w]; exact ⟨rfl, hS⟩⟩) ha h
theorem vL (i : Nat) (N : Option Tmp) (l' : Array Bool) (hi : ops[i]? = some oi) (hN : oi.dst = N) (hT : rtab md ops = T) (hc : anyT T l.toList l'.toList i = true) (hQ : ∀ c a w, Q (.panic c) (a.put oi.dst v) w → Q (.panic c) a w) (hSi : ∀ l b w, S (l.setIfInBounds i true) (b.put N v) w ↔ S l b w)
    (hw : Region.wanted oi (yielded ops a.tmps) = true) (hy : ∀ l b w, S l b w → (execOp a.eval oi).run P w = .ok (.value v) w) (ha : a.put N v = a') (h : wpV P md ops Q S f l' a') : wpV P md ops Q S (f + 1) l a :=
  v_take i N l' hi hN hT hc hQ hSi (.inl ⟨hw, fun l b w hS => by rw [hy l b w hS]; exact ⟨rfl, hS⟩⟩) ha h
theorem vN (i : Nat) (N : Option Tmp) (l' : Array Bool) (hi : ops[i]? = some oi) (hN : oi.dst = N) (hT : rtab md ops = T) (hc : anyT T l.toList l'.toList i = true) (hQ : ∀ c a w, Q (.panic c) (a.put oi.dst undef) w → Q (.panic c) a w) (hSi : ∀ l b w, S (l.setIfInBounds i true) (b.put N undef) w ↔ S l b w)
    (hw : Region.wanted oi (yielded ops a.tmps) = false) (ha : a.put N undef = a') (h : wpV P md ops Q S f l' a') : wpV P md ops Q S (f + 1) l a :=
  v_take i N l' hi hN hT hc hQ hSi (.inr ⟨hw, rfl⟩) ha h
theorem vC (i : Nat) (N : Option Tmp) (l' : Array Bool) (hi : ops[i]? = some oi) (hN : oi.dst = N) (hT : rtab md ops = T) (hc : anyT T l.toList l'.toList i = true) (hQ : ∀ c a w, Q (.panic c) (a.put oi.dst v) w → Q (.panic c) a w) (hSi : ∀ l b w, S (l.setIfInBounds i true) (b.put N v) w ↔ S l b w)
    (hw : Region.wanted oi (yielded ops a.tmps) = true) {g : FuncId} {fn : Func} {as : Array Operand} {ts : Array TypeId} (hf : P.funcs[g]? = some fn) (hname : (fn.name == "runtime.NumGoroutine") = false) (hb : fn.body.isSome = true) (args : Array Value)
    (hop : oi.op = .call { callee := .value (.func g), args := as, argTypes := ts }) (hargs : as.map a.eval = args) (hc2 : ∀ l b w, S l b w → Calls P g args w fun e w' => e = .returned v ∧ S l b w') (ha : a.put N v = a') (h : wpV P md ops Q S f l' a') : wpV P md ops Q S (f + 1) l a :=
  v_take i N l' hi hN hT hc hQ hSi (.inl ⟨hw, fun l b w hS => by
    have he := enters_ hf hname hb args w
    have hrun : (execOp a.eval oi).run P w = .ok (.enter g args) w := by
      unfold execOp
      simp [hop, resolve, Deferred.ofValue, invoke, Act.eval, hargs, he]
    rw [hrun]
    exact hc2 l b w hS⟩) ha h
theorem vD (hT : rtab md ops = T) (hc : (readyT T.2 l.toList == []) = true) (h : ∀ w, S l a w → Q .normal a w) : wpV P md ops Q S f l a := by
  have hr : Region.ready md ops l = [] := by
    subst hT
    rw [ready_eq]
    simpa using hc
  cases f with
  | zero => exact ⟨hr, h⟩
  | succ f => exact ⟨fun _ => h, by rw [hr]; simp⟩
theorem v_tab {n : Nat} (hT : rtab md ops = T) (h : Aside0 (rtab md ops = T) → wpV P md ops Q S n l a) : wpV P md ops Q S n l a := h ⟨hT⟩
theorem v_start {id n : Nat} (l : Array Bool) (hm : P.follows .mixedOrders = true) (hn : ops.size = n) (hl : Array.replicate n false = l) (hS : S l a w.drew) (h : wpV P .any ops Q S n l a) : (Code.region id ops true).wp P Q a w := by
  subst hn
  subst hl
  exact wp_region_any hm (wpV_any _ _ _ h _ hS)
def StepV (P : Program) (md : Region.Mode) (ops : Array Oper) (Q : Exit → Act → World → Prop) (S : Rel) (f : Nat) (l : Array Bool) (a : Act) (i : Nat) : Prop :=
  ∀ w, S l a w → wpOp P ops Q i (fun a' w' => S (l.setIfInBounds i true) a' w' ∧ wpV P md ops Q S f (l.setIfInBounds i true) a') a w
theorem v_ready {rs : List Nat} (hT : rtab md ops = T) (hc : (readyT T.2 l.toList == rs) = true) (hne : rs ≠ []) (h : ∀ i ∈ rs, StepV P md ops Q S f l a i) : wpV P md ops Q S (f + 1) l a := by
  have hr : Region.ready md ops l = rs := by
    subst hT
    rw [ready_eq]
    simpa using hc
  exact ⟨fun h0 => absurd (hr ▸ h0) hne, hr ▸ h⟩
theorem v_one {i : Nat} (hT : rtab md ops = T) (hc : (readyT T.2 l.toList == [i]) = true) (h : StepV P md ops Q S f l a i) : wpV P md ops Q S (f + 1) l a :=
  v_ready hT hc (by simp) (by simpa using h)
theorem v_two {i j : Nat} (hT : rtab md ops = T) (hc : (readyT T.2 l.toList == [i, j]) = true) (h1 : StepV P md ops Q S f l a i) (h2 : StepV P md ops Q S f l a j) : wpV P md ops Q S (f + 1) l a :=
  v_ready hT hc (by simp) (fun k hk => by
    rcases List.mem_cons.1 hk with rfl | hk
    · exact h1
    · rw [List.mem_singleton.1 hk]; exact h2)
theorem v_three {i j k : Nat} (hT : rtab md ops = T) (hc : (readyT T.2 l.toList == [i, j, k]) = true) (h1 : StepV P md ops Q S f l a i) (h2 : StepV P md ops Q S f l a j) (h3 : StepV P md ops Q S f l a k) : wpV P md ops Q S (f + 1) l a :=
  v_ready hT hc (by simp) (fun m hm => by
    rcases List.mem_cons.1 hm with rfl | hm
    · exact h1
    · rcases List.mem_cons.1 hm with rfl | hm
      · exact h2
      · rw [List.mem_singleton.1 hm]; exact h3)
/-- A store. -/
theorem vS {i : Nat} (l' : Array Bool) (hi : ops[i]? = some oi) (hN : oi.dst = none) (hl : (l.toList.set i true == l'.toList) = true) (hw : Region.wanted oi (yielded ops a.tmps) = true) (hy : ∀ w, S l a w → ∃ w', (execOp a.eval oi).run P w = .ok .skip w' ∧ S l' a w') (h : wpV P md ops Q S f l' a) : StepV P md ops Q S f l a i := by
  intro w hS
  have e : l.setIfInBounds i true = l' := by simpa using set_of hl
  obtain ⟨w', hr, hS'⟩ := hy w hS
  unfold wpOp
  simp only [hi, hw, if_true]
  refine .inl ?_
  unfold Oper.wp
  rw [hr]
  show _ ∧ _
  rw [hN, e]
  exact ⟨hS', h⟩
/-- A variable is made. -/
theorem vA {i : Nat} (N : Option Tmp) (l' : Array Bool) (hi : ops[i]? = some oi) (hN : oi.dst = N) (hl : (l.toList.set i true == l'.toList) = true) (hw : Region.wanted oi (yielded ops a.tmps) = true) {t : TypeId} {cs : List Value} (ho : oi.op = .alloc t) (hz : ((P.info? t).bind (·.zero)).map (·.cells.toList) = some cs)
    (h : ∀ g, ∃ a', a.put N (.pointer (some ⟨g, 0, none⟩)) = a' ∧ (∀ w, S l a w → g = w.heap.size → S l' a' (w.alloc (.cells cs.toArray t (0, 0)))) ∧ wpV P md ops Q S f l' a') : StepV P md ops Q S f l a i := by
  intro w hS
  have e : l.setIfInBounds i true = l' := by simpa using set_of hl
  unfold wpOp
  simp only [hi, hw, if_true]
  refine .inl ?_
  unfold Oper.wp
  rw [loc_alloc_run ho hz w]
  obtain ⟨a', h1, h2, h3⟩ := h w.heap.size
  subst h1
  show _ ∧ _
  rw [hN, e]
  exact ⟨h2 w hS rfl, h3⟩
/-- What stands behind the region, told once: two variables made, one value set. -/
theorem v_rest (N1 N2 N3 n : Tmp) {v3 : Value} (L : Nat → Nat → World → Prop) (hv : a.tmps[n]? = some v3) (rest : ∀ g1 g2 w, L g1 g2 w → Q .normal (((a.put (some N1) (.pointer (some ⟨g1, 0, none⟩))).put (some N2) (.pointer (some ⟨g2, 0, none⟩))).put (some N3) v3) w)
    (k : Aside0 (∀ g1 g2 w, L g1 g2 w → Q .normal (((a.put (some N1) (.pointer (some ⟨g1, 0, none⟩))).put (some N2) (.pointer (some ⟨g2, 0, none⟩))).put (some N3) v3) w) → wpV P md ops Q S f l a) : wpV P md ops Q S f l a := k ⟨rest⟩
end
/-- The block that a frame's slot points to. -/
def pt (b : Act) (n : Tmp) : Nat := match b.tmps[n]? with
  | some (.pointer (some ⟨g, _, _⟩)) => g
  | _ => 0
theorem pt_put {b : Act} {n m : Tmp} {v : Value} (h : n ≠ m) : pt (b.put (some m) v) n = pt b n := by
  unfold pt Act.put
  simp only [Array.getElem?_setIfInBounds]
  rw [if_neg (fun e => h e.symm)]
theorem pt_none {b : Act} {n : Tmp} {v : Value} : pt (b.put none v) n = pt b n := rfl
section
variable {w0 w : World} {A H : List Blk}
theorem Lok.tl (h : Lok w0 w (A ++ H)) : Lok w0 w H := ⟨h.bel, fun x hx => h.all x (List.mem_append.2 (.inr hx)), by
  have := h.ne
  rw [List.map_append, List.nodup_append] at this
  exact this.2.1⟩
theorem Lok.perm {H' : List Blk} (h : Lok w0 w H) (p : H.Perm H') : Lok w0 w H' := ⟨h.bel, fun x hx => h.all x (p.mem_iff.2 hx), (p.map Prod.fst).nodup_iff.1 h.ne⟩
theorem Lok.newAt (cs : List Value) (t : TypeId) (h : Lok w0 w (A ++ H)) {g : Nat} (hg : g = w.heap.size) : Lok w0 (w.alloc (.cells cs.toArray t (0, 0))) (A ++ (g, cs, t) :: H) := by
  subst hg
  exact (h.new cs t).perm List.perm_middle.symm
end
end Go.Proofs.YteknaofnageihaaLoc
