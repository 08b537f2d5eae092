/- A region that draws its order, told in the text's order: operations that leave a relation S on the world as it is (reads, and calls that make memory) commute with all else. -/
import Derived.Test.YteknaofnageihaaLoc
namespace Go.Proofs.YteknaofnageihaaLoc
open Go.RowKit Go.Proofs.YteknaofnageihaaW.PrintWords Go.Proofs.YteknaofnageihaaW.PrintLast Go.Proofs.YteknaofnageihaaW.PrintMore
set_option linter.unusedVariables false
def bl : Nat → Nat → List Bool
  | 0, _ => []
  | n + 1, m => (m % 2 == 1) :: bl n (m / 2)
/-- n Bools, out of a number's bits. -/
def bm (n m : Nat) : Array Bool := (bl n m).toArray
/-- What an operation's run comes to: v, and S still holds. -/
def Tells (P : Program) (R : World → Prop) (v : Value) : Result Next → Prop
  | .ok (.value u) w => u = v ∧ R w
  | .ok (.enter f args) w => Calls P f args w fun e w' => e = .returned v ∧ R w'
  | _ => False
section
variable {P : Program} {ops : Array Oper} {Q : Exit → Act → World → Prop} {md : Region.Mode} {S : Array Bool → World → Prop}
def QuietU (P : Program) (ops : Array Oper) (S : Array Bool → World → Prop) (o : Oper) (v : Value) (a : Act) : Prop :=
  (Region.wanted o (yielded ops a.tmps) = true ∧ ∀ l w, S l w → Tells P (S l) v ((execOp a.eval o).run P w)) ∨ (Region.wanted o (yielded ops a.tmps) = false ∧ v = undef)
/-- Whatever order is picked, in whatever world that meets S. -/
def wpU (P : Program) (md : Region.Mode) (ops : Array Oper) (Q : Exit → Act → World → Prop) (S : Array Bool → World → Prop) : Nat → Array Bool → Act → Prop
  | 0, l, a => Region.ready md ops l = [] ∧ ∀ w, S l w → Q .normal a w
  | f + 1, l, a => (Region.ready md ops l = [] → ∀ w, S l w → Q .normal a w) ∧ ∀ i ∈ Region.ready md ops l, ∀ w, S l w → wpOp P ops Q i (fun a' w' => S (l.setIfInBounds i true) w' ∧ wpU P md ops Q S f (l.setIfInBounds i true) a') a w
theorem wpU_any : ∀ (f : Nat) (l : Array Bool) (a : Act), wpU P md ops Q S f l a → ∀ w, S l w → wpAny P md ops Q f l a w
  | 0, _, _, h, w, hS => ⟨h.1, h.2 w hS⟩
  | f + 1, l, a, h, w, hS => ⟨fun e => h.1 e w hS, fun i hi => wpOp_mono (fun a' w' h' => wpU_any f _ a' h'.2 w' h'.1) (h.2 i hi w hS)⟩
theorem QuietU.of_same {o : Oper} {v : Value} {a a' : Act} (hy : QuietU P ops S o v a) (he : execOp a'.eval o = execOp a.eval o) (hw : Region.wanted o (yielded ops a'.tmps) = Region.wanted o (yielded ops a.tmps)) : QuietU P ops S o v a' := by
  unfold QuietU at *
  rw [he, hw]
  exact hy
theorem QuietU.wpOp {i : Nat} {o : Oper} {v : Value} {a : Act} {l : Array Bool} (hi : ops[i]? = some o) (hy : QuietU P ops S o v a) {K : Act → World → Prop} {w : World} (hS : S l w) (h : ∀ w', S l w' → K (a.put o.dst v) w') : wpOp P ops Q i K a w := by
  unfold Go.wpOp
  simp only [hi]
  rcases hy with ⟨hw, hv⟩ | ⟨hw, rfl⟩
  · simp only [hw, if_true]
    have ht := hv l w hS
    refine .inl ?_
    unfold Oper.wp
    generalize (execOp a.eval o).run P w = r at ht
    match r, ht with
    | .ok (.value u) w', ht =>
      obtain ⟨rfl, h2⟩ := ht
      exact h w' h2
    | .ok (.enter f args) w', ht =>
      refine Calls.mono ht fun e w'' he => ?_
      obtain ⟨rfl, h2⟩ := he
      exact h w'' h2
  · simp only [hw, Bool.false_eq_true, if_false]
    exact h w hS
/-- Another operation, apart from oi: oi's value in its slot makes no difference to it. -/
theorem wpOp_putU {R : Act → Prop} {j : Nat} {oi oj : Oper} {v : Value} (hj : ops[j]? = some oj) (hap : oi.apart ops oj = true) (hsj : ∀ cs b, oj.op ≠ .select cs b)
    (hQ : ∀ c a w, Q (.panic c) (a.put oi.dst v) w → Q (.panic c) a w) (keep : ∀ a u, R a → R (a.put oj.dst u)) (keepD : ∀ (a : Act) d, R a → R { a with defers := d :: a.defers }) {K : Act → World → Prop} {a : Act} {w : World}
    (hR : R a) (h : wpOp P ops Q j K (a.put oi.dst v) w) : wpOp P ops Q j (fun a' w' => R a' ∧ K (a'.put oi.dst v) w') a w := by
  obtain ⟨h1, h2, _⟩ := Oper.apart_spec hap
  have turn : ∀ (a : Act) u, (a.put oi.dst v).put oj.dst u = (a.put oj.dst u).put oi.dst v := fun a u => Act.put_comm a v u h2
  unfold wpOp at *
  simp only [hj] at *
  rw [wanted_put oj a oi.dst v h1] at h
  by_cases hw : Region.wanted oj (yielded ops a.tmps) = true
  · rw [if_pos hw] at h ⊢
    rcases h with h | ⟨hasks, hlets⟩
    · refine .inl ?_
      unfold Oper.wp at *
      rw [execOp_put oj hsj a oi.dst v h1] at h
      generalize (execOp a.eval oj).run P w = r at h ⊢
      match r with
      | .ok (.value u) w' => exact ⟨keep a u hR, by rw [← turn]; exact h⟩
      | .ok .skip w' => exact ⟨keep a undef hR, by rw [← turn]; exact h⟩
      | .ok (.defer d) w' =>
        refine ⟨keep _ undef (keepD a d hR), ?_⟩
        rw [← turn]
        have e := Act.put_defers a oi.dst v d
        show K (Act.put _ _ _) w'
        rw [← e]
        exact h
      | .ok (.enter f args) w' =>
        refine Calls.mono h fun e w'' he => ?_
        cases e with
        | returned u => exact ⟨keep a u hR, by rw [← turn]; exact he⟩
        | panicked c => exact hQ _ _ _ he
        | outgrown => exact he
      | .ok (.row row args) w' => exact Rows.mono h fun u w'' he => ⟨keep a u hR, by rw [← turn]; exact he⟩
      | .halt (.panic u) w' => exact hQ _ _ _ h
    · refine .inr ⟨?_, hlets⟩
      unfold Oper.asks at *
      rw [execOp_put oj hsj a oi.dst v h1] at hasks
      exact hasks
  · rw [if_neg hw] at h ⊢
    exact ⟨keep a undef hR, by rw [← turn]; exact h⟩
theorem wpU_first {i : Nat} {oi : Oper} {v : Value} (hi : ops[i]? = some oi) (hsel : ∀ (j : Nat) (o : Oper) cs b, ops[j]? = some o → o.op ≠ .select cs b)
    (hQ : ∀ c a w, Q (.panic c) (a.put oi.dst v) w → Q (.panic c) a w) (hSi : ∀ l w, S (l.setIfInBounds i true) w ↔ S l w) :
    ∀ (f : Nat) (l : Array Bool) (a : Act), (∀ j oj, ops[j]? = some oj → j ≠ i → l.getD j true = false → (∀ e ∈ oj.after, Region.binds md e = true → e.on ≠ i) → oi.apart ops oj = true) →
      i ∈ Region.ready md ops l → QuietU P ops S oi v a → wpU P md ops Q S f (l.setIfInBounds i true) (a.put oi.dst v) → wpU P md ops Q S (f + 1) l a := by
  intro f
  induction f with
  | zero =>
    intro l a _ hr hy H
    refine ⟨fun h => (by rw [h] at hr; cases hr), fun j hj w hS => ?_⟩
    by_cases hji : j = i
    · subst hji
      exact hy.wpOp hi hS fun w' h' => ⟨(hSi l w').2 h', H⟩
    · have := ready_mono hj hji
      rw [H.1] at this
      cases this
  | succ f ih =>
    intro l a hfree hr hy H
    refine ⟨fun h => (by rw [h] at hr; cases hr), fun j hj w hS => ?_⟩
    by_cases hji : j = i
    · subst hji
      exact hy.wpOp hi hS fun w' h' => ⟨(hSi l w').2 h', H⟩
    · have h1 := H.2 j (ready_mono hj hji) w ((hSi l w).2 hS)
      obtain ⟨hjun, oj, hoj, hall⟩ := mem_ready.1 hj
      have hiun := (mem_ready.1 hr).1
      have hnot : ∀ e ∈ oj.after, Region.binds md e = true → e.on ≠ i := fun e he hb heq => by
        have h1 := hall e he hb
        rw [heq] at h1
        rcases Nat.lt_or_ge i l.size with h' | h'
        · simp [h'] at hiun h1; rw [hiun] at h1; cases h1
        · simp [Array.getElem?_eq_none h'] at h1
      have hap := hfree j oj hoj hji hjun hnot
      have hap3 := (Oper.apart_spec hap).2.2
      have h2 := wpOp_putU (R := QuietU P ops S oi v) hoj hap (fun cs b => hsel j oj cs b hoj) hQ
        (fun a u hR => hR.of_same (execOp_put oi (fun cs b => hsel i oi cs b hi) a oj.dst u hap3) (wanted_put oi a oj.dst u hap3)) (fun a d hR => hR.of_same rfl rfl) hy h1
      have hfree' : ∀ k ok, ops[k]? = some ok → k ≠ i → (l.setIfInBounds j true).getD k true = false →
          (∀ e ∈ ok.after, Region.binds md e = true → e.on ≠ i) → oi.apart ops ok = true := fun k ok hk hki hun hno => by
        refine hfree k ok hk hki ?_ hno
        by_cases hjk : j = k
        · subst hjk; exact hjun
        · rw [getD_set_ne true hjk] at hun; exact hun
      refine wpOp_mono (fun a' w' h3 => ?_) h2
      rw [Array.setIfInBounds_comm _ _ (Ne.symm hji)] at h3
      exact ⟨(hSi _ w').1 h3.2.1, ih (l.setIfInBounds j true) a' hfree' (ready_mono hr (Ne.symm hji)) h3.1 h3.2.2⟩
variable {T : Bool × List (List Nat × List Nat)} {f : Nat} {oi : Oper} {v : Value} {l : Array Bool} {a a' : Act} {w : World}
theorem u_take (i : Nat) (N : Option Tmp) (l' : Array Bool) (hi : ops[i]? = some oi) (hN : oi.dst = N) (hT : rtab md ops = T) (hc : anyT T l.toList l'.toList i = true) (hQ : ∀ c a w, Q (.panic c) (a.put oi.dst v) w → Q (.panic c) a w) (hSi : ∀ l w, S (l.setIfInBounds i true) w ↔ S l w)
    (hy : QuietU P ops S oi v a) (ha : a.put N v = a') (h : wpU P md ops Q S f l' a') : wpU P md ops Q S (f + 1) l a := by
  subst ha
  subst hN
  have hc2 := any_of hT hc
  simp only [anyB, Bool.and_eq_true, beq_iff_eq] at hc2
  obtain ⟨⟨⟨h1, h2⟩, h3⟩, h6⟩ := hc2
  subst h6
  exact wpU_first hi (Region.noSelect_spec h1) hQ hSi f l a (Region.free_spec hi h2) (by simpa using h3) hy h
/-- A pure operation. -/
theorem uP (i : Nat) (N : Option Tmp) (l' : Array Bool) (hi : ops[i]? = some oi) (hN : oi.dst = N) (hT : rtab md ops = T) (hc : anyT T l.toList l'.toList i = true) (hQ : ∀ c a w, Q (.panic c) (a.put oi.dst v) w → Q (.panic c) a w) (hSi : ∀ l w, S (l.setIfInBounds i true) w ↔ S l w)
    (hw : Region.wanted oi (yielded ops a.tmps) = true) (hy : ∀ w, (execOp a.eval oi).run P w = .ok (.value v) w) (ha : a.put N v = a') (h : wpU P md ops Q S f l' a') : wpU P md ops Q S (f + 1) l a :=
  u_take i N l' hi hN hT hc hQ hSi (.inl ⟨hw, fun l w hS => by rw [hy w]; exact ⟨rfl, hS⟩⟩) ha h
/-- A read. -/
theorem uL (i : Nat) (N : Option Tmp) (l' : Array Bool) (hi : ops[i]? = some oi) (hN : oi.dst = N) (hT : rtab md ops = T) (hc : anyT T l.toList l'.toList i = true) (hQ : ∀ c a w, Q (.panic c) (a.put oi.dst v) w → Q (.panic c) a w) (hSi : ∀ l w, S (l.setIfInBounds i true) w ↔ S l w)
    (hw : Region.wanted oi (yielded ops a.tmps) = true) (hy : ∀ l w, S l w → (execOp a.eval oi).run P w = .ok (.value v) w) (ha : a.put N v = a') (h : wpU P md ops Q S f l' a') : wpU P md ops Q S (f + 1) l a :=
  u_take i N l' hi hN hT hc hQ hSi (.inl ⟨hw, fun l w hS => by rw [hy l w hS]; exact ⟨rfl, hS⟩⟩) ha h
/-- One that is left out. -/
theorem uN (i : Nat) (N : Option Tmp) (l' : Array Bool) (hi : ops[i]? = some oi) (hN : oi.dst = N) (hT : rtab md ops = T) (hc : anyT T l.toList l'.toList i = true) (hQ : ∀ c a w, Q (.panic c) (a.put oi.dst undef) w → Q (.panic c) a w) (hSi : ∀ l w, S (l.setIfInBounds i true) w ↔ S l w)
    (hw : Region.wanted oi (yielded ops a.tmps) = false) (ha : a.put N undef = a') (h : wpU P md ops Q S f l' a') : wpU P md ops Q S (f + 1) l a :=
  u_take i N l' hi hN hT hc hQ hSi (.inr ⟨hw, rfl⟩) ha h
/-- A call of a Go function. -/
theorem uC (i : Nat) (N : Option Tmp) (l' : Array Bool) (hi : ops[i]? = some oi) (hN : oi.dst = N) (hT : rtab md ops = T) (hc : anyT T l.toList l'.toList i = true) (hQ : ∀ c a w, Q (.panic c) (a.put oi.dst v) w → Q (.panic c) a w) (hSi : ∀ l w, S (l.setIfInBounds i true) w ↔ S l w)
    (hw : Region.wanted oi (yielded ops a.tmps) = true) {g : FuncId} {fn : Func} {as : Array Operand} {ts : Array TypeId} (hf : P.funcs[g]? = some fn) (hname : (fn.name == "runtime.NumGoroutine") = false) (hb : fn.body.isSome = true) (args : Array Value)
    (hop : oi.op = .call { callee := .value (.func g), args := as, argTypes := ts }) (hargs : as.map a.eval = args) (hc2 : ∀ l w, S l w → Calls P g args w fun e w' => e = .returned v ∧ S l w') (ha : a.put N v = a') (h : wpU P md ops Q S f l' a') : wpU P md ops Q S (f + 1) l a :=
  u_take i N l' hi hN hT hc hQ hSi (.inl ⟨hw, fun l w hS => by
    have he := enters_ hf hname hb args w
    have hrun : (execOp a.eval oi).run P w = .ok (.enter g args) w := by
      unfold execOp
      simp [hop, resolve, Deferred.ofValue, invoke, Act.eval, hargs, he]
    rw [hrun]
    exact hc2 l w hS⟩) ha h
/-- All has come up. -/
theorem uD (hT : rtab md ops = T) (hc : (readyT T.2 l.toList == []) = true) (h : ∀ w, S l w → Q .normal a w) : wpU P md ops Q S f l a := by
  have hr : Region.ready md ops l = [] := by
    subst hT
    rw [ready_eq]
    simpa using hc
  cases f with
  | zero => exact ⟨hr, h⟩
  | succ f => exact ⟨fun _ => h, by rw [hr]; simp⟩
theorem u_tab {n : Nat} (hT : rtab md ops = T) (h : Aside0 (rtab md ops = T) → wpU P md ops Q S n l a) : wpU P md ops Q S n l a := h ⟨hT⟩
/-- Such a region as code. -/
theorem u_start {id n : Nat} (l : Array Bool) (hm : P.follows .mixedOrders = true) (hn : ops.size = n) (hl : Array.replicate n false = l) (hS : S l w.drew) (h : wpU P .any ops Q S n l a) : (Code.region id ops true).wp P Q a w := by
  subst hn
  subst hl
  exact wp_region_any hm (wpU_any _ _ _ h _ hS)
/-- What may come up: these, one by one. -/
def StepU (P : Program) (md : Region.Mode) (ops : Array Oper) (Q : Exit → Act → World → Prop) (S : Array Bool → World → Prop) (f : Nat) (l : Array Bool) (a : Act) (i : Nat) : Prop :=
  ∀ w, S l w → wpOp P ops Q i (fun a' w' => S (l.setIfInBounds i true) w' ∧ wpU P md ops Q S f (l.setIfInBounds i true) a') a w
theorem u_ready {rs : List Nat} (hT : rtab md ops = T) (hc : (readyT T.2 l.toList == rs) = true) (hne : rs ≠ []) (h : ∀ i ∈ rs, StepU P md ops Q S f l a i) : wpU P md ops Q S (f + 1) l a := by
  have hr : Region.ready md ops l = rs := by
    subst hT
    rw [ready_eq]
    simpa using hc
  exact ⟨fun h0 => absurd (hr ▸ h0) hne, hr ▸ h⟩
theorem u_one {i : Nat} (hT : rtab md ops = T) (hc : (readyT T.2 l.toList == [i]) = true) (h : StepU P md ops Q S f l a i) : wpU P md ops Q S (f + 1) l a :=
  u_ready hT hc (by simp) (by simpa using h)
theorem u_two {i j : Nat} (hT : rtab md ops = T) (hc : (readyT T.2 l.toList == [i, j]) = true) (h1 : StepU P md ops Q S f l a i) (h2 : StepU P md ops Q S f l a j) : wpU P md ops Q S (f + 1) l a :=
  u_ready hT hc (by simp) (fun k hk => by
    rcases List.mem_cons.1 hk with rfl | hk
    · exact h1
    · rw [List.mem_singleton.1 hk]; exact h2)
theorem u_three {i j k : Nat} (hT : rtab md ops = T) (hc : (readyT T.2 l.toList == [i, j, k]) = true) (h1 : StepU P md ops Q S f l a i) (h2 : StepU P md ops Q S f l a j) (h3 : StepU P md ops Q S f l a k) : wpU P md ops Q S (f + 1) l a :=
  u_ready hT hc (by simp) (fun m hm => by
    rcases List.mem_cons.1 hm with rfl | hm
    · exact h1
    · rcases List.mem_cons.1 hm with rfl | hm
      · exact h2
      · rw [List.mem_singleton.1 hm]; exact h3)
/-- A store: what it writes is told by S behind it. -/
theorem uS {i : Nat} (l' : Array Bool) (hi : ops[i]? = some oi) (hN : oi.dst = none) (hl : (l.toList.set i true == l'.toList) = true) (hw : Region.wanted oi (yielded ops a.tmps) = true) (hy : ∀ w, S l w → ∃ w', (execOp a.eval oi).run P w = .ok .skip w' ∧ S l' w') (h : wpU P md ops Q S f l' a) : StepU P md ops Q S f l a i := by
  intro w hS
  have e : l.setIfInBounds i true = l' := by simpa using set_of hl
  obtain ⟨w', hr, hS'⟩ := hy w hS
  unfold wpOp
  simp only [hi, hw, if_true]
  refine .inl ?_
  unfold Oper.wp
  rw [hr]
  show _ ∧ _
  rw [hN, e]
  exact ⟨hS', h⟩
end
end Go.Proofs.YteknaofnageihaaLoc
