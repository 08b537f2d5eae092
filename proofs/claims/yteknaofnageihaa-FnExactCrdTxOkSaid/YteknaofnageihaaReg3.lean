/- Regions that make variables, further laws: a call that turns what S tells; what stands behind the region, told once. -/
import Derived.Test.YteknaofnageihaaReg2
namespace Go.Proofs.YteknaofnageihaaLoc
open Go.RowKit Go.Proofs.YteknaofnageihaaW.PrintWords Go.Proofs.YteknaofnageihaaW.PrintLast Go.Proofs.YteknaofnageihaaW.PrintMore
set_option linter.unusedVariables false
section
variable {P : Program} {ops : Array Oper} {Q : Exit → Act → World → Prop} {md : Region.Mode} {S : Rel} {T : Bool × List (List Nat × List Nat)} {f : Nat} {oi : Oper} {v : Value} {l : Array Bool} {a a' : Act} {w : World}
/-- A call that turns what S tells. -/
theorem vK {i : Nat} (N : Option Tmp) (l' : Array Bool) (hi : ops[i]? = some oi) (hN : oi.dst = N) (hl : (l.toList.set i true == l'.toList) = true) (hw : Region.wanted oi (yielded ops a.tmps) = true) {g : FuncId} {fn : Func} {as : Array Operand} {ts : Array TypeId} (hf : P.funcs[g]? = some fn) (hname : (fn.name == "runtime.NumGoroutine") = false) (hb : fn.body.isSome = true) (args : Array Value)
    (hop : oi.op = .call { callee := .value (.func g), args := as, argTypes := ts }) (hargs : as.map a.eval = args) (ha : a.put N v = a') (hc : ∀ w, S l a w → Calls P g args w fun e w' => e = .returned v ∧ S l' a' w') (h : wpV P md ops Q S f l' a') : StepV P md ops Q S f l a i := by
  intro w hS
  subst ha
  have e : l.setIfInBounds i true = l' := by simpa using set_of hl
  have he := enters_ hf hname hb args w
  have hrun : (execOp a.eval oi).run P w = .ok (.enter g args) w := by
    unfold execOp
    simp [hop, resolve, Deferred.ofValue, invoke, Act.eval, hargs, he]
  unfold wpOp
  simp only [hi, hw, if_true]
  refine .inl ?_
  unfold Oper.wp
  rw [hrun]
  refine Calls.mono (hc w hS) fun en w2 h2 => ?_
  obtain ⟨rfl, h3⟩ := h2
  show _ ∧ _
  rw [hN, e]
  exact ⟨h3, h⟩
/-- What stands behind the region, told once: two variables made, then these values set. -/
theorem v_restL (N1 N2 : Tmp) (E : List (Tmp × Value)) (L : Nat → Nat → World → Prop) (rest : ∀ g1 g2 w, L g1 g2 w → Q .normal (E.foldl (fun b p => b.put (some p.1) p.2) ((a.put (some N1) (.pointer (some ⟨g1, 0, none⟩))).put (some N2) (.pointer (some ⟨g2, 0, none⟩)))) w)
    (k : Aside0 (∀ g1 g2 w, L g1 g2 w → Q .normal (E.foldl (fun b p => b.put (some p.1) p.2) ((a.put (some N1) (.pointer (some ⟨g1, 0, none⟩))).put (some N2) (.pointer (some ⟨g2, 0, none⟩)))) w) → wpV P md ops Q S f l a) : wpV P md ops Q S f l a := k ⟨rest⟩
end
end Go.Proofs.YteknaofnageihaaLoc
