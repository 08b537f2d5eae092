-- Written by a program of this session, a turned copy of the print (not by print.sh itself). Lean checks it.
import Derived.Test.YteknaofnageihaaQFnExactSegCutx0
namespace Go.Proofs.Yteknaofnageihaa.QFnExactSegCut
open Go.RowKit Go.Proofs.YteknaofnageihaaW.PrintWords Go.Proofs.YteknaofnageihaaW.PrintLast Go.Proofs.YteknaofnageihaaW.PrintMore Go.Proofs.YteknaofnageihaaLoc
attribute [local go_sem] max2_int min2_int max_two min_two max_three min_three max_four min_four   -- for this text's walks alone
set_option linter.unusedVariables false
set_option linter.unusedSimpArgs false

/-! ### impl_SegPart: function 67 -/
def impl_SegPart.f (l0 : List S39) : Option (List S39) := if l0.length * 40 ≤ 140737488355328 then some l0 else none
set_option maxHeartbeats 4000000 in
set_option maxRecDepth 100000 in
theorem impl_SegPart.clone (A0 : Option Addr) (c0 : Nat) (l0 : List (List Value)) (w : World) (hr0 : Kd.C (Kd.raw 3) w A0 l0.length l0) (hc0 : l0.length ≤ c0) (hl : l0.length * 40 ≤ 140737488355328) :
    Calls Try.prog 96 #[.slice A0 l0.length c0] w fun e w' => ∃ v0_ : Value, e = .returned (v0_) ∧ Kd.R (Kd.raw 3) 39 w' w.heap.size (fun k_ => (w.heap.size ≤ k_)) v0_ l0 ∧ Below w.heap.size w w' := by
  have HR0 := mk_ hr0
  have HB := mk_ (Below.refl w.heap.size w)
  cases A0 with
  | none =>
    have h0 : l0 = [] := by
      rcases l0 with _ | ⟨x, xs⟩
      · rfl
      · obtain ⟨ad, e, _⟩ := hr0.2.2 (by simp)
        exact absurd e (by simp)
    subst h0
    clear hr0 HR0
    have e4 : Sem.run Try.prog (binOp BinOp.eql 23 (Value.slice none 0 c0) (Value.slice none 0 0)) w = .ok (.bool true) w := Go.Lib.run_eql_slice_nil w 23 39 none 0 c0 0 0 Try.underlying23
    show Calls Try.prog 96 #[.slice none 0 c0] w _
    go_enter Try.func96, Try.ntmps96
    go_wp2
    go_ret
    exact ⟨_, rfl, Kd.R_nil _ _ _ _ _, by repeat (first | (with_reducible first | exact HB.out | apply zq7 | apply zq8 | apply zq9) | exact HB.out)⟩
  | some ad =>
    clear hr0
    have e4 : Sem.run Try.prog (binOp BinOp.eql 23 (Value.slice (some ad) l0.length c0) (Value.slice none 0 0)) w = .ok (.bool false) w := Go.Lib.run_eql_slice_nil w 23 39 (some ad) l0.length c0 0 0 Try.underlying23
    go_enter Try.func96, Try.ntmps96
    go_wp2_with (first | ((with_reducible refine gate_dst (N := 5) rfl ?_); refine Kd.R_lit (Kd.raw 3) _ 39 ?hg (N := 5) ?hd (xs := ([] : List (List Value))) (inner := []) (ok := fun _ => True) (okp := fun _ => True) ?hr ?hp (fun _ hk => hk) trivial (Below.refl _ _) (Nat.le_refl _) (by simp) ?_; (case hd => rfl); (case hg => rfl); (case hr => first | (go_simp; done) | (go_simp; rfl)); (case hp => exact (Reps.none _ _)); intro v5 w5 ho hb hg_ hnew_; clear hg_ hnew_; have HO := mk_ (Kd.R_lower ho (zr2 (by repeat (first | (with_reducible first | exact HB.out | apply zq7 | apply zq8 | apply zq9) | exact HB.out)))); replace HB := mk_ (zr3 (by repeat (first | (with_reducible first | exact HB.out | apply zq7 | apply zq8 | apply zq9) | exact HB.out)) hb); clear hb ho) | ((with_reducible refine gate_dst (N := 7) rfl ?_); refine Kd.R_append_rows (Kd.raw 3) (w0 := w) w.heap.size (by rfl) (.tmp 5) (.tmp 6) 23 39 (.agg #[(.int .i64 0), (.int .i64 0), (.slice none 0 0)]) 40 rfl Try.underlying23 info39 rfl (by decide) (by omega) v5 [] l0 _ _ _ (fun _ => True) (fun _ => False) rfl rfl ?aO ?aR (fun _ _ h => h) (fun _ h => h.elim) ?aF ?aB ?aS ?aL ?_; (case aR => exact (Kd.C_below HR0.out HB.out)); (case aB => exact HB.out); (case aF => exact (fun _ _ => trivial)); (case aO => exact HO.out); (case aS => exact (zr2 HB.out)); (case aL => simp only [List.length_nil]; omega); intro v7 w7 ho hb hg hat; clear hg hat; replace HO := mk_ ho; replace HB := mk_ hb; clear ho hb))
    go_ret
    exact ⟨_, rfl, Kd.R_mono (Kd.R_bound HO.out) (fun k_ hk_ => hk_.2.1), HB.out⟩
set_option maxHeartbeats 4000000 in
set_option maxRecDepth 100000 in
theorem impl_SegPart.clip (P0_ : Nat → Prop) (base : Nat) (v : Value) (l0 : List (List Value)) (w : World) (hs0 : RR (Kd.raw 3) 39 w base P0_ v l0) :
    Calls Try.prog 95 #[v] w fun e w' => ∃ v0_ : Value, e = .returned (v0_) ∧ RR (Kd.raw 3) 39 w' base P0_ v0_ l0 ∧ Below w.heap.size w w' := by
  obtain ⟨A0, c0, rfl⟩ := RR_slice hs0
  obtain ⟨c', hc, hc2, hf⟩ := RR_cap (c' := 0) hs0
  have hu23 := Try.underlying23
  have hmx : (l0.length : Int) ≤ 9223372036854775807 := by have := Kd.F_max (Kd.R_F hf); omega
  have HF := mk_ hf
  clear hf hs0
  go_enter Try.func95, Try.ntmps95
  go_wp2
  go_ret
  exact ⟨_, rfl, RR_mk HF.out (Nat.le_refl _) (Nat.le_trans hc hc2), Below.refl _ _⟩
set_option maxHeartbeats 4000000 in
set_option maxRecDepth 100000 in
theorem impl_SegPart.walk (A0 : Option Addr) (c0 : Nat) (l0 : List (List Value)) (w : World) (hr0 : Kd.C (Kd.raw 3) w A0 l0.length l0) (hc0 : l0.length ≤ c0) (hl : l0.length * 40 ≤ 140737488355328) :
    Calls Try.prog 67 #[.slice A0 l0.length c0] w fun e w' => ∃ v0_ : Value, e = .returned (v0_) ∧ RR (Kd.raw 3) 39 w' w.heap.size (fun k_ => (w.heap.size ≤ k_)) v0_ l0 ∧ Below w.heap.size w w' := by
  have HR0 := mk_ hr0
  have HC0 := mk_ hc0
  have HB := mk_ (Below.refl w.heap.size w)
  clear hr0 hc0
  go_enter Try.func67, Try.ntmps67
  go_wp2_with (first | (go_at_call 96; refine (impl_SegPart.clone _ _ l0 _ (Kd.C_below HR0.out HB.out) HC0.out hl).mono ?_; rintro e w4 ⟨v4, rfl, ho, hb⟩; have HO := mk_ (RR_lower (RR_mono (ok' := fun k_ => w.heap.size ≤ k_) (R_RR ho) (fun k_ hk_ => Nat.le_trans (zr2 HB.out) hk_)) (zr2 HB.out)); replace HB := mk_ (zr3 HB.out hb); clear ho hb) | (go_at_call 95; refine (impl_SegPart.clip _ _ _ l0 _ HO.out).mono ?_; rintro e w5 ⟨v5, rfl, ho, hb⟩; replace HO := mk_ ho; replace HB := mk_ (zr3 HB.out hb); clear ho hb))
  go_ret
  exact ⟨_, rfl, HO.out, HB.out⟩
theorem impl_SegPart.callsP (A0 : Option Addr) (c0 base : Nat) (ok : Nat → Prop) (l0 r : List S39) (w : World) (hbase : base ≤ w.heap.size) (ho : P39 w base ok (.slice A0 l0.length c0) l0) (h : impl_SegPart.f l0 = some r) :
    Calls Try.prog 67 #[.slice A0 l0.length c0] w fun e w' => ∃ v0_ : Value, e = .returned (v0_) ∧ C39 w' base (fun k_ => (ok k_ ∨ w.heap.size ≤ k_)) v0_ r ∧ Below w.heap.size w w' := by
  unfold impl_SegPart.f at h
  by_cases hl : l0.length * 40 ≤ 140737488355328
  · rw [if_pos hl] at h
    obtain rfl := Option.some.inj h
    obtain ⟨h0, us, hlu, hR, hf, hd⟩ := ho
    have hz : (List.zipWith enc39 l0 us).length = l0.length := by rw [List.length_zipWith, hlu, Nat.min_self]
    obtain ⟨hn, hc, hC⟩ := Kd.R_reads' hR
    have hw := impl_SegPart.walk A0 c0 (List.zipWith enc39 l0 us) w (by rw [hz] at hC ⊢; exact hC) (by rw [hz]; exact hc) (by rw [hz]; exact hl)
    rw [hz] at hw
    refine hw.mono ?_
    rintro e w' ⟨v, rfl, hv, hb⟩
    refine ⟨v, rfl, ?_, hb⟩
    obtain ⟨A, n, c, c', rfl, h1, h2, h3⟩ := hv
    have hbs : ∀ k, (Value.slice A n c').ownBlock = some k → w.heap.size ≤ k := Kd.R_base h3
    refine ⟨A, n, c, c', rfl, h1, h2, fun k hk => .inr (hbs k hk), us, hlu, Kd.R_lower (Kd.raw_tight h3) hbase, fun j x u hx hu => ?_, hd⟩
    refine RR_mono (RR_below (RR_bound (hf j x u hx hu)) hb) (fun k hk => ⟨.inl hk.1.1, fun he => ?_⟩)
    have := hbs k he.symm
    have := hk.2.2.1
    omega
  · rw [if_neg hl] at h
    exact absurd h (by simp)

end Go.Proofs.Yteknaofnageihaa.QFnExactSegCut
