-- Written by a program of this session, a turned copy of the print (not by print.sh itself). Lean checks it.
import Derived.Test.YteknaofnageihaaQFnExactSegCutx0
namespace Go.Proofs.Yteknaofnageihaa.QFnExactSegCut
open Go.RowKit Go.Proofs.YteknaofnageihaaW.PrintWords Go.Proofs.YteknaofnageihaaW.PrintLast Go.Proofs.YteknaofnageihaaW.PrintMore Go.Proofs.YteknaofnageihaaLoc
attribute [local go_sem] max2_int min2_int max_two min_two max_three min_three max_four min_four   -- for this text's walks alone
set_option linter.unusedVariables false
set_option linter.unusedSimpArgs false

/-! ### impl_clone_byte: function 66 -/
def impl_clone_byte.f (l0 : List Int) : Option (List Int) := if l0.length * 1 ≤ 140737488355328 then some l0 else none
set_option maxHeartbeats 4000000 in
set_option maxRecDepth 100000 in
theorem impl_clone_byte.clone (A0 : Option Addr) (c0 : Nat) (l0 : List Int) (w : World) (hr0 : Kd.C (Kd.int .u8) w A0 l0.length l0) (hc0 : l0.length ≤ c0) (hl : l0.length * 1 ≤ 140737488355328) :
    Calls Try.prog 94 #[.slice A0 l0.length c0] w fun e w' => ∃ v0_ : Value, e = .returned (v0_) ∧ Kd.R (Kd.int .u8) 5 w' w.heap.size (fun k_ => (w.heap.size ≤ k_)) v0_ l0 ∧ Below w.heap.size w w' := by
  have HR0 := mk_ hr0
  have HB := mk_ (Below.refl w.heap.size w)
  cases A0 with
  | none =>
    have h0 : l0 = [] := by
      rcases l0 with _ | ⟨x, xs⟩
      · rfl
      · obtain ⟨ad, e, _⟩ := hr0.2.2 (by simp)
        exact absurd e (by simp)
    subst h0
    clear hr0 HR0
    have e4 : Sem.run Try.prog (binOp BinOp.eql 22 (Value.slice none 0 c0) (Value.slice none 0 0)) w = .ok (.bool true) w := Go.Lib.run_eql_slice_nil w 22 5 none 0 c0 0 0 Try.underlying22
    show Calls Try.prog 94 #[.slice none 0 c0] w _
    go_enter Try.func94, Try.ntmps94
    go_wp2
    go_ret
    exact ⟨_, rfl, Kd.R_nil _ _ _ _ _, by repeat (first | (with_reducible first | exact HB.out | apply zq7 | apply zq8 | apply zq9) | exact HB.out)⟩
  | some ad =>
    clear hr0
    have e4 : Sem.run Try.prog (binOp BinOp.eql 22 (Value.slice (some ad) l0.length c0) (Value.slice none 0 0)) w = .ok (.bool false) w := Go.Lib.run_eql_slice_nil w 22 5 (some ad) l0.length c0 0 0 Try.underlying22
    go_enter Try.func94, Try.ntmps94
    go_wp2_with (first | ((with_reducible refine gate_dst (N := 5) rfl ?_); refine Kd.R_lit (Kd.int .u8) _ 5 ?hg (N := 5) ?hd (xs := ([] : List Int)) (inner := []) (ok := fun _ => True) (okp := fun _ => True) ?hr ?hp (fun _ hk => hk) trivial (Below.refl _ _) (Nat.le_refl _) (by simp) ?_; (case hd => rfl); (case hg => rfl); (case hr => first | (go_simp; done) | (go_simp; rfl)); (case hp => exact (Reps.none _ _)); intro v5 w5 ho hb hg_ hnew_; clear hg_ hnew_; have HO := mk_ (Kd.R_lower ho (zr2 (by repeat (first | (with_reducible first | exact HB.out | apply zq7 | apply zq8 | apply zq9) | exact HB.out)))); replace HB := mk_ (zr3 (by repeat (first | (with_reducible first | exact HB.out | apply zq7 | apply zq8 | apply zq9) | exact HB.out)) hb); clear hb ho) | ((with_reducible refine gate_dst (N := 7) rfl ?_); refine Kd.R_append_rows (Kd.int .u8) (w0 := w) w.heap.size (by rfl) (.tmp 5) (.tmp 6) 22 5 (.int .u8 0) 1 rfl Try.underlying22 info5 rfl (by decide) (by omega) v5 [] l0 _ _ _ (fun _ => True) (fun _ => False) rfl rfl ?aO ?aR (fun _ _ h => h) (fun _ h => h.elim) ?aF ?aB ?aS ?aL ?_; (case aR => exact (Kd.C_below HR0.out HB.out)); (case aB => exact HB.out); (case aF => exact (fun _ _ => trivial)); (case aO => exact HO.out); (case aS => exact (zr2 HB.out)); (case aL => simp only [List.length_nil]; omega); intro v7 w7 ho hb hg hat; clear hg hat; replace HO := mk_ ho; replace HB := mk_ hb; clear ho hb))
    go_ret
    exact ⟨_, rfl, Kd.R_mono (Kd.R_bound HO.out) (fun k_ hk_ => hk_.2.1), HB.out⟩
set_option maxHeartbeats 4000000 in
set_option maxRecDepth 100000 in
theorem impl_clone_byte.clip (P0_ : Nat → Prop) (base : Nat) (v : Value) (l0 : List Int) (w : World) (hs0 : RR (Kd.int .u8) 5 w base P0_ v l0) :
    Calls Try.prog 93 #[v] w fun e w' => ∃ v0_ : Value, e = .returned (v0_) ∧ RR (Kd.int .u8) 5 w' base P0_ v0_ l0 ∧ Below w.heap.size w w' := by
  obtain ⟨A0, c0, rfl⟩ := RR_slice hs0
  obtain ⟨c', hc, hc2, hf⟩ := RR_cap (c' := 0) hs0
  have hu22 := Try.underlying22
  have hmx : (l0.length : Int) ≤ 9223372036854775807 := by have := Kd.F_max (Kd.R_F hf); omega
  have HF := mk_ hf
  clear hf hs0
  go_enter Try.func93, Try.ntmps93
  go_wp2
  go_ret
  exact ⟨_, rfl, RR_mk HF.out (Nat.le_refl _) (Nat.le_trans hc hc2), Below.refl _ _⟩
set_option maxHeartbeats 4000000 in
set_option maxRecDepth 100000 in
theorem impl_clone_byte.walk (A0 : Option Addr) (c0 : Nat) (l0 : List Int) (w : World) (hr0 : Kd.C (Kd.int .u8) w A0 l0.length l0) (hc0 : l0.length ≤ c0) (hl : l0.length * 1 ≤ 140737488355328) :
    Calls Try.prog 66 #[.slice A0 l0.length c0] w fun e w' => ∃ v0_ : Value, e = .returned (v0_) ∧ RR (Kd.int .u8) 5 w' w.heap.size (fun k_ => (w.heap.size ≤ k_)) v0_ l0 ∧ Below w.heap.size w w' := by
  have HR0 := mk_ hr0
  have HC0 := mk_ hc0
  have HB := mk_ (Below.refl w.heap.size w)
  clear hr0 hc0
  go_enter Try.func66, Try.ntmps66
  go_wp2_with (first | (go_at_call 94; refine (impl_clone_byte.clone _ _ l0 _ (Kd.C_below HR0.out HB.out) HC0.out hl).mono ?_; rintro e w4 ⟨v4, rfl, ho, hb⟩; have HO := mk_ (RR_lower (RR_mono (ok' := fun k_ => w.heap.size ≤ k_) (R_RR ho) (fun k_ hk_ => Nat.le_trans (zr2 HB.out) hk_)) (zr2 HB.out)); replace HB := mk_ (zr3 HB.out hb); clear ho hb) | (go_at_call 93; refine (impl_clone_byte.clip _ _ _ l0 _ HO.out).mono ?_; rintro e w5 ⟨v5, rfl, ho, hb⟩; replace HO := mk_ ho; replace HB := mk_ (zr3 HB.out hb); clear ho hb))
  go_ret
  exact ⟨_, rfl, HO.out, HB.out⟩
theorem impl_clone_byte.callsw (A0 : Option Addr) (c0 : Nat) (l0 : List Int) (r : List Int) (w : World) (hr0 : Kd.C (Kd.int .u8) w A0 l0.length l0) (hc0 : l0.length ≤ c0) (h : impl_clone_byte.f l0 = some r) :
    Calls Try.prog 66 #[.slice A0 l0.length c0] w fun e w' => ∃ v0_ : Value, e = .returned (v0_) ∧ RR (Kd.int .u8) 5 w' w.heap.size (fun k_ => (w.heap.size ≤ k_)) v0_ r ∧ Below w.heap.size w w' := by
  unfold impl_clone_byte.f at h
  by_cases hl : l0.length * 1 ≤ 140737488355328
  · rw [if_pos hl] at h
    obtain rfl := Option.some.inj h
    exact impl_clone_byte.walk A0 c0 l0 w hr0 hc0 hl
  · rw [if_neg hl] at h
    exact absurd h (by simp)
theorem impl_clone_byte.calls (A0 : Option Addr) (c0 : Nat) (l0 : List Int) (r : List Int) (w : World) (hr0 : Kd.C (Kd.int .u8) w A0 l0.length l0) (hc0 : l0.length ≤ c0) (h : impl_clone_byte.f l0 = some r) :
    Calls Try.prog 66 #[.slice A0 l0.length c0] w fun e w' => ∃ v0_ : Value, e = .returned (v0_) ∧ RR (Kd.int .u8) 5 w' w.heap.size (fun _ => True) v0_ r ∧ Below w.heap.size w w' := by
  refine (impl_clone_byte.callsw A0 c0 l0 r w hr0 hc0 h).mono ?_
  rintro e w' ⟨v, rfl, h1, h2⟩
  exact ⟨v, rfl, RR_mono h1 (fun _ _ => trivial), h2⟩
set_option maxHeartbeats 4000000 in
set_option maxRecDepth 100000 in
theorem impl_clone_byte.clipt (A0 : Option Addr) (n c0 : Nat) (hmx : (n : Int) ≤ 9223372036854775807) (hn : n ≤ c0) (w : World) :
    Calls Try.prog 93 #[.slice A0 n c0] w fun e w' => e = .returned (.slice A0 n n) ∧ Below w.heap.size w w' := by
  have hu22 := Try.underlying22
  go_enter Try.func93, Try.ntmps93
  go_wp2
  go_ret
  exact ⟨rfl, Below.refl _ _⟩
set_option maxHeartbeats 4000000 in
set_option maxRecDepth 100000 in
theorem impl_clone_byte.tightw (A0 : Option Addr) (c0 : Nat) (l0 : List Int) (w : World) (hr0 : Kd.C (Kd.int .u8) w A0 l0.length l0) (hc0 : l0.length ≤ c0) (hl : l0.length * 1 ≤ 140737488355328) :
    Calls Try.prog 66 #[.slice A0 l0.length c0] w fun e w' => ∃ A : Option Addr, e = .returned (.slice A l0.length l0.length) ∧ Kd.C (Kd.int .u8) w' A l0.length l0 ∧ Below w.heap.size w w' := by
  have HR0 := mk_ hr0
  have HC0 := mk_ hc0
  have HB := mk_ (Below.refl w.heap.size w)
  have HM := mk_ hr0.2.1
  clear hr0 hc0
  go_enter Try.func66, Try.ntmps66
  go_wp2_with (first | (go_at_call 94; refine (impl_clone_byte.clone _ _ l0 _ (Kd.C_below HR0.out HB.out) HC0.out hl).mono ?_; rintro e w4 ⟨v4, rfl, ho, hb⟩; obtain ⟨A4, c4, rfl⟩ := Kd.R_slice ho; have HF := mk_ (Kd.R_reads' ho).2.2; have HC4 := mk_ (Kd.R_reads' ho).2.1; replace HB := mk_ (zr3 HB.out hb); clear ho hb) | (go_at_call 93; refine (impl_clone_byte.clipt _ _ _ (by have := HM.out; omega) HC4.out _).mono ?_; rintro e w5 ⟨rfl, hb⟩; replace HF := mk_ (Kd.C_below HF.out hb); replace HB := mk_ (zr3 HB.out hb); clear hb))
  go_ret
  exact ⟨_, rfl, HF.out, HB.out⟩
theorem impl_clone_byte.tight (A0 : Option Addr) (c0 : Nat) (l0 : List Int) (r : List Int) (w : World) (hr0 : Kd.C (Kd.int .u8) w A0 l0.length l0) (hc0 : l0.length ≤ c0) (h : impl_clone_byte.f l0 = some r) :
    Calls Try.prog 66 #[.slice A0 l0.length c0] w fun e w' => ∃ A : Option Addr, e = .returned (.slice A r.length r.length) ∧ Kd.C (Kd.int .u8) w' A r.length r ∧ Below w.heap.size w w' := by
  unfold impl_clone_byte.f at h
  by_cases hl : l0.length * 1 ≤ 140737488355328
  · rw [if_pos hl] at h
    obtain rfl := Option.some.inj h
    exact impl_clone_byte.tightw A0 c0 l0 w hr0 hc0 hl
  · rw [if_neg hl] at h
    exact absurd h (by simp)

end Go.Proofs.Yteknaofnageihaa.QFnExactSegCut
