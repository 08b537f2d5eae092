-- Written by a program of this session, a turned copy of the print (not by print.sh itself). Lean checks it.
import Derived.Test.YtpnnpcgamkojhaaQFnNegLessx0
import Derived.Test.YtpnnpcgamkojhaaQFnNegLessx2
import Derived.Test.YtpnnpcgamkojhaaQFnNegLessx3
namespace Go.Proofs.Ytpnnpcgamkojhaa.QFnNegLess
open Go.RowKit Go.Proofs.YtpnnpcgamkojhaaW.PrintWords Go.Proofs.YtpnnpcgamkojhaaW.PrintLast Go.Proofs.YtpnnpcgamkojhaaW.PrintMore Go.Proofs.YtpnnpcgamkojhaaLoc
attribute [local go_sem] max2_int min2_int max_two min_two max_three min_three max_four min_four   -- for this text's walks alone
set_option linter.unusedVariables false
set_option linter.unusedSimpArgs false

/-! ### spec_DrawCfgMeet: function 13 -/
def spec_DrawCfgMeet.f (k : Nat) (l0 : List Int) : Option (Int × Int × Int × Int × Int × Int × Int × Int × Int × Int) := (spec_l20Open.f l0).bind fun bt169 => ((spec_l20Cfg.f k bt169.1 bt169.2 9).bind fun bt172 => ((spec_l20Cfg.f k bt169.1 bt172.2.2.2.2.2 9).bind fun bt179 => ((spec_l20Rd_pick.f k bt169.1 bt179.2.2.2.2.2 3).bind fun bt186 => (if bt186.1 > 0 then (some (bt172.1, bt172.2.1, bt172.2.2.1, bt172.2.2.2.1, bt172.2.2.2.2.1, bt172.1, bt179.2.1, bt179.2.2.1, bt179.2.2.2.1, bt179.2.2.2.2.1)) else (some (bt172.1, bt172.2.1, bt172.2.2.1, bt172.2.2.2.1, bt172.2.2.2.2.1, bt179.1, bt179.2.1, bt179.2.2.1, bt179.2.2.2.1, bt179.2.2.2.2.1))))))
theorem spec_DrawCfgMeet.mono : ∀ a0 k, LeO (spec_DrawCfgMeet.f k a0) (spec_DrawCfgMeet.f (k + 1) a0) := by
 intro a0 k
 unfold spec_DrawCfgMeet.f
 repeat' first
     | (with_reducible exact spec_l20Cfg.mono _ _ _ _)
     | (with_reducible exact spec_l20Rd_pick.mono _ _ _ _)
     | (with_reducible exact LeO.refl _)
     | (with_reducible exact LeO.none _)
     | (with_reducible refine LeO.ite ?_ ?_)
     | (with_reducible refine LeO.bind ?_ (fun _ => ?_))
     | exact spec_l20Cfg.mono _ _ _ _
     | exact spec_l20Rd_pick.mono _ _ _ _
     | exact LeO.none _
     | refine LeO.ite ?_ ?_
     | refine LeO.bind ?_ (fun _ => ?_)
set_option maxHeartbeats 8000000 in
set_option maxRecDepth 100000 in
theorem spec_DrawCfgMeet.calls (k : Nat) (A0 : Option Addr) (c0 : Nat) (l0 : List Int) (r1 : Int) (r2 : Int) (r3 : Int) (r4 : Int) (r5 : Int) (r6 : Int) (r7 : Int) (r8 : Int) (r9 : Int) (r10 : Int) (w : World) (hr0 : Kd.C (Kd.int .u8) w A0 l0.length l0) (hc0 : l0.length ≤ c0) (h : spec_DrawCfgMeet.f k l0 = some (r1, r2, r3, r4, r5, r6, r7, r8, r9, r10)) :
    Calls Try.prog 13 #[.slice A0 l0.length c0] w fun e w' => e = .returned (.tuple #[.agg #[.int .i64 r1, .int .i64 r2, .int .i64 r3, .int .i64 r4, .int .i64 r5], .agg #[.int .i64 r6, .int .i64 r7, .int .i64 r8, .int .i64 r9, .int .i64 r10]]) ∧ Below w.heap.size w w' := by
 have hu24 := Try.underlying24
 have HR0 := mk_ hr0
 have HC0 := mk_ hc0
 clear hr0 hc0
 have HB := mk_ (Below.refl w.heap.size w)
 have H : ((spec_l20Open.f l0).bind fun bt169 => ((spec_l20Cfg.f k bt169.1 bt169.2 9).bind fun bt172 => ((spec_l20Cfg.f k bt169.1 bt172.2.2.2.2.2 9).bind fun bt179 => ((spec_l20Rd_pick.f k bt169.1 bt179.2.2.2.2.2 3).bind fun bt186 => (if bt186.1 > 0 then (some (bt172.1, bt172.2.1, bt172.2.2.1, bt172.2.2.2.1, bt172.2.2.2.2.1, bt172.1, bt179.2.1, bt179.2.2.1, bt179.2.2.2.1, bt179.2.2.2.2.1)) else (some (bt172.1, bt172.2.1, bt172.2.2.1, bt172.2.2.2.1, bt172.2.2.2.2.1, bt179.1, bt179.2.1, bt179.2.2.1, bt179.2.2.2.1, bt179.2.2.2.2.1))))))) = some (r1, r2, r3, r4, r5, r6, r7, r8, r9, r10) := h
 clear h
 replace H := Option.bind_eq_some_iff.mp H
 obtain ⟨⟨t169, t170⟩, A20, H⟩ := H
 try dsimp only at H
 have A2 := mk_ A20
 clear A20
 replace H := Option.bind_eq_some_iff.mp H
 obtain ⟨⟨t172, t173, t174, t175, t176, t177⟩, A30, H⟩ := H
 try dsimp only at H
 have A3 := mk_ A30
 clear A30
 replace H := Option.bind_eq_some_iff.mp H
 obtain ⟨⟨t179, t180, t181, t182, t183, t184⟩, A40, H⟩ := H
 try dsimp only at H
 have A4 := mk_ A40
 clear A40
 replace H := Option.bind_eq_some_iff.mp H
 obtain ⟨⟨t186, t187⟩, A50, H⟩ := H
 try dsimp only at H
 have A5 := mk_ A50
 clear A50
 by_cases c6 : t186 > 0
 rotate_left
 · rw [if_neg c6] at H
   have c6b0 : decide (0 < t186) = false := decide_eq_false c6
   clear c6
   simp only [Option.some.injEq, Prod.mk.injEq] at H
   obtain ⟨rfl, rfl, rfl, rfl, rfl, rfl, rfl, rfl, rfl, rfl⟩ := H
   go_enter Try.func13, Try.ntmps13
   try go_wp2_with (first | ((with_reducible refine gate_dst (N := 2) rfl ?_); refine box_event ?hg (N := 2) ?hd (cs := #[.int .i64 0, .int .i64 0, .int .i64 0, .int .i64 0, .int .i64 0]) (t := 24) ?hr ?_; (case hd => rfl); (case hg => rfl); (case hr => first | (go_simp; done) | (go_simp; rfl)); intro gb167 hg w38 hbox hb; have BK167 := mk_ (hbox); have GW167 := mk_ ((by rw [hg]; exact (zr2 (by repeat (first | (with_reducible first | exact HB.out | apply zq7 | apply zq8 | apply zq9) | exact HB.out))) : w.heap.size ≤ gb167)); have GE167 := GW167; replace HB := mk_ (zr3 (by repeat (first | (with_reducible first | exact HB.out | apply zq7 | apply zq8 | apply zq9) | exact HB.out)) hb); clear hb hbox hg) | ((with_reducible refine gate_dst (N := 3) rfl ?_); refine box_event ?hg (N := 3) ?hd (cs := #[.int .i64 0, .int .i64 0, .int .i64 0, .int .i64 0, .int .i64 0]) (t := 24) ?hr ?_; (case hd => rfl); (case hg => rfl); (case hr => first | (go_simp; done) | (go_simp; rfl)); intro gb168 hg w39 hbox hb; have BK168 := mk_ (hbox); have GW168 := mk_ ((by rw [hg]; exact (zr2 (by repeat (first | (with_reducible first | exact HB.out | apply zq7 | apply zq8 | apply zq9 | refine zr1 ?_ GE167.out) | exact HB.out))) : w.heap.size ≤ gb168)); have GE168 := GW168; replace HB := mk_ (zr3 (by repeat (first | (with_reducible first | exact HB.out | apply zq7 | apply zq8 | apply zq9 | refine zr1 ?_ GE167.out) | exact HB.out)) hb); have NB167_168 := mk_ ((by rw [hg]; exact zm2 (zr6 (by exact BK167.out)) : gb167 ≠ gb168)); replace BK167 := mk_ (zq6 (by exact BK167.out) hb); have NB168_167 := mk_ NB167_168.out.symm; clear hb hbox hg) | ((with_reducible refine gate_callee (f := 44) rfl ?_); refine goesL_ (some 8) rfl rfl Try.func44 (by kernel_rfl) rfl #[.slice A0 l0.length c0] rfl (by (try simp only [List.map_toArray, List.map_cons, List.map_nil]); first | done | rfl | (simp only [List.length_drop, List.length_take]; rfl)) ?_; (with_reducible refine (spec_l20Open.calls _ _ l0 t169 t170 w _ ?side1 ?side2 ?side3 A2.out).mono ?_); (case side1 => repeat (first | (with_reducible first | exact HB.out | apply zq7 | apply zq8 | apply zq9 | refine zr1 ?_ GE167.out | refine zr1 ?_ GE168.out) | exact HB.out)); (case side2 => exact HR0.out); (case side3 => exact HC0.out); rintro e w40 ⟨g171, rfl, hi, hb, hb2⟩; refine ⟨_, rfl, ?_⟩; replace HB := mk_ (hb); have HI171 := mk_ (hi); have NB171_167 := mk_ (IsS93.ne_blk hi (zq6 (by exact BK167.out) hb2) (by decide)); have NB167_171 := mk_ (Ne.symm (IsS93.ne_blk hi (zq6 (by exact BK167.out) hb2) (by decide))); replace BK167 := mk_ (zq6 (by exact BK167.out) hb2); have NB171_168 := mk_ (IsS93.ne_blk hi (zq6 (by exact BK168.out) hb2) (by decide)); have NB168_171 := mk_ (Ne.symm (IsS93.ne_blk hi (zq6 (by exact BK168.out) hb2) (by decide))); replace BK168 := mk_ (zq6 (by exact BK168.out) hb2); (try clear hb); (try clear hb2); (try clear hk); (try clear hi)) | ((with_reducible refine gate_callee (f := 45) rfl ?_); refine goesL_ (some 10) rfl rfl Try.func45 (by kernel_rfl) rfl #[.pointer (some ⟨g171, 0, none⟩), .int .i64 9] rfl (by (try simp only [List.map_toArray, List.map_cons, List.map_nil]); first | done | rfl | (simp only [List.length_drop, List.length_take]; rfl)) ?_; (with_reducible refine (spec_l20Cfg.calls k g171 t169 t170 9 t172 t173 t174 t175 t176 t177 w _ ?side1 ?side2 A3.out).mono ?_); (case side1 => repeat (first | (with_reducible first | exact HI171.out | apply IsS93.alloc | apply IsS93.drewN | apply IsS93.drew | apply IsS93.set_1 | refine IsS93.far ?_ NB171_167.out _ | refine IsS93.far ?_ NB171_168.out _) | exact HI171.out)); (case side2 => repeat (first | (with_reducible first | exact HB.out | apply zq7 | apply zq8 | apply zq9 | refine zr1 ?_ (IsS93.ge HI171.out) | refine zr1 ?_ GE167.out | refine zr1 ?_ GE168.out) | exact HB.out)); rintro e w41 ⟨rfl, hi, hb, hk⟩; refine ⟨_, rfl, ?_⟩; replace BK167 := mk_ (KeepBut.blk hk (g' := gb167) (o := .cells #[.int .i64 0, .int .i64 0, .int .i64 0, .int .i64 0, .int .i64 0] 24 (0, 0)) (by exact BK167.out) NB167_171.out (by simp)); replace BK168 := mk_ (KeepBut.blk hk (g' := gb168) (o := .cells #[.int .i64 0, .int .i64 0, .int .i64 0, .int .i64 0, .int .i64 0] 24 (0, 0)) (by exact BK168.out) NB168_171.out (by simp)); replace HB := mk_ (hb); replace HI171 := mk_ (hi); (try clear hb); (try clear hb2); (try clear hk); (try clear hi)) | ((with_reducible refine gate_dst (N := 5) rfl ?_); refine box_event ?hg (N := 5) ?hd (cs := #[.int .i64 0, .int .i64 0, .int .i64 0, .int .i64 0, .int .i64 0]) (t := 24) ?hr ?_; (case hd => rfl); (case hg => rfl); (case hr => first | (go_simp; done) | (go_simp; rfl)); intro gb178 hg w42 hbox hb; have BK178 := mk_ (hbox); have GW178 := mk_ ((by rw [hg]; exact (zr2 (by repeat (first | (with_reducible first | exact HB.out | apply zq7 | apply zq8 | apply zq9 | refine zr1 ?_ (IsS93.ge HI171.out) | refine zr1 ?_ GE167.out | refine zr1 ?_ GE168.out) | exact HB.out))) : w.heap.size ≤ gb178)); have GE178 := GW178; replace HB := mk_ (zr3 (by repeat (first | (with_reducible first | exact HB.out | apply zq7 | apply zq8 | apply zq9 | refine zr1 ?_ (IsS93.ge HI171.out) | refine zr1 ?_ GE167.out | refine zr1 ?_ GE168.out) | exact HB.out)) hb); have NB167_178 := mk_ ((by rw [hg]; exact zm2 (zr6 (by exact BK167.out)) : gb167 ≠ gb178)); replace BK167 := mk_ (zq6 (by exact BK167.out) hb); have NB178_167 := mk_ NB167_178.out.symm; have NB168_178 := mk_ ((by rw [hg]; exact zm2 (zr6 (by exact BK168.out)) : gb168 ≠ gb178)); replace BK168 := mk_ (zq6 (by exact BK168.out) hb); have NB178_168 := mk_ NB168_178.out.symm; have NB171_178 := mk_ ((by rw [hg]; exact zm2 (IsS93.lt (show IsS93 w _ g171 t169 t177 from by repeat (first | (with_reducible first | exact HI171.out | apply IsS93.alloc | apply IsS93.drewN | apply IsS93.drew | apply IsS93.set_1 | refine IsS93.far ?_ NB171_167.out _ | refine IsS93.far ?_ NB171_168.out _) | exact HI171.out))) : g171 ≠ gb178)); replace HI171 := mk_ (IsS93.below (by repeat (first | (with_reducible first | exact HI171.out | apply IsS93.alloc | apply IsS93.drewN | apply IsS93.drew | apply IsS93.set_1 | refine IsS93.far ?_ NB171_167.out _ | refine IsS93.far ?_ NB171_168.out _) | exact HI171.out)) hb); have NB178_171 := mk_ NB171_178.out.symm; clear hb hbox hg; have hnb43 := NB178_167.out; have hnc43 := NB167_178.out; have hnb44 := NB178_168.out; have hnc44 := NB168_178.out; have hnb45 := NB178_171.out; have hnc45 := NB171_178.out; obtain ⟨hcz46_0, hcz46_1, hcz46_2, hcz46_3, hcz46_4⟩ := cz5 BK178.out; obtain ⟨hfz46_0, hfz46_1, hfz46_2, hfz46_3, hfz46_4⟩ := fz5 BK178.out) | ((with_reducible refine gate_callee (f := 45) rfl ?_); refine goesL_ (some 12) rfl rfl Try.func45 (by kernel_rfl) rfl #[.pointer (some ⟨g171, 0, none⟩), .int .i64 9] rfl (by (try simp only [List.map_toArray, List.map_cons, List.map_nil]); first | done | rfl | (simp only [List.length_drop, List.length_take]; rfl)) ?_; (with_reducible refine (spec_l20Cfg.calls k g171 t169 t177 9 t179 t180 t181 t182 t183 t184 w _ ?side1 ?side2 A4.out).mono ?_); (case side1 => repeat (first | (with_reducible first | exact HI171.out | apply IsS93.alloc | apply IsS93.drewN | apply IsS93.drew | apply IsS93.set_1 | refine IsS93.far ?_ NB171_167.out _ | refine IsS93.far ?_ NB171_168.out _ | refine IsS93.far ?_ NB171_178.out _) | exact HI171.out)); (case side2 => repeat (first | (with_reducible first | exact HB.out | apply zq7 | apply zq8 | apply zq9 | refine zr1 ?_ (IsS93.ge HI171.out) | refine zr1 ?_ GE167.out | refine zr1 ?_ GE168.out | refine zr1 ?_ GE178.out) | exact HB.out)); rintro e w47 ⟨rfl, hi, hb, hk⟩; refine ⟨_, rfl, ?_⟩; replace BK167 := mk_ (KeepBut.blk hk (g' := gb167) (o := .cells #[.int .i64 0, .int .i64 0, .int .i64 0, .int .i64 0, .int .i64 0] 24 (0, 0)) (by (with_reducible repeat (first | refine zq1 ?_ _ | refine zq2 ?_ | refine zq3 ?_ _)); refine fa5 ?_ NB167_178.out; (with_reducible repeat (first | refine zq1 ?_ _ | refine zq2 ?_ | refine zq3 ?_ _)); exact BK167.out) NB167_171.out (by simp)); replace BK168 := mk_ (KeepBut.blk hk (g' := gb168) (o := .cells #[.int .i64 0, .int .i64 0, .int .i64 0, .int .i64 0, .int .i64 0] 24 (0, 0)) (by (with_reducible repeat (first | refine zq1 ?_ _ | refine zq2 ?_ | refine zq3 ?_ _)); refine fa5 ?_ NB168_178.out; (with_reducible repeat (first | refine zq1 ?_ _ | refine zq2 ?_ | refine zq3 ?_ _)); exact BK168.out) NB168_171.out (by simp)); replace BK178 := mk_ (KeepBut.blk hk (g' := gb178) (o := .cells #[.int .i64 t172, .int .i64 t173, .int .i64 t174, .int .i64 t175, .int .i64 t176] 24 (0, 0)) (by (with_reducible repeat (first | refine zq1 ?_ _ | refine zq2 ?_ | refine zq3 ?_ _)); apply pu5; (with_reducible repeat (first | refine zq1 ?_ _ | refine zq2 ?_ | refine zq3 ?_ _)); exact BK178.out) NB178_171.out (by simp)); replace HB := mk_ (hb); replace HI171 := mk_ (hi); (try clear hb); (try clear hb2); (try clear hk); (try clear hi)) | ((with_reducible refine gate_dst (N := 6) rfl ?_); refine box_event ?hg (N := 6) ?hd (cs := #[.int .i64 0, .int .i64 0, .int .i64 0, .int .i64 0, .int .i64 0]) (t := 24) ?hr ?_; (case hd => rfl); (case hg => rfl); (case hr => first | (go_simp; done) | (go_simp; rfl)); intro gb185 hg w48 hbox hb; have BK185 := mk_ (hbox); have GW185 := mk_ ((by rw [hg]; exact (zr2 (by repeat (first | (with_reducible first | exact HB.out | apply zq7 | apply zq8 | apply zq9 | refine zr1 ?_ (IsS93.ge HI171.out) | refine zr1 ?_ GE167.out | refine zr1 ?_ GE168.out | refine zr1 ?_ GE178.out) | exact HB.out))) : w.heap.size ≤ gb185)); have GE185 := GW185; replace HB := mk_ (zr3 (by repeat (first | (with_reducible first | exact HB.out | apply zq7 | apply zq8 | apply zq9 | refine zr1 ?_ (IsS93.ge HI171.out) | refine zr1 ?_ GE167.out | refine zr1 ?_ GE168.out | refine zr1 ?_ GE178.out) | exact HB.out)) hb); have NB167_185 := mk_ ((by rw [hg]; exact zm2 (zr6 (by exact BK167.out)) : gb167 ≠ gb185)); replace BK167 := mk_ (zq6 (by exact BK167.out) hb); have NB185_167 := mk_ NB167_185.out.symm; have NB168_185 := mk_ ((by rw [hg]; exact zm2 (zr6 (by exact BK168.out)) : gb168 ≠ gb185)); replace BK168 := mk_ (zq6 (by exact BK168.out) hb); have NB185_168 := mk_ NB168_185.out.symm; have NB178_185 := mk_ ((by rw [hg]; exact zm2 (zr6 (by exact BK178.out)) : gb178 ≠ gb185)); replace BK178 := mk_ (zq6 (by exact BK178.out) hb); have NB185_178 := mk_ NB178_185.out.symm; have NB171_185 := mk_ ((by rw [hg]; exact zm2 (IsS93.lt (show IsS93 w _ g171 t169 t184 from by repeat (first | (with_reducible first | exact HI171.out | apply IsS93.alloc | apply IsS93.drewN | apply IsS93.drew | apply IsS93.set_1 | refine IsS93.far ?_ NB171_167.out _ | refine IsS93.far ?_ NB171_168.out _ | refine IsS93.far ?_ NB171_178.out _) | exact HI171.out))) : g171 ≠ gb185)); replace HI171 := mk_ (IsS93.below (by repeat (first | (with_reducible first | exact HI171.out | apply IsS93.alloc | apply IsS93.drewN | apply IsS93.drew | apply IsS93.set_1 | refine IsS93.far ?_ NB171_167.out _ | refine IsS93.far ?_ NB171_168.out _ | refine IsS93.far ?_ NB171_178.out _) | exact HI171.out)) hb); have NB185_171 := mk_ NB171_185.out.symm; clear hb hbox hg; have hnb49 := NB185_167.out; have hnc49 := NB167_185.out; have hnb50 := NB185_168.out; have hnc50 := NB168_185.out; have hnb51 := NB185_178.out; have hnc51 := NB178_185.out; have hnb52 := NB185_171.out; have hnc52 := NB171_185.out; obtain ⟨hcz53_0, hcz53_1, hcz53_2, hcz53_3, hcz53_4⟩ := cz5 BK185.out; obtain ⟨hfz53_0, hfz53_1, hfz53_2, hfz53_3, hfz53_4⟩ := fz5 BK185.out) | ((with_reducible refine gate_callee (f := 46) rfl ?_); refine goesL_ (some 14) rfl rfl Try.func46 (by kernel_rfl) rfl #[.pointer (some ⟨g171, 0, none⟩), .int .i64 3] rfl (by (try simp only [List.map_toArray, List.map_cons, List.map_nil]); first | done | rfl | (simp only [List.length_drop, List.length_take]; rfl)) ?_; (with_reducible refine (spec_l20Rd_pick.calls k g171 t169 t184 3 t186 t187 w _ ?side1 ?side2 A5.out).mono ?_); (case side1 => repeat (first | (with_reducible first | exact HI171.out | apply IsS93.alloc | apply IsS93.drewN | apply IsS93.drew | apply IsS93.set_1 | refine IsS93.far ?_ NB171_167.out _ | refine IsS93.far ?_ NB171_168.out _ | refine IsS93.far ?_ NB171_178.out _ | refine IsS93.far ?_ NB171_185.out _) | exact HI171.out)); (case side2 => repeat (first | (with_reducible first | exact HB.out | apply zq7 | apply zq8 | apply zq9 | refine zr1 ?_ (IsS93.ge HI171.out) | refine zr1 ?_ GE167.out | refine zr1 ?_ GE168.out | refine zr1 ?_ GE178.out | refine zr1 ?_ GE185.out) | exact HB.out)); rintro e w54 ⟨rfl, hi, hb, hk⟩; refine ⟨_, rfl, ?_⟩; replace BK167 := mk_ (KeepBut.blk hk (g' := gb167) (o := .cells #[.int .i64 0, .int .i64 0, .int .i64 0, .int .i64 0, .int .i64 0] 24 (0, 0)) (by (with_reducible repeat (first | refine zq1 ?_ _ | refine zq2 ?_ | refine zq3 ?_ _)); refine fa5 ?_ NB167_185.out; (with_reducible repeat (first | refine zq1 ?_ _ | refine zq2 ?_ | refine zq3 ?_ _)); exact BK167.out) NB167_171.out (by simp)); replace BK168 := mk_ (KeepBut.blk hk (g' := gb168) (o := .cells #[.int .i64 0, .int .i64 0, .int .i64 0, .int .i64 0, .int .i64 0] 24 (0, 0)) (by (with_reducible repeat (first | refine zq1 ?_ _ | refine zq2 ?_ | refine zq3 ?_ _)); refine fa5 ?_ NB168_185.out; (with_reducible repeat (first | refine zq1 ?_ _ | refine zq2 ?_ | refine zq3 ?_ _)); exact BK168.out) NB168_171.out (by simp)); replace BK178 := mk_ (KeepBut.blk hk (g' := gb178) (o := .cells #[.int .i64 t172, .int .i64 t173, .int .i64 t174, .int .i64 t175, .int .i64 t176] 24 (0, 0)) (by (with_reducible repeat (first | refine zq1 ?_ _ | refine zq2 ?_ | refine zq3 ?_ _)); refine fa5 ?_ NB178_185.out; (with_reducible repeat (first | refine zq1 ?_ _ | refine zq2 ?_ | refine zq3 ?_ _)); exact BK178.out) NB178_171.out (by simp)); replace BK185 := mk_ (KeepBut.blk hk (g' := gb185) (o := .cells #[.int .i64 t179, .int .i64 t180, .int .i64 t181, .int .i64 t182, .int .i64 t183] 24 (0, 0)) (by (with_reducible repeat (first | refine zq1 ?_ _ | refine zq2 ?_ | refine zq3 ?_ _)); apply pu5; (with_reducible repeat (first | refine zq1 ?_ _ | refine zq2 ?_ | refine zq3 ?_ _)); exact BK185.out) NB185_171.out (by simp)); replace HB := mk_ (hb); replace HI171 := mk_ (hi); (try clear hb); (try clear hb2); (try clear hk); (try clear hi)))
   replace BK167 := mk_ (zq2 BK167.out)
   replace BK168 := mk_ (zq2 BK168.out)
   replace BK178 := mk_ (zq2 BK178.out)
   replace BK185 := mk_ (zq2 BK185.out)
   replace HI171 := mk_ (IsS93.drew HI171.out)
   replace HB := mk_ (zq9 HB.out)
   refine start_ (n := 4) (S := fun w' => w'.cell? ⟨gb178, 0, none⟩ = some (.int .i64 t172) ∧ w'.cell? ⟨gb178, 1, none⟩ = some (.int .i64 t173) ∧ w'.cell? ⟨gb178, 2, none⟩ = some (.int .i64 t174) ∧ w'.cell? ⟨gb178, 3, none⟩ = some (.int .i64 t175) ∧ w'.cell? ⟨gb178, 4, none⟩ = some (.int .i64 t176) ∧ w'.cell? ⟨gb185, 0, none⟩ = some (.int .i64 t179) ∧ w'.cell? ⟨gb185, 1, none⟩ = some (.int .i64 t180) ∧ w'.cell? ⟨gb185, 2, none⟩ = some (.int .i64 t181) ∧ w'.cell? ⟨gb185, 3, none⟩ = some (.int .i64 t182) ∧ w'.cell? ⟨gb185, 4, none⟩ = some (.int .i64 t183)) (ds := []) #[false, false, false, false] (by kernel_rfl) rfl rfl ⟨(zr4 BK178.out 0).trans rfl, (zr4 BK178.out 1).trans rfl, (zr4 BK178.out 2).trans rfl, (zr4 BK178.out 3).trans rfl, (zr4 BK178.out 4).trans rfl, (zr4 BK185.out 0).trans rfl, (zr4 BK185.out 1).trans rfl, (zr4 BK185.out 2).trans rfl, (zr4 BK185.out 3).trans rfl, (zr4 BK185.out 4).trans rfl⟩ (fun hHeld => ?_)
   generalize w54.drew = w55 at BK167 BK168 BK178 BK185 HI171 HB hHeld ⊢
   refine take_ (i := 0) (N := some 19) (v := ?_) (a' := ?_) #[true, false, false, false] rfl rfl (by kernel_rfl) (fun _ _ _ h => h) (Or.inl ⟨by rfl, ?_⟩) hHeld ?_ ?_
   rotate_left
   · rintro w' ⟨s0, s1, s2, s3, s4, s5, s6, s7, s8, s9⟩
     go_simp
     with_reducible rfl
   rotate_left
   · simp only [Act.put, zs1, zs2, zs3, i64_w, i32_w]
     rfl
   refine take_ (i := 1) (N := some 20) (v := ?_) (a' := ?_) #[true, true, false, false] rfl rfl (by kernel_rfl) (fun _ _ _ h => h) (Or.inl ⟨by rfl, ?_⟩) hHeld ?_ ?_
   rotate_left
   · rintro w' ⟨s0, s1, s2, s3, s4, s5, s6, s7, s8, s9⟩
     go_simp
     with_reducible rfl
   rotate_left
   · simp only [Act.put, zs1, zs2, zs3, i64_w, i32_w]
     rfl
   refine one_ (i := 2) (N := none) #[true, true, true, false] rfl rfl (by kernel_rfl) (by decide) (fun K hK => ?_)
   have hs56 : w55.cell? ⟨gb167, 0, none⟩ = some (.int .i64 0) := (zr4 BK167.out 0).trans rfl
   have hfs56 := zr5 BK167.out 0
   have hns56_1 := NB168_167.out
   have hns56_2 := NB178_167.out
   have hns56_3 := NB185_167.out
   have hms56_1 := NB167_168.out
   have hms56_2 := NB167_178.out
   have hms56_3 := NB167_185.out
   have hs57 : w55.cell? ⟨gb167, 1, none⟩ = some (.int .i64 0) := (zr4 BK167.out 1).trans rfl
   have hfs57 := zr5 BK167.out 1
   have hns57_1 := NB168_167.out
   have hns57_2 := NB178_167.out
   have hns57_3 := NB185_167.out
   have hms57_1 := NB167_168.out
   have hms57_2 := NB167_178.out
   have hms57_3 := NB167_185.out
   have hs58 : w55.cell? ⟨gb167, 2, none⟩ = some (.int .i64 0) := (zr4 BK167.out 2).trans rfl
   have hfs58 := zr5 BK167.out 2
   have hns58_1 := NB168_167.out
   have hns58_2 := NB178_167.out
   have hns58_3 := NB185_167.out
   have hms58_1 := NB167_168.out
   have hms58_2 := NB167_178.out
   have hms58_3 := NB167_185.out
   have hs59 : w55.cell? ⟨gb167, 3, none⟩ = some (.int .i64 0) := (zr4 BK167.out 3).trans rfl
   have hfs59 := zr5 BK167.out 3
   have hns59_1 := NB168_167.out
   have hns59_2 := NB178_167.out
   have hns59_3 := NB185_167.out
   have hms59_1 := NB167_168.out
   have hms59_2 := NB167_178.out
   have hms59_3 := NB167_185.out
   have hs60 : w55.cell? ⟨gb167, 4, none⟩ = some (.int .i64 0) := (zr4 BK167.out 4).trans rfl
   have hfs60 := zr5 BK167.out 4
   have hns60_1 := NB168_167.out
   have hns60_2 := NB178_167.out
   have hns60_3 := NB185_167.out
   have hms60_1 := NB167_168.out
   have hms60_2 := NB167_178.out
   have hms60_3 := NB167_185.out
   refine skip_ (w1 := ?_) (by rfl) rfl ?_ ?_
   rotate_left
   · go_simp
     rfl
   refine hK.out _ _ ⟨(fr5 NB178_167.out hHeld.1), (fr5 NB178_167.out hHeld.2.1), (fr5 NB178_167.out hHeld.2.2.1), (fr5 NB178_167.out hHeld.2.2.2.1), (fr5 NB178_167.out hHeld.2.2.2.2.1), (fr5 NB185_167.out hHeld.2.2.2.2.2.1), (fr5 NB185_167.out hHeld.2.2.2.2.2.2.1), (fr5 NB185_167.out hHeld.2.2.2.2.2.2.2.1), (fr5 NB185_167.out hHeld.2.2.2.2.2.2.2.2.1), (fr5 NB185_167.out hHeld.2.2.2.2.2.2.2.2.2)⟩ (fun hHeld => ?_)
   clear hK K
   refine one_ (i := 3) (N := none) #[true, true, true, true] rfl rfl (by kernel_rfl) (by decide) (fun K hK => ?_)
   have hs61 : w55.cell? ⟨gb168, 0, none⟩ = some (.int .i64 0) := (zr4 BK168.out 0).trans rfl
   have hfs61 := zr5 BK168.out 0
   have hns61_0 := NB167_168.out
   have hns61_2 := NB178_168.out
   have hns61_3 := NB185_168.out
   have hms61_0 := NB168_167.out
   have hms61_2 := NB168_178.out
   have hms61_3 := NB168_185.out
   have hs62 : w55.cell? ⟨gb168, 1, none⟩ = some (.int .i64 0) := (zr4 BK168.out 1).trans rfl
   have hfs62 := zr5 BK168.out 1
   have hns62_0 := NB167_168.out
   have hns62_2 := NB178_168.out
   have hns62_3 := NB185_168.out
   have hms62_0 := NB168_167.out
   have hms62_2 := NB168_178.out
   have hms62_3 := NB168_185.out
   have hs63 : w55.cell? ⟨gb168, 2, none⟩ = some (.int .i64 0) := (zr4 BK168.out 2).trans rfl
   have hfs63 := zr5 BK168.out 2
   have hns63_0 := NB167_168.out
   have hns63_2 := NB178_168.out
   have hns63_3 := NB185_168.out
   have hms63_0 := NB168_167.out
   have hms63_2 := NB168_178.out
   have hms63_3 := NB168_185.out
   have hs64 : w55.cell? ⟨gb168, 3, none⟩ = some (.int .i64 0) := (zr4 BK168.out 3).trans rfl
   have hfs64 := zr5 BK168.out 3
   have hns64_0 := NB167_168.out
   have hns64_2 := NB178_168.out
   have hns64_3 := NB185_168.out
   have hms64_0 := NB168_167.out
   have hms64_2 := NB168_178.out
   have hms64_3 := NB168_185.out
   have hs65 : w55.cell? ⟨gb168, 4, none⟩ = some (.int .i64 0) := (zr4 BK168.out 4).trans rfl
   have hfs65 := zr5 BK168.out 4
   have hns65_0 := NB167_168.out
   have hns65_2 := NB178_168.out
   have hns65_3 := NB185_168.out
   have hms65_0 := NB168_167.out
   have hms65_2 := NB168_178.out
   have hms65_3 := NB168_185.out
   refine skip_ (w1 := ?_) (by rfl) rfl ?_ ?_
   rotate_left
   · go_simp
     rfl
   refine hK.out _ _ ⟨(fr5 NB178_168.out hHeld.1), (fr5 NB178_168.out hHeld.2.1), (fr5 NB178_168.out hHeld.2.2.1), (fr5 NB178_168.out hHeld.2.2.2.1), (fr5 NB178_168.out hHeld.2.2.2.2.1), (fr5 NB185_168.out hHeld.2.2.2.2.2.1), (fr5 NB185_168.out hHeld.2.2.2.2.2.2.1), (fr5 NB185_168.out hHeld.2.2.2.2.2.2.2.1), (fr5 NB185_168.out hHeld.2.2.2.2.2.2.2.2.1), (fr5 NB185_168.out hHeld.2.2.2.2.2.2.2.2.2)⟩ (fun hHeld => ?_)
   clear hK K
   refine done_ (by kernel_rfl) ?_
   try go_wp2
   refine bodyPost_ret (results_cc rfl _ _ gb167 gb168 24 24 #[.int .i64 t172, .int .i64 t173, .int .i64 t174, .int .i64 t175, .int .i64 t176] #[.int .i64 t179, .int .i64 t180, .int .i64 t181, .int .i64 t182, .int .i64 t183] (0, 0) (0, 0) _ _ rfl (by (with_reducible repeat (first | refine zq1 ?_ _ | refine zq2 ?_ | refine zq3 ?_ _)); refine fa5 ?_ NB167_168.out; (with_reducible repeat (first | refine zq1 ?_ _ | refine zq2 ?_ | refine zq3 ?_ _)); apply pu5; (with_reducible repeat (first | refine zq1 ?_ _ | refine zq2 ?_ | refine zq3 ?_ _)); exact BK167.out) Try.underlying24 rfl (by kernel_rfl) rfl (by (with_reducible repeat (first | refine zq1 ?_ _ | refine zq2 ?_ | refine zq3 ?_ _)); apply pu5; (with_reducible repeat (first | refine zq1 ?_ _ | refine zq2 ?_ | refine zq3 ?_ _)); refine fa5 ?_ NB168_167.out; (with_reducible repeat (first | refine zq1 ?_ _ | refine zq2 ?_ | refine zq3 ?_ _)); exact BK168.out) Try.underlying24 rfl (by kernel_rfl)) rfl ?_
   exact ⟨by first | rfl | (simp [errW_none, errW_some] <;> rfl) | (simp [*, errW_none, errW_some] <;> rfl), by repeat (first | (with_reducible first | exact HB.out | apply zq7 | apply zq8 | apply zq9 | refine zr1 ?_ (IsS93.ge HI171.out) | refine zr1 ?_ GE167.out | refine zr1 ?_ GE168.out | refine zr1 ?_ GE178.out | refine zr1 ?_ GE185.out) | exact HB.out)⟩
 rw [if_pos c6] at H
 have c6b0 : decide (0 < t186) = true := decide_eq_true c6
 clear c6
 simp only [Option.some.injEq, Prod.mk.injEq] at H
 obtain ⟨rfl, rfl, rfl, rfl, rfl, rfl, rfl, rfl, rfl, rfl⟩ := H
 go_enter Try.func13, Try.ntmps13
 try go_wp2_with (first | ((with_reducible refine gate_dst (N := 2) rfl ?_); refine box_event ?hg (N := 2) ?hd (cs := #[.int .i64 0, .int .i64 0, .int .i64 0, .int .i64 0, .int .i64 0]) (t := 24) ?hr ?_; (case hd => rfl); (case hg => rfl); (case hr => first | (go_simp; done) | (go_simp; rfl)); intro gb167 hg w7 hbox hb; have BK167 := mk_ (hbox); have GW167 := mk_ ((by rw [hg]; exact (zr2 (by repeat (first | (with_reducible first | exact HB.out | apply zq7 | apply zq8 | apply zq9) | exact HB.out))) : w.heap.size ≤ gb167)); have GE167 := GW167; replace HB := mk_ (zr3 (by repeat (first | (with_reducible first | exact HB.out | apply zq7 | apply zq8 | apply zq9) | exact HB.out)) hb); clear hb hbox hg) | ((with_reducible refine gate_dst (N := 3) rfl ?_); refine box_event ?hg (N := 3) ?hd (cs := #[.int .i64 0, .int .i64 0, .int .i64 0, .int .i64 0, .int .i64 0]) (t := 24) ?hr ?_; (case hd => rfl); (case hg => rfl); (case hr => first | (go_simp; done) | (go_simp; rfl)); intro gb168 hg w8 hbox hb; have BK168 := mk_ (hbox); have GW168 := mk_ ((by rw [hg]; exact (zr2 (by repeat (first | (with_reducible first | exact HB.out | apply zq7 | apply zq8 | apply zq9 | refine zr1 ?_ GE167.out) | exact HB.out))) : w.heap.size ≤ gb168)); have GE168 := GW168; replace HB := mk_ (zr3 (by repeat (first | (with_reducible first | exact HB.out | apply zq7 | apply zq8 | apply zq9 | refine zr1 ?_ GE167.out) | exact HB.out)) hb); have NB167_168 := mk_ ((by rw [hg]; exact zm2 (zr6 (by exact BK167.out)) : gb167 ≠ gb168)); replace BK167 := mk_ (zq6 (by exact BK167.out) hb); have NB168_167 := mk_ NB167_168.out.symm; clear hb hbox hg) | ((with_reducible refine gate_callee (f := 44) rfl ?_); refine goesL_ (some 8) rfl rfl Try.func44 (by kernel_rfl) rfl #[.slice A0 l0.length c0] rfl (by (try simp only [List.map_toArray, List.map_cons, List.map_nil]); first | done | rfl | (simp only [List.length_drop, List.length_take]; rfl)) ?_; (with_reducible refine (spec_l20Open.calls _ _ l0 t169 t170 w _ ?side1 ?side2 ?side3 A2.out).mono ?_); (case side1 => repeat (first | (with_reducible first | exact HB.out | apply zq7 | apply zq8 | apply zq9 | refine zr1 ?_ GE167.out | refine zr1 ?_ GE168.out) | exact HB.out)); (case side2 => exact HR0.out); (case side3 => exact HC0.out); rintro e w9 ⟨g171, rfl, hi, hb, hb2⟩; refine ⟨_, rfl, ?_⟩; replace HB := mk_ (hb); have HI171 := mk_ (hi); have NB171_167 := mk_ (IsS93.ne_blk hi (zq6 (by exact BK167.out) hb2) (by decide)); have NB167_171 := mk_ (Ne.symm (IsS93.ne_blk hi (zq6 (by exact BK167.out) hb2) (by decide))); replace BK167 := mk_ (zq6 (by exact BK167.out) hb2); have NB171_168 := mk_ (IsS93.ne_blk hi (zq6 (by exact BK168.out) hb2) (by decide)); have NB168_171 := mk_ (Ne.symm (IsS93.ne_blk hi (zq6 (by exact BK168.out) hb2) (by decide))); replace BK168 := mk_ (zq6 (by exact BK168.out) hb2); (try clear hb); (try clear hb2); (try clear hk); (try clear hi)) | ((with_reducible refine gate_callee (f := 45) rfl ?_); refine goesL_ (some 10) rfl rfl Try.func45 (by kernel_rfl) rfl #[.pointer (some ⟨g171, 0, none⟩), .int .i64 9] rfl (by (try simp only [List.map_toArray, List.map_cons, List.map_nil]); first | done | rfl | (simp only [List.length_drop, List.length_take]; rfl)) ?_; (with_reducible refine (spec_l20Cfg.calls k g171 t169 t170 9 t172 t173 t174 t175 t176 t177 w _ ?side1 ?side2 A3.out).mono ?_); (case side1 => repeat (first | (with_reducible first | exact HI171.out | apply IsS93.alloc | apply IsS93.drewN | apply IsS93.drew | apply IsS93.set_1 | refine IsS93.far ?_ NB171_167.out _ | refine IsS93.far ?_ NB171_168.out _) | exact HI171.out)); (case side2 => repeat (first | (with_reducible first | exact HB.out | apply zq7 | apply zq8 | apply zq9 | refine zr1 ?_ (IsS93.ge HI171.out) | refine zr1 ?_ GE167.out | refine zr1 ?_ GE168.out) | exact HB.out)); rintro e w10 ⟨rfl, hi, hb, hk⟩; refine ⟨_, rfl, ?_⟩; replace BK167 := mk_ (KeepBut.blk hk (g' := gb167) (o := .cells #[.int .i64 0, .int .i64 0, .int .i64 0, .int .i64 0, .int .i64 0] 24 (0, 0)) (by exact BK167.out) NB167_171.out (by simp)); replace BK168 := mk_ (KeepBut.blk hk (g' := gb168) (o := .cells #[.int .i64 0, .int .i64 0, .int .i64 0, .int .i64 0, .int .i64 0] 24 (0, 0)) (by exact BK168.out) NB168_171.out (by simp)); replace HB := mk_ (hb); replace HI171 := mk_ (hi); (try clear hb); (try clear hb2); (try clear hk); (try clear hi)) | ((with_reducible refine gate_dst (N := 5) rfl ?_); refine box_event ?hg (N := 5) ?hd (cs := #[.int .i64 0, .int .i64 0, .int .i64 0, .int .i64 0, .int .i64 0]) (t := 24) ?hr ?_; (case hd => rfl); (case hg => rfl); (case hr => first | (go_simp; done) | (go_simp; rfl)); intro gb178 hg w11 hbox hb; have BK178 := mk_ (hbox); have GW178 := mk_ ((by rw [hg]; exact (zr2 (by repeat (first | (with_reducible first | exact HB.out | apply zq7 | apply zq8 | apply zq9 | refine zr1 ?_ (IsS93.ge HI171.out) | refine zr1 ?_ GE167.out | refine zr1 ?_ GE168.out) | exact HB.out))) : w.heap.size ≤ gb178)); have GE178 := GW178; replace HB := mk_ (zr3 (by repeat (first | (with_reducible first | exact HB.out | apply zq7 | apply zq8 | apply zq9 | refine zr1 ?_ (IsS93.ge HI171.out) | refine zr1 ?_ GE167.out | refine zr1 ?_ GE168.out) | exact HB.out)) hb); have NB167_178 := mk_ ((by rw [hg]; exact zm2 (zr6 (by exact BK167.out)) : gb167 ≠ gb178)); replace BK167 := mk_ (zq6 (by exact BK167.out) hb); have NB178_167 := mk_ NB167_178.out.symm; have NB168_178 := mk_ ((by rw [hg]; exact zm2 (zr6 (by exact BK168.out)) : gb168 ≠ gb178)); replace BK168 := mk_ (zq6 (by exact BK168.out) hb); have NB178_168 := mk_ NB168_178.out.symm; have NB171_178 := mk_ ((by rw [hg]; exact zm2 (IsS93.lt (show IsS93 w _ g171 t169 t177 from by repeat (first | (with_reducible first | exact HI171.out | apply IsS93.alloc | apply IsS93.drewN | apply IsS93.drew | apply IsS93.set_1 | refine IsS93.far ?_ NB171_167.out _ | refine IsS93.far ?_ NB171_168.out _) | exact HI171.out))) : g171 ≠ gb178)); replace HI171 := mk_ (IsS93.below (by repeat (first | (with_reducible first | exact HI171.out | apply IsS93.alloc | apply IsS93.drewN | apply IsS93.drew | apply IsS93.set_1 | refine IsS93.far ?_ NB171_167.out _ | refine IsS93.far ?_ NB171_168.out _) | exact HI171.out)) hb); have NB178_171 := mk_ NB171_178.out.symm; clear hb hbox hg; have hnb12 := NB178_167.out; have hnc12 := NB167_178.out; have hnb13 := NB178_168.out; have hnc13 := NB168_178.out; have hnb14 := NB178_171.out; have hnc14 := NB171_178.out; obtain ⟨hcz15_0, hcz15_1, hcz15_2, hcz15_3, hcz15_4⟩ := cz5 BK178.out; obtain ⟨hfz15_0, hfz15_1, hfz15_2, hfz15_3, hfz15_4⟩ := fz5 BK178.out) | ((with_reducible refine gate_callee (f := 45) rfl ?_); refine goesL_ (some 12) rfl rfl Try.func45 (by kernel_rfl) rfl #[.pointer (some ⟨g171, 0, none⟩), .int .i64 9] rfl (by (try simp only [List.map_toArray, List.map_cons, List.map_nil]); first | done | rfl | (simp only [List.length_drop, List.length_take]; rfl)) ?_; (with_reducible refine (spec_l20Cfg.calls k g171 t169 t177 9 t179 t180 t181 t182 t183 t184 w _ ?side1 ?side2 A4.out).mono ?_); (case side1 => repeat (first | (with_reducible first | exact HI171.out | apply IsS93.alloc | apply IsS93.drewN | apply IsS93.drew | apply IsS93.set_1 | refine IsS93.far ?_ NB171_167.out _ | refine IsS93.far ?_ NB171_168.out _ | refine IsS93.far ?_ NB171_178.out _) | exact HI171.out)); (case side2 => repeat (first | (with_reducible first | exact HB.out | apply zq7 | apply zq8 | apply zq9 | refine zr1 ?_ (IsS93.ge HI171.out) | refine zr1 ?_ GE167.out | refine zr1 ?_ GE168.out | refine zr1 ?_ GE178.out) | exact HB.out)); rintro e w16 ⟨rfl, hi, hb, hk⟩; refine ⟨_, rfl, ?_⟩; replace BK167 := mk_ (KeepBut.blk hk (g' := gb167) (o := .cells #[.int .i64 0, .int .i64 0, .int .i64 0, .int .i64 0, .int .i64 0] 24 (0, 0)) (by (with_reducible repeat (first | refine zq1 ?_ _ | refine zq2 ?_ | refine zq3 ?_ _)); refine fa5 ?_ NB167_178.out; (with_reducible repeat (first | refine zq1 ?_ _ | refine zq2 ?_ | refine zq3 ?_ _)); exact BK167.out) NB167_171.out (by simp)); replace BK168 := mk_ (KeepBut.blk hk (g' := gb168) (o := .cells #[.int .i64 0, .int .i64 0, .int .i64 0, .int .i64 0, .int .i64 0] 24 (0, 0)) (by (with_reducible repeat (first | refine zq1 ?_ _ | refine zq2 ?_ | refine zq3 ?_ _)); refine fa5 ?_ NB168_178.out; (with_reducible repeat (first | refine zq1 ?_ _ | refine zq2 ?_ | refine zq3 ?_ _)); exact BK168.out) NB168_171.out (by simp)); replace BK178 := mk_ (KeepBut.blk hk (g' := gb178) (o := .cells #[.int .i64 t172, .int .i64 t173, .int .i64 t174, .int .i64 t175, .int .i64 t176] 24 (0, 0)) (by (with_reducible repeat (first | refine zq1 ?_ _ | refine zq2 ?_ | refine zq3 ?_ _)); apply pu5; (with_reducible repeat (first | refine zq1 ?_ _ | refine zq2 ?_ | refine zq3 ?_ _)); exact BK178.out) NB178_171.out (by simp)); replace HB := mk_ (hb); replace HI171 := mk_ (hi); (try clear hb); (try clear hb2); (try clear hk); (try clear hi)) | ((with_reducible refine gate_dst (N := 6) rfl ?_); refine box_event ?hg (N := 6) ?hd (cs := #[.int .i64 0, .int .i64 0, .int .i64 0, .int .i64 0, .int .i64 0]) (t := 24) ?hr ?_; (case hd => rfl); (case hg => rfl); (case hr => first | (go_simp; done) | (go_simp; rfl)); intro gb185 hg w17 hbox hb; have BK185 := mk_ (hbox); have GW185 := mk_ ((by rw [hg]; exact (zr2 (by repeat (first | (with_reducible first | exact HB.out | apply zq7 | apply zq8 | apply zq9 | refine zr1 ?_ (IsS93.ge HI171.out) | refine zr1 ?_ GE167.out | refine zr1 ?_ GE168.out | refine zr1 ?_ GE178.out) | exact HB.out))) : w.heap.size ≤ gb185)); have GE185 := GW185; replace HB := mk_ (zr3 (by repeat (first | (with_reducible first | exact HB.out | apply zq7 | apply zq8 | apply zq9 | refine zr1 ?_ (IsS93.ge HI171.out) | refine zr1 ?_ GE167.out | refine zr1 ?_ GE168.out | refine zr1 ?_ GE178.out) | exact HB.out)) hb); have NB167_185 := mk_ ((by rw [hg]; exact zm2 (zr6 (by exact BK167.out)) : gb167 ≠ gb185)); replace BK167 := mk_ (zq6 (by exact BK167.out) hb); have NB185_167 := mk_ NB167_185.out.symm; have NB168_185 := mk_ ((by rw [hg]; exact zm2 (zr6 (by exact BK168.out)) : gb168 ≠ gb185)); replace BK168 := mk_ (zq6 (by exact BK168.out) hb); have NB185_168 := mk_ NB168_185.out.symm; have NB178_185 := mk_ ((by rw [hg]; exact zm2 (zr6 (by exact BK178.out)) : gb178 ≠ gb185)); replace BK178 := mk_ (zq6 (by exact BK178.out) hb); have NB185_178 := mk_ NB178_185.out.symm; have NB171_185 := mk_ ((by rw [hg]; exact zm2 (IsS93.lt (show IsS93 w _ g171 t169 t184 from by repeat (first | (with_reducible first | exact HI171.out | apply IsS93.alloc | apply IsS93.drewN | apply IsS93.drew | apply IsS93.set_1 | refine IsS93.far ?_ NB171_167.out _ | refine IsS93.far ?_ NB171_168.out _ | refine IsS93.far ?_ NB171_178.out _) | exact HI171.out))) : g171 ≠ gb185)); replace HI171 := mk_ (IsS93.below (by repeat (first | (with_reducible first | exact HI171.out | apply IsS93.alloc | apply IsS93.drewN | apply IsS93.drew | apply IsS93.set_1 | refine IsS93.far ?_ NB171_167.out _ | refine IsS93.far ?_ NB171_168.out _ | refine IsS93.far ?_ NB171_178.out _) | exact HI171.out)) hb); have NB185_171 := mk_ NB171_185.out.symm; clear hb hbox hg; have hnb18 := NB185_167.out; have hnc18 := NB167_185.out; have hnb19 := NB185_168.out; have hnc19 := NB168_185.out; have hnb20 := NB185_178.out; have hnc20 := NB178_185.out; have hnb21 := NB185_171.out; have hnc21 := NB171_185.out; obtain ⟨hcz22_0, hcz22_1, hcz22_2, hcz22_3, hcz22_4⟩ := cz5 BK185.out; obtain ⟨hfz22_0, hfz22_1, hfz22_2, hfz22_3, hfz22_4⟩ := fz5 BK185.out) | ((with_reducible refine gate_callee (f := 46) rfl ?_); refine goesL_ (some 14) rfl rfl Try.func46 (by kernel_rfl) rfl #[.pointer (some ⟨g171, 0, none⟩), .int .i64 3] rfl (by (try simp only [List.map_toArray, List.map_cons, List.map_nil]); first | done | rfl | (simp only [List.length_drop, List.length_take]; rfl)) ?_; (with_reducible refine (spec_l20Rd_pick.calls k g171 t169 t184 3 t186 t187 w _ ?side1 ?side2 A5.out).mono ?_); (case side1 => repeat (first | (with_reducible first | exact HI171.out | apply IsS93.alloc | apply IsS93.drewN | apply IsS93.drew | apply IsS93.set_1 | refine IsS93.far ?_ NB171_167.out _ | refine IsS93.far ?_ NB171_168.out _ | refine IsS93.far ?_ NB171_178.out _ | refine IsS93.far ?_ NB171_185.out _) | exact HI171.out)); (case side2 => repeat (first | (with_reducible first | exact HB.out | apply zq7 | apply zq8 | apply zq9 | refine zr1 ?_ (IsS93.ge HI171.out) | refine zr1 ?_ GE167.out | refine zr1 ?_ GE168.out | refine zr1 ?_ GE178.out | refine zr1 ?_ GE185.out) | exact HB.out)); rintro e w23 ⟨rfl, hi, hb, hk⟩; refine ⟨_, rfl, ?_⟩; replace BK167 := mk_ (KeepBut.blk hk (g' := gb167) (o := .cells #[.int .i64 0, .int .i64 0, .int .i64 0, .int .i64 0, .int .i64 0] 24 (0, 0)) (by (with_reducible repeat (first | refine zq1 ?_ _ | refine zq2 ?_ | refine zq3 ?_ _)); refine fa5 ?_ NB167_185.out; (with_reducible repeat (first | refine zq1 ?_ _ | refine zq2 ?_ | refine zq3 ?_ _)); exact BK167.out) NB167_171.out (by simp)); replace BK168 := mk_ (KeepBut.blk hk (g' := gb168) (o := .cells #[.int .i64 0, .int .i64 0, .int .i64 0, .int .i64 0, .int .i64 0] 24 (0, 0)) (by (with_reducible repeat (first | refine zq1 ?_ _ | refine zq2 ?_ | refine zq3 ?_ _)); refine fa5 ?_ NB168_185.out; (with_reducible repeat (first | refine zq1 ?_ _ | refine zq2 ?_ | refine zq3 ?_ _)); exact BK168.out) NB168_171.out (by simp)); replace BK178 := mk_ (KeepBut.blk hk (g' := gb178) (o := .cells #[.int .i64 t172, .int .i64 t173, .int .i64 t174, .int .i64 t175, .int .i64 t176] 24 (0, 0)) (by (with_reducible repeat (first | refine zq1 ?_ _ | refine zq2 ?_ | refine zq3 ?_ _)); refine fa5 ?_ NB178_185.out; (with_reducible repeat (first | refine zq1 ?_ _ | refine zq2 ?_ | refine zq3 ?_ _)); exact BK178.out) NB178_171.out (by simp)); replace BK185 := mk_ (KeepBut.blk hk (g' := gb185) (o := .cells #[.int .i64 t179, .int .i64 t180, .int .i64 t181, .int .i64 t182, .int .i64 t183] 24 (0, 0)) (by (with_reducible repeat (first | refine zq1 ?_ _ | refine zq2 ?_ | refine zq3 ?_ _)); apply pu5; (with_reducible repeat (first | refine zq1 ?_ _ | refine zq2 ?_ | refine zq3 ?_ _)); exact BK185.out) NB185_171.out (by simp)); replace HB := mk_ (hb); replace HI171 := mk_ (hi); (try clear hb); (try clear hb2); (try clear hk); (try clear hi); obtain ⟨hcz24_0, hcz24_1, hcz24_2, hcz24_3, hcz24_4⟩ := cz5 BK178.out; obtain ⟨hfz24_0, hfz24_1, hfz24_2, hfz24_3, hfz24_4⟩ := fz5 BK178.out; obtain ⟨hcz25_0, hcz25_1, hcz25_2, hcz25_3, hcz25_4⟩ := cz5 BK185.out; obtain ⟨hfz25_0, hfz25_1, hfz25_2, hfz25_3, hfz25_4⟩ := fz5 BK185.out))
 have n0_ : Aside0 ((w23.setCell ⟨gb185, 0, none⟩ (.int .i64 t172)).heap[gb167]? = some (.cells #[.int .i64 0, .int .i64 0, .int .i64 0, .int .i64 0, .int .i64 0] 24 (0, 0))) := ⟨by (with_reducible repeat (first | refine zq1 ?_ _ | refine zq2 ?_ | refine zq3 ?_ _)); refine zq5 ?_ NB167_185.out _; (with_reducible repeat (first | refine zq1 ?_ _ | refine zq2 ?_ | refine zq3 ?_ _)); exact BK167.out⟩
 have n1_ : Aside0 ((w23.setCell ⟨gb185, 0, none⟩ (.int .i64 t172)).heap[gb168]? = some (.cells #[.int .i64 0, .int .i64 0, .int .i64 0, .int .i64 0, .int .i64 0] 24 (0, 0))) := ⟨by (with_reducible repeat (first | refine zq1 ?_ _ | refine zq2 ?_ | refine zq3 ?_ _)); refine zq5 ?_ NB168_185.out _; (with_reducible repeat (first | refine zq1 ?_ _ | refine zq2 ?_ | refine zq3 ?_ _)); exact BK168.out⟩
 have n2_ : Aside0 ((w23.setCell ⟨gb185, 0, none⟩ (.int .i64 t172)).heap[gb178]? = some (.cells #[.int .i64 t172, .int .i64 t173, .int .i64 t174, .int .i64 t175, .int .i64 t176] 24 (0, 0))) := ⟨by (with_reducible repeat (first | refine zq1 ?_ _ | refine zq2 ?_ | refine zq3 ?_ _)); refine zq5 ?_ NB178_185.out _; (with_reducible repeat (first | refine zq1 ?_ _ | refine zq2 ?_ | refine zq3 ?_ _)); exact BK178.out⟩
 have n3_ : Aside0 ((w23.setCell ⟨gb185, 0, none⟩ (.int .i64 t172)).heap[gb185]? = some (.cells #[.int .i64 t172, .int .i64 t180, .int .i64 t181, .int .i64 t182, .int .i64 t183] 24 (0, 0))) := ⟨by (with_reducible repeat (first | refine zq1 ?_ _ | refine zq2 ?_ | refine zq3 ?_ _)); refine zq4 (cs := #[.int .i64 t179, .int .i64 t180, .int .i64 t181, .int .i64 t182, .int .i64 t183]) ?_ 0 _ rfl; (with_reducible repeat (first | refine zq1 ?_ _ | refine zq2 ?_ | refine zq3 ?_ _)); exact BK185.out⟩
 have n4_ : Aside0 (IsS93 w (w23.setCell ⟨gb185, 0, none⟩ (.int .i64 t172)) g171 t169 t187) := ⟨by repeat (first | (with_reducible first | exact HI171.out | apply IsS93.alloc | apply IsS93.drewN | apply IsS93.drew | apply IsS93.set_1 | refine IsS93.far ?_ NB171_167.out _ | refine IsS93.far ?_ NB171_168.out _ | refine IsS93.far ?_ NB171_178.out _ | refine IsS93.far ?_ NB171_185.out _) | exact HI171.out)⟩
 have n5_ : Aside0 (Below w.heap.size w (w23.setCell ⟨gb185, 0, none⟩ (.int .i64 t172))) := ⟨by repeat (first | (with_reducible first | exact HB.out | apply zq7 | apply zq8 | apply zq9 | refine zr1 ?_ (IsS93.ge HI171.out) | refine zr1 ?_ GE167.out | refine zr1 ?_ GE168.out | refine zr1 ?_ GE178.out | refine zr1 ?_ GE185.out) | exact HB.out)⟩
 (try clear BK167)
 (try clear BK168)
 (try clear BK178)
 (try clear BK185)
 (try clear HI171)
 (try clear HB)
 generalize (w23.setCell ⟨gb185, 0, none⟩ (.int .i64 t172)) = w26 at n0_ n1_ n2_ n3_ n4_ n5_ ⊢
 have BK167 := n0_
 have BK168 := n1_
 have BK178 := n2_
 have BK185 := n3_
 have HI171 := n4_
 have HB := n5_
 clear n0_ n1_ n2_ n3_ n4_ n5_
 replace BK167 := mk_ (zq2 BK167.out)
 replace BK168 := mk_ (zq2 BK168.out)
 replace BK178 := mk_ (zq2 BK178.out)
 replace BK185 := mk_ (zq2 BK185.out)
 replace HI171 := mk_ (IsS93.drew HI171.out)
 replace HB := mk_ (zq9 HB.out)
 refine start_ (n := 4) (S := fun w' => w'.cell? ⟨gb178, 0, none⟩ = some (.int .i64 t172) ∧ w'.cell? ⟨gb178, 1, none⟩ = some (.int .i64 t173) ∧ w'.cell? ⟨gb178, 2, none⟩ = some (.int .i64 t174) ∧ w'.cell? ⟨gb178, 3, none⟩ = some (.int .i64 t175) ∧ w'.cell? ⟨gb178, 4, none⟩ = some (.int .i64 t176) ∧ w'.cell? ⟨gb185, 0, none⟩ = some (.int .i64 t172) ∧ w'.cell? ⟨gb185, 1, none⟩ = some (.int .i64 t180) ∧ w'.cell? ⟨gb185, 2, none⟩ = some (.int .i64 t181) ∧ w'.cell? ⟨gb185, 3, none⟩ = some (.int .i64 t182) ∧ w'.cell? ⟨gb185, 4, none⟩ = some (.int .i64 t183)) (ds := []) #[false, false, false, false] (by kernel_rfl) rfl rfl ⟨(zr4 BK178.out 0).trans rfl, (zr4 BK178.out 1).trans rfl, (zr4 BK178.out 2).trans rfl, (zr4 BK178.out 3).trans rfl, (zr4 BK178.out 4).trans rfl, (zr4 BK185.out 0).trans rfl, (zr4 BK185.out 1).trans rfl, (zr4 BK185.out 2).trans rfl, (zr4 BK185.out 3).trans rfl, (zr4 BK185.out 4).trans rfl⟩ (fun hHeld => ?_)
 generalize w26.drew = w27 at BK167 BK168 BK178 BK185 HI171 HB hHeld ⊢
 refine take_ (i := 0) (N := some 19) (v := ?_) (a' := ?_) #[true, false, false, false] rfl rfl (by kernel_rfl) (fun _ _ _ h => h) (Or.inl ⟨by rfl, ?_⟩) hHeld ?_ ?_
 rotate_left
 · rintro w' ⟨s0, s1, s2, s3, s4, s5, s6, s7, s8, s9⟩
   go_simp
   with_reducible rfl
 rotate_left
 · simp only [Act.put, zs1, zs2, zs3, i64_w, i32_w]
   rfl
 refine take_ (i := 1) (N := some 20) (v := ?_) (a' := ?_) #[true, true, false, false] rfl rfl (by kernel_rfl) (fun _ _ _ h => h) (Or.inl ⟨by rfl, ?_⟩) hHeld ?_ ?_
 rotate_left
 · rintro w' ⟨s0, s1, s2, s3, s4, s5, s6, s7, s8, s9⟩
   go_simp
   with_reducible rfl
 rotate_left
 · simp only [Act.put, zs1, zs2, zs3, i64_w, i32_w]
   rfl
 refine one_ (i := 2) (N := none) #[true, true, true, false] rfl rfl (by kernel_rfl) (by decide) (fun K hK => ?_)
 have hs28 : w27.cell? ⟨gb167, 0, none⟩ = some (.int .i64 0) := (zr4 BK167.out 0).trans rfl
 have hfs28 := zr5 BK167.out 0
 have hns28_1 := NB168_167.out
 have hns28_2 := NB178_167.out
 have hns28_3 := NB185_167.out
 have hms28_1 := NB167_168.out
 have hms28_2 := NB167_178.out
 have hms28_3 := NB167_185.out
 have hs29 : w27.cell? ⟨gb167, 1, none⟩ = some (.int .i64 0) := (zr4 BK167.out 1).trans rfl
 have hfs29 := zr5 BK167.out 1
 have hns29_1 := NB168_167.out
 have hns29_2 := NB178_167.out
 have hns29_3 := NB185_167.out
 have hms29_1 := NB167_168.out
 have hms29_2 := NB167_178.out
 have hms29_3 := NB167_185.out
 have hs30 : w27.cell? ⟨gb167, 2, none⟩ = some (.int .i64 0) := (zr4 BK167.out 2).trans rfl
 have hfs30 := zr5 BK167.out 2
 have hns30_1 := NB168_167.out
 have hns30_2 := NB178_167.out
 have hns30_3 := NB185_167.out
 have hms30_1 := NB167_168.out
 have hms30_2 := NB167_178.out
 have hms30_3 := NB167_185.out
 have hs31 : w27.cell? ⟨gb167, 3, none⟩ = some (.int .i64 0) := (zr4 BK167.out 3).trans rfl
 have hfs31 := zr5 BK167.out 3
 have hns31_1 := NB168_167.out
 have hns31_2 := NB178_167.out
 have hns31_3 := NB185_167.out
 have hms31_1 := NB167_168.out
 have hms31_2 := NB167_178.out
 have hms31_3 := NB167_185.out
 have hs32 : w27.cell? ⟨gb167, 4, none⟩ = some (.int .i64 0) := (zr4 BK167.out 4).trans rfl
 have hfs32 := zr5 BK167.out 4
 have hns32_1 := NB168_167.out
 have hns32_2 := NB178_167.out
 have hns32_3 := NB185_167.out
 have hms32_1 := NB167_168.out
 have hms32_2 := NB167_178.out
 have hms32_3 := NB167_185.out
 refine skip_ (w1 := ?_) (by rfl) rfl ?_ ?_
 rotate_left
 · go_simp
   rfl
 refine hK.out _ _ ⟨(fr5 NB178_167.out hHeld.1), (fr5 NB178_167.out hHeld.2.1), (fr5 NB178_167.out hHeld.2.2.1), (fr5 NB178_167.out hHeld.2.2.2.1), (fr5 NB178_167.out hHeld.2.2.2.2.1), (fr5 NB185_167.out hHeld.2.2.2.2.2.1), (fr5 NB185_167.out hHeld.2.2.2.2.2.2.1), (fr5 NB185_167.out hHeld.2.2.2.2.2.2.2.1), (fr5 NB185_167.out hHeld.2.2.2.2.2.2.2.2.1), (fr5 NB185_167.out hHeld.2.2.2.2.2.2.2.2.2)⟩ (fun hHeld => ?_)
 clear hK K
 refine one_ (i := 3) (N := none) #[true, true, true, true] rfl rfl (by kernel_rfl) (by decide) (fun K hK => ?_)
 have hs33 : w27.cell? ⟨gb168, 0, none⟩ = some (.int .i64 0) := (zr4 BK168.out 0).trans rfl
 have hfs33 := zr5 BK168.out 0
 have hns33_0 := NB167_168.out
 have hns33_2 := NB178_168.out
 have hns33_3 := NB185_168.out
 have hms33_0 := NB168_167.out
 have hms33_2 := NB168_178.out
 have hms33_3 := NB168_185.out
 have hs34 : w27.cell? ⟨gb168, 1, none⟩ = some (.int .i64 0) := (zr4 BK168.out 1).trans rfl
 have hfs34 := zr5 BK168.out 1
 have hns34_0 := NB167_168.out
 have hns34_2 := NB178_168.out
 have hns34_3 := NB185_168.out
 have hms34_0 := NB168_167.out
 have hms34_2 := NB168_178.out
 have hms34_3 := NB168_185.out
 have hs35 : w27.cell? ⟨gb168, 2, none⟩ = some (.int .i64 0) := (zr4 BK168.out 2).trans rfl
 have hfs35 := zr5 BK168.out 2
 have hns35_0 := NB167_168.out
 have hns35_2 := NB178_168.out
 have hns35_3 := NB185_168.out
 have hms35_0 := NB168_167.out
 have hms35_2 := NB168_178.out
 have hms35_3 := NB168_185.out
 have hs36 : w27.cell? ⟨gb168, 3, none⟩ = some (.int .i64 0) := (zr4 BK168.out 3).trans rfl
 have hfs36 := zr5 BK168.out 3
 have hns36_0 := NB167_168.out
 have hns36_2 := NB178_168.out
 have hns36_3 := NB185_168.out
 have hms36_0 := NB168_167.out
 have hms36_2 := NB168_178.out
 have hms36_3 := NB168_185.out
 have hs37 : w27.cell? ⟨gb168, 4, none⟩ = some (.int .i64 0) := (zr4 BK168.out 4).trans rfl
 have hfs37 := zr5 BK168.out 4
 have hns37_0 := NB167_168.out
 have hns37_2 := NB178_168.out
 have hns37_3 := NB185_168.out
 have hms37_0 := NB168_167.out
 have hms37_2 := NB168_178.out
 have hms37_3 := NB168_185.out
 refine skip_ (w1 := ?_) (by rfl) rfl ?_ ?_
 rotate_left
 · go_simp
   rfl
 refine hK.out _ _ ⟨(fr5 NB178_168.out hHeld.1), (fr5 NB178_168.out hHeld.2.1), (fr5 NB178_168.out hHeld.2.2.1), (fr5 NB178_168.out hHeld.2.2.2.1), (fr5 NB178_168.out hHeld.2.2.2.2.1), (fr5 NB185_168.out hHeld.2.2.2.2.2.1), (fr5 NB185_168.out hHeld.2.2.2.2.2.2.1), (fr5 NB185_168.out hHeld.2.2.2.2.2.2.2.1), (fr5 NB185_168.out hHeld.2.2.2.2.2.2.2.2.1), (fr5 NB185_168.out hHeld.2.2.2.2.2.2.2.2.2)⟩ (fun hHeld => ?_)
 clear hK K
 refine done_ (by kernel_rfl) ?_
 try go_wp2
 refine bodyPost_ret (results_cc rfl _ _ gb167 gb168 24 24 #[.int .i64 t172, .int .i64 t173, .int .i64 t174, .int .i64 t175, .int .i64 t176] #[.int .i64 t172, .int .i64 t180, .int .i64 t181, .int .i64 t182, .int .i64 t183] (0, 0) (0, 0) _ _ rfl (by (with_reducible repeat (first | refine zq1 ?_ _ | refine zq2 ?_ | refine zq3 ?_ _)); refine fa5 ?_ NB167_168.out; (with_reducible repeat (first | refine zq1 ?_ _ | refine zq2 ?_ | refine zq3 ?_ _)); apply pu5; (with_reducible repeat (first | refine zq1 ?_ _ | refine zq2 ?_ | refine zq3 ?_ _)); exact BK167.out) Try.underlying24 rfl (by kernel_rfl) rfl (by (with_reducible repeat (first | refine zq1 ?_ _ | refine zq2 ?_ | refine zq3 ?_ _)); apply pu5; (with_reducible repeat (first | refine zq1 ?_ _ | refine zq2 ?_ | refine zq3 ?_ _)); refine fa5 ?_ NB168_167.out; (with_reducible repeat (first | refine zq1 ?_ _ | refine zq2 ?_ | refine zq3 ?_ _)); exact BK168.out) Try.underlying24 rfl (by kernel_rfl)) rfl ?_
 exact ⟨by first | rfl | (simp [errW_none, errW_some] <;> rfl) | (simp [*, errW_none, errW_some] <;> rfl), by repeat (first | (with_reducible first | exact HB.out | apply zq7 | apply zq8 | apply zq9 | refine zr1 ?_ (IsS93.ge HI171.out) | refine zr1 ?_ GE167.out | refine zr1 ?_ GE168.out | refine zr1 ?_ GE178.out | refine zr1 ?_ GE185.out) | exact HB.out)⟩

/-! ### impl_in: function 49 -/
def impl_in.f (a0 : Int) (a1 : Int) (a2 : Int) : Option (Bool) := if a0 ≥ a1 then (some (decide (a0 ≤ a2))) else (some false)
set_option maxHeartbeats 8000000 in
set_option maxRecDepth 100000 in
theorem impl_in.calls (a0 : Int) (a1 : Int) (a2 : Int) (r : Bool) (w : World) (h : impl_in.f a0 a1 a2 = some r) :
    Calls Try.prog 49 #[.int .i64 a0, .int .i64 a1, .int .i64 a2] w fun e w' => e = .returned (.bool r) ∧ Drawn0 w w' := by
 have H : (if a0 ≥ a1 then (some (decide (a0 ≤ a2))) else (some false)) = some r := h
 clear h
 by_cases c4 : a0 ≥ a1
 · rw [if_pos c4] at H
   have c4b0 : decide (a1 ≤ a0) = true := decide_eq_true c4
   clear c4
   obtain rfl := Option.some.inj H
   go_enter Try.func49, Try.ntmps49
   go_wp2
   go_ret
   exact ⟨by first | rfl | (simp; done) | (simp [*]; done), by repeat (first | exact Drawn0.refl _ | apply Drawn0.step)⟩
 rw [if_neg c4] at H
 have c4b0 : decide (a1 ≤ a0) = false := decide_eq_false c4
 clear c4
 obtain rfl := Option.some.inj H
 go_enter Try.func49, Try.ntmps49
 go_wp2
 go_ret
 exact ⟨by first | rfl | (simp; done) | (simp [*]; done), by repeat (first | exact Drawn0.refl _ | apply Drawn0.step)⟩

/-! ### impl_CfgOk: function 47 -/
def impl_CfgOk.f (a0_0 : Int) (a0_1 : Int) (a0_2 : Int) (a0_3 : Int) (a0_4 : Int) : Option (Bool) := (impl_in.f a0_0 1 2).bind fun t189 => (if t189 = true then ((impl_in.f a0_1 1 4).bind fun t190 => (if t190 = true then ((impl_in.f a0_2 1 8).bind fun t191 => (if t191 = true then ((impl_in.f a0_3 1 24).bind fun t192 => (if t192 = true then ((impl_in.f a0_4 1 5).bind fun t193 => (some t193)) else (some false))) else (some false))) else (some false))) else (some false))
set_option maxHeartbeats 8000000 in
set_option maxRecDepth 100000 in
theorem impl_CfgOk.calls (a0_0 : Int) (a0_1 : Int) (a0_2 : Int) (a0_3 : Int) (a0_4 : Int) (r : Bool) (w : World) (h : impl_CfgOk.f a0_0 a0_1 a0_2 a0_3 a0_4 = some r) :
    Calls Try.prog 47 #[.agg #[.int .i64 a0_0, .int .i64 a0_1, .int .i64 a0_2, .int .i64 a0_3, .int .i64 a0_4]] w fun e w' => e = .returned (.bool r) ∧ Below w.heap.size w w' := by
 have hu24 := Try.underlying24
 have HB := mk_ (Below.refl w.heap.size w)
 have H : ((impl_in.f a0_0 1 2).bind fun t189 => (if t189 = true then ((impl_in.f a0_1 1 4).bind fun t190 => (if t190 = true then ((impl_in.f a0_2 1 8).bind fun t191 => (if t191 = true then ((impl_in.f a0_3 1 24).bind fun t192 => (if t192 = true then ((impl_in.f a0_4 1 5).bind fun t193 => (some t193)) else (some false))) else (some false))) else (some false))) else (some false))) = some r := h
 clear h
 replace H := Option.bind_eq_some_iff.mp H
 obtain ⟨t189, A20, H⟩ := H
 try dsimp only at H
 have A2 := mk_ A20
 clear A20
 by_cases c3 : t189 = true
 rotate_left
 · replace c3 := Bool.eq_false_iff.mpr c3
   subst c3
   have H1 : (some false) = some r := by rw [if_neg (show ¬ (false = true) by decide)] at H; exact H
   clear H
   have H := H1
   clear H1
   obtain rfl := Option.some.inj H
   go_enter Try.func47, Try.ntmps47
   go_wp2_with (first | ((with_reducible refine gate_dst (N := 1) rfl ?_); refine box_event ?hg (N := 1) ?hd (cs := #[.int .i64 a0_0, .int .i64 a0_1, .int .i64 a0_2, .int .i64 a0_3, .int .i64 a0_4]) (t := 24) ?hr ?_; (case hd => rfl); (case hg => rfl); (case hr => first | (go_simp; done) | (go_simp; rfl)); intro gb188 hg w19 hbox hb; have BK188 := mk_ (hbox); have GW188 := mk_ ((by rw [hg]; exact (zr2 (by repeat (first | (with_reducible first | exact HB.out | apply zq7 | apply zq8 | apply zq9) | exact HB.out))) : w.heap.size ≤ gb188)); have GE188 := GW188; replace HB := mk_ (zr3 (by repeat (first | (with_reducible first | exact HB.out | apply zq7 | apply zq8 | apply zq9) | exact HB.out)) hb); clear hb hbox hg; obtain ⟨hcz20_0, hcz20_1, hcz20_2, hcz20_3, hcz20_4⟩ := cz5 BK188.out; obtain ⟨hfz20_0, hfz20_1, hfz20_2, hfz20_3, hfz20_4⟩ := fz5 BK188.out) | ((with_reducible refine gate_callee (f := 49) rfl ?_); refine goesL_ (some 5) rfl rfl Try.func49 (by kernel_rfl) rfl #[.int .i64 a0_0, .int .i64 1, .int .i64 2] rfl (by (try simp only [List.map_toArray, List.map_cons, List.map_nil]); first | done | rfl | (simp only [List.length_drop, List.length_take]; rfl)) ?_; (with_reducible refine (impl_in.calls a0_0 1 2 false _ A2.out).mono ?_); rintro e w' ⟨rfl, ⟨nd, rfl⟩⟩; refine ⟨_, rfl, ?_⟩))
   go_ret
   exact ⟨by first | rfl | (simp [errW_none, errW_some] <;> rfl) | (simp [*, errW_none, errW_some] <;> rfl), by repeat (first | (with_reducible first | exact HB.out | apply zq7 | apply zq8 | apply zq9 | refine zr1 ?_ GE188.out) | exact HB.out)⟩
 subst c3
 have H1 : ((impl_in.f a0_1 1 4).bind fun t190 => (if t190 = true then ((impl_in.f a0_2 1 8).bind fun t191 => (if t191 = true then ((impl_in.f a0_3 1 24).bind fun t192 => (if t192 = true then ((impl_in.f a0_4 1 5).bind fun t193 => (some t193)) else (some false))) else (some false))) else (some false))) = some r := by rw [if_pos rfl] at H; exact H
 clear H
 have H := H1
 clear H1
 replace H := Option.bind_eq_some_iff.mp H
 obtain ⟨t190, A40, H⟩ := H
 try dsimp only at H
 have A4 := mk_ A40
 clear A40
 have HH_ := mk_ H
 clear H
 go_enter Try.func47, Try.ntmps47
 go_wp2_with (first | ((with_reducible refine gate_dst (N := 1) rfl ?_); refine box_event ?hg (N := 1) ?hd (cs := #[.int .i64 a0_0, .int .i64 a0_1, .int .i64 a0_2, .int .i64 a0_3, .int .i64 a0_4]) (t := 24) ?hr ?_; (case hd => rfl); (case hg => rfl); (case hr => first | (go_simp; done) | (go_simp; rfl)); intro gb188 hg w11 hbox hb; have BK188 := mk_ (hbox); have GW188 := mk_ ((by rw [hg]; exact (zr2 (by repeat (first | (with_reducible first | exact HB.out | apply zq7 | apply zq8 | apply zq9) | exact HB.out))) : w.heap.size ≤ gb188)); have GE188 := GW188; replace HB := mk_ (zr3 (by repeat (first | (with_reducible first | exact HB.out | apply zq7 | apply zq8 | apply zq9) | exact HB.out)) hb); clear hb hbox hg; obtain ⟨hcz12_0, hcz12_1, hcz12_2, hcz12_3, hcz12_4⟩ := cz5 BK188.out; obtain ⟨hfz12_0, hfz12_1, hfz12_2, hfz12_3, hfz12_4⟩ := fz5 BK188.out) | ((with_reducible refine gate_callee (f := 49) rfl ?_); refine goesL_ (some 5) rfl rfl Try.func49 (by kernel_rfl) rfl #[.int .i64 a0_0, .int .i64 1, .int .i64 2] rfl (by (try simp only [List.map_toArray, List.map_cons, List.map_nil]); first | done | rfl | (simp only [List.length_drop, List.length_take]; rfl)) ?_; (with_reducible refine (impl_in.calls a0_0 1 2 true _ A2.out).mono ?_); rintro e w' ⟨rfl, ⟨nd, rfl⟩⟩; refine ⟨_, rfl, ?_⟩))
 have H := HH_.out
 clear HH_
 by_cases c5 : t190 = true
 rotate_left
 · replace c5 := Bool.eq_false_iff.mpr c5
   subst c5
   have H1 : (some false) = some r := by rw [if_neg (show ¬ (false = true) by decide)] at H; exact H
   clear H
   have H := H1
   clear H1
   obtain rfl := Option.some.inj H
   go_wp2_with (first | (go_at_call 49; (with_reducible refine (impl_in.calls a0_1 1 4 false _ A4.out).mono ?_); rintro e w' ⟨rfl, ⟨nd, rfl⟩⟩))
   go_ret
   exact ⟨by first | rfl | (simp [errW_none, errW_some] <;> rfl) | (simp [*, errW_none, errW_some] <;> rfl), by repeat (first | (with_reducible first | exact HB.out | apply zq7 | apply zq8 | apply zq9 | refine zr1 ?_ GE188.out) | exact HB.out)⟩
 subst c5
 have H1 : ((impl_in.f a0_2 1 8).bind fun t191 => (if t191 = true then ((impl_in.f a0_3 1 24).bind fun t192 => (if t192 = true then ((impl_in.f a0_4 1 5).bind fun t193 => (some t193)) else (some false))) else (some false))) = some r := by rw [if_pos rfl] at H; exact H
 clear H
 have H := H1
 clear H1
 replace H := Option.bind_eq_some_iff.mp H
 obtain ⟨t191, A60, H⟩ := H
 try dsimp only at H
 have A6 := mk_ A60
 clear A60
 have HH_ := mk_ H
 clear H
 go_wp2_with (first | (go_at_call 49; (with_reducible refine (impl_in.calls a0_1 1 4 true _ A4.out).mono ?_); rintro e w' ⟨rfl, ⟨nd, rfl⟩⟩))
 have H := HH_.out
 clear HH_
 by_cases c7 : t191 = true
 rotate_left
 · replace c7 := Bool.eq_false_iff.mpr c7
   subst c7
   have H1 : (some false) = some r := by rw [if_neg (show ¬ (false = true) by decide)] at H; exact H
   clear H
   have H := H1
   clear H1
   obtain rfl := Option.some.inj H
   go_wp2_with (first | (go_at_call 49; (with_reducible refine (impl_in.calls a0_2 1 8 false _ A6.out).mono ?_); rintro e w' ⟨rfl, ⟨nd, rfl⟩⟩))
   go_ret
   exact ⟨by first | rfl | (simp [errW_none, errW_some] <;> rfl) | (simp [*, errW_none, errW_some] <;> rfl), by repeat (first | (with_reducible first | exact HB.out | apply zq7 | apply zq8 | apply zq9 | refine zr1 ?_ GE188.out) | exact HB.out)⟩
 subst c7
 have H1 : ((impl_in.f a0_3 1 24).bind fun t192 => (if t192 = true then ((impl_in.f a0_4 1 5).bind fun t193 => (some t193)) else (some false))) = some r := by rw [if_pos rfl] at H; exact H
 clear H
 have H := H1
 clear H1
 replace H := Option.bind_eq_some_iff.mp H
 obtain ⟨t192, A80, H⟩ := H
 try dsimp only at H
 have A8 := mk_ A80
 clear A80
 have HH_ := mk_ H
 clear H
 go_wp2_with (first | (go_at_call 49; (with_reducible refine (impl_in.calls a0_2 1 8 true _ A6.out).mono ?_); rintro e w' ⟨rfl, ⟨nd, rfl⟩⟩))
 have H := HH_.out
 clear HH_
 by_cases c9 : t192 = true
 rotate_left
 · replace c9 := Bool.eq_false_iff.mpr c9
   subst c9
   have H1 : (some false) = some r := by rw [if_neg (show ¬ (false = true) by decide)] at H; exact H
   clear H
   have H := H1
   clear H1
   obtain rfl := Option.some.inj H
   go_wp2_with (first | (go_at_call 49; (with_reducible refine (impl_in.calls a0_3 1 24 false _ A8.out).mono ?_); rintro e w' ⟨rfl, ⟨nd, rfl⟩⟩))
   go_ret
   exact ⟨by first | rfl | (simp [errW_none, errW_some] <;> rfl) | (simp [*, errW_none, errW_some] <;> rfl), by repeat (first | (with_reducible first | exact HB.out | apply zq7 | apply zq8 | apply zq9 | refine zr1 ?_ GE188.out) | exact HB.out)⟩
 subst c9
 have H1 : ((impl_in.f a0_4 1 5).bind fun t193 => (some t193)) = some r := by rw [if_pos rfl] at H; exact H
 clear H
 have H := H1
 clear H1
 replace H := Option.bind_eq_some_iff.mp H
 obtain ⟨t193, A100, H⟩ := H
 try dsimp only at H
 have A10 := mk_ A100
 clear A100
 obtain rfl := Option.some.inj H
 go_wp2_with (first | (go_at_call 49; (with_reducible refine (impl_in.calls a0_3 1 24 true _ A8.out).mono ?_); rintro e w' ⟨rfl, ⟨nd, rfl⟩⟩) | (go_at_call 49; (with_reducible refine (impl_in.calls a0_4 1 5 t193 _ A10.out).mono ?_); rintro e w' ⟨rfl, ⟨nd, rfl⟩⟩))
 go_ret
 exact ⟨by first | rfl | (simp [errW_none, errW_some] <;> rfl) | (simp [*, errW_none, errW_some] <;> rfl), by repeat (first | (with_reducible first | exact HB.out | apply zq7 | apply zq8 | apply zq9 | refine zr1 ?_ GE188.out) | exact HB.out)⟩

/-! ### impl_CfgMeet: function 14 -/
def impl_CfgMeet.f (a0_0 : Int) (a0_1 : Int) (a0_2 : Int) (a0_3 : Int) (a0_4 : Int) (a1_0 : Int) (a1_1 : Int) (a1_2 : Int) (a1_3 : Int) (a1_4 : Int) : Option (Int × Int × Int × Int × Int × Bool) := (impl_CfgOk.f a0_0 a0_1 a0_2 a0_3 a0_4).bind fun t197 => (if t197 = true then ((impl_CfgOk.f a1_0 a1_1 a1_2 a1_3 a1_4).bind fun t198 => (if t198 = true then (if a0_0 = a1_0 then (some (a0_0, mn a0_1 a1_1, mn a0_2 a1_2, mn a0_3 a1_3, mn a0_4 a1_4, true)) else (some (0, 0, 0, 0, 0, false))) else (some (0, 0, 0, 0, 0, false)))) else (some (0, 0, 0, 0, 0, false)))
set_option maxHeartbeats 8000000 in
set_option maxRecDepth 100000 in
theorem impl_CfgMeet.calls (a0_0 : Int) (a0_1 : Int) (a0_2 : Int) (a0_3 : Int) (a0_4 : Int) (a1_0 : Int) (a1_1 : Int) (a1_2 : Int) (a1_3 : Int) (a1_4 : Int) (r1 : Int) (r2 : Int) (r3 : Int) (r4 : Int) (r5 : Int) (r6 : Bool) (w : World) (h : impl_CfgMeet.f a0_0 a0_1 a0_2 a0_3 a0_4 a1_0 a1_1 a1_2 a1_3 a1_4 = some (r1, r2, r3, r4, r5, r6)) :
    Calls Try.prog 14 #[.agg #[.int .i64 a0_0, .int .i64 a0_1, .int .i64 a0_2, .int .i64 a0_3, .int .i64 a0_4], .agg #[.int .i64 a1_0, .int .i64 a1_1, .int .i64 a1_2, .int .i64 a1_3, .int .i64 a1_4]] w fun e w' => e = .returned (.tuple #[.agg #[.int .i64 r1, .int .i64 r2, .int .i64 r3, .int .i64 r4, .int .i64 r5], .bool r6]) ∧ Below w.heap.size w w' := by
 have hu24 := Try.underlying24
 have HB := mk_ (Below.refl w.heap.size w)
 have H : ((impl_CfgOk.f a0_0 a0_1 a0_2 a0_3 a0_4).bind fun t197 => (if t197 = true then ((impl_CfgOk.f a1_0 a1_1 a1_2 a1_3 a1_4).bind fun t198 => (if t198 = true then (if a0_0 = a1_0 then (some (a0_0, mn a0_1 a1_1, mn a0_2 a1_2, mn a0_3 a1_3, mn a0_4 a1_4, true)) else (some (0, 0, 0, 0, 0, false))) else (some (0, 0, 0, 0, 0, false)))) else (some (0, 0, 0, 0, 0, false)))) = some (r1, r2, r3, r4, r5, r6) := h
 clear h
 replace H := Option.bind_eq_some_iff.mp H
 obtain ⟨t197, A30, H⟩ := H
 try dsimp only at H
 have A3 := mk_ A30
 clear A30
 by_cases c4 : t197 = true
 rotate_left
 · replace c4 := Bool.eq_false_iff.mpr c4
   subst c4
   have H1 : (some (0, 0, 0, 0, 0, false)) = some (r1, r2, r3, r4, r5, r6) := by rw [if_neg (show ¬ (false = true) by decide)] at H; exact H
   clear H
   have H := H1
   clear H1
   simp only [Option.some.injEq, Prod.mk.injEq] at H
   obtain ⟨rfl, rfl, rfl, rfl, rfl, rfl⟩ := H
   go_enter Try.func14, Try.ntmps14
   go_wp2_with (first | ((with_reducible refine gate_dst (N := 2) rfl ?_); refine box_event ?hg (N := 2) ?hd (cs := #[.int .i64 a0_0, .int .i64 a0_1, .int .i64 a0_2, .int .i64 a0_3, .int .i64 a0_4]) (t := 24) ?hr ?_; (case hd => rfl); (case hg => rfl); (case hr => first | (go_simp; done) | (go_simp; rfl)); intro gb194 hg w49 hbox hb; have BK194 := mk_ (hbox); have GW194 := mk_ ((by rw [hg]; exact (zr2 (by repeat (first | (with_reducible first | exact HB.out | apply zq7 | apply zq8 | apply zq9) | exact HB.out))) : w.heap.size ≤ gb194)); have GE194 := GW194; replace HB := mk_ (zr3 (by repeat (first | (with_reducible first | exact HB.out | apply zq7 | apply zq8 | apply zq9) | exact HB.out)) hb); clear hb hbox hg) | ((with_reducible refine gate_dst (N := 3) rfl ?_); refine box_event ?hg (N := 3) ?hd (cs := #[.int .i64 a1_0, .int .i64 a1_1, .int .i64 a1_2, .int .i64 a1_3, .int .i64 a1_4]) (t := 24) ?hr ?_; (case hd => rfl); (case hg => rfl); (case hr => first | (go_simp; done) | (go_simp; rfl)); intro gb195 hg w50 hbox hb; have BK195 := mk_ (hbox); have GW195 := mk_ ((by rw [hg]; exact (zr2 (by repeat (first | (with_reducible first | exact HB.out | apply zq7 | apply zq8 | apply zq9 | refine zr1 ?_ GE194.out) | exact HB.out))) : w.heap.size ≤ gb195)); have GE195 := GW195; replace HB := mk_ (zr3 (by repeat (first | (with_reducible first | exact HB.out | apply zq7 | apply zq8 | apply zq9 | refine zr1 ?_ GE194.out) | exact HB.out)) hb); have NB194_195 := mk_ ((by rw [hg]; exact zm2 (zr6 (by exact BK194.out)) : gb194 ≠ gb195)); replace BK194 := mk_ (zq6 (by exact BK194.out) hb); have NB195_194 := mk_ NB194_195.out.symm; clear hb hbox hg) | ((with_reducible refine gate_dst (N := 4) rfl ?_); refine box_event ?hg (N := 4) ?hd (cs := #[.int .i64 0, .int .i64 0, .int .i64 0, .int .i64 0, .int .i64 0]) (t := 24) ?hr ?_; (case hd => rfl); (case hg => rfl); (case hr => first | (go_simp; done) | (go_simp; rfl)); intro gb196 hg w51 hbox hb; have BK196 := mk_ (hbox); have GW196 := mk_ ((by rw [hg]; exact (zr2 (by repeat (first | (with_reducible first | exact HB.out | apply zq7 | apply zq8 | apply zq9 | refine zr1 ?_ GE194.out | refine zr1 ?_ GE195.out) | exact HB.out))) : w.heap.size ≤ gb196)); have GE196 := GW196; replace HB := mk_ (zr3 (by repeat (first | (with_reducible first | exact HB.out | apply zq7 | apply zq8 | apply zq9 | refine zr1 ?_ GE194.out | refine zr1 ?_ GE195.out) | exact HB.out)) hb); have NB194_196 := mk_ ((by rw [hg]; exact zm2 (zr6 (by exact BK194.out)) : gb194 ≠ gb196)); replace BK194 := mk_ (zq6 (by exact BK194.out) hb); have NB196_194 := mk_ NB194_196.out.symm; have NB195_196 := mk_ ((by rw [hg]; exact zm2 (zr6 (by exact BK195.out)) : gb195 ≠ gb196)); replace BK195 := mk_ (zq6 (by exact BK195.out) hb); have NB196_195 := mk_ NB195_196.out.symm; clear hb hbox hg; have hnb52 := NB194_195.out; have hnc52 := NB195_194.out; have hnb53 := NB194_196.out; have hnc53 := NB196_194.out; obtain ⟨hcz54_0, hcz54_1, hcz54_2, hcz54_3, hcz54_4⟩ := cz5 BK194.out; obtain ⟨hfz54_0, hfz54_1, hfz54_2, hfz54_3, hfz54_4⟩ := fz5 BK194.out) | ((with_reducible refine gate_callee (f := 47) rfl ?_); refine goesL_ (some 7) rfl rfl Try.func47 (by kernel_rfl) rfl #[.agg #[.int .i64 a0_0, .int .i64 a0_1, .int .i64 a0_2, .int .i64 a0_3, .int .i64 a0_4]] rfl (by (try simp only [List.map_toArray, List.map_cons, List.map_nil]); first | done | rfl | (simp only [List.length_drop, List.length_take]; rfl)) ?_; (with_reducible refine (impl_CfgOk.calls a0_0 a0_1 a0_2 a0_3 a0_4 false _ A3.out).mono ?_); rintro e w55 ⟨rfl, hb⟩; refine ⟨_, rfl, ?_⟩; replace BK194 := mk_ (zq6 (by exact BK194.out) hb); replace BK195 := mk_ (zq6 (by exact BK195.out) hb); replace BK196 := mk_ (zq6 (by exact BK196.out) hb); replace HB := mk_ (zr3 (by repeat (first | (with_reducible first | exact HB.out | apply zq7 | apply zq8 | apply zq9 | refine zr1 ?_ GE194.out | refine zr1 ?_ GE195.out | refine zr1 ?_ GE196.out) | exact HB.out)) hb); (try clear hb); (try clear hb2); (try clear hk); (try clear hi); have hnb56 := NB196_195.out; have hnc56 := NB195_196.out; obtain ⟨hcz57_0, hcz57_1, hcz57_2, hcz57_3, hcz57_4⟩ := cz5 BK196.out; obtain ⟨hfz57_0, hfz57_1, hfz57_2, hfz57_3, hfz57_4⟩ := fz5 BK196.out))
   refine bodyPost_ret (results_ct rfl _ _ gb196 24 #[.int .i64 0, .int .i64 0, .int .i64 0, .int .i64 0, .int .i64 0] (0, 0) _ rfl (by (with_reducible repeat (first | refine zq1 ?_ _ | refine zq2 ?_ | refine zq3 ?_ _)); apply pu5; (with_reducible repeat (first | refine zq1 ?_ _ | refine zq2 ?_ | refine zq3 ?_ _)); exact BK196.out) Try.underlying24 rfl (by kernel_rfl)) rfl ?_
   exact ⟨by first | rfl | (simp [errW_none, errW_some] <;> rfl) | (simp [*, errW_none, errW_some] <;> rfl), by repeat (first | (with_reducible first | exact HB.out | apply zq7 | apply zq8 | apply zq9 | refine zr1 ?_ GE194.out | refine zr1 ?_ GE195.out | refine zr1 ?_ GE196.out) | exact HB.out)⟩
 subst c4
 have H1 : ((impl_CfgOk.f a1_0 a1_1 a1_2 a1_3 a1_4).bind fun t198 => (if t198 = true then (if a0_0 = a1_0 then (some (a0_0, mn a0_1 a1_1, mn a0_2 a1_2, mn a0_3 a1_3, mn a0_4 a1_4, true)) else (some (0, 0, 0, 0, 0, false))) else (some (0, 0, 0, 0, 0, false)))) = some (r1, r2, r3, r4, r5, r6) := by rw [if_pos rfl] at H; exact H
 clear H
 have H := H1
 clear H1
 replace H := Option.bind_eq_some_iff.mp H
 obtain ⟨t198, A50, H⟩ := H
 try dsimp only at H
 have A5 := mk_ A50
 clear A50
 by_cases c6 : t198 = true
 rotate_left
 · replace c6 := Bool.eq_false_iff.mpr c6
   subst c6
   have H1 : (some (0, 0, 0, 0, 0, false)) = some (r1, r2, r3, r4, r5, r6) := by rw [if_neg (show ¬ (false = true) by decide)] at H; exact H
   clear H
   have H := H1
   clear H1
   simp only [Option.some.injEq, Prod.mk.injEq] at H
   obtain ⟨rfl, rfl, rfl, rfl, rfl, rfl⟩ := H
   go_enter Try.func14, Try.ntmps14
   go_wp2_with (first | ((with_reducible refine gate_dst (N := 2) rfl ?_); refine box_event ?hg (N := 2) ?hd (cs := #[.int .i64 a0_0, .int .i64 a0_1, .int .i64 a0_2, .int .i64 a0_3, .int .i64 a0_4]) (t := 24) ?hr ?_; (case hd => rfl); (case hg => rfl); (case hr => first | (go_simp; done) | (go_simp; rfl)); intro gb194 hg w38 hbox hb; have BK194 := mk_ (hbox); have GW194 := mk_ ((by rw [hg]; exact (zr2 (by repeat (first | (with_reducible first | exact HB.out | apply zq7 | apply zq8 | apply zq9) | exact HB.out))) : w.heap.size ≤ gb194)); have GE194 := GW194; replace HB := mk_ (zr3 (by repeat (first | (with_reducible first | exact HB.out | apply zq7 | apply zq8 | apply zq9) | exact HB.out)) hb); clear hb hbox hg) | ((with_reducible refine gate_dst (N := 3) rfl ?_); refine box_event ?hg (N := 3) ?hd (cs := #[.int .i64 a1_0, .int .i64 a1_1, .int .i64 a1_2, .int .i64 a1_3, .int .i64 a1_4]) (t := 24) ?hr ?_; (case hd => rfl); (case hg => rfl); (case hr => first | (go_simp; done) | (go_simp; rfl)); intro gb195 hg w39 hbox hb; have BK195 := mk_ (hbox); have GW195 := mk_ ((by rw [hg]; exact (zr2 (by repeat (first | (with_reducible first | exact HB.out | apply zq7 | apply zq8 | apply zq9 | refine zr1 ?_ GE194.out) | exact HB.out))) : w.heap.size ≤ gb195)); have GE195 := GW195; replace HB := mk_ (zr3 (by repeat (first | (with_reducible first | exact HB.out | apply zq7 | apply zq8 | apply zq9 | refine zr1 ?_ GE194.out) | exact HB.out)) hb); have NB194_195 := mk_ ((by rw [hg]; exact zm2 (zr6 (by exact BK194.out)) : gb194 ≠ gb195)); replace BK194 := mk_ (zq6 (by exact BK194.out) hb); have NB195_194 := mk_ NB194_195.out.symm; clear hb hbox hg) | ((with_reducible refine gate_dst (N := 4) rfl ?_); refine box_event ?hg (N := 4) ?hd (cs := #[.int .i64 0, .int .i64 0, .int .i64 0, .int .i64 0, .int .i64 0]) (t := 24) ?hr ?_; (case hd => rfl); (case hg => rfl); (case hr => first | (go_simp; done) | (go_simp; rfl)); intro gb196 hg w40 hbox hb; have BK196 := mk_ (hbox); have GW196 := mk_ ((by rw [hg]; exact (zr2 (by repeat (first | (with_reducible first | exact HB.out | apply zq7 | apply zq8 | apply zq9 | refine zr1 ?_ GE194.out | refine zr1 ?_ GE195.out) | exact HB.out))) : w.heap.size ≤ gb196)); have GE196 := GW196; replace HB := mk_ (zr3 (by repeat (first | (with_reducible first | exact HB.out | apply zq7 | apply zq8 | apply zq9 | refine zr1 ?_ GE194.out | refine zr1 ?_ GE195.out) | exact HB.out)) hb); have NB194_196 := mk_ ((by rw [hg]; exact zm2 (zr6 (by exact BK194.out)) : gb194 ≠ gb196)); replace BK194 := mk_ (zq6 (by exact BK194.out) hb); have NB196_194 := mk_ NB194_196.out.symm; have NB195_196 := mk_ ((by rw [hg]; exact zm2 (zr6 (by exact BK195.out)) : gb195 ≠ gb196)); replace BK195 := mk_ (zq6 (by exact BK195.out) hb); have NB196_195 := mk_ NB195_196.out.symm; clear hb hbox hg; have hnb41 := NB194_195.out; have hnc41 := NB195_194.out; have hnb42 := NB194_196.out; have hnc42 := NB196_194.out; obtain ⟨hcz43_0, hcz43_1, hcz43_2, hcz43_3, hcz43_4⟩ := cz5 BK194.out; obtain ⟨hfz43_0, hfz43_1, hfz43_2, hfz43_3, hfz43_4⟩ := fz5 BK194.out) | ((with_reducible refine gate_callee (f := 47) rfl ?_); refine goesL_ (some 7) rfl rfl Try.func47 (by kernel_rfl) rfl #[.agg #[.int .i64 a0_0, .int .i64 a0_1, .int .i64 a0_2, .int .i64 a0_3, .int .i64 a0_4]] rfl (by (try simp only [List.map_toArray, List.map_cons, List.map_nil]); first | done | rfl | (simp only [List.length_drop, List.length_take]; rfl)) ?_; (with_reducible refine (impl_CfgOk.calls a0_0 a0_1 a0_2 a0_3 a0_4 true _ A3.out).mono ?_); rintro e w44 ⟨rfl, hb⟩; refine ⟨_, rfl, ?_⟩; replace BK194 := mk_ (zq6 (by exact BK194.out) hb); replace BK195 := mk_ (zq6 (by exact BK195.out) hb); replace BK196 := mk_ (zq6 (by exact BK196.out) hb); replace HB := mk_ (zr3 (by repeat (first | (with_reducible first | exact HB.out | apply zq7 | apply zq8 | apply zq9 | refine zr1 ?_ GE194.out | refine zr1 ?_ GE195.out | refine zr1 ?_ GE196.out) | exact HB.out)) hb); (try clear hb); (try clear hb2); (try clear hk); (try clear hi); have hnb45 := NB195_196.out; have hnc45 := NB196_195.out; obtain ⟨hcz46_0, hcz46_1, hcz46_2, hcz46_3, hcz46_4⟩ := cz5 BK195.out; obtain ⟨hfz46_0, hfz46_1, hfz46_2, hfz46_3, hfz46_4⟩ := fz5 BK195.out) | (go_at_call 47; (with_reducible refine (impl_CfgOk.calls a1_0 a1_1 a1_2 a1_3 a1_4 false _ A5.out).mono ?_); rintro e w47 ⟨rfl, hb⟩; replace BK194 := mk_ (zq6 (by exact BK194.out) hb); replace BK195 := mk_ (zq6 (by exact BK195.out) hb); replace BK196 := mk_ (zq6 (by exact BK196.out) hb); replace HB := mk_ (zr3 (by repeat (first | (with_reducible first | exact HB.out | apply zq7 | apply zq8 | apply zq9 | refine zr1 ?_ GE194.out | refine zr1 ?_ GE195.out | refine zr1 ?_ GE196.out) | exact HB.out)) hb); (try clear hb); (try clear hb2); (try clear hk); (try clear hi); obtain ⟨hcz48_0, hcz48_1, hcz48_2, hcz48_3, hcz48_4⟩ := cz5 BK196.out; obtain ⟨hfz48_0, hfz48_1, hfz48_2, hfz48_3, hfz48_4⟩ := fz5 BK196.out))
   refine bodyPost_ret (results_ct rfl _ _ gb196 24 #[.int .i64 0, .int .i64 0, .int .i64 0, .int .i64 0, .int .i64 0] (0, 0) _ rfl (by (with_reducible repeat (first | refine zq1 ?_ _ | refine zq2 ?_ | refine zq3 ?_ _)); apply pu5; (with_reducible repeat (first | refine zq1 ?_ _ | refine zq2 ?_ | refine zq3 ?_ _)); exact BK196.out) Try.underlying24 rfl (by kernel_rfl)) rfl ?_
   exact ⟨by first | rfl | (simp [errW_none, errW_some] <;> rfl) | (simp [*, errW_none, errW_some] <;> rfl), by repeat (first | (with_reducible first | exact HB.out | apply zq7 | apply zq8 | apply zq9 | refine zr1 ?_ GE194.out | refine zr1 ?_ GE195.out | refine zr1 ?_ GE196.out) | exact HB.out)⟩
 subst c6
 have H1 : (if a0_0 = a1_0 then (some (a0_0, mn a0_1 a1_1, mn a0_2 a1_2, mn a0_3 a1_3, mn a0_4 a1_4, true)) else (some (0, 0, 0, 0, 0, false))) = some (r1, r2, r3, r4, r5, r6) := by rw [if_pos rfl] at H; exact H
 clear H
 have H := H1
 clear H1
 by_cases c7 : a0_0 = a1_0
 rotate_left
 · rw [if_neg c7] at H
   have c7b0 : (a0_0 == a1_0) = false := beq_eq_false_iff_ne.mpr c7
   have c7b1 : (a0_0 != a1_0) = true := bne_iff_ne.mpr c7
   simp only [Option.some.injEq, Prod.mk.injEq] at H
   obtain ⟨rfl, rfl, rfl, rfl, rfl, rfl⟩ := H
   go_enter Try.func14, Try.ntmps14
   go_wp2_with (first | ((with_reducible refine gate_dst (N := 2) rfl ?_); refine box_event ?hg (N := 2) ?hd (cs := #[.int .i64 a0_0, .int .i64 a0_1, .int .i64 a0_2, .int .i64 a0_3, .int .i64 a0_4]) (t := 24) ?hr ?_; (case hd => rfl); (case hg => rfl); (case hr => first | (go_simp; done) | (go_simp; rfl)); intro gb194 hg w25 hbox hb; have BK194 := mk_ (hbox); have GW194 := mk_ ((by rw [hg]; exact (zr2 (by repeat (first | (with_reducible first | exact HB.out | apply zq7 | apply zq8 | apply zq9) | exact HB.out))) : w.heap.size ≤ gb194)); have GE194 := GW194; replace HB := mk_ (zr3 (by repeat (first | (with_reducible first | exact HB.out | apply zq7 | apply zq8 | apply zq9) | exact HB.out)) hb); clear hb hbox hg) | ((with_reducible refine gate_dst (N := 3) rfl ?_); refine box_event ?hg (N := 3) ?hd (cs := #[.int .i64 a1_0, .int .i64 a1_1, .int .i64 a1_2, .int .i64 a1_3, .int .i64 a1_4]) (t := 24) ?hr ?_; (case hd => rfl); (case hg => rfl); (case hr => first | (go_simp; done) | (go_simp; rfl)); intro gb195 hg w26 hbox hb; have BK195 := mk_ (hbox); have GW195 := mk_ ((by rw [hg]; exact (zr2 (by repeat (first | (with_reducible first | exact HB.out | apply zq7 | apply zq8 | apply zq9 | refine zr1 ?_ GE194.out) | exact HB.out))) : w.heap.size ≤ gb195)); have GE195 := GW195; replace HB := mk_ (zr3 (by repeat (first | (with_reducible first | exact HB.out | apply zq7 | apply zq8 | apply zq9 | refine zr1 ?_ GE194.out) | exact HB.out)) hb); have NB194_195 := mk_ ((by rw [hg]; exact zm2 (zr6 (by exact BK194.out)) : gb194 ≠ gb195)); replace BK194 := mk_ (zq6 (by exact BK194.out) hb); have NB195_194 := mk_ NB194_195.out.symm; clear hb hbox hg) | ((with_reducible refine gate_dst (N := 4) rfl ?_); refine box_event ?hg (N := 4) ?hd (cs := #[.int .i64 0, .int .i64 0, .int .i64 0, .int .i64 0, .int .i64 0]) (t := 24) ?hr ?_; (case hd => rfl); (case hg => rfl); (case hr => first | (go_simp; done) | (go_simp; rfl)); intro gb196 hg w27 hbox hb; have BK196 := mk_ (hbox); have GW196 := mk_ ((by rw [hg]; exact (zr2 (by repeat (first | (with_reducible first | exact HB.out | apply zq7 | apply zq8 | apply zq9 | refine zr1 ?_ GE194.out | refine zr1 ?_ GE195.out) | exact HB.out))) : w.heap.size ≤ gb196)); have GE196 := GW196; replace HB := mk_ (zr3 (by repeat (first | (with_reducible first | exact HB.out | apply zq7 | apply zq8 | apply zq9 | refine zr1 ?_ GE194.out | refine zr1 ?_ GE195.out) | exact HB.out)) hb); have NB194_196 := mk_ ((by rw [hg]; exact zm2 (zr6 (by exact BK194.out)) : gb194 ≠ gb196)); replace BK194 := mk_ (zq6 (by exact BK194.out) hb); have NB196_194 := mk_ NB194_196.out.symm; have NB195_196 := mk_ ((by rw [hg]; exact zm2 (zr6 (by exact BK195.out)) : gb195 ≠ gb196)); replace BK195 := mk_ (zq6 (by exact BK195.out) hb); have NB196_195 := mk_ NB195_196.out.symm; clear hb hbox hg; have hnb28 := NB194_195.out; have hnc28 := NB195_194.out; have hnb29 := NB194_196.out; have hnc29 := NB196_194.out; obtain ⟨hcz30_0, hcz30_1, hcz30_2, hcz30_3, hcz30_4⟩ := cz5 BK194.out; obtain ⟨hfz30_0, hfz30_1, hfz30_2, hfz30_3, hfz30_4⟩ := fz5 BK194.out) | ((with_reducible refine gate_callee (f := 47) rfl ?_); refine goesL_ (some 7) rfl rfl Try.func47 (by kernel_rfl) rfl #[.agg #[.int .i64 a0_0, .int .i64 a0_1, .int .i64 a0_2, .int .i64 a0_3, .int .i64 a0_4]] rfl (by (try simp only [List.map_toArray, List.map_cons, List.map_nil]); first | done | rfl | (simp only [List.length_drop, List.length_take]; rfl)) ?_; (with_reducible refine (impl_CfgOk.calls a0_0 a0_1 a0_2 a0_3 a0_4 true _ A3.out).mono ?_); rintro e w31 ⟨rfl, hb⟩; refine ⟨_, rfl, ?_⟩; replace BK194 := mk_ (zq6 (by exact BK194.out) hb); replace BK195 := mk_ (zq6 (by exact BK195.out) hb); replace BK196 := mk_ (zq6 (by exact BK196.out) hb); replace HB := mk_ (zr3 (by repeat (first | (with_reducible first | exact HB.out | apply zq7 | apply zq8 | apply zq9 | refine zr1 ?_ GE194.out | refine zr1 ?_ GE195.out | refine zr1 ?_ GE196.out) | exact HB.out)) hb); (try clear hb); (try clear hb2); (try clear hk); (try clear hi); have hnb32 := NB195_196.out; have hnc32 := NB196_195.out; obtain ⟨hcz33_0, hcz33_1, hcz33_2, hcz33_3, hcz33_4⟩ := cz5 BK195.out; obtain ⟨hfz33_0, hfz33_1, hfz33_2, hfz33_3, hfz33_4⟩ := fz5 BK195.out) | (go_at_call 47; (with_reducible refine (impl_CfgOk.calls a1_0 a1_1 a1_2 a1_3 a1_4 true _ A5.out).mono ?_); rintro e w34 ⟨rfl, hb⟩; replace BK194 := mk_ (zq6 (by exact BK194.out) hb); replace BK195 := mk_ (zq6 (by exact BK195.out) hb); replace BK196 := mk_ (zq6 (by exact BK196.out) hb); replace HB := mk_ (zr3 (by repeat (first | (with_reducible first | exact HB.out | apply zq7 | apply zq8 | apply zq9 | refine zr1 ?_ GE194.out | refine zr1 ?_ GE195.out | refine zr1 ?_ GE196.out) | exact HB.out)) hb); (try clear hb); (try clear hb2); (try clear hk); (try clear hi); obtain ⟨hcz35_0, hcz35_1, hcz35_2, hcz35_3, hcz35_4⟩ := cz5 BK194.out; obtain ⟨hfz35_0, hfz35_1, hfz35_2, hfz35_3, hfz35_4⟩ := fz5 BK194.out; obtain ⟨hcz36_0, hcz36_1, hcz36_2, hcz36_3, hcz36_4⟩ := cz5 BK195.out; obtain ⟨hfz36_0, hfz36_1, hfz36_2, hfz36_3, hfz36_4⟩ := fz5 BK195.out; obtain ⟨hcz37_0, hcz37_1, hcz37_2, hcz37_3, hcz37_4⟩ := cz5 BK196.out; obtain ⟨hfz37_0, hfz37_1, hfz37_2, hfz37_3, hfz37_4⟩ := fz5 BK196.out))
   refine bodyPost_ret (results_ct rfl _ _ gb196 24 #[.int .i64 0, .int .i64 0, .int .i64 0, .int .i64 0, .int .i64 0] (0, 0) _ rfl (by (with_reducible repeat (first | refine zq1 ?_ _ | refine zq2 ?_ | refine zq3 ?_ _)); apply pu5; (with_reducible repeat (first | refine zq1 ?_ _ | refine zq2 ?_ | refine zq3 ?_ _)); exact BK196.out) Try.underlying24 rfl (by kernel_rfl)) rfl ?_
   exact ⟨by first | rfl | (simp [errW_none, errW_some] <;> rfl) | (simp [*, errW_none, errW_some] <;> rfl), by repeat (first | (with_reducible first | exact HB.out | apply zq7 | apply zq8 | apply zq9 | refine zr1 ?_ GE194.out | refine zr1 ?_ GE195.out | refine zr1 ?_ GE196.out) | exact HB.out)⟩
 rw [if_pos c7] at H
 have c7b0 : (a0_0 == a1_0) = true := beq_iff_eq.mpr c7
 have c7b1 : (a0_0 != a1_0) = false := bne_eq_false_iff_eq.mpr c7
 clear c7
 obtain ⟨ji8, hji8⟩ : ∃ j_ : Int, (mn a0_1 a1_1) = j_ := ⟨_, rfl⟩
 replace H : (some (a0_0, ji8, mn a0_2 a1_2, mn a0_3 a1_3, mn a0_4 a1_4, true)) = some (r1, r2, r3, r4, r5, r6) := by first | (rw [hji8] at H; exact H) | (simp only [hji8] at H ⊢; exact H)
 (try rw [hji8] at A3)
 (try rw [hji8] at A5)
 have hji8_ : (if a1_1 < a0_1 then a1_1 else a0_1) = ji8 := hji8
 obtain ⟨ji9, hji9⟩ : ∃ j_ : Int, (mn a0_2 a1_2) = j_ := ⟨_, rfl⟩
 replace H : (some (a0_0, ji8, ji9, mn a0_3 a1_3, mn a0_4 a1_4, true)) = some (r1, r2, r3, r4, r5, r6) := by first | (rw [hji9] at H; exact H) | (simp only [hji9] at H ⊢; exact H)
 (try rw [hji9] at A3)
 (try rw [hji9] at A5)
 have hji9_ : (if a1_2 < a0_2 then a1_2 else a0_2) = ji9 := hji9
 obtain ⟨ji10, hji10⟩ : ∃ j_ : Int, (mn a0_3 a1_3) = j_ := ⟨_, rfl⟩
 replace H : (some (a0_0, ji8, ji9, ji10, mn a0_4 a1_4, true)) = some (r1, r2, r3, r4, r5, r6) := by first | (rw [hji10] at H; exact H) | (simp only [hji10] at H ⊢; exact H)
 (try rw [hji10] at A3)
 (try rw [hji10] at A5)
 have hji10_ : (if a1_3 < a0_3 then a1_3 else a0_3) = ji10 := hji10
 obtain ⟨ji11, hji11⟩ : ∃ j_ : Int, (mn a0_4 a1_4) = j_ := ⟨_, rfl⟩
 replace H : (some (a0_0, ji8, ji9, ji10, ji11, true)) = some (r1, r2, r3, r4, r5, r6) := by first | (rw [hji11] at H; exact H) | (simp only [hji11] at H ⊢; exact H)
 (try rw [hji11] at A3)
 (try rw [hji11] at A5)
 have hji11_ : (if a1_4 < a0_4 then a1_4 else a0_4) = ji11 := hji11
 simp only [Option.some.injEq, Prod.mk.injEq] at H
 obtain ⟨rfl, rfl, rfl, rfl, rfl, rfl⟩ := H
 go_enter Try.func14, Try.ntmps14
 go_wp2_with (first | ((with_reducible refine gate_dst (N := 2) rfl ?_); refine box_event ?hg (N := 2) ?hd (cs := #[.int .i64 a0_0, .int .i64 a0_1, .int .i64 a0_2, .int .i64 a0_3, .int .i64 a0_4]) (t := 24) ?hr ?_; (case hd => rfl); (case hg => rfl); (case hr => first | (go_simp; done) | (go_simp; rfl)); intro gb194 hg w12 hbox hb; have BK194 := mk_ (hbox); have GW194 := mk_ ((by rw [hg]; exact (zr2 (by repeat (first | (with_reducible first | exact HB.out | apply zq7 | apply zq8 | apply zq9) | exact HB.out))) : w.heap.size ≤ gb194)); have GE194 := GW194; replace HB := mk_ (zr3 (by repeat (first | (with_reducible first | exact HB.out | apply zq7 | apply zq8 | apply zq9) | exact HB.out)) hb); clear hb hbox hg) | ((with_reducible refine gate_dst (N := 3) rfl ?_); refine box_event ?hg (N := 3) ?hd (cs := #[.int .i64 a1_0, .int .i64 a1_1, .int .i64 a1_2, .int .i64 a1_3, .int .i64 a1_4]) (t := 24) ?hr ?_; (case hd => rfl); (case hg => rfl); (case hr => first | (go_simp; done) | (go_simp; rfl)); intro gb195 hg w13 hbox hb; have BK195 := mk_ (hbox); have GW195 := mk_ ((by rw [hg]; exact (zr2 (by repeat (first | (with_reducible first | exact HB.out | apply zq7 | apply zq8 | apply zq9 | refine zr1 ?_ GE194.out) | exact HB.out))) : w.heap.size ≤ gb195)); have GE195 := GW195; replace HB := mk_ (zr3 (by repeat (first | (with_reducible first | exact HB.out | apply zq7 | apply zq8 | apply zq9 | refine zr1 ?_ GE194.out) | exact HB.out)) hb); have NB194_195 := mk_ ((by rw [hg]; exact zm2 (zr6 (by exact BK194.out)) : gb194 ≠ gb195)); replace BK194 := mk_ (zq6 (by exact BK194.out) hb); have NB195_194 := mk_ NB194_195.out.symm; clear hb hbox hg) | ((with_reducible refine gate_dst (N := 4) rfl ?_); refine box_event ?hg (N := 4) ?hd (cs := #[.int .i64 0, .int .i64 0, .int .i64 0, .int .i64 0, .int .i64 0]) (t := 24) ?hr ?_; (case hd => rfl); (case hg => rfl); (case hr => first | (go_simp; done) | (go_simp; rfl)); intro gb196 hg w14 hbox hb; have BK196 := mk_ (hbox); have GW196 := mk_ ((by rw [hg]; exact (zr2 (by repeat (first | (with_reducible first | exact HB.out | apply zq7 | apply zq8 | apply zq9 | refine zr1 ?_ GE194.out | refine zr1 ?_ GE195.out) | exact HB.out))) : w.heap.size ≤ gb196)); have GE196 := GW196; replace HB := mk_ (zr3 (by repeat (first | (with_reducible first | exact HB.out | apply zq7 | apply zq8 | apply zq9 | refine zr1 ?_ GE194.out | refine zr1 ?_ GE195.out) | exact HB.out)) hb); have NB194_196 := mk_ ((by rw [hg]; exact zm2 (zr6 (by exact BK194.out)) : gb194 ≠ gb196)); replace BK194 := mk_ (zq6 (by exact BK194.out) hb); have NB196_194 := mk_ NB194_196.out.symm; have NB195_196 := mk_ ((by rw [hg]; exact zm2 (zr6 (by exact BK195.out)) : gb195 ≠ gb196)); replace BK195 := mk_ (zq6 (by exact BK195.out) hb); have NB196_195 := mk_ NB195_196.out.symm; clear hb hbox hg; have hnb15 := NB194_195.out; have hnc15 := NB195_194.out; have hnb16 := NB194_196.out; have hnc16 := NB196_194.out; obtain ⟨hcz17_0, hcz17_1, hcz17_2, hcz17_3, hcz17_4⟩ := cz5 BK194.out; obtain ⟨hfz17_0, hfz17_1, hfz17_2, hfz17_3, hfz17_4⟩ := fz5 BK194.out) | ((with_reducible refine gate_callee (f := 47) rfl ?_); refine goesL_ (some 7) rfl rfl Try.func47 (by kernel_rfl) rfl #[.agg #[.int .i64 a0_0, .int .i64 a0_1, .int .i64 a0_2, .int .i64 a0_3, .int .i64 a0_4]] rfl (by (try simp only [List.map_toArray, List.map_cons, List.map_nil]); first | done | rfl | (simp only [List.length_drop, List.length_take]; rfl)) ?_; (with_reducible refine (impl_CfgOk.calls a0_0 a0_1 a0_2 a0_3 a0_4 true _ A3.out).mono ?_); rintro e w18 ⟨rfl, hb⟩; refine ⟨_, rfl, ?_⟩; replace BK194 := mk_ (zq6 (by exact BK194.out) hb); replace BK195 := mk_ (zq6 (by exact BK195.out) hb); replace BK196 := mk_ (zq6 (by exact BK196.out) hb); replace HB := mk_ (zr3 (by repeat (first | (with_reducible first | exact HB.out | apply zq7 | apply zq8 | apply zq9 | refine zr1 ?_ GE194.out | refine zr1 ?_ GE195.out | refine zr1 ?_ GE196.out) | exact HB.out)) hb); (try clear hb); (try clear hb2); (try clear hk); (try clear hi); have hnb19 := NB195_196.out; have hnc19 := NB196_195.out; obtain ⟨hcz20_0, hcz20_1, hcz20_2, hcz20_3, hcz20_4⟩ := cz5 BK195.out; obtain ⟨hfz20_0, hfz20_1, hfz20_2, hfz20_3, hfz20_4⟩ := fz5 BK195.out) | (go_at_call 47; (with_reducible refine (impl_CfgOk.calls a1_0 a1_1 a1_2 a1_3 a1_4 true _ A5.out).mono ?_); rintro e w21 ⟨rfl, hb⟩; replace BK194 := mk_ (zq6 (by exact BK194.out) hb); replace BK195 := mk_ (zq6 (by exact BK195.out) hb); replace BK196 := mk_ (zq6 (by exact BK196.out) hb); replace HB := mk_ (zr3 (by repeat (first | (with_reducible first | exact HB.out | apply zq7 | apply zq8 | apply zq9 | refine zr1 ?_ GE194.out | refine zr1 ?_ GE195.out | refine zr1 ?_ GE196.out) | exact HB.out)) hb); (try clear hb); (try clear hb2); (try clear hk); (try clear hi); obtain ⟨hcz22_0, hcz22_1, hcz22_2, hcz22_3, hcz22_4⟩ := cz5 BK194.out; obtain ⟨hfz22_0, hfz22_1, hfz22_2, hfz22_3, hfz22_4⟩ := fz5 BK194.out; obtain ⟨hcz23_0, hcz23_1, hcz23_2, hcz23_3, hcz23_4⟩ := cz5 BK195.out; obtain ⟨hfz23_0, hfz23_1, hfz23_2, hfz23_3, hfz23_4⟩ := fz5 BK195.out; obtain ⟨hcz24_0, hcz24_1, hcz24_2, hcz24_3, hcz24_4⟩ := cz5 BK196.out; obtain ⟨hfz24_0, hfz24_1, hfz24_2, hfz24_3, hfz24_4⟩ := fz5 BK196.out))
 refine bodyPost_ret (results_ct rfl _ _ gb196 24 #[.int .i64 a0_0, .int .i64 ji8, .int .i64 ji9, .int .i64 ji10, .int .i64 ji11] (0, 0) _ rfl (by (with_reducible repeat (first | refine zq1 ?_ _ | refine zq2 ?_ | refine zq3 ?_ _)); apply pu5; (with_reducible repeat (first | refine zq1 ?_ _ | refine zq2 ?_ | refine zq3 ?_ _)); exact BK196.out) Try.underlying24 rfl (by kernel_rfl)) rfl ?_
 exact ⟨by first | rfl | (simp [errW_none, errW_some] <;> rfl) | (simp only [← hji8, ← hji9, ← hji10, ← hji11]; first | rfl | (simp [errW_none, errW_some] <;> rfl)) | (simp [*, errW_none, errW_some] <;> rfl), by repeat (first | (with_reducible first | exact HB.out | apply zq7 | apply zq8 | apply zq9 | refine zr1 ?_ GE194.out | refine zr1 ?_ GE195.out | refine zr1 ?_ GE196.out) | exact HB.out)⟩

/-! ### spec_l1In: function 51 -/
def spec_l1In.f (a0 : Int) (a1 : Int) (a2 : Int) : Option (Bool) := if a0 ≥ a1 then (some (decide (a0 ≤ a2))) else (some false)
set_option maxHeartbeats 8000000 in
set_option maxRecDepth 100000 in
theorem spec_l1In.calls (a0 : Int) (a1 : Int) (a2 : Int) (r : Bool) (w : World) (h : spec_l1In.f a0 a1 a2 = some r) :
    Calls Try.prog 51 #[.int .i64 a0, .int .i64 a1, .int .i64 a2] w fun e w' => e = .returned (.bool r) ∧ Drawn0 w w' := by
 have H : (if a0 ≥ a1 then (some (decide (a0 ≤ a2))) else (some false)) = some r := h
 clear h
 by_cases c4 : a0 ≥ a1
 · rw [if_pos c4] at H
   have c4b0 : decide (a1 ≤ a0) = true := decide_eq_true c4
   clear c4
   obtain rfl := Option.some.inj H
   go_enter Try.func51, Try.ntmps51
   go_wp2
   go_ret
   exact ⟨by first | rfl | (simp; done) | (simp [*]; done), by repeat (first | exact Drawn0.refl _ | apply Drawn0.step)⟩
 rw [if_neg c4] at H
 have c4b0 : decide (a1 ≤ a0) = false := decide_eq_false c4
 clear c4
 obtain rfl := Option.some.inj H
 go_enter Try.func51, Try.ntmps51
 go_wp2
 go_ret
 exact ⟨by first | rfl | (simp; done) | (simp [*]; done), by repeat (first | exact Drawn0.refl _ | apply Drawn0.step)⟩

/-! ### spec_CfgOk: function 41 -/
def spec_CfgOk.f (a0_0 : Int) (a0_1 : Int) (a0_2 : Int) (a0_3 : Int) (a0_4 : Int) : Option (Bool) := (spec_l1In.f a0_0 1 2).bind fun t200 => (if t200 = true then ((spec_l1In.f a0_1 1 4).bind fun t201 => (if t201 = true then ((spec_l1In.f a0_2 1 8).bind fun t202 => (if t202 = true then ((spec_l1In.f a0_3 1 24).bind fun t203 => (if t203 = true then ((spec_l1In.f a0_4 1 5).bind fun t204 => (some t204)) else (some false))) else (some false))) else (some false))) else (some false))
set_option maxHeartbeats 8000000 in
set_option maxRecDepth 100000 in
theorem spec_CfgOk.calls (a0_0 : Int) (a0_1 : Int) (a0_2 : Int) (a0_3 : Int) (a0_4 : Int) (r : Bool) (w : World) (h : spec_CfgOk.f a0_0 a0_1 a0_2 a0_3 a0_4 = some r) :
    Calls Try.prog 41 #[.agg #[.int .i64 a0_0, .int .i64 a0_1, .int .i64 a0_2, .int .i64 a0_3, .int .i64 a0_4]] w fun e w' => e = .returned (.bool r) ∧ Below w.heap.size w w' := by
 have hu24 := Try.underlying24
 have HB := mk_ (Below.refl w.heap.size w)
 have H : ((spec_l1In.f a0_0 1 2).bind fun t200 => (if t200 = true then ((spec_l1In.f a0_1 1 4).bind fun t201 => (if t201 = true then ((spec_l1In.f a0_2 1 8).bind fun t202 => (if t202 = true then ((spec_l1In.f a0_3 1 24).bind fun t203 => (if t203 = true then ((spec_l1In.f a0_4 1 5).bind fun t204 => (some t204)) else (some false))) else (some false))) else (some false))) else (some false))) = some r := h
 clear h
 replace H := Option.bind_eq_some_iff.mp H
 obtain ⟨t200, A20, H⟩ := H
 try dsimp only at H
 have A2 := mk_ A20
 clear A20
 by_cases c3 : t200 = true
 rotate_left
 · replace c3 := Bool.eq_false_iff.mpr c3
   subst c3
   have H1 : (some false) = some r := by rw [if_neg (show ¬ (false = true) by decide)] at H; exact H
   clear H
   have H := H1
   clear H1
   obtain rfl := Option.some.inj H
   go_enter Try.func41, Try.ntmps41
   go_wp2_with (first | ((with_reducible refine gate_dst (N := 1) rfl ?_); refine box_event ?hg (N := 1) ?hd (cs := #[.int .i64 a0_0, .int .i64 a0_1, .int .i64 a0_2, .int .i64 a0_3, .int .i64 a0_4]) (t := 24) ?hr ?_; (case hd => rfl); (case hg => rfl); (case hr => first | (go_simp; done) | (go_simp; rfl)); intro gb199 hg w19 hbox hb; have BK199 := mk_ (hbox); have GW199 := mk_ ((by rw [hg]; exact (zr2 (by repeat (first | (with_reducible first | exact HB.out | apply zq7 | apply zq8 | apply zq9) | exact HB.out))) : w.heap.size ≤ gb199)); have GE199 := GW199; replace HB := mk_ (zr3 (by repeat (first | (with_reducible first | exact HB.out | apply zq7 | apply zq8 | apply zq9) | exact HB.out)) hb); clear hb hbox hg; obtain ⟨hcz20_0, hcz20_1, hcz20_2, hcz20_3, hcz20_4⟩ := cz5 BK199.out; obtain ⟨hfz20_0, hfz20_1, hfz20_2, hfz20_3, hfz20_4⟩ := fz5 BK199.out) | ((with_reducible refine gate_callee (f := 51) rfl ?_); refine goesL_ (some 5) rfl rfl Try.func51 (by kernel_rfl) rfl #[.int .i64 a0_0, .int .i64 1, .int .i64 2] rfl (by (try simp only [List.map_toArray, List.map_cons, List.map_nil]); first | done | rfl | (simp only [List.length_drop, List.length_take]; rfl)) ?_; (with_reducible refine (spec_l1In.calls a0_0 1 2 false _ A2.out).mono ?_); rintro e w' ⟨rfl, ⟨nd, rfl⟩⟩; refine ⟨_, rfl, ?_⟩))
   go_ret
   exact ⟨by first | rfl | (simp [errW_none, errW_some] <;> rfl) | (simp [*, errW_none, errW_some] <;> rfl), by repeat (first | (with_reducible first | exact HB.out | apply zq7 | apply zq8 | apply zq9 | refine zr1 ?_ GE199.out) | exact HB.out)⟩
 subst c3
 have H1 : ((spec_l1In.f a0_1 1 4).bind fun t201 => (if t201 = true then ((spec_l1In.f a0_2 1 8).bind fun t202 => (if t202 = true then ((spec_l1In.f a0_3 1 24).bind fun t203 => (if t203 = true then ((spec_l1In.f a0_4 1 5).bind fun t204 => (some t204)) else (some false))) else (some false))) else (some false))) = some r := by rw [if_pos rfl] at H; exact H
 clear H
 have H := H1
 clear H1
 replace H := Option.bind_eq_some_iff.mp H
 obtain ⟨t201, A40, H⟩ := H
 try dsimp only at H
 have A4 := mk_ A40
 clear A40
 have HH_ := mk_ H
 clear H
 go_enter Try.func41, Try.ntmps41
 go_wp2_with (first | ((with_reducible refine gate_dst (N := 1) rfl ?_); refine box_event ?hg (N := 1) ?hd (cs := #[.int .i64 a0_0, .int .i64 a0_1, .int .i64 a0_2, .int .i64 a0_3, .int .i64 a0_4]) (t := 24) ?hr ?_; (case hd => rfl); (case hg => rfl); (case hr => first | (go_simp; done) | (go_simp; rfl)); intro gb199 hg w11 hbox hb; have BK199 := mk_ (hbox); have GW199 := mk_ ((by rw [hg]; exact (zr2 (by repeat (first | (with_reducible first | exact HB.out | apply zq7 | apply zq8 | apply zq9) | exact HB.out))) : w.heap.size ≤ gb199)); have GE199 := GW199; replace HB := mk_ (zr3 (by repeat (first | (with_reducible first | exact HB.out | apply zq7 | apply zq8 | apply zq9) | exact HB.out)) hb); clear hb hbox hg; obtain ⟨hcz12_0, hcz12_1, hcz12_2, hcz12_3, hcz12_4⟩ := cz5 BK199.out; obtain ⟨hfz12_0, hfz12_1, hfz12_2, hfz12_3, hfz12_4⟩ := fz5 BK199.out) | ((with_reducible refine gate_callee (f := 51) rfl ?_); refine goesL_ (some 5) rfl rfl Try.func51 (by kernel_rfl) rfl #[.int .i64 a0_0, .int .i64 1, .int .i64 2] rfl (by (try simp only [List.map_toArray, List.map_cons, List.map_nil]); first | done | rfl | (simp only [List.length_drop, List.length_take]; rfl)) ?_; (with_reducible refine (spec_l1In.calls a0_0 1 2 true _ A2.out).mono ?_); rintro e w' ⟨rfl, ⟨nd, rfl⟩⟩; refine ⟨_, rfl, ?_⟩))
 have H := HH_.out
 clear HH_
 by_cases c5 : t201 = true
 rotate_left
 · replace c5 := Bool.eq_false_iff.mpr c5
   subst c5
   have H1 : (some false) = some r := by rw [if_neg (show ¬ (false = true) by decide)] at H; exact H
   clear H
   have H := H1
   clear H1
   obtain rfl := Option.some.inj H
   go_wp2_with (first | (go_at_call 51; (with_reducible refine (spec_l1In.calls a0_1 1 4 false _ A4.out).mono ?_); rintro e w' ⟨rfl, ⟨nd, rfl⟩⟩))
   go_ret
   exact ⟨by first | rfl | (simp [errW_none, errW_some] <;> rfl) | (simp [*, errW_none, errW_some] <;> rfl), by repeat (first | (with_reducible first | exact HB.out | apply zq7 | apply zq8 | apply zq9 | refine zr1 ?_ GE199.out) | exact HB.out)⟩
 subst c5
 have H1 : ((spec_l1In.f a0_2 1 8).bind fun t202 => (if t202 = true then ((spec_l1In.f a0_3 1 24).bind fun t203 => (if t203 = true then ((spec_l1In.f a0_4 1 5).bind fun t204 => (some t204)) else (some false))) else (some false))) = some r := by rw [if_pos rfl] at H; exact H
 clear H
 have H := H1
 clear H1
 replace H := Option.bind_eq_some_iff.mp H
 obtain ⟨t202, A60, H⟩ := H
 try dsimp only at H
 have A6 := mk_ A60
 clear A60
 have HH_ := mk_ H
 clear H
 go_wp2_with (first | (go_at_call 51; (with_reducible refine (spec_l1In.calls a0_1 1 4 true _ A4.out).mono ?_); rintro e w' ⟨rfl, ⟨nd, rfl⟩⟩))
 have H := HH_.out
 clear HH_
 by_cases c7 : t202 = true
 rotate_left
 · replace c7 := Bool.eq_false_iff.mpr c7
   subst c7
   have H1 : (some false) = some r := by rw [if_neg (show ¬ (false = true) by decide)] at H; exact H
   clear H
   have H := H1
   clear H1
   obtain rfl := Option.some.inj H
   go_wp2_with (first | (go_at_call 51; (with_reducible refine (spec_l1In.calls a0_2 1 8 false _ A6.out).mono ?_); rintro e w' ⟨rfl, ⟨nd, rfl⟩⟩))
   go_ret
   exact ⟨by first | rfl | (simp [errW_none, errW_some] <;> rfl) | (simp [*, errW_none, errW_some] <;> rfl), by repeat (first | (with_reducible first | exact HB.out | apply zq7 | apply zq8 | apply zq9 | refine zr1 ?_ GE199.out) | exact HB.out)⟩
 subst c7
 have H1 : ((spec_l1In.f a0_3 1 24).bind fun t203 => (if t203 = true then ((spec_l1In.f a0_4 1 5).bind fun t204 => (some t204)) else (some false))) = some r := by rw [if_pos rfl] at H; exact H
 clear H
 have H := H1
 clear H1
 replace H := Option.bind_eq_some_iff.mp H
 obtain ⟨t203, A80, H⟩ := H
 try dsimp only at H
 have A8 := mk_ A80
 clear A80
 have HH_ := mk_ H
 clear H
 go_wp2_with (first | (go_at_call 51; (with_reducible refine (spec_l1In.calls a0_2 1 8 true _ A6.out).mono ?_); rintro e w' ⟨rfl, ⟨nd, rfl⟩⟩))
 have H := HH_.out
 clear HH_
 by_cases c9 : t203 = true
 rotate_left
 · replace c9 := Bool.eq_false_iff.mpr c9
   subst c9
   have H1 : (some false) = some r := by rw [if_neg (show ¬ (false = true) by decide)] at H; exact H
   clear H
   have H := H1
   clear H1
   obtain rfl := Option.some.inj H
   go_wp2_with (first | (go_at_call 51; (with_reducible refine (spec_l1In.calls a0_3 1 24 false _ A8.out).mono ?_); rintro e w' ⟨rfl, ⟨nd, rfl⟩⟩))
   go_ret
   exact ⟨by first | rfl | (simp [errW_none, errW_some] <;> rfl) | (simp [*, errW_none, errW_some] <;> rfl), by repeat (first | (with_reducible first | exact HB.out | apply zq7 | apply zq8 | apply zq9 | refine zr1 ?_ GE199.out) | exact HB.out)⟩
 subst c9
 have H1 : ((spec_l1In.f a0_4 1 5).bind fun t204 => (some t204)) = some r := by rw [if_pos rfl] at H; exact H
 clear H
 have H := H1
 clear H1
 replace H := Option.bind_eq_some_iff.mp H
 obtain ⟨t204, A100, H⟩ := H
 try dsimp only at H
 have A10 := mk_ A100
 clear A100
 obtain rfl := Option.some.inj H
 go_wp2_with (first | (go_at_call 51; (with_reducible refine (spec_l1In.calls a0_3 1 24 true _ A8.out).mono ?_); rintro e w' ⟨rfl, ⟨nd, rfl⟩⟩) | (go_at_call 51; (with_reducible refine (spec_l1In.calls a0_4 1 5 t204 _ A10.out).mono ?_); rintro e w' ⟨rfl, ⟨nd, rfl⟩⟩))
 go_ret
 exact ⟨by first | rfl | (simp [errW_none, errW_some] <;> rfl) | (simp [*, errW_none, errW_some] <;> rfl), by repeat (first | (with_reducible first | exact HB.out | apply zq7 | apply zq8 | apply zq9 | refine zr1 ?_ GE199.out) | exact HB.out)⟩

/-! ### spec_l5Least: function 48 -/
def spec_l5Least.f (a0_0 : Int) (a0_1 : Int) (a0_2 : Int) (a0_3 : Int) (a0_4 : Int) (a1_0 : Int) (a1_1 : Int) (a1_2 : Int) (a1_3 : Int) (a1_4 : Int) : Option (Int × Int × Int × Int × Int) := some (a0_0, mn a0_1 a1_1, mn a0_2 a1_2, mn a0_3 a1_3, mn a0_4 a1_4)
set_option maxHeartbeats 8000000 in
set_option maxRecDepth 100000 in
theorem spec_l5Least.calls (a0_0 : Int) (a0_1 : Int) (a0_2 : Int) (a0_3 : Int) (a0_4 : Int) (a1_0 : Int) (a1_1 : Int) (a1_2 : Int) (a1_3 : Int) (a1_4 : Int) (r1 : Int) (r2 : Int) (r3 : Int) (r4 : Int) (r5 : Int) (w : World) (h : spec_l5Least.f a0_0 a0_1 a0_2 a0_3 a0_4 a1_0 a1_1 a1_2 a1_3 a1_4 = some (r1, r2, r3, r4, r5)) :
    Calls Try.prog 48 #[.agg #[.int .i64 a0_0, .int .i64 a0_1, .int .i64 a0_2, .int .i64 a0_3, .int .i64 a0_4], .agg #[.int .i64 a1_0, .int .i64 a1_1, .int .i64 a1_2, .int .i64 a1_3, .int .i64 a1_4]] w fun e w' => e = .returned (.agg #[.int .i64 r1, .int .i64 r2, .int .i64 r3, .int .i64 r4, .int .i64 r5]) ∧ Below w.heap.size w w' := by
 have hu24 := Try.underlying24
 have HB := mk_ (Below.refl w.heap.size w)
 have H : (some (a0_0, mn a0_1 a1_1, mn a0_2 a1_2, mn a0_3 a1_3, mn a0_4 a1_4)) = some (r1, r2, r3, r4, r5) := h
 clear h
 obtain ⟨ji3, hji3⟩ : ∃ j_ : Int, (mn a0_1 a1_1) = j_ := ⟨_, rfl⟩
 replace H : (some (a0_0, ji3, mn a0_2 a1_2, mn a0_3 a1_3, mn a0_4 a1_4)) = some (r1, r2, r3, r4, r5) := by first | (rw [hji3] at H; exact H) | (simp only [hji3] at H ⊢; exact H)
 have hji3_ : (if a1_1 < a0_1 then a1_1 else a0_1) = ji3 := hji3
 obtain ⟨ji4, hji4⟩ : ∃ j_ : Int, (mn a0_2 a1_2) = j_ := ⟨_, rfl⟩
 replace H : (some (a0_0, ji3, ji4, mn a0_3 a1_3, mn a0_4 a1_4)) = some (r1, r2, r3, r4, r5) := by first | (rw [hji4] at H; exact H) | (simp only [hji4] at H ⊢; exact H)
 have hji4_ : (if a1_2 < a0_2 then a1_2 else a0_2) = ji4 := hji4
 obtain ⟨ji5, hji5⟩ : ∃ j_ : Int, (mn a0_3 a1_3) = j_ := ⟨_, rfl⟩
 replace H : (some (a0_0, ji3, ji4, ji5, mn a0_4 a1_4)) = some (r1, r2, r3, r4, r5) := by first | (rw [hji5] at H; exact H) | (simp only [hji5] at H ⊢; exact H)
 have hji5_ : (if a1_3 < a0_3 then a1_3 else a0_3) = ji5 := hji5
 obtain ⟨ji6, hji6⟩ : ∃ j_ : Int, (mn a0_4 a1_4) = j_ := ⟨_, rfl⟩
 replace H : (some (a0_0, ji3, ji4, ji5, ji6)) = some (r1, r2, r3, r4, r5) := by first | (rw [hji6] at H; exact H) | (simp only [hji6] at H ⊢; exact H)
 have hji6_ : (if a1_4 < a0_4 then a1_4 else a0_4) = ji6 := hji6
 simp only [Option.some.injEq, Prod.mk.injEq] at H
 obtain ⟨rfl, rfl, rfl, rfl, rfl⟩ := H
 go_enter Try.func48, Try.ntmps48
 go_wp2_with (first | ((with_reducible refine gate_dst (N := 2) rfl ?_); refine box_event ?hg (N := 2) ?hd (cs := #[.int .i64 a0_0, .int .i64 a0_1, .int .i64 a0_2, .int .i64 a0_3, .int .i64 a0_4]) (t := 24) ?hr ?_; (case hd => rfl); (case hg => rfl); (case hr => first | (go_simp; done) | (go_simp; rfl)); intro gb205 hg w7 hbox hb; have BK205 := mk_ (hbox); have GW205 := mk_ ((by rw [hg]; exact (zr2 (by repeat (first | (with_reducible first | exact HB.out | apply zq7 | apply zq8 | apply zq9) | exact HB.out))) : w.heap.size ≤ gb205)); have GE205 := GW205; replace HB := mk_ (zr3 (by repeat (first | (with_reducible first | exact HB.out | apply zq7 | apply zq8 | apply zq9) | exact HB.out)) hb); clear hb hbox hg) | ((with_reducible refine gate_dst (N := 3) rfl ?_); refine box_event ?hg (N := 3) ?hd (cs := #[.int .i64 a1_0, .int .i64 a1_1, .int .i64 a1_2, .int .i64 a1_3, .int .i64 a1_4]) (t := 24) ?hr ?_; (case hd => rfl); (case hg => rfl); (case hr => first | (go_simp; done) | (go_simp; rfl)); intro gb206 hg w8 hbox hb; have BK206 := mk_ (hbox); have GW206 := mk_ ((by rw [hg]; exact (zr2 (by repeat (first | (with_reducible first | exact HB.out | apply zq7 | apply zq8 | apply zq9 | refine zr1 ?_ GE205.out) | exact HB.out))) : w.heap.size ≤ gb206)); have GE206 := GW206; replace HB := mk_ (zr3 (by repeat (first | (with_reducible first | exact HB.out | apply zq7 | apply zq8 | apply zq9 | refine zr1 ?_ GE205.out) | exact HB.out)) hb); have NB205_206 := mk_ ((by rw [hg]; exact zm2 (zr6 (by exact BK205.out)) : gb205 ≠ gb206)); replace BK205 := mk_ (zq6 (by exact BK205.out) hb); have NB206_205 := mk_ NB205_206.out.symm; clear hb hbox hg) | ((with_reducible refine gate_dst (N := 4) rfl ?_); refine box_event ?hg (N := 4) ?hd (cs := #[.int .i64 0, .int .i64 0, .int .i64 0, .int .i64 0, .int .i64 0]) (t := 24) ?hr ?_; (case hd => rfl); (case hg => rfl); (case hr => first | (go_simp; done) | (go_simp; rfl)); intro gb207 hg w9 hbox hb; have BK207 := mk_ (hbox); have GW207 := mk_ ((by rw [hg]; exact (zr2 (by repeat (first | (with_reducible first | exact HB.out | apply zq7 | apply zq8 | apply zq9 | refine zr1 ?_ GE205.out | refine zr1 ?_ GE206.out) | exact HB.out))) : w.heap.size ≤ gb207)); have GE207 := GW207; replace HB := mk_ (zr3 (by repeat (first | (with_reducible first | exact HB.out | apply zq7 | apply zq8 | apply zq9 | refine zr1 ?_ GE205.out | refine zr1 ?_ GE206.out) | exact HB.out)) hb); have NB205_207 := mk_ ((by rw [hg]; exact zm2 (zr6 (by exact BK205.out)) : gb205 ≠ gb207)); replace BK205 := mk_ (zq6 (by exact BK205.out) hb); have NB207_205 := mk_ NB205_207.out.symm; have NB206_207 := mk_ ((by rw [hg]; exact zm2 (zr6 (by exact BK206.out)) : gb206 ≠ gb207)); replace BK206 := mk_ (zq6 (by exact BK206.out) hb); have NB207_206 := mk_ NB206_207.out.symm; clear hb hbox hg; have hnb10 := NB205_206.out; have hnc10 := NB206_205.out; have hnb11 := NB205_207.out; have hnc11 := NB207_205.out; obtain ⟨hcz12_0, hcz12_1, hcz12_2, hcz12_3, hcz12_4⟩ := cz5 BK205.out; obtain ⟨hfz12_0, hfz12_1, hfz12_2, hfz12_3, hfz12_4⟩ := fz5 BK205.out; have hnb13 := NB206_207.out; have hnc13 := NB207_206.out; obtain ⟨hcz14_0, hcz14_1, hcz14_2, hcz14_3, hcz14_4⟩ := cz5 BK206.out; obtain ⟨hfz14_0, hfz14_1, hfz14_2, hfz14_3, hfz14_4⟩ := fz5 BK206.out; obtain ⟨hcz15_0, hcz15_1, hcz15_2, hcz15_3, hcz15_4⟩ := cz5 BK207.out; obtain ⟨hfz15_0, hfz15_1, hfz15_2, hfz15_3, hfz15_4⟩ := fz5 BK207.out))
 refine bodyPost_ret (results_cell_row rfl _ _ gb207 24 #[.int .i64 a0_0, .int .i64 ji3, .int .i64 ji4, .int .i64 ji5, .int .i64 ji6] (0, 0) _ rfl (by (with_reducible repeat (first | refine zq1 ?_ _ | refine zq2 ?_ | refine zq3 ?_ _)); apply pu5; (with_reducible repeat (first | refine zq1 ?_ _ | refine zq2 ?_ | refine zq3 ?_ _)); exact BK207.out) Try.underlying24 rfl (by kernel_rfl)) rfl ?_
 exact ⟨by first | rfl | (simp [errW_none, errW_some] <;> rfl) | (simp only [← hji3, ← hji4, ← hji5, ← hji6]; first | rfl | (simp [errW_none, errW_some] <;> rfl)) | (simp [*, errW_none, errW_some] <;> rfl), by repeat (first | (with_reducible first | exact HB.out | apply zq7 | apply zq8 | apply zq9 | refine zr1 ?_ GE205.out | refine zr1 ?_ GE206.out | refine zr1 ?_ GE207.out) | exact HB.out)⟩

/-! ### spec_CfgMeet: function 15 -/
def spec_CfgMeet.f (a0_0 : Int) (a0_1 : Int) (a0_2 : Int) (a0_3 : Int) (a0_4 : Int) (a1_0 : Int) (a1_1 : Int) (a1_2 : Int) (a1_3 : Int) (a1_4 : Int) : Option (Int × Int × Int × Int × Int × Bool) := (spec_CfgOk.f a0_0 a0_1 a0_2 a0_3 a0_4).bind fun t211 => (if t211 = true then ((spec_CfgOk.f a1_0 a1_1 a1_2 a1_3 a1_4).bind fun t212 => (if t212 = true then (if a0_0 = a1_0 then ((spec_l5Least.f a0_0 a0_1 a0_2 a0_3 a0_4 a1_0 a1_1 a1_2 a1_3 a1_4).bind fun bt213 => (some (bt213.1, bt213.2.1, bt213.2.2.1, bt213.2.2.2.1, bt213.2.2.2.2, true))) else (some (0, 0, 0, 0, 0, false))) else (some (0, 0, 0, 0, 0, false)))) else (some (0, 0, 0, 0, 0, false)))
set_option maxHeartbeats 8000000 in
set_option maxRecDepth 100000 in
theorem spec_CfgMeet.calls (a0_0 : Int) (a0_1 : Int) (a0_2 : Int) (a0_3 : Int) (a0_4 : Int) (a1_0 : Int) (a1_1 : Int) (a1_2 : Int) (a1_3 : Int) (a1_4 : Int) (r1 : Int) (r2 : Int) (r3 : Int) (r4 : Int) (r5 : Int) (r6 : Bool) (w : World) (h : spec_CfgMeet.f a0_0 a0_1 a0_2 a0_3 a0_4 a1_0 a1_1 a1_2 a1_3 a1_4 = some (r1, r2, r3, r4, r5, r6)) :
    Calls Try.prog 15 #[.agg #[.int .i64 a0_0, .int .i64 a0_1, .int .i64 a0_2, .int .i64 a0_3, .int .i64 a0_4], .agg #[.int .i64 a1_0, .int .i64 a1_1, .int .i64 a1_2, .int .i64 a1_3, .int .i64 a1_4]] w fun e w' => e = .returned (.tuple #[.agg #[.int .i64 r1, .int .i64 r2, .int .i64 r3, .int .i64 r4, .int .i64 r5], .bool r6]) ∧ Below w.heap.size w w' := by
 have hu24 := Try.underlying24
 have HB := mk_ (Below.refl w.heap.size w)
 have H : ((spec_CfgOk.f a0_0 a0_1 a0_2 a0_3 a0_4).bind fun t211 => (if t211 = true then ((spec_CfgOk.f a1_0 a1_1 a1_2 a1_3 a1_4).bind fun t212 => (if t212 = true then (if a0_0 = a1_0 then ((spec_l5Least.f a0_0 a0_1 a0_2 a0_3 a0_4 a1_0 a1_1 a1_2 a1_3 a1_4).bind fun bt213 => (some (bt213.1, bt213.2.1, bt213.2.2.1, bt213.2.2.2.1, bt213.2.2.2.2, true))) else (some (0, 0, 0, 0, 0, false))) else (some (0, 0, 0, 0, 0, false)))) else (some (0, 0, 0, 0, 0, false)))) = some (r1, r2, r3, r4, r5, r6) := h
 clear h
 replace H := Option.bind_eq_some_iff.mp H
 obtain ⟨t211, A30, H⟩ := H
 try dsimp only at H
 have A3 := mk_ A30
 clear A30
 by_cases c4 : t211 = true
 rotate_left
 · replace c4 := Bool.eq_false_iff.mpr c4
   subst c4
   have H1 : (some (0, 0, 0, 0, 0, false)) = some (r1, r2, r3, r4, r5, r6) := by rw [if_neg (show ¬ (false = true) by decide)] at H; exact H
   clear H
   have H := H1
   clear H1
   simp only [Option.some.injEq, Prod.mk.injEq] at H
   obtain ⟨rfl, rfl, rfl, rfl, rfl, rfl⟩ := H
   go_enter Try.func15, Try.ntmps15
   go_wp2_with (first | ((with_reducible refine gate_dst (N := 2) rfl ?_); refine box_event ?hg (N := 2) ?hd (cs := #[.int .i64 a0_0, .int .i64 a0_1, .int .i64 a0_2, .int .i64 a0_3, .int .i64 a0_4]) (t := 24) ?hr ?_; (case hd => rfl); (case hg => rfl); (case hr => first | (go_simp; done) | (go_simp; rfl)); intro gb208 hg w47 hbox hb; have BK208 := mk_ (hbox); have GW208 := mk_ ((by rw [hg]; exact (zr2 (by repeat (first | (with_reducible first | exact HB.out | apply zq7 | apply zq8 | apply zq9) | exact HB.out))) : w.heap.size ≤ gb208)); have GE208 := GW208; replace HB := mk_ (zr3 (by repeat (first | (with_reducible first | exact HB.out | apply zq7 | apply zq8 | apply zq9) | exact HB.out)) hb); clear hb hbox hg) | ((with_reducible refine gate_dst (N := 3) rfl ?_); refine box_event ?hg (N := 3) ?hd (cs := #[.int .i64 a1_0, .int .i64 a1_1, .int .i64 a1_2, .int .i64 a1_3, .int .i64 a1_4]) (t := 24) ?hr ?_; (case hd => rfl); (case hg => rfl); (case hr => first | (go_simp; done) | (go_simp; rfl)); intro gb209 hg w48 hbox hb; have BK209 := mk_ (hbox); have GW209 := mk_ ((by rw [hg]; exact (zr2 (by repeat (first | (with_reducible first | exact HB.out | apply zq7 | apply zq8 | apply zq9 | refine zr1 ?_ GE208.out) | exact HB.out))) : w.heap.size ≤ gb209)); have GE209 := GW209; replace HB := mk_ (zr3 (by repeat (first | (with_reducible first | exact HB.out | apply zq7 | apply zq8 | apply zq9 | refine zr1 ?_ GE208.out) | exact HB.out)) hb); have NB208_209 := mk_ ((by rw [hg]; exact zm2 (zr6 (by exact BK208.out)) : gb208 ≠ gb209)); replace BK208 := mk_ (zq6 (by exact BK208.out) hb); have NB209_208 := mk_ NB208_209.out.symm; clear hb hbox hg) | ((with_reducible refine gate_dst (N := 4) rfl ?_); refine box_event ?hg (N := 4) ?hd (cs := #[.int .i64 0, .int .i64 0, .int .i64 0, .int .i64 0, .int .i64 0]) (t := 24) ?hr ?_; (case hd => rfl); (case hg => rfl); (case hr => first | (go_simp; done) | (go_simp; rfl)); intro gb210 hg w49 hbox hb; have BK210 := mk_ (hbox); have GW210 := mk_ ((by rw [hg]; exact (zr2 (by repeat (first | (with_reducible first | exact HB.out | apply zq7 | apply zq8 | apply zq9 | refine zr1 ?_ GE208.out | refine zr1 ?_ GE209.out) | exact HB.out))) : w.heap.size ≤ gb210)); have GE210 := GW210; replace HB := mk_ (zr3 (by repeat (first | (with_reducible first | exact HB.out | apply zq7 | apply zq8 | apply zq9 | refine zr1 ?_ GE208.out | refine zr1 ?_ GE209.out) | exact HB.out)) hb); have NB208_210 := mk_ ((by rw [hg]; exact zm2 (zr6 (by exact BK208.out)) : gb208 ≠ gb210)); replace BK208 := mk_ (zq6 (by exact BK208.out) hb); have NB210_208 := mk_ NB208_210.out.symm; have NB209_210 := mk_ ((by rw [hg]; exact zm2 (zr6 (by exact BK209.out)) : gb209 ≠ gb210)); replace BK209 := mk_ (zq6 (by exact BK209.out) hb); have NB210_209 := mk_ NB209_210.out.symm; clear hb hbox hg; have hnb50 := NB208_209.out; have hnc50 := NB209_208.out; have hnb51 := NB208_210.out; have hnc51 := NB210_208.out; obtain ⟨hcz52_0, hcz52_1, hcz52_2, hcz52_3, hcz52_4⟩ := cz5 BK208.out; obtain ⟨hfz52_0, hfz52_1, hfz52_2, hfz52_3, hfz52_4⟩ := fz5 BK208.out) | ((with_reducible refine gate_callee (f := 41) rfl ?_); refine goesL_ (some 7) rfl rfl Try.func41 (by kernel_rfl) rfl #[.agg #[.int .i64 a0_0, .int .i64 a0_1, .int .i64 a0_2, .int .i64 a0_3, .int .i64 a0_4]] rfl (by (try simp only [List.map_toArray, List.map_cons, List.map_nil]); first | done | rfl | (simp only [List.length_drop, List.length_take]; rfl)) ?_; (with_reducible refine (spec_CfgOk.calls a0_0 a0_1 a0_2 a0_3 a0_4 false _ A3.out).mono ?_); rintro e w53 ⟨rfl, hb⟩; refine ⟨_, rfl, ?_⟩; replace BK208 := mk_ (zq6 (by exact BK208.out) hb); replace BK209 := mk_ (zq6 (by exact BK209.out) hb); replace BK210 := mk_ (zq6 (by exact BK210.out) hb); replace HB := mk_ (zr3 (by repeat (first | (with_reducible first | exact HB.out | apply zq7 | apply zq8 | apply zq9 | refine zr1 ?_ GE208.out | refine zr1 ?_ GE209.out | refine zr1 ?_ GE210.out) | exact HB.out)) hb); (try clear hb); (try clear hb2); (try clear hk); (try clear hi); have hnb54 := NB210_209.out; have hnc54 := NB209_210.out; obtain ⟨hcz55_0, hcz55_1, hcz55_2, hcz55_3, hcz55_4⟩ := cz5 BK210.out; obtain ⟨hfz55_0, hfz55_1, hfz55_2, hfz55_3, hfz55_4⟩ := fz5 BK210.out))
   refine bodyPost_ret (results_ct rfl _ _ gb210 24 #[.int .i64 0, .int .i64 0, .int .i64 0, .int .i64 0, .int .i64 0] (0, 0) _ rfl (by (with_reducible repeat (first | refine zq1 ?_ _ | refine zq2 ?_ | refine zq3 ?_ _)); apply pu5; (with_reducible repeat (first | refine zq1 ?_ _ | refine zq2 ?_ | refine zq3 ?_ _)); exact BK210.out) Try.underlying24 rfl (by kernel_rfl)) rfl ?_
   exact ⟨by first | rfl | (simp [errW_none, errW_some] <;> rfl) | (simp [*, errW_none, errW_some] <;> rfl), by repeat (first | (with_reducible first | exact HB.out | apply zq7 | apply zq8 | apply zq9 | refine zr1 ?_ GE208.out | refine zr1 ?_ GE209.out | refine zr1 ?_ GE210.out) | exact HB.out)⟩
 subst c4
 have H1 : ((spec_CfgOk.f a1_0 a1_1 a1_2 a1_3 a1_4).bind fun t212 => (if t212 = true then (if a0_0 = a1_0 then ((spec_l5Least.f a0_0 a0_1 a0_2 a0_3 a0_4 a1_0 a1_1 a1_2 a1_3 a1_4).bind fun bt213 => (some (bt213.1, bt213.2.1, bt213.2.2.1, bt213.2.2.2.1, bt213.2.2.2.2, true))) else (some (0, 0, 0, 0, 0, false))) else (some (0, 0, 0, 0, 0, false)))) = some (r1, r2, r3, r4, r5, r6) := by rw [if_pos rfl] at H; exact H
 clear H
 have H := H1
 clear H1
 replace H := Option.bind_eq_some_iff.mp H
 obtain ⟨t212, A50, H⟩ := H
 try dsimp only at H
 have A5 := mk_ A50
 clear A50
 by_cases c6 : t212 = true
 rotate_left
 · replace c6 := Bool.eq_false_iff.mpr c6
   subst c6
   have H1 : (some (0, 0, 0, 0, 0, false)) = some (r1, r2, r3, r4, r5, r6) := by rw [if_neg (show ¬ (false = true) by decide)] at H; exact H
   clear H
   have H := H1
   clear H1
   simp only [Option.some.injEq, Prod.mk.injEq] at H
   obtain ⟨rfl, rfl, rfl, rfl, rfl, rfl⟩ := H
   go_enter Try.func15, Try.ntmps15
   go_wp2_with (first | ((with_reducible refine gate_dst (N := 2) rfl ?_); refine box_event ?hg (N := 2) ?hd (cs := #[.int .i64 a0_0, .int .i64 a0_1, .int .i64 a0_2, .int .i64 a0_3, .int .i64 a0_4]) (t := 24) ?hr ?_; (case hd => rfl); (case hg => rfl); (case hr => first | (go_simp; done) | (go_simp; rfl)); intro gb208 hg w36 hbox hb; have BK208 := mk_ (hbox); have GW208 := mk_ ((by rw [hg]; exact (zr2 (by repeat (first | (with_reducible first | exact HB.out | apply zq7 | apply zq8 | apply zq9) | exact HB.out))) : w.heap.size ≤ gb208)); have GE208 := GW208; replace HB := mk_ (zr3 (by repeat (first | (with_reducible first | exact HB.out | apply zq7 | apply zq8 | apply zq9) | exact HB.out)) hb); clear hb hbox hg) | ((with_reducible refine gate_dst (N := 3) rfl ?_); refine box_event ?hg (N := 3) ?hd (cs := #[.int .i64 a1_0, .int .i64 a1_1, .int .i64 a1_2, .int .i64 a1_3, .int .i64 a1_4]) (t := 24) ?hr ?_; (case hd => rfl); (case hg => rfl); (case hr => first | (go_simp; done) | (go_simp; rfl)); intro gb209 hg w37 hbox hb; have BK209 := mk_ (hbox); have GW209 := mk_ ((by rw [hg]; exact (zr2 (by repeat (first | (with_reducible first | exact HB.out | apply zq7 | apply zq8 | apply zq9 | refine zr1 ?_ GE208.out) | exact HB.out))) : w.heap.size ≤ gb209)); have GE209 := GW209; replace HB := mk_ (zr3 (by repeat (first | (with_reducible first | exact HB.out | apply zq7 | apply zq8 | apply zq9 | refine zr1 ?_ GE208.out) | exact HB.out)) hb); have NB208_209 := mk_ ((by rw [hg]; exact zm2 (zr6 (by exact BK208.out)) : gb208 ≠ gb209)); replace BK208 := mk_ (zq6 (by exact BK208.out) hb); have NB209_208 := mk_ NB208_209.out.symm; clear hb hbox hg) | ((with_reducible refine gate_dst (N := 4) rfl ?_); refine box_event ?hg (N := 4) ?hd (cs := #[.int .i64 0, .int .i64 0, .int .i64 0, .int .i64 0, .int .i64 0]) (t := 24) ?hr ?_; (case hd => rfl); (case hg => rfl); (case hr => first | (go_simp; done) | (go_simp; rfl)); intro gb210 hg w38 hbox hb; have BK210 := mk_ (hbox); have GW210 := mk_ ((by rw [hg]; exact (zr2 (by repeat (first | (with_reducible first | exact HB.out | apply zq7 | apply zq8 | apply zq9 | refine zr1 ?_ GE208.out | refine zr1 ?_ GE209.out) | exact HB.out))) : w.heap.size ≤ gb210)); have GE210 := GW210; replace HB := mk_ (zr3 (by repeat (first | (with_reducible first | exact HB.out | apply zq7 | apply zq8 | apply zq9 | refine zr1 ?_ GE208.out | refine zr1 ?_ GE209.out) | exact HB.out)) hb); have NB208_210 := mk_ ((by rw [hg]; exact zm2 (zr6 (by exact BK208.out)) : gb208 ≠ gb210)); replace BK208 := mk_ (zq6 (by exact BK208.out) hb); have NB210_208 := mk_ NB208_210.out.symm; have NB209_210 := mk_ ((by rw [hg]; exact zm2 (zr6 (by exact BK209.out)) : gb209 ≠ gb210)); replace BK209 := mk_ (zq6 (by exact BK209.out) hb); have NB210_209 := mk_ NB209_210.out.symm; clear hb hbox hg; have hnb39 := NB208_209.out; have hnc39 := NB209_208.out; have hnb40 := NB208_210.out; have hnc40 := NB210_208.out; obtain ⟨hcz41_0, hcz41_1, hcz41_2, hcz41_3, hcz41_4⟩ := cz5 BK208.out; obtain ⟨hfz41_0, hfz41_1, hfz41_2, hfz41_3, hfz41_4⟩ := fz5 BK208.out) | ((with_reducible refine gate_callee (f := 41) rfl ?_); refine goesL_ (some 7) rfl rfl Try.func41 (by kernel_rfl) rfl #[.agg #[.int .i64 a0_0, .int .i64 a0_1, .int .i64 a0_2, .int .i64 a0_3, .int .i64 a0_4]] rfl (by (try simp only [List.map_toArray, List.map_cons, List.map_nil]); first | done | rfl | (simp only [List.length_drop, List.length_take]; rfl)) ?_; (with_reducible refine (spec_CfgOk.calls a0_0 a0_1 a0_2 a0_3 a0_4 true _ A3.out).mono ?_); rintro e w42 ⟨rfl, hb⟩; refine ⟨_, rfl, ?_⟩; replace BK208 := mk_ (zq6 (by exact BK208.out) hb); replace BK209 := mk_ (zq6 (by exact BK209.out) hb); replace BK210 := mk_ (zq6 (by exact BK210.out) hb); replace HB := mk_ (zr3 (by repeat (first | (with_reducible first | exact HB.out | apply zq7 | apply zq8 | apply zq9 | refine zr1 ?_ GE208.out | refine zr1 ?_ GE209.out | refine zr1 ?_ GE210.out) | exact HB.out)) hb); (try clear hb); (try clear hb2); (try clear hk); (try clear hi); have hnb43 := NB209_210.out; have hnc43 := NB210_209.out; obtain ⟨hcz44_0, hcz44_1, hcz44_2, hcz44_3, hcz44_4⟩ := cz5 BK209.out; obtain ⟨hfz44_0, hfz44_1, hfz44_2, hfz44_3, hfz44_4⟩ := fz5 BK209.out) | (go_at_call 41; (with_reducible refine (spec_CfgOk.calls a1_0 a1_1 a1_2 a1_3 a1_4 false _ A5.out).mono ?_); rintro e w45 ⟨rfl, hb⟩; replace BK208 := mk_ (zq6 (by exact BK208.out) hb); replace BK209 := mk_ (zq6 (by exact BK209.out) hb); replace BK210 := mk_ (zq6 (by exact BK210.out) hb); replace HB := mk_ (zr3 (by repeat (first | (with_reducible first | exact HB.out | apply zq7 | apply zq8 | apply zq9 | refine zr1 ?_ GE208.out | refine zr1 ?_ GE209.out | refine zr1 ?_ GE210.out) | exact HB.out)) hb); (try clear hb); (try clear hb2); (try clear hk); (try clear hi); obtain ⟨hcz46_0, hcz46_1, hcz46_2, hcz46_3, hcz46_4⟩ := cz5 BK210.out; obtain ⟨hfz46_0, hfz46_1, hfz46_2, hfz46_3, hfz46_4⟩ := fz5 BK210.out))
   refine bodyPost_ret (results_ct rfl _ _ gb210 24 #[.int .i64 0, .int .i64 0, .int .i64 0, .int .i64 0, .int .i64 0] (0, 0) _ rfl (by (with_reducible repeat (first | refine zq1 ?_ _ | refine zq2 ?_ | refine zq3 ?_ _)); apply pu5; (with_reducible repeat (first | refine zq1 ?_ _ | refine zq2 ?_ | refine zq3 ?_ _)); exact BK210.out) Try.underlying24 rfl (by kernel_rfl)) rfl ?_
   exact ⟨by first | rfl | (simp [errW_none, errW_some] <;> rfl) | (simp [*, errW_none, errW_some] <;> rfl), by repeat (first | (with_reducible first | exact HB.out | apply zq7 | apply zq8 | apply zq9 | refine zr1 ?_ GE208.out | refine zr1 ?_ GE209.out | refine zr1 ?_ GE210.out) | exact HB.out)⟩
 subst c6
 have H1 : (if a0_0 = a1_0 then ((spec_l5Least.f a0_0 a0_1 a0_2 a0_3 a0_4 a1_0 a1_1 a1_2 a1_3 a1_4).bind fun bt213 => (some (bt213.1, bt213.2.1, bt213.2.2.1, bt213.2.2.2.1, bt213.2.2.2.2, true))) else (some (0, 0, 0, 0, 0, false))) = some (r1, r2, r3, r4, r5, r6) := by rw [if_pos rfl] at H; exact H
 clear H
 have H := H1
 clear H1
 by_cases c7 : a0_0 = a1_0
 rotate_left
 · rw [if_neg c7] at H
   have c7b0 : (a0_0 == a1_0) = false := beq_eq_false_iff_ne.mpr c7
   have c7b1 : (a0_0 != a1_0) = true := bne_iff_ne.mpr c7
   simp only [Option.some.injEq, Prod.mk.injEq] at H
   obtain ⟨rfl, rfl, rfl, rfl, rfl, rfl⟩ := H
   go_enter Try.func15, Try.ntmps15
   go_wp2_with (first | ((with_reducible refine gate_dst (N := 2) rfl ?_); refine box_event ?hg (N := 2) ?hd (cs := #[.int .i64 a0_0, .int .i64 a0_1, .int .i64 a0_2, .int .i64 a0_3, .int .i64 a0_4]) (t := 24) ?hr ?_; (case hd => rfl); (case hg => rfl); (case hr => first | (go_simp; done) | (go_simp; rfl)); intro gb208 hg w23 hbox hb; have BK208 := mk_ (hbox); have GW208 := mk_ ((by rw [hg]; exact (zr2 (by repeat (first | (with_reducible first | exact HB.out | apply zq7 | apply zq8 | apply zq9) | exact HB.out))) : w.heap.size ≤ gb208)); have GE208 := GW208; replace HB := mk_ (zr3 (by repeat (first | (with_reducible first | exact HB.out | apply zq7 | apply zq8 | apply zq9) | exact HB.out)) hb); clear hb hbox hg) | ((with_reducible refine gate_dst (N := 3) rfl ?_); refine box_event ?hg (N := 3) ?hd (cs := #[.int .i64 a1_0, .int .i64 a1_1, .int .i64 a1_2, .int .i64 a1_3, .int .i64 a1_4]) (t := 24) ?hr ?_; (case hd => rfl); (case hg => rfl); (case hr => first | (go_simp; done) | (go_simp; rfl)); intro gb209 hg w24 hbox hb; have BK209 := mk_ (hbox); have GW209 := mk_ ((by rw [hg]; exact (zr2 (by repeat (first | (with_reducible first | exact HB.out | apply zq7 | apply zq8 | apply zq9 | refine zr1 ?_ GE208.out) | exact HB.out))) : w.heap.size ≤ gb209)); have GE209 := GW209; replace HB := mk_ (zr3 (by repeat (first | (with_reducible first | exact HB.out | apply zq7 | apply zq8 | apply zq9 | refine zr1 ?_ GE208.out) | exact HB.out)) hb); have NB208_209 := mk_ ((by rw [hg]; exact zm2 (zr6 (by exact BK208.out)) : gb208 ≠ gb209)); replace BK208 := mk_ (zq6 (by exact BK208.out) hb); have NB209_208 := mk_ NB208_209.out.symm; clear hb hbox hg) | ((with_reducible refine gate_dst (N := 4) rfl ?_); refine box_event ?hg (N := 4) ?hd (cs := #[.int .i64 0, .int .i64 0, .int .i64 0, .int .i64 0, .int .i64 0]) (t := 24) ?hr ?_; (case hd => rfl); (case hg => rfl); (case hr => first | (go_simp; done) | (go_simp; rfl)); intro gb210 hg w25 hbox hb; have BK210 := mk_ (hbox); have GW210 := mk_ ((by rw [hg]; exact (zr2 (by repeat (first | (with_reducible first | exact HB.out | apply zq7 | apply zq8 | apply zq9 | refine zr1 ?_ GE208.out | refine zr1 ?_ GE209.out) | exact HB.out))) : w.heap.size ≤ gb210)); have GE210 := GW210; replace HB := mk_ (zr3 (by repeat (first | (with_reducible first | exact HB.out | apply zq7 | apply zq8 | apply zq9 | refine zr1 ?_ GE208.out | refine zr1 ?_ GE209.out) | exact HB.out)) hb); have NB208_210 := mk_ ((by rw [hg]; exact zm2 (zr6 (by exact BK208.out)) : gb208 ≠ gb210)); replace BK208 := mk_ (zq6 (by exact BK208.out) hb); have NB210_208 := mk_ NB208_210.out.symm; have NB209_210 := mk_ ((by rw [hg]; exact zm2 (zr6 (by exact BK209.out)) : gb209 ≠ gb210)); replace BK209 := mk_ (zq6 (by exact BK209.out) hb); have NB210_209 := mk_ NB209_210.out.symm; clear hb hbox hg; have hnb26 := NB208_209.out; have hnc26 := NB209_208.out; have hnb27 := NB208_210.out; have hnc27 := NB210_208.out; obtain ⟨hcz28_0, hcz28_1, hcz28_2, hcz28_3, hcz28_4⟩ := cz5 BK208.out; obtain ⟨hfz28_0, hfz28_1, hfz28_2, hfz28_3, hfz28_4⟩ := fz5 BK208.out) | ((with_reducible refine gate_callee (f := 41) rfl ?_); refine goesL_ (some 7) rfl rfl Try.func41 (by kernel_rfl) rfl #[.agg #[.int .i64 a0_0, .int .i64 a0_1, .int .i64 a0_2, .int .i64 a0_3, .int .i64 a0_4]] rfl (by (try simp only [List.map_toArray, List.map_cons, List.map_nil]); first | done | rfl | (simp only [List.length_drop, List.length_take]; rfl)) ?_; (with_reducible refine (spec_CfgOk.calls a0_0 a0_1 a0_2 a0_3 a0_4 true _ A3.out).mono ?_); rintro e w29 ⟨rfl, hb⟩; refine ⟨_, rfl, ?_⟩; replace BK208 := mk_ (zq6 (by exact BK208.out) hb); replace BK209 := mk_ (zq6 (by exact BK209.out) hb); replace BK210 := mk_ (zq6 (by exact BK210.out) hb); replace HB := mk_ (zr3 (by repeat (first | (with_reducible first | exact HB.out | apply zq7 | apply zq8 | apply zq9 | refine zr1 ?_ GE208.out | refine zr1 ?_ GE209.out | refine zr1 ?_ GE210.out) | exact HB.out)) hb); (try clear hb); (try clear hb2); (try clear hk); (try clear hi); have hnb30 := NB209_210.out; have hnc30 := NB210_209.out; obtain ⟨hcz31_0, hcz31_1, hcz31_2, hcz31_3, hcz31_4⟩ := cz5 BK209.out; obtain ⟨hfz31_0, hfz31_1, hfz31_2, hfz31_3, hfz31_4⟩ := fz5 BK209.out) | (go_at_call 41; (with_reducible refine (spec_CfgOk.calls a1_0 a1_1 a1_2 a1_3 a1_4 true _ A5.out).mono ?_); rintro e w32 ⟨rfl, hb⟩; replace BK208 := mk_ (zq6 (by exact BK208.out) hb); replace BK209 := mk_ (zq6 (by exact BK209.out) hb); replace BK210 := mk_ (zq6 (by exact BK210.out) hb); replace HB := mk_ (zr3 (by repeat (first | (with_reducible first | exact HB.out | apply zq7 | apply zq8 | apply zq9 | refine zr1 ?_ GE208.out | refine zr1 ?_ GE209.out | refine zr1 ?_ GE210.out) | exact HB.out)) hb); (try clear hb); (try clear hb2); (try clear hk); (try clear hi); obtain ⟨hcz33_0, hcz33_1, hcz33_2, hcz33_3, hcz33_4⟩ := cz5 BK208.out; obtain ⟨hfz33_0, hfz33_1, hfz33_2, hfz33_3, hfz33_4⟩ := fz5 BK208.out; obtain ⟨hcz34_0, hcz34_1, hcz34_2, hcz34_3, hcz34_4⟩ := cz5 BK209.out; obtain ⟨hfz34_0, hfz34_1, hfz34_2, hfz34_3, hfz34_4⟩ := fz5 BK209.out; obtain ⟨hcz35_0, hcz35_1, hcz35_2, hcz35_3, hcz35_4⟩ := cz5 BK210.out; obtain ⟨hfz35_0, hfz35_1, hfz35_2, hfz35_3, hfz35_4⟩ := fz5 BK210.out))
   refine bodyPost_ret (results_ct rfl _ _ gb210 24 #[.int .i64 0, .int .i64 0, .int .i64 0, .int .i64 0, .int .i64 0] (0, 0) _ rfl (by (with_reducible repeat (first | refine zq1 ?_ _ | refine zq2 ?_ | refine zq3 ?_ _)); apply pu5; (with_reducible repeat (first | refine zq1 ?_ _ | refine zq2 ?_ | refine zq3 ?_ _)); exact BK210.out) Try.underlying24 rfl (by kernel_rfl)) rfl ?_
   exact ⟨by first | rfl | (simp [errW_none, errW_some] <;> rfl) | (simp [*, errW_none, errW_some] <;> rfl), by repeat (first | (with_reducible first | exact HB.out | apply zq7 | apply zq8 | apply zq9 | refine zr1 ?_ GE208.out | refine zr1 ?_ GE209.out | refine zr1 ?_ GE210.out) | exact HB.out)⟩
 rw [if_pos c7] at H
 have c7b0 : (a0_0 == a1_0) = true := beq_iff_eq.mpr c7
 have c7b1 : (a0_0 != a1_0) = false := bne_eq_false_iff_eq.mpr c7
 clear c7
 replace H := Option.bind_eq_some_iff.mp H
 obtain ⟨⟨t213, t214, t215, t216, t217⟩, A80, H⟩ := H
 try dsimp only at H
 have A8 := mk_ A80
 clear A80
 simp only [Option.some.injEq, Prod.mk.injEq] at H
 obtain ⟨rfl, rfl, rfl, rfl, rfl, rfl⟩ := H
 go_enter Try.func15, Try.ntmps15
 go_wp2_with (first | ((with_reducible refine gate_dst (N := 2) rfl ?_); refine box_event ?hg (N := 2) ?hd (cs := #[.int .i64 a0_0, .int .i64 a0_1, .int .i64 a0_2, .int .i64 a0_3, .int .i64 a0_4]) (t := 24) ?hr ?_; (case hd => rfl); (case hg => rfl); (case hr => first | (go_simp; done) | (go_simp; rfl)); intro gb208 hg w9 hbox hb; have BK208 := mk_ (hbox); have GW208 := mk_ ((by rw [hg]; exact (zr2 (by repeat (first | (with_reducible first | exact HB.out | apply zq7 | apply zq8 | apply zq9) | exact HB.out))) : w.heap.size ≤ gb208)); have GE208 := GW208; replace HB := mk_ (zr3 (by repeat (first | (with_reducible first | exact HB.out | apply zq7 | apply zq8 | apply zq9) | exact HB.out)) hb); clear hb hbox hg) | ((with_reducible refine gate_dst (N := 3) rfl ?_); refine box_event ?hg (N := 3) ?hd (cs := #[.int .i64 a1_0, .int .i64 a1_1, .int .i64 a1_2, .int .i64 a1_3, .int .i64 a1_4]) (t := 24) ?hr ?_; (case hd => rfl); (case hg => rfl); (case hr => first | (go_simp; done) | (go_simp; rfl)); intro gb209 hg w10 hbox hb; have BK209 := mk_ (hbox); have GW209 := mk_ ((by rw [hg]; exact (zr2 (by repeat (first | (with_reducible first | exact HB.out | apply zq7 | apply zq8 | apply zq9 | refine zr1 ?_ GE208.out) | exact HB.out))) : w.heap.size ≤ gb209)); have GE209 := GW209; replace HB := mk_ (zr3 (by repeat (first | (with_reducible first | exact HB.out | apply zq7 | apply zq8 | apply zq9 | refine zr1 ?_ GE208.out) | exact HB.out)) hb); have NB208_209 := mk_ ((by rw [hg]; exact zm2 (zr6 (by exact BK208.out)) : gb208 ≠ gb209)); replace BK208 := mk_ (zq6 (by exact BK208.out) hb); have NB209_208 := mk_ NB208_209.out.symm; clear hb hbox hg) | ((with_reducible refine gate_dst (N := 4) rfl ?_); refine box_event ?hg (N := 4) ?hd (cs := #[.int .i64 0, .int .i64 0, .int .i64 0, .int .i64 0, .int .i64 0]) (t := 24) ?hr ?_; (case hd => rfl); (case hg => rfl); (case hr => first | (go_simp; done) | (go_simp; rfl)); intro gb210 hg w11 hbox hb; have BK210 := mk_ (hbox); have GW210 := mk_ ((by rw [hg]; exact (zr2 (by repeat (first | (with_reducible first | exact HB.out | apply zq7 | apply zq8 | apply zq9 | refine zr1 ?_ GE208.out | refine zr1 ?_ GE209.out) | exact HB.out))) : w.heap.size ≤ gb210)); have GE210 := GW210; replace HB := mk_ (zr3 (by repeat (first | (with_reducible first | exact HB.out | apply zq7 | apply zq8 | apply zq9 | refine zr1 ?_ GE208.out | refine zr1 ?_ GE209.out) | exact HB.out)) hb); have NB208_210 := mk_ ((by rw [hg]; exact zm2 (zr6 (by exact BK208.out)) : gb208 ≠ gb210)); replace BK208 := mk_ (zq6 (by exact BK208.out) hb); have NB210_208 := mk_ NB208_210.out.symm; have NB209_210 := mk_ ((by rw [hg]; exact zm2 (zr6 (by exact BK209.out)) : gb209 ≠ gb210)); replace BK209 := mk_ (zq6 (by exact BK209.out) hb); have NB210_209 := mk_ NB209_210.out.symm; clear hb hbox hg; have hnb12 := NB208_209.out; have hnc12 := NB209_208.out; have hnb13 := NB208_210.out; have hnc13 := NB210_208.out; obtain ⟨hcz14_0, hcz14_1, hcz14_2, hcz14_3, hcz14_4⟩ := cz5 BK208.out; obtain ⟨hfz14_0, hfz14_1, hfz14_2, hfz14_3, hfz14_4⟩ := fz5 BK208.out) | ((with_reducible refine gate_callee (f := 41) rfl ?_); refine goesL_ (some 7) rfl rfl Try.func41 (by kernel_rfl) rfl #[.agg #[.int .i64 a0_0, .int .i64 a0_1, .int .i64 a0_2, .int .i64 a0_3, .int .i64 a0_4]] rfl (by (try simp only [List.map_toArray, List.map_cons, List.map_nil]); first | done | rfl | (simp only [List.length_drop, List.length_take]; rfl)) ?_; (with_reducible refine (spec_CfgOk.calls a0_0 a0_1 a0_2 a0_3 a0_4 true _ A3.out).mono ?_); rintro e w15 ⟨rfl, hb⟩; refine ⟨_, rfl, ?_⟩; replace BK208 := mk_ (zq6 (by exact BK208.out) hb); replace BK209 := mk_ (zq6 (by exact BK209.out) hb); replace BK210 := mk_ (zq6 (by exact BK210.out) hb); replace HB := mk_ (zr3 (by repeat (first | (with_reducible first | exact HB.out | apply zq7 | apply zq8 | apply zq9 | refine zr1 ?_ GE208.out | refine zr1 ?_ GE209.out | refine zr1 ?_ GE210.out) | exact HB.out)) hb); (try clear hb); (try clear hb2); (try clear hk); (try clear hi); have hnb16 := NB209_210.out; have hnc16 := NB210_209.out; obtain ⟨hcz17_0, hcz17_1, hcz17_2, hcz17_3, hcz17_4⟩ := cz5 BK209.out; obtain ⟨hfz17_0, hfz17_1, hfz17_2, hfz17_3, hfz17_4⟩ := fz5 BK209.out) | (go_at_call 41; (with_reducible refine (spec_CfgOk.calls a1_0 a1_1 a1_2 a1_3 a1_4 true _ A5.out).mono ?_); rintro e w18 ⟨rfl, hb⟩; replace BK208 := mk_ (zq6 (by exact BK208.out) hb); replace BK209 := mk_ (zq6 (by exact BK209.out) hb); replace BK210 := mk_ (zq6 (by exact BK210.out) hb); replace HB := mk_ (zr3 (by repeat (first | (with_reducible first | exact HB.out | apply zq7 | apply zq8 | apply zq9 | refine zr1 ?_ GE208.out | refine zr1 ?_ GE209.out | refine zr1 ?_ GE210.out) | exact HB.out)) hb); (try clear hb); (try clear hb2); (try clear hk); (try clear hi); obtain ⟨hcz19_0, hcz19_1, hcz19_2, hcz19_3, hcz19_4⟩ := cz5 BK208.out; obtain ⟨hfz19_0, hfz19_1, hfz19_2, hfz19_3, hfz19_4⟩ := fz5 BK208.out; obtain ⟨hcz20_0, hcz20_1, hcz20_2, hcz20_3, hcz20_4⟩ := cz5 BK209.out; obtain ⟨hfz20_0, hfz20_1, hfz20_2, hfz20_3, hfz20_4⟩ := fz5 BK209.out) | ((with_reducible refine gate_callee (f := 48) rfl ?_); refine goesL_ (some 24) rfl rfl Try.func48 (by kernel_rfl) rfl #[.agg #[.int .i64 a0_0, .int .i64 a0_1, .int .i64 a0_2, .int .i64 a0_3, .int .i64 a0_4], .agg #[.int .i64 a1_0, .int .i64 a1_1, .int .i64 a1_2, .int .i64 a1_3, .int .i64 a1_4]] rfl (by (try simp only [List.map_toArray, List.map_cons, List.map_nil]); first | done | rfl | (simp only [List.length_drop, List.length_take]; rfl)) ?_; (with_reducible refine (spec_l5Least.calls a0_0 a0_1 a0_2 a0_3 a0_4 a1_0 a1_1 a1_2 a1_3 a1_4 t213 t214 t215 t216 t217 _ A8.out).mono ?_); rintro e w21 ⟨rfl, hb⟩; refine ⟨_, rfl, ?_⟩; replace BK208 := mk_ (zq6 (by exact BK208.out) hb); replace BK209 := mk_ (zq6 (by exact BK209.out) hb); replace BK210 := mk_ (zq6 (by exact BK210.out) hb); replace HB := mk_ (zr3 (by repeat (first | (with_reducible first | exact HB.out | apply zq7 | apply zq8 | apply zq9 | refine zr1 ?_ GE208.out | refine zr1 ?_ GE209.out | refine zr1 ?_ GE210.out) | exact HB.out)) hb); (try clear hb); (try clear hb2); (try clear hk); (try clear hi); obtain ⟨hcz22_0, hcz22_1, hcz22_2, hcz22_3, hcz22_4⟩ := cz5 BK210.out; obtain ⟨hfz22_0, hfz22_1, hfz22_2, hfz22_3, hfz22_4⟩ := fz5 BK210.out))
 refine bodyPost_ret (results_ct rfl _ _ gb210 24 #[.int .i64 t213, .int .i64 t214, .int .i64 t215, .int .i64 t216, .int .i64 t217] (0, 0) _ rfl (by (with_reducible repeat (first | refine zq1 ?_ _ | refine zq2 ?_ | refine zq3 ?_ _)); apply pu5; (with_reducible repeat (first | refine zq1 ?_ _ | refine zq2 ?_ | refine zq3 ?_ _)); exact BK210.out) Try.underlying24 rfl (by kernel_rfl)) rfl ?_
 exact ⟨by first | rfl | (simp [errW_none, errW_some] <;> rfl) | (simp [*, errW_none, errW_some] <;> rfl), by repeat (first | (with_reducible first | exact HB.out | apply zq7 | apply zq8 | apply zq9 | refine zr1 ?_ GE208.out | refine zr1 ?_ GE209.out | refine zr1 ?_ GE210.out) | exact HB.out)⟩

/-! ### laws_liOk: function 16 -/
def laws_liOk.f  : Option (Bool) := (impl_CfgOk.f 1 1 1 1 1).bind fun t218 => (some t218)
set_option maxHeartbeats 8000000 in
set_option maxRecDepth 100000 in
theorem laws_liOk.calls  (r : Bool) (w : World) (h : laws_liOk.f  = some r) :
    Calls Try.prog 16 #[] w fun e w' => e = .returned (.bool r) ∧ Below w.heap.size w w' := by
 have hu24 := Try.underlying24
 have HB := mk_ (Below.refl w.heap.size w)
 have H : ((impl_CfgOk.f 1 1 1 1 1).bind fun t218 => (some t218)) = some r := h
 clear h
 replace H := Option.bind_eq_some_iff.mp H
 obtain ⟨t218, A10, H⟩ := H
 try dsimp only at H
 have A1 := mk_ A10
 clear A10
 obtain rfl := Option.some.inj H
 go_enter Try.func16, Try.ntmps16
 go_wp2_with (first | ((with_reducible refine gate_callee (f := 47) rfl ?_); refine goesL_ (some 2) rfl rfl Try.func47 (by kernel_rfl) rfl #[.agg #[.int .i64 1, .int .i64 1, .int .i64 1, .int .i64 1, .int .i64 1]] rfl (by (try simp only [List.map_toArray, List.map_cons, List.map_nil]); first | done | rfl | (simp only [List.length_drop, List.length_take]; rfl)) ?_; (with_reducible refine (impl_CfgOk.calls 1 1 1 1 1 t218 _ A1.out).mono ?_); rintro e w2 ⟨rfl, hb⟩; refine ⟨_, rfl, ?_⟩; replace HB := mk_ (zr3 (by repeat (first | (with_reducible first | exact HB.out | apply zq7 | apply zq8 | apply zq9) | exact HB.out)) hb); (try clear hb); (try clear hb2); (try clear hk); (try clear hi)))
 go_ret
 exact ⟨by first | rfl | (simp [errW_none, errW_some] <;> rfl) | (simp [*, errW_none, errW_some] <;> rfl), by repeat (first | (with_reducible first | exact HB.out | apply zq7 | apply zq8 | apply zq9) | exact HB.out)⟩

end Go.Proofs.Ytpnnpcgamkojhaa.QFnNegLess
