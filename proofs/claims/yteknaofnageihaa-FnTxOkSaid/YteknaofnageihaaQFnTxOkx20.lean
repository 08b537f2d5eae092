-- Written by a program of this session, a turned copy of the print (not by print.sh itself). Lean checks it.
import Derived.Test.YteknaofnageihaaQFnTxOkx0
namespace Go.Proofs.Yteknaofnageihaa.QFnTxOk
open Go.RowKit Go.Proofs.YteknaofnageihaaW.PrintWords Go.Proofs.YteknaofnageihaaW.PrintLast Go.Proofs.YteknaofnageihaaW.PrintMore Go.Proofs.YteknaofnageihaaLoc
attribute [local go_sem] max2_int min2_int max_two min_two max_three min_three max_four min_four   -- for this text's walks alone
set_option linter.unusedVariables false
set_option linter.unusedSimpArgs false

/-! ### spec_l6List: function 118 -/
def spec_l6List.l0 : Nat → List (S39) → List (S39) → Int → Option ((List (S39)))
  | 0, _, _, _ => none
  | k + 1, x0, x3, x4 => if x4 < (x0.length : Int) then (if 0 ≤ x4 then ((some (([] : List Int) : List Int)).bind fun y309 => (if y309.length + ((rd_T39 x0 x4).f2).length < 140737488355328 then (if x3.length < 3518437208883 then (spec_l6List.l0 k x0 (x3 ++ [(⟨(rd_T39 x0 x4).f0, (rd_T39 x0 x4).f1, (y309 ++ ((rd_T39 x0 x4).f2))⟩ : S39)]) (wrap64 (x4 + 1))) else (none)) else (none))) else (none)) else (some x3)
def spec_l6List.f (k : Nat) (l0 : List (S39)) : Option ((List (S39))) := spec_l6List.l0 k l0 (([] : List (S39))) 0
theorem spec_l6List.mono_l : ∀ k, (∀ y0 y1 y2, LeO (spec_l6List.l0 k y0 y1 y2) (spec_l6List.l0 (k + 1) y0 y1 y2))
  | 0 => fun _ _ _ r h => by simp [spec_l6List.l0] at h
  | k + 1 => by
    have ih0 := spec_l6List.mono_l k
    · intro y0 y1 y2
      unfold spec_l6List.l0
      repeat' first
      | (with_reducible exact ih0 _ _ _)
      | (with_reducible exact LeO.refl _)
      | (with_reducible exact LeO.none _)
      | (with_reducible refine LeO.ite ?_ ?_)
      | (with_reducible refine LeO.bind ?_ (fun _ => ?_))
      | exact ih0 _ _ _
      | exact LeO.none _
      | refine LeO.ite ?_ ?_
      | refine LeO.bind ?_ (fun _ => ?_)
theorem spec_l6List.mono : ∀ a0 k, LeO (spec_l6List.f k a0) (spec_l6List.f (k + 1) a0) := by
 intro a0 k
 have ih0 := spec_l6List.mono_l k
 unfold spec_l6List.f
 repeat' first
     | (with_reducible exact ih0 _ _ _)
     | (with_reducible exact LeO.refl _)
     | (with_reducible exact LeO.none _)
     | (with_reducible refine LeO.ite ?_ ?_)
     | (with_reducible refine LeO.bind ?_ (fun _ => ?_))
     | exact ih0 _ _ _
     | exact LeO.none _
     | refine LeO.ite ?_ ?_
     | refine LeO.bind ?_ (fun _ => ?_)
def spec_l6List.T5 : Bool × List (List Nat × List Nat) := (true, [([], []), ([], []), ([], []), ([1, 2], [1, 2]), ([3], [3]), ([4], [4]), ([], []), ([], []), ([6, 7], [6, 7]), ([8], [8]), ([9], [9]), ([], []), ([], []), ([], []), ([12, 13], [12, 13]), ([14], [14]), ([15], [15]), ([11, 16], [11, 16]), ([5, 10, 17], [5, 10, 17]), ([18], [18]), ([0, 19, 17], [0, 19]), ([20, 20, 0, 1, 2, 3, 4, 5, 6, 7, 8, 9, 10, 11, 12, 13, 14, 15, 16, 17, 18, 19, 20], [0, 20])])
def spec_l6List.B5 : List Nat := [0, 0, 0, 6, 14, 30, 0, 0, 192, 448, 960, 0, 0, 0, 12288, 28672, 61440, 129024, 262142, 524286, 1048575, 2097151]
theorem spec_l6List.tab5 : rtab .any (opsOf Try.f118 5) = spec_l6List.T5 := by kernel_rfl
theorem spec_l6List.bits5 : waitsOk spec_l6List.T5.2 spec_l6List.B5 = true := by kernel_rfl
set_option maxHeartbeats 60000000 in
set_option maxRecDepth 100000 in
theorem spec_l6List.calls (k : Nat) (A0 : Option Addr) (c0 : Nat) (l0 : List (S39)) (r : List (S39)) (w : World) (hr0 : Kd.C k39 w A0 l0.length l0) (hc0 : l0.length ≤ c0) (h : spec_l6List.f k l0 = some r) :
  Calls Try.prog 118 #[.slice A0 l0.length c0] w fun e w'=>∃ v0_:Value,e=.returned (v0_)∧Kd.S k39 39 w' w.heap.size (fun _=>True) v0_ r∧Below w.heap.size w w':=by
 have hu39:=Try.underlying39
 have Ai:=mk_ hr0
 have Ao:=mk_ hc0
 clear hr0 hc0
 have HB:=mk_ (Below.refl w.heap.size w)
 have H:(spec_l6List.l0 k l0 (([]:List (S39))) 0)=some r:=h
 clear h
 obtain ⟨y304,hy304⟩:∃ y_:List (S39),y_=(([]:List (S39))):=⟨_,rfl⟩
 replace H:(spec_l6List.l0 k l0 y304 0)=some r:=by first|(rw [hy304];with_reducible exact H)|(have H2_:=(Option.bind_some _ _).symm.trans H;rw [hy304];with_reducible exact H2_)|(have H2_:=(Option.bind_some _ _).symm.trans H;with_reducible exact H2_)|with_reducible exact H|(rw [hy304];exact H)|exact H
 have Ny304:=mk_ hy304
 clear hy304
 have H':=mk_ H
 clear H
 go_enter Try.func118,Try.ntmps118
 go_wp2_with (first|((with_reducible refine gate_dst (N:=5) rfl ?_);refine Kd.S_lit k39 _ 39 ?hg (N:=5) ?hd (xs:=([]:List (S39))) (inner:=[]) (ok:=fun _=>True) (okp:=fun _=>True) ?hr ?hp (fun _ hk=>hk) trivial (Below.refl _ _) (Nat.le_refl _) (by simp) ?_;(case hd=>rfl);(case hg=>rfl);(case hr=>first|(go_simp;done)|(go_simp;rfl));(case hp=>exact (Reps.none _ _));intro v305 w2 ho3 hb hg_ hnew_;clear hg_ hnew_;(first|rw [← Ny304.out] at ho3|(simp only [Int.reduceToNat] at ho3;rw [← Ny304.out] at ho3));have Aj:=mk_ (Kd.S_lower ho3 (zr2 (yu6 HB.out)));replace HB:=mk_ (zr3 (yu6 HB.out) hb);clear hb ho3))
 go_loopg [3,4] k (fun kq v3 v4 w'=>∃ (Ac:List (S39)) (Aa:Int),v4=.int .i64 Aa∧Aside0 (spec_l6List.l0 kq l0 Ac Aa=some r)∧Aside0 (kq≤k)∧Aside0 (Kd.S k39 39 w' w.heap.size (fun _=>True) v3 Ac)∧Aside0 (Below w.heap.size w w'))
 case atStart=>exact ⟨(y304),(0),(by first|rfl|(simp;done)|(simp [*];done)),H',⟨Nat.le_refl _⟩,⟨by (with_reducible repeat (first|apply Kd.S_alloc|apply Kd.S_drewN|apply Kd.S_drew));exact Aj.out⟩,⟨by exact yu6 HB.out⟩⟩
 case round =>
  clear H'
  try clear c1
  try clear p2
  obtain ⟨Ac,Aa,rfl,HA,HK1,Ab,HB⟩:=hrel
  cases gk with
 |zero=>exact absurd HA.out (by simp [spec_l6List.l0])
 |succ k1 =>
   have H:=HA.out
   clear HA
   simp only [spec_l6List.l0] at H
   by_cases c4:Aa<(l0.length:Int)
   rotate_left
   ·rw [if_neg c4] at H
    have c4b0:decide (Aa<(l0.length:Int))=false:=decide_eq_false c4
    clear c4
    obtain rfl:=Option.some.inj H
    go_wp2
    go_ret
    exact ⟨_,by first|rfl|(simp [errW_none,errW_some] <;> rfl)|(simp [*,errW_none,errW_some] <;> rfl),by (with_reducible repeat (first|apply Kd.S_alloc|apply Kd.S_drewN|apply Kd.S_drew));exact Ab.out,by exact yu6 HB.out⟩
   rw [if_pos c4] at H
   have c4b0:decide (Aa<(l0.length:Int))=true:=decide_eq_true c4
   clear c4
   by_cases c5:0≤Aa
   rotate_left
   ·rw [if_neg c5] at H
    exact absurd H (by simp)
   rw [if_pos c5] at H
   have c5b0:decide (0≤Aa)=true:=decide_eq_true c5
   clear c5
   obtain ⟨y309,hy309⟩:∃ y_:List Int,y_=(([]:List Int)):=⟨_,rfl⟩
   replace H:(if y309.length+((rd_T39 l0 Aa).f2).length<140737488355328 then (if Ac.length<3518437208883 then (spec_l6List.l0 k1 l0 (Ac++[(⟨(rd_T39 l0 Aa).f0,(rd_T39 l0 Aa).f1,(y309++((rd_T39 l0 Aa).f2))⟩:S39)]) (wrap64 (Aa+1))) else (none)) else (none))=some r:=by first|(rw [hy309];with_reducible exact H)|(have H2_:=(Option.bind_some _ _).symm.trans H;rw [hy309];with_reducible exact H2_)|(have H2_:=(Option.bind_some _ _).symm.trans H;with_reducible exact H2_)|with_reducible exact H|(rw [hy309];exact H)|exact H
   have Ny309:=mk_ hy309
   clear hy309
   by_cases c6:y309.length+((rd_T39 l0 Aa).f2).length<140737488355328
   rotate_left
   ·rw [if_neg c6] at H
    exact absurd H (by simp)
   rw [if_pos c6] at H
   have LMc6:=mk_ c6
   clear c6
   obtain ⟨y313,hy313⟩:∃ y_:List Int,y_=(y309++((rd_T39 l0 Aa).f2)):=⟨_,rfl⟩
   replace H:(if Ac.length<3518437208883 then (spec_l6List.l0 k1 l0 (Ac++[(⟨(rd_T39 l0 Aa).f0,(rd_T39 l0 Aa).f1,y313⟩:S39)]) (wrap64 (Aa+1))) else (none))=some r:=by first|(rw [hy313];with_reducible exact H)|(have H2_:=(Option.bind_some _ _).symm.trans H;rw [hy313];with_reducible exact H2_)|(have H2_:=(Option.bind_some _ _).symm.trans H;with_reducible exact H2_)|with_reducible exact H|(rw [hy313];exact H)|exact H
   have Ny313:=mk_ hy313
   clear hy313
   by_cases c7:Ac.length<3518437208883
   rotate_left
   ·rw [if_neg c7] at H
    exact absurd H (by simp)
   rw [if_pos c7] at H
   have LMc7:=mk_ c7
   clear c7
   obtain ⟨y316,hy316⟩:∃ y_:List (S39),y_=(Ac++[(⟨(rd_T39 l0 Aa).f0,(rd_T39 l0 Aa).f1,y313⟩:S39)]):=⟨_,rfl⟩
   replace H:(spec_l6List.l0 k1 l0 y316 (wrap64 (Aa+1)))=some r:=by first|(rw [hy316];with_reducible exact H)|(have H2_:=(Option.bind_some _ _).symm.trans H;rw [hy316];with_reducible exact H2_)|(have H2_:=(Option.bind_some _ _).symm.trans H;with_reducible exact H2_)|with_reducible exact H|(rw [hy316];exact H)|exact H
   have Ny316:=mk_ hy316
   clear hy316
   have H':=mk_ H
   clear H
   try go_wp2
   replace Ab:=mk_ (Kd.S_drew Ab.out)
   replace HB:=mk_ (zq9 HB.out)
   have p307:0≤(Aa:Int):=of_decide_eq_true (by first|(with_reducible assumption)|assumption)
   have q307:Aa<(l0.length:Int):=of_decide_eq_true (by first|(with_reducible assumption)|assumption)
   obtain ⟨ad307,A307_2,c307_2,e307,hx307_0,hx307_1,hx307_2,hl307_2,hi307_2⟩:=at_T39 Ai.out Aa p307 q307
   have hw307_2:=hx307_2
   have hw307_1:=hx307_1
   have hw307_0:=hx307_0
   cases e307
   replace hx307_0:=(HB.out.cell (World.block_lt_of_cell? w _ hx307_0)).trans hx307_0
   replace hx307_1:=(HB.out.cell (World.block_lt_of_cell? w _ hx307_1)).trans hx307_1
   replace hx307_2:=(HB.out.cell (World.block_lt_of_cell? w _ hx307_2)).trans hx307_2
   have Ag:=mk_ hi307_2
   have Al:=mk_ hl307_2
   clear hi307_2 hl307_2
   replace p307:=eq_true p307
   replace q307:=eq_true q307
   have p308:0≤(Aa:Int):=of_decide_eq_true (by first|(with_reducible assumption)|assumption)
   have q308:Aa<(l0.length:Int):=of_decide_eq_true (by first|(with_reducible assumption)|assumption)
   obtain ⟨ad308,A308_2,c308_2,e308,hx308_0,hx308_1,hx308_2,hl308_2,hi308_2⟩:=at_T39 Ai.out Aa p308 q308
   have hw308_2:=hx308_2
   have hw308_1:=hx308_1
   have hw308_0:=hx308_0
   obtain rfl:ad307=ad308:=(by injection e308)
   replace hx308_0:=(HB.out.cell (World.block_lt_of_cell? w _ hx308_0)).trans hx308_0
   replace hx308_1:=(HB.out.cell (World.block_lt_of_cell? w _ hx308_1)).trans hx308_1
   replace hx308_2:=(HB.out.cell (World.block_lt_of_cell? w _ hx308_2)).trans hx308_2
   have Ah:=mk_ hi308_2
   have Am:=mk_ hl308_2
   clear hi308_2 hl308_2
   replace p308:=eq_true p308
   replace q308:=eq_true q308
   have ea_:=Option.some.inj (hx307_2.symm.trans hx308_2)
   injection ea_ with ea_ en_ ec_
   subst ea_
   subst ec_
   clear en_
   have p312:0≤(Aa:Int):=of_decide_eq_true (by first|(with_reducible assumption)|assumption)
   have q312:Aa<(l0.length:Int):=of_decide_eq_true (by first|(with_reducible assumption)|assumption)
   obtain ⟨ad312,A312_2,c312_2,e312,hx312_0,hx312_1,hx312_2,hl312_2,hi312_2⟩:=at_T39 Ai.out Aa p312 q312
   have hw312_2:=hx312_2
   have hw312_1:=hx312_1
   have hw312_0:=hx312_0
   obtain rfl:ad307=ad312:=(by injection e312)
   replace hx312_0:=(HB.out.cell (World.block_lt_of_cell? w _ hx312_0)).trans hx312_0
   replace hx312_1:=(HB.out.cell (World.block_lt_of_cell? w _ hx312_1)).trans hx312_1
   replace hx312_2:=(HB.out.cell (World.block_lt_of_cell? w _ hx312_2)).trans hx312_2
   have Ae:=mk_ hi312_2
   have An:=mk_ hl312_2
   clear hi312_2 hl312_2
   replace p312:=eq_true p312
   replace q312:=eq_true q312
   have ea_:=Option.some.inj (hx307_2.symm.trans hx312_2)
   injection ea_ with ea_ en_ ec_
   subst ea_
   subst ec_
   clear en_
   refine start_ (n:=22) (S:=fun w'=>w'.cell? (ad307.add ((Aa).toNat * 3))=some (.int .i64 ((rd_T39 l0 Aa).f0))∧w'.cell? ⟨(ad307.add ((Aa).toNat * 3)).block,(ad307.add ((Aa).toNat * 3)).off+1,none⟩=some (.int .i64 ((rd_T39 l0 Aa).f1))∧w'.cell? ⟨(ad307.add ((Aa).toNat * 3)).block,(ad307.add ((Aa).toNat * 3)).off+2,none⟩=some (.slice A307_2 ((rd_T39 l0 Aa).f2).length c307_2)∧w'.cell? (ad307.add ((Aa).toNat * 3))=some (.int .i64 ((rd_T39 l0 Aa).f0))∧w'.cell? ⟨(ad307.add ((Aa).toNat * 3)).block,(ad307.add ((Aa).toNat * 3)).off+1,none⟩=some (.int .i64 ((rd_T39 l0 Aa).f1))∧w'.cell? ⟨(ad307.add ((Aa).toNat * 3)).block,(ad307.add ((Aa).toNat * 3)).off+2,none⟩=some (.slice A307_2 ((rd_T39 l0 Aa).f2).length c307_2)∧w'.cell? (ad307.add ((Aa).toNat * 3))=some (.int .i64 ((rd_T39 l0 Aa).f0))∧w'.cell? ⟨(ad307.add ((Aa).toNat * 3)).block,(ad307.add ((Aa).toNat * 3)).off+1,none⟩=some (.int .i64 ((rd_T39 l0 Aa).f1))∧w'.cell? ⟨(ad307.add ((Aa).toNat * 3)).block,(ad307.add ((Aa).toNat * 3)).off+2,none⟩=some (.slice A307_2 ((rd_T39 l0 Aa).f2).length c307_2)) (ds:=[]) (bm 22 0) (by kernel_rfl) rfl rfl ⟨((HB.out.cell (World.block_lt_of_cell? w _ hw307_0)).trans hw307_0),((HB.out.cell (World.block_lt_of_cell? w _ hw307_1)).trans hw307_1),((HB.out.cell (World.block_lt_of_cell? w _ hw307_2)).trans hw307_2),((HB.out.cell (World.block_lt_of_cell? w _ hw308_0)).trans hw308_0),((HB.out.cell (World.block_lt_of_cell? w _ hw308_1)).trans hw308_1),((HB.out.cell (World.block_lt_of_cell? w _ hw308_2)).trans hw308_2),((HB.out.cell (World.block_lt_of_cell? w _ hw312_0)).trans hw312_0),((HB.out.cell (World.block_lt_of_cell? w _ hw312_1)).trans hw312_1),((HB.out.cell (World.block_lt_of_cell? w _ hw312_2)).trans hw312_2)⟩ (fun hHeld=>?_);refine with_tabW spec_l6List.tab5 spec_l6List.bits5 (fun HT_ HW_=>?_)
   generalize wr.drew=w8 at Ab HB Ag Ah Ae hx307_0 hx307_1 hx307_2 hx308_0 hx308_1 hx308_2 hx312_0 hx312_1 hx312_2 hHeld ⊢
   refine pA 0 (some 12) (bm 22 1) rfl rfl HT_.out (by kernel_rfl) (fun _ _ _ h=>h) (by rfl) (by intro w';go_simp;with_reducible rfl) (by simp only [Act.put,zs1,zs2,zs3,i64_w,i32_w];rfl) ?_
   refine pA 1 (some 13) (bm 22 3) rfl rfl HT_.out (by kernel_rfl) (fun _ _ _ h=>h) (by rfl) (by intro w';go_simp;with_reducible rfl) (by simp only [Act.put,zs1,zs2,zs3,i64_w,i32_w];rfl) ?_
   refine pA 2 (some 14) (bm 22 7) rfl rfl HT_.out (by kernel_rfl) (fun _ _ _ h=>h) (by rfl) (by intro w';go_simp;with_reducible rfl) (by simp only [Act.put,zs1,zs2,zs3,i64_w,i32_w];rfl) ?_
   refine pA 3 (some 15) (bm 22 15) rfl rfl HT_.out (by kernel_rfl) (fun _ _ _ h=>h) (by rfl) (by intro w';go_simp;with_reducible rfl) (by simp only [Act.put,zs1,zs2,zs3,i64_w,i32_w];rfl) ?_
   refine pA 4 (some 16) (bm 22 31) rfl rfl HT_.out (by kernel_rfl) (fun _ _ _ h=>h) (by rfl) (by intro w';go_simp;with_reducible rfl) (by simp only [Act.put,zs1,zs2,zs3,i64_w,i32_w];rfl) ?_
   refine pA 6 (some 18) (bm 22 95) rfl rfl HT_.out (by kernel_rfl) (fun _ _ _ h=>h) (by rfl) (by intro w';go_simp;with_reducible rfl) (by simp only [Act.put,zs1,zs2,zs3,i64_w,i32_w];rfl) ?_
   refine pA 7 (some 19) (bm 22 223) rfl rfl HT_.out (by kernel_rfl) (fun _ _ _ h=>h) (by rfl) (by intro w';go_simp;with_reducible rfl) (by simp only [Act.put,zs1,zs2,zs3,i64_w,i32_w];rfl) ?_
   refine pA 8 (some 20) (bm 22 479) rfl rfl HT_.out (by kernel_rfl) (fun _ _ _ h=>h) (by rfl) (by intro w';go_simp;with_reducible rfl) (by simp only [Act.put,zs1,zs2,zs3,i64_w,i32_w];rfl) ?_
   refine pA 9 (some 21) (bm 22 991) rfl rfl HT_.out (by kernel_rfl) (fun _ _ _ h=>h) (by rfl) (by intro w';go_simp;with_reducible rfl) (by simp only [Act.put,zs1,zs2,zs3,i64_w,i32_w];rfl) ?_
   refine pA 12 (some 24) (bm 22 5087) rfl rfl HT_.out (by kernel_rfl) (fun _ _ _ h=>h) (by rfl) (by intro w';go_simp;with_reducible rfl) (by simp only [Act.put,zs1,zs2,zs3,i64_w,i32_w];rfl) ?_
   refine pA 13 (some 25) (bm 22 13279) rfl rfl HT_.out (by kernel_rfl) (fun _ _ _ h=>h) (by rfl) (by intro w';go_simp;with_reducible rfl) (by simp only [Act.put,zs1,zs2,zs3,i64_w,i32_w];rfl) ?_
   refine pA 14 (some 26) (bm 22 29663) rfl rfl HT_.out (by kernel_rfl) (fun _ _ _ h=>h) (by rfl) (by intro w';go_simp;with_reducible rfl) (by simp only [Act.put,zs1,zs2,zs3,i64_w,i32_w];rfl) ?_
   refine pA 15 (some 27) (bm 22 62431) rfl rfl HT_.out (by kernel_rfl) (fun _ _ _ h=>h) (by rfl) (by intro w';go_simp;with_reducible rfl) (by simp only [Act.put,zs1,zs2,zs3,i64_w,i32_w];rfl) ?_
   refine tA 5 (some 17) (bm 22 62463) rfl rfl HT_.out HW_.out (by kernel_rfl) (fun _ _ _ h=>h) (by rfl) hHeld (by rintro w' ⟨s0,s1,s2,s3,s4,s5,s6,s7,s8⟩;go_simp;with_reducible rfl) (by simp only [Act.put,zs1,zs2,zs3,i64_w,i32_w];rfl) ?_
   refine tA 10 (some 22) (bm 22 63487) rfl rfl HT_.out HW_.out (by kernel_rfl) (fun _ _ _ h=>h) (by rfl) hHeld (by rintro w' ⟨s0,s1,s2,s3,s4,s5,s6,s7,s8⟩;go_simp;with_reducible rfl) (by simp only [Act.put,zs1,zs2,zs3,i64_w,i32_w];rfl) ?_
   refine tA 16 (some 28) (bm 22 129023) rfl rfl HT_.out HW_.out (by kernel_rfl) (fun _ _ _ h=>h) (by rfl) hHeld (by rintro w' ⟨s0,s1,s2,s3,s4,s5,s6,s7,s8⟩;go_simp;with_reducible rfl) (by simp only [Act.put,zs1,zs2,zs3,i64_w,i32_w];rfl) ?_
   refine one_ (i:=11) (N:=some 23) (bm 22 131071) rfl rfl (one_of HT_.out (by kernel_rfl)) (by decide) (fun K hK=>?_)
   refine Kd.R_lit_step ku _ 5 ?hg (N:=23) ?hd (xs:=([]:List Int)) (inner:=[]) (ok:=fun _=>True) (okp:=fun _=>True) ?hr ?hp (fun _ hk=>hk) trivial (Below.refl _ _) (Nat.le_refl _) (by simp) ?_;(case hd=>rfl);(case hg=>rfl);(case hr=>first|(go_simp;done)|(go_simp;rfl));(case hp=>exact (Reps.none _ _))
   intro v310 w9 ho10 hb hg_ hnew_
   clear hg_ hnew_
   (first|rw [← Ny309.out] at ho10|(simp only [Int.reduceToNat] at ho10;rw [← Ny309.out] at ho10))
   replace Ab:=mk_ (Kd.S_elder' (mS Ab.out) (Kd.R_base ho10) hb)
   have Af:=mk_ (Kd.R_lower ho10 (zr2 (yu6 HB.out)))
   replace HB:=mk_ (zr3 (yu6 HB.out) hb)
   clear hb ho10
   refine hK.out _ _ ⟨((HB.out.cell (World.block_lt_of_cell? w _ hw307_0)).trans hw307_0),((HB.out.cell (World.block_lt_of_cell? w _ hw307_1)).trans hw307_1),((HB.out.cell (World.block_lt_of_cell? w _ hw307_2)).trans hw307_2),((HB.out.cell (World.block_lt_of_cell? w _ hw308_0)).trans hw308_0),((HB.out.cell (World.block_lt_of_cell? w _ hw308_1)).trans hw308_1),((HB.out.cell (World.block_lt_of_cell? w _ hw308_2)).trans hw308_2),((HB.out.cell (World.block_lt_of_cell? w _ hw312_0)).trans hw312_0),((HB.out.cell (World.block_lt_of_cell? w _ hw312_1)).trans hw312_1),((HB.out.cell (World.block_lt_of_cell? w _ hw312_2)).trans hw312_2)⟩ (fun hHeld=>?_)
   clear hK K
   refine norm_ (a':=?_) ?_ ?_
   rotate_left
   ·show Act.put _ (some 23) _=_
    simp only [Act.put,zs1,zs2,zs3,i64_w,i32_w]
    rfl
   refine one_ (i:=17) (N:=some 29) (bm 22 262143) rfl rfl (one_of HT_.out (by kernel_rfl)) (by decide) (fun K hK=>?_)
   refine Kd.R_append_rows_step ku (w0:=w) w.heap.size (by rfl) (.tmp 23) (.tmp 28) 22 5 (.int .u8 0) 1 rfl Try.underlying22 info5 rfl (by decide) (by omega) v310 y309 ((rd_T39 l0 Aa).f2) _ _ _ (fun _=>True) (fun _=>False) rfl rfl ?aO ?aR (fun _ _ h=>h) (fun _ h=>h.elim) ?aF ?aB ?aS ?aL ?_
   (case aR=>repeat (first|exact (Kd.C_below Ae.out HB.out)|(with_reducible refine Kd.C_alloc ?_ _)|(with_reducible refine Kd.C_drewN ?_ _)|(with_reducible refine Kd.C_drew ?_)))
   (case aB=>exact (yu6 HB.out))
   (case aF=>exact (fun _ _=>trivial))
   (case aO=>exact (mR Af.out))
   (case aS=>exact (zr2 (yu6 HB.out)))
   (case aL=>have:=LMc6.out;omega)
   intro v314 Ap ho hb hg hat
   rw [← Ny313.out] at ho
   have n0_:=mk_ (Kd.S_after (ok:=(fun _=>True)) (mS Ab.out) hg hat)
   have n1_:=mk_ (hb)
   have n2_:=mk_ (ho)
   clear Ab
   clear HB
   clear Af
   have Ab:=n0_
   have HB:=n1_
   have Ad:=n2_
   clear n0_ n1_ n2_
   clear ho hb hg hat
   obtain ⟨Ao12,co12,eo12⟩:=Kd.R_slice Ad.out
   (first|subst eo12|(injection eo12 with f1_ f2_ f3_;have f4_:=f1_.symm;have f5_:=f3_.symm;clear f1_ f2_ f3_;subst f4_;subst f5_))
   refine hK.out _ _ ⟨((HB.out.cell (World.block_lt_of_cell? w _ hw307_0)).trans hw307_0),((HB.out.cell (World.block_lt_of_cell? w _ hw307_1)).trans hw307_1),((HB.out.cell (World.block_lt_of_cell? w _ hw307_2)).trans hw307_2),((HB.out.cell (World.block_lt_of_cell? w _ hw308_0)).trans hw308_0),((HB.out.cell (World.block_lt_of_cell? w _ hw308_1)).trans hw308_1),((HB.out.cell (World.block_lt_of_cell? w _ hw308_2)).trans hw308_2),((HB.out.cell (World.block_lt_of_cell? w _ hw312_0)).trans hw312_0),((HB.out.cell (World.block_lt_of_cell? w _ hw312_1)).trans hw312_1),((HB.out.cell (World.block_lt_of_cell? w _ hw312_2)).trans hw312_2)⟩ (fun hHeld=>?_)
   clear hK K
   refine norm_ (a':=?_) ?_ ?_
   rotate_left
   ·show Act.put _ (some 29) _=_
    simp only [Act.put,zs1,zs2,zs3,i64_w,i32_w]
    rfl
   refine pA 18 (some 30) (bm 22 524287) rfl rfl HT_.out (by kernel_rfl) (fun _ _ _ h=>h) (by rfl) (by intro w';go_simp;with_reducible rfl) (by simp only [Act.put,zs1,zs2,zs3,i64_w,i32_w];rfl) ?_
   refine one_ (i:=19) (N:=some 31) (bm 22 1048575) rfl rfl (one_of HT_.out (by kernel_rfl)) (by decide) (fun K hK=>?_)
   refine value_ (w1:=?_) (v:=?_) (by rfl) rfl ?_ ?_
   rotate_left 2
   ·go_simp
    constructor
    ·rfl
    ·rfl
   refine hK.out _ _ ⟨(World.cell?_alloc_lt _ _ _ (World.block_lt_of_cell? _ _ (((HB.out.cell (World.block_lt_of_cell? w _ hw307_0)).trans hw307_0)))).trans (((HB.out.cell (World.block_lt_of_cell? w _ hw307_0)).trans hw307_0)),(World.cell?_alloc_lt _ _ _ (World.block_lt_of_cell? _ _ (((HB.out.cell (World.block_lt_of_cell? w _ hw307_1)).trans hw307_1)))).trans (((HB.out.cell (World.block_lt_of_cell? w _ hw307_1)).trans hw307_1)),(World.cell?_alloc_lt _ _ _ (World.block_lt_of_cell? _ _ (((HB.out.cell (World.block_lt_of_cell? w _ hw307_2)).trans hw307_2)))).trans (((HB.out.cell (World.block_lt_of_cell? w _ hw307_2)).trans hw307_2)),(World.cell?_alloc_lt _ _ _ (World.block_lt_of_cell? _ _ (((HB.out.cell (World.block_lt_of_cell? w _ hw308_0)).trans hw308_0)))).trans (((HB.out.cell (World.block_lt_of_cell? w _ hw308_0)).trans hw308_0)),(World.cell?_alloc_lt _ _ _ (World.block_lt_of_cell? _ _ (((HB.out.cell (World.block_lt_of_cell? w _ hw308_1)).trans hw308_1)))).trans (((HB.out.cell (World.block_lt_of_cell? w _ hw308_1)).trans hw308_1)),(World.cell?_alloc_lt _ _ _ (World.block_lt_of_cell? _ _ (((HB.out.cell (World.block_lt_of_cell? w _ hw308_2)).trans hw308_2)))).trans (((HB.out.cell (World.block_lt_of_cell? w _ hw308_2)).trans hw308_2)),(World.cell?_alloc_lt _ _ _ (World.block_lt_of_cell? _ _ (((HB.out.cell (World.block_lt_of_cell? w _ hw312_0)).trans hw312_0)))).trans (((HB.out.cell (World.block_lt_of_cell? w _ hw312_0)).trans hw312_0)),(World.cell?_alloc_lt _ _ _ (World.block_lt_of_cell? _ _ (((HB.out.cell (World.block_lt_of_cell? w _ hw312_1)).trans hw312_1)))).trans (((HB.out.cell (World.block_lt_of_cell? w _ hw312_1)).trans hw312_1)),(World.cell?_alloc_lt _ _ _ (World.block_lt_of_cell? _ _ (((HB.out.cell (World.block_lt_of_cell? w _ hw312_2)).trans hw312_2)))).trans (((HB.out.cell (World.block_lt_of_cell? w _ hw312_2)).trans hw312_2))⟩ (fun hHeld=>?_)
   clear hK K
   refine norm_ (a':=?_) ?_ ?_
   rotate_left
   ·show Act.put _ (some 31) _=_
    simp only [Act.put,zs1,zs2,zs3,i64_w,i32_w]
    rfl
   refine one_ (i:=20) (N:=some 32) (bm 22 2097151) rfl rfl (one_of HT_.out (by kernel_rfl)) (by decide) (fun K hK=>?_)
   refine Kd.S_append_step k39 (w0:=w) w.heap.size (by rfl) (.tmp 12) (.tmp 31) 23 39 (.agg #[(.int .i64 0),(.int .i64 0),(.slice none 0 0)]) 40 rfl Try.underlying23 info39 rfl (by decide) (by omega) u3 Ac (⟨(rd_T39 l0 Aa).f0,(rd_T39 l0 Aa).f1,y313⟩:S39) [.int .i64 ((rd_T39 l0 Aa).f0),.int .i64 ((rd_T39 l0 Aa).f1),.slice Ao12 y313.length co12] (fun _=>True) (fun k_=>some k_=(.slice Ao12 y313.length co12:Value).ownBlock) rfl rfl ?aP (fun k_ hk_=>((Kd.R_mono (ok':=fun k_=>((fun _=>True)) k_∧some k_≠(u3:Value).ownBlock) (Kd.R_apart' (Ad.out) (Kd.S_typed Ab.out) (by decide)) (fun k_ hk=>⟨trivial,hk.2⟩))).1 k_ hk_.symm) ?aF ?aO ?aB ?aS ?aL ?_
   (case aP=>exact k39_mkM _ _ _ (⟨(rd_T39 l0 Aa).f0,(rd_T39 l0 Aa).f1,y313⟩:S39) (Kd.R_mono (Kd.R_tight rfl (Kd.R_mono (ok':=fun k_=>((fun _=>True)) k_∧some k_≠(u3:Value).ownBlock) (Kd.R_apart' (Ad.out) (Kd.S_typed Ab.out) (by decide)) (fun k_ hk=>⟨trivial,hk.2⟩))) (fun _ h_=>h_)))
   (case aB=>exact (yu6 HB.out))
   (case aF=>exact (fun _ _=>trivial))
   (case aO=>exact (by (with_reducible repeat (first|apply Kd.S_alloc|apply Kd.S_drewN|apply Kd.S_drew));exact Kd.S_mono Ab.out (fun k_ hk=>⟨trivial,fun e_=>hk.2 e_⟩)))
   (case aS=>exact (zr2 (yu6 HB.out)))
   (case aL=>have:=LMc7.out;omega)
   intro v317 Aq ho hb hg hat
   rw [← Ny316.out] at ho
   have n0_:=mk_ (hb)
   have n1_:=mk_ (ho)
   clear HB
   clear Ab
   clear Ad
   have HB:=n0_
   have Ak:=n1_
   clear n0_ n1_
   clear ho hb hg hat
   refine hK.out _ _ ⟨((HB.out.cell (World.block_lt_of_cell? w _ hw307_0)).trans hw307_0),((HB.out.cell (World.block_lt_of_cell? w _ hw307_1)).trans hw307_1),((HB.out.cell (World.block_lt_of_cell? w _ hw307_2)).trans hw307_2),((HB.out.cell (World.block_lt_of_cell? w _ hw308_0)).trans hw308_0),((HB.out.cell (World.block_lt_of_cell? w _ hw308_1)).trans hw308_1),((HB.out.cell (World.block_lt_of_cell? w _ hw308_2)).trans hw308_2),((HB.out.cell (World.block_lt_of_cell? w _ hw312_0)).trans hw312_0),((HB.out.cell (World.block_lt_of_cell? w _ hw312_1)).trans hw312_1),((HB.out.cell (World.block_lt_of_cell? w _ hw312_2)).trans hw312_2)⟩ (fun hHeld=>?_)
   clear hK K
   refine norm_ (a':=?_) ?_ ?_
   rotate_left
   ·show Act.put _ (some 32) _=_
    simp only [Act.put,zs1,zs2,zs3,i64_w,i32_w]
    rfl
   refine pA 21 (some 3) (bm 22 4194303) rfl rfl HT_.out (by kernel_rfl) (fun _ _ _ h=>h) (by rfl) (by intro w';go_simp;with_reducible rfl) (by simp only [Act.put,zs1,zs2,zs3,i64_w,i32_w];rfl) ?_
   refine done_ (done_of HT_.out (by kernel_rfl)) ?_
   try go_wp2
   go_roundg k1
   case measure=>have:=HK1.out;omega
   case rel=>exact ⟨(y316),(wrap64 (Aa+1)),(by first|rfl|(simp;done)|(simp [*];done)),H',⟨by have:=HK1.out;omega⟩,⟨by (with_reducible repeat (first|apply Kd.S_alloc|apply Kd.S_drewN|apply Kd.S_drew));exact Ak.out⟩,⟨by exact yu6 HB.out⟩⟩

end Go.Proofs.Yteknaofnageihaa.QFnTxOk
