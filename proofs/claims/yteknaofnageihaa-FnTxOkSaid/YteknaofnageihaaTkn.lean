-- Texts by hand for FnTxLeft, FnTxOk.
import Derived.Test.YteknaofnageihaaTkl
import Derived.Test.YteknaofnageihaaQFnTxOkx3
import Derived.Test.YteknaofnageihaaQFnTxOkx4
import Derived.Test.YteknaofnageihaaQFnTxOkx7
import Derived.Test.YteknaofnageihaaPureFnTxOk
import Derived.Test.YteknaofnageihaaQFnTxOkx82
namespace Go.Proofs.Yteknaofnageihaa.QFnTxOk
open Go.RowKit Go.Proofs.YteknaofnageihaaW.PrintWords Go.Proofs.YteknaofnageihaaW.PrintLast Go.Proofs.YteknaofnageihaaW.PrintMore Go.Proofs.YteknaofnageihaaLoc
attribute [local go_sem] max2_int min2_int max_two min_two max_three min_three max_four min_four   -- for this text's walks alone
set_option linter.unusedVariables false
set_option linter.unusedSimpArgs false
open Go.Proofs.Yteknaofnageihaa.Pure
theorem Lok_keep {w0 w w1:World} {g:Nat} {H:List Blk} (h:Lok w0 w H) (hb:Below w0.heap.size w0 w1) (hk:KeepBut w w1 g none) (hne:∀ b ∈ H,b.1≠g):Lok w0 w1 H :=
 ⟨hb,fun x hx=>⟨hk.blk (h.all x hx).1 (hne x hx) (by simp),(h.all x hx).2⟩,h.ne⟩
theorem rd_ne {w0 w W:World} {g:Nat} {s:List Int} {p:Int} {H:List Blk} (hi:IsS113 w0 W g s p) (h:Lok w W H) (ht:H.all (fun b=>b.2.2 != 113)=true):∀ b ∈ H,b.1≠g:=by
 intro b hb e
 obtain ⟨A0,c0,hg,_,_⟩:=hi
 have h1:=(h.all b hb).1
 rw [e,hg] at h1
 simp only [Option.some.injEq,Obj.cells.injEq] at h1
 have h9:=List.all_eq_true.mp ht b hb
 rw [← h1.2.1] at h9
 exact absurd h9 (by decide)
theorem loc_alloc2 {P:Program} {ops:Array Oper} {o:Oper} {a:Act} {ty:TypeId} {rest:List Oper} {Q:Exit→Act→World→Prop} {w0 w:World} {H:List Blk} {cs:List Value} (hgd:o.guard=none) (ho:o.op=.alloc ty) (hy:((P.info? ty).bind (·.zero)).map (·.cells.toList)=some cs) (HL:Lok w0 w H) (h:∀ g w',Lok w0 w' ((g,cs,ty) :: H)→Below w.heap.size w w'→g=w.heap.size→wpList P ops Q rest (a.put o.dst (.pointer (some ⟨g,0,none⟩))) w'):wpList P ops Q (o :: rest) a w :=
 Kd.event_run hgd (loc_alloc_run ho hy w) (h _ _ (HL.new cs ty) (below_alloc (Below.refl _ _) _) rfl)
theorem liOk_true:laws_liOk.f=some true:=by
 unfold laws_liOk.f
 rw [show impl_CfgOk.f 1 1 1 1 1=some true by decide]
 rfl
def fx58.T3:Bool × List (List Nat × List Nat):=(true,[([],[]),([],[]),([],[]),([1,2],[1,2]),([0,3,0],[0]),([3,4,0,1,2,3,4],[3])])
def fx58.B3:List Nat:=[0,0,0,6,15,31]
theorem fx58.tab3:rtab .any (opsOf Try.f58 3)=fx58.T3:=by kernel_rfl
theorem fx58.bits3:waitsOk fx58.T3.2 fx58.B3=true:=by kernel_rfl
theorem rd_same {w0 W w1:World} {g:Nat} {s:List Int} {p:Int} (h:IsS113 w0 W g s p) (e:w1.heap[g]? =W.heap[g]?):IsS113 w0 w1 g s p:=by
 obtain ⟨A0,c0,hb,hg,hr⟩:=h
 exact ⟨A0,c0,e.trans hb,hg,hr⟩
def TxK (w:World):Ending→World→Prop:=fun e w'=>∃ c0 c1 c2 c3 c4 v t,e=.returned (.tuple #[.agg #[.int .i64 c0,.int .i64 c1,.int .i64 c2,.int .i64 c3,.int .i64 c4],v])∧Txf w' (fun k=>w.heap.size≤k) t v∧Sm3 t∧Below w.heap.size w w'
theorem mkTxK {w w':World} {e:Ending} (c0 c1 c2 c3 c4:Int) (t:Tx) (v:Value) (h:e=.returned (.tuple #[.agg #[.int .i64 c0,.int .i64 c1,.int .i64 c2,.int .i64 c3,.int .i64 c4],v])) (h1:Txf w' (fun k=>w.heap.size≤k) t v) (hs:Sm3 t) (h2:Below w.heap.size w w'):TxK w e w':=⟨c0,c1,c2,c3,c4,v,t,h,h1,hs,h2⟩
set_option maxHeartbeats 60000000 in
set_option maxRecDepth 100000 in
theorem drawok_calls (A0:Option Addr) (z0:Nat) (l0:List Int) (hw:∀ x ∈ l0,(Lit.int .u8 x).wf=true) (w:World) (hr0:Kd.C (Kd.int .u8) w A0 l0.length l0) (hc0:l0.length≤z0):Calls Try.prog 58 #[.slice A0 l0.length z0] w (TxK w):=by
 have HL:=mk_ (Lok.start w)
 obtain ⟨s,hop,hs⟩:=open_ok l0 hw
 have HO:=mk_ hop
 have HR:=mk_ hr0
 have HZ:=mk_ hc0
 clear hop hr0 hc0
 obtain ⟨kc,⟨c0,c1,c2,c3,c4,p1⟩,hcf,⟨hp0,hp1⟩,hcr,_⟩:=(cfg_ok hs (p:=0) (by decide) 12 (by decide)).got
 dsimp only at hp0 hp1 hcr
 have HCF:=mk_ hcf
 have HP:=mk_ (show 0≤p1∧p1≤1000 by omega)
 have HCR:=mk_ hcr
 clear hcf hp0 hp1 hcr
 go_enter Try.func58,Try.ntmps58
 go_upto_region 3 with (first|((with_reducible refine gate_gd rfl ?_);first|((with_reducible refine gd_on rfl ?_ ?_);rfl;dsimp only)|((with_reducible refine gd_off rfl ?_ ?_);rfl))|((with_reducible refine gate_dst (N:=7) rfl ?_);(with_reducible refine gate_callee (f:=68) rfl ?_);refine goesL_ (some 7) rfl rfl Try.func68 kz rfl #[.slice A0 l0.length z0] rfl am ?_;(with_reducible refine (spec_l20Open.calls A0 z0 l0 s 0 w _ HL.out.bel HR.out HZ.out HO.out).mono ?_);rintro e w_ ⟨g,rfl,hi_,hb_,hb2_⟩;refine ⟨_,rfl,?_⟩;replace HL:=mk_ (HL.out.call hb2_);have HI:=mk_ hi_;clear hi_ hb_ hb2_)|((with_reducible refine gate_dst (N:=9) rfl ?_);(with_reducible refine gate_callee (f:=90) rfl ?_);refine goesL_ (some 9) rfl rfl Try.func90 kz rfl #[.pointer (some ⟨g,0,none⟩),.int .i64 12] rfl am ?_;(with_reducible refine (spec_l20Cfg.calls kc g s 0 12 c0 c1 c2 c3 c4 p1 w _ HI.out HL.out.bel HCF.out).mono ?_);rintro e w_ ⟨rfl,hi_,hb_,hk_⟩;refine ⟨_,rfl,?_⟩;replace HL:=mk_ (Lok_keep HL.out hb_ hk_ (rd_ne HI.out HL.out (by rfl)));replace HI:=mk_ hi_;clear hi_ hb_ hk_)|((with_reducible refine gate_dst (N:=5) rfl ?_);refine loc_alloc2 rfl rfl tz66 HL.out ?_;intro gb5 w_ HL_ hb_ hg_;replace HI:=mk_ (HI.out.below hb_);replace HL:=mk_ HL_;clear HL_ hb_ hg_)|((with_reducible refine gate_dst (N:=2) rfl ?_);refine loc_alloc rfl rfl tz66 HL.out ?_;intro gb2 w_ HL_;replace HL:=mk_ HL_;clear HL_)|((with_reducible refine gate_dst (N:=3) rfl ?_);refine loc_alloc rfl rfl tz69 HL.out ?_;intro gb3 w_ HL_;replace HL:=mk_ HL_;clear HL_)|((with_reducible refine gate_ld0 rfl ?_);refine loc_load1 rfl rfl kz rfl HL.out sz ?_)|((with_reducible refine gate_st0 rfl ?_);refine tx_store rfl rfl rfl gz kz kz HL.out pz ?_;intro w_ HL_ hs_ hf_;replace HI:=mk_ (rd_same HI.out (hf_ _ (fun e_=>rd_ne HI.out HL.out (by rfl) _ (List.mem_cons_self) e_.symm)));replace HL:=mk_ HL_;clear HL_ hs_ hf_))
 refine start_ (n:=6) (S:=fun w'=>Lok w w' _) (ds:=[4,5]) (YteknaofnageihaaLoc.bm 6 0) kz rfl rfl HL.out.drew (fun hHeld=>?_)
 refine with_tabW fx58.tab3 fx58.bits3 (fun HT_ HW_=>?_)
 have HS:=mk_ hHeld
 clear hHeld
 replace HL:=mk_ HL.out.drew
 replace HI:=mk_ (HI.out.below (below_drew (Below.refl _ _)))
 revert HS HL HI
 generalize World.drew _=w8_
 intro HS HL HI
 refine qL 0 10 1 5 HT_ HW_ HS ?_
 refine qA 1 11 3 HT_ ?_
 refine qL 2 12 7 5 HT_ HW_ HS ?_
 refine qO 3 (some 13) 15 HT_ (fun K hK=>?_)
 refine goes_ Try.func91 kz rfl #[.pointer (some ⟨g,0,none⟩),.agg #[.int .i64 c0,.int .i64 c1,.int .i64 c2,.int .i64 c3,.int .i64 c4],.int .i64 2] rz rfl rfl am ?_
 refine (l20tx_calls g s p1 c0 c1 c2 c3 c4 2 HCR.out (by decide) hs HP.out w _ HI.out HL.out.bel).mono ?_
 rintro e w9_ ⟨v,t,rfl,⟨A2,k2,A4,k4,hv_,g2_,gk2_,g4_,gk4_⟩,sm_,hb_,hk_⟩
 subst hv_
 refine ⟨_,rfl,?_⟩
 have LT2:=mk_ (blk_lt (HL.out.blk (g:=gb2) hz))
 have LT3:=mk_ (blk_lt (HL.out.blk (g:=gb3) hz))
 have LTB:=mk_ HL.out.bel.size
 have K2:=mk_ gk2_
 have K4:=mk_ gk4_
 have SM:=mk_ sm_
 have HX:=mk_ (And.intro (Kd.F_mono (ok':=fun k_=>k_≠gb2∧k_≠gb3∧w.heap.size≤k_) g2_ (fun k_ h_=>by have h6:=LT3.out;have h7:=LT2.out;have h8:=LTB.out;exact ⟨by omega,by omega,by omega⟩)) (Kd.F_mono (ok':=fun k_=>k_≠gb2∧k_≠gb3∧w.heap.size≤k_) g4_ (fun k_ h_=>by have h6:=LT3.out;have h7:=LT2.out;have h8:=LTB.out;exact ⟨by omega,by omega,by omega⟩)))
 replace HL:=mk_ (Lok_keep HL.out hb_ hk_ (rd_ne HI.out HL.out (by rfl)))
 replace HS:=mk_ HL.out
 clear g2_ gk2_ g4_ gk4_ sm_ hb_ hk_ HI
 refine qK hK HS ?_;clear hK K
 refine qE 4 none 31 HT_ (fun K hK=>?_)
 refine store_step (by rfl) rfl rfl rfl gz kz kz HL.out pz ?_
 intro w9_ HL_ hs_ hf_
 replace HL:=mk_ HL_
 replace HX:=mk_ (And.intro (Kd.F_step HX.out.1 (fun j_ h_ _=>hf_ j_ (by first|exact h_.1|exact h_.2.1))) (Kd.F_step HX.out.2 (fun j_ h_ _=>hf_ j_ (by first|exact h_.1|exact h_.2.1))))
 clear HL_ hs_ hf_
 refine hK.out _ _ ?_;clear hK K
 refine qE 5 none 63 HT_ (fun K hK=>?_)
 refine store_step (by rfl) rfl rfl rfl gz kz kz HL.out pz ?_
 intro w9_ HL_ hs_ hf_
 replace HL:=mk_ HL_
 replace HX:=mk_ (And.intro (Kd.F_step HX.out.1 (fun j_ h_ _=>hf_ j_ (by first|exact h_.1|exact h_.2.1))) (Kd.F_step HX.out.2 (fun j_ h_ _=>hf_ j_ (by first|exact h_.1|exact h_.2.1))))
 clear HL_ hs_ hf_
 refine hK.out _ _ ?_;clear hK K
 refine qF HT_ ?_
 clear HT_ HW_ HS
 go_wp2
 refine bodyPost_ret (results_list (rs:=[.cell 2 66,.cell 3 69]) rfl (by simp) (.cell _ 66 _ (0,0) _ rfl (HL.out.blk hz) Try.underlying66 rfl kz (.cell _ 69 _ (0,0) _ rfl (HL.out.blk hz) Try.underlying69 rfl kz .nil))) rfl ?_
 exact mkTxK c0 c1 c2 c3 c4 t _ ez ⟨A2,k2,A4,k4,rfl,Kd.F_mono HX.out.1 (fun _ h_=>h_.2.2),K2.out,Kd.F_mono HX.out.2 (fun _ h_=>h_.2.2),K4.out⟩ SM.out HL.out.bel
theorem lit_at2 {P:Program} {ops:Array Oper} {o:Oper} {a:Act} {rest:List Oper} {Q:Exit→Act→World→Prop} {W:World} {cs:List Value} (hgd:o.guard=none) (hrun:(execOp a.eval o).run P W=.ok (.value (.slice (some ⟨W.heap.size,0,none⟩) 1 1)) (W.alloc (.cells cs.toArray 39))) (h:wpList P ops Q rest (a.put o.dst (.slice (some ⟨W.heap.size,0,none⟩) 1 1)) (W.alloc (.cells cs.toArray 39))):wpList P ops Q (o :: rest) a W:=Kd.event_run hgd hrun h
theorem sx_of {t:Tx} (h:Sm3 t):Sx t:=⟨⟨by have:=h.1.1;omega,fun x hx=>by have:=h.1.2 x hx;omega⟩,by have:=h.2.1;omega,fun x hx=>by have:=h.2.2 x hx;omega⟩
theorem sx_with {t:Tx} (a0 a8:Int) (h:Sm3 t):Sx ⟨a0,t.a1,t.fl,t.a3,t.q,t.a5,t.a6,t.a7,a8,t.a9⟩:=⟨(sx_of h).1,(sx_of h).2⟩
theorem sx_more {t:Tx} (h:Sm3 t):Sx ⟨t.a0,t.a1,t.fl++[(⟨0,0,[]⟩:S39)],t.a3,t.q,t.a5,t.a6,t.a7,t.a8,t.a9⟩:=by
 refine ⟨⟨by have:=h.1.1;simp only [List.length_append,List.length_singleton];omega,fun x hx=>?_⟩,(sx_of h).2⟩
 rcases List.mem_append.1 hx with hx|hx
 ·exact (sx_of h).1.2 x hx
 ·rw [List.mem_singleton.1 hx];simp
theorem lok_bel {w wb W:World} {H:List Blk} (h:Lok wb W H) (hb:Below w.heap.size w wb):Below w.heap.size w W:=(Lok_base h hb).bel
set_option maxHeartbeats 60000000 in
set_option maxRecDepth 100000 in
theorem lawok_calls (A0:Option Addr) (z0:Nat) (l0:List Int) (hw:∀ x ∈ l0,(Lit.int .u8 x).wf=true) (w:World) (hr0:Kd.C (Kd.int .u8) w A0 l0.length l0) (hc0:l0.length≤z0):Calls Try.prog 12 #[.slice A0 l0.length z0] w fun e w'=>e=.returned (.bool true)∧Below w.heap.size w w':=by
 have HL:=mk_ (Lok.start w)
 have HR:=mk_ hr0
 have HZ:=mk_ hc0
 clear hr0 hc0
 by_cases c:1048576<l0.length
 ·have cb:decide (1048576<(l0.length:Int))=true:=decide_eq_true (by omega)
  have cb2:decide (1048576<l0.length)=true:=decide_eq_true c
  go_enter Try.func12,Try.ntmps12
  go_wp2_with (first|((with_reducible refine gate_gd rfl ?_);first|((with_reducible refine gd_on rfl ?_ ?_);rfl;dsimp only)|((with_reducible refine gd_off rfl ?_ ?_);rfl)))
  go_ret
  exact ⟨by first|rfl|(simp [errW_none,errW_some] <;> rfl)|(simp [*,errW_none,errW_some] <;> rfl),HL.out.bel⟩
 have cb:decide (1048576<(l0.length:Int))=false:=decide_eq_false (by omega)
 have cb2:decide (1048576<l0.length)=false:=decide_eq_false c
 go_enter Try.func12,Try.ntmps12
 go_upto_region 4 with (first|((with_reducible refine gate_gd rfl ?_);first|((with_reducible refine gd_on rfl ?_ ?_);rfl;dsimp only)|((with_reducible refine gd_off rfl ?_ ?_);rfl))|((with_reducible refine gate_dst (N:=14) rfl ?_);(with_reducible refine gate_callee (f:=58) rfl ?_);refine goesL_ (some 14) rfl rfl Try.func58 kz rfl #[.slice A0 l0.length z0] rfl am ?_;(refine (drawok_calls A0 z0 l0 hw _ (Kd.C_below HR.out HL.out.bel) HZ.out).mono ?_);rintro e wb ⟨c0,c1,c2,c3,c4,v,t,rfl,ht_,sm_,hb_⟩;obtain ⟨t0,t1,fl,t3,q,t5,t6,t7,t8,t9⟩:=t;obtain ⟨A2,k2,A4,k4,rfl,g2_,gk2_,g4_,gk4_⟩:=ht_;refine ⟨_,rfl,?_⟩;dsimp only at g2_ gk2_ g4_ gk4_ ⊢;have K2:=mk_ gk2_;have K4:=mk_ gk4_;have SM:=mk_ sm_;have HF:=mk_ (Kd.F_mono (ok':=fun k_=>k_<wb.heap.size) (Kd.F_bound g2_) (fun _ h_=>h_.2));have H2:=mk_ (Kd.F_now g2_);have H4:=mk_ (Kd.F_now g4_);have HB0:=mk_ (HL.out.call hb_).bel;clear HL;have HL:=mk_ (Lok.start wb);clear g2_ gk2_ g4_ gk4_ sm_ hb_)|((with_reducible refine gate_dst (N:=3) rfl ?_);refine loc_alloc rfl rfl tz66 HL.out ?_;intro gb3 w_ HL_;replace HL:=mk_ HL_;clear HL_)|((with_reducible refine gate_dst (N:=4) rfl ?_);refine loc_alloc rfl rfl tz69 HL.out ?_;intro gb4 w_ HL_;replace HL:=mk_ HL_;clear HL_)|((with_reducible refine gate_ld0 (t:=66) rfl ?_);refine loc_load (n:=5) rfl rfl kz rfl kz HL.out sz ?_)|((with_reducible refine gate_ld0 (t:=69) rfl ?_);refine loc_load (n:=10) rfl rfl kz rfl kz HL.out sz ?_)|((with_reducible refine gate_ld0 rfl ?_);refine loc_load1 rfl rfl kz rfl HL.out sz ?_)|((with_reducible refine gate_st0 rfl ?_);refine loc_store rfl rfl rfl gz kz kz HL.out pz ?_;intro w_ HL_;replace HL:=mk_ HL_;clear HL_))
 obtain ⟨b,hb⟩:∃ b,b=TI c0 c1 c2 c3 c4 ⟨t0,t1,fl,t3,q,t5,t6,t7,t8,t9⟩:=⟨_,rfl⟩
 obtain ⟨k1_,h1⟩:=p_impl c0 c1 c2 c3 c4 ⟨t0,t1,fl,t3,q,t5,t6,t7,t8,t9⟩ (sx_of SM.out)
 obtain ⟨k2_,h2⟩:=p_spec c0 c1 c2 c3 c4 ⟨t0,t1,fl,t3,q,t5,t6,t7,t8,t9⟩ (sx_of SM.out)
 rw [← hb] at h1 h2
 dsimp only at h1 h2
 have P1:=mk_ h1
 have P2:=mk_ h2
 have PB:=mk_ hb
 clear h1 h2 hb
 cases b
 ·go_wp2_with (first|((with_reducible refine gate_gd rfl ?_);first|((with_reducible refine gd_on rfl ?_ ?_);rfl;dsimp only)|((with_reducible refine gd_off rfl ?_ ?_);rfl))|((with_reducible refine gate_dst (N:=19) rfl ?_);(with_reducible refine gate_callee (f:=51) rfl ?_);refine goesL_ (some 19) rfl rfl Try.func51 kz rfl #[.agg #[.int .i64 c0,.int .i64 c1,.int .i64 c2,.int .i64 c3,.int .i64 c4],.agg #[.int .i64 t0,.int .i64 t1,.slice A2 fl.length k2,.int .i64 t3,.slice A4 q.length k4,.bool t5,.int .i64 t6,.bool t7,.int .i64 t8,.bool t9]] rfl am ?_;(with_reducible refine (impl_TxOk.calls k1_ c0 c1 c2 c3 c4 t0 t1 A2 k2 fl t3 A4 k4 q t5 t6 t7 t8 t9 false _ (Kd.C_below H2.out HL.out.bel) K2.out (Kd.C_below H4.out HL.out.bel) K4.out P1.out).mono ?_);rintro e w_ ⟨rfl,hb_⟩;refine ⟨_,rfl,?_⟩;replace HL:=mk_ (HL.out.call hb_);clear hb_)|((with_reducible refine gate_dst (N:=23) rfl ?_);(with_reducible refine gate_callee (f:=48) rfl ?_);refine goesL_ (some 23) rfl rfl Try.func48 kz rfl #[.agg #[.int .i64 c0,.int .i64 c1,.int .i64 c2,.int .i64 c3,.int .i64 c4],.agg #[.int .i64 t0,.int .i64 t1,.slice A2 fl.length k2,.int .i64 t3,.slice A4 q.length k4,.bool t5,.int .i64 t6,.bool t7,.int .i64 t8,.bool t9]] rfl am ?_;(with_reducible refine (spec_TxOk.calls k2_ c0 c1 c2 c3 c4 t0 t1 A2 k2 fl t3 A4 k4 q t5 t6 t7 t8 t9 false _ (Kd.C_below H2.out HL.out.bel) K2.out (Kd.C_below H4.out HL.out.bel) K4.out P2.out).mono ?_);rintro e w_ ⟨rfl,hb_⟩;refine ⟨_,rfl,?_⟩;replace HL:=mk_ (HL.out.call hb_);clear hb_)|((with_reducible refine gate_dst (N:=27) rfl ?_);(with_reducible refine gate_callee (f:=25) rfl ?_);refine goesL_ (some 27) rfl rfl Try.func25 kz rfl #[] rfl am ?_;(with_reducible refine (laws_liOk.calls true _ liOk_true).mono ?_);rintro e w_ ⟨rfl,hb_⟩;refine ⟨_,rfl,?_⟩;replace HL:=mk_ (HL.out.call hb_);clear hb_)|((with_reducible refine gate_ld0 (t:=66) rfl ?_);refine loc_load (n:=5) rfl rfl kz rfl kz HL.out sz ?_)|((with_reducible refine gate_ld0 (t:=69) rfl ?_);refine loc_load (n:=10) rfl rfl kz rfl kz HL.out sz ?_)|((with_reducible refine gate_ld0 rfl ?_);refine loc_load1 rfl rfl kz rfl HL.out sz ?_)|((with_reducible refine gate_st0 rfl ?_);refine loc_store rfl rfl rfl gz kz kz HL.out pz ?_;intro w_ HL_;replace HL:=mk_ HL_;clear HL_))
  go_ret
  exact ⟨by first|rfl|(simp [errW_none,errW_some] <;> rfl)|(simp [*,errW_none,errW_some] <;> rfl),lok_bel HL.out HB0.out⟩
 have hT:=PB.out.symm
 obtain ⟨k3_,h3⟩:=p_impl c0 c1 c2 c3 c4 _ (sx_with (Int.tmod (wrap64 (t0+1)) 8) t8 SM.out)
 obtain ⟨k5_,h5⟩:=p_impl c0 c1 c2 c3 c4 _ (sx_with t0 (wrap64 (t8+1)) SM.out)
 obtain ⟨k4_,h4⟩:=p_impl c0 c1 c2 c3 c4 _ (sx_more SM.out)
 dsimp only at h3 h4 h5
 rw [TI_next hT] at h3
 rw [TI_count hT] at h5
 rw [TI_more _ hT] at h4
 have cb9:decide ((fl.length:Int)≤c1)=true:=decide_eq_true (TI_get hT).2.2.2.1
 obtain ⟨fy,hfy⟩:∃ z,z=fl++[(⟨0,0,[]⟩:S39)]:=⟨_,rfl⟩
 rw [← hfy] at h4
 have P3:=mk_ h3
 have P4:=mk_ h4
 have P5:=mk_ h5
 have HFY:=mk_ hfy
 clear h3 h4 h5 hfy hT PB
 go_upto_region 12 with (first|((with_reducible refine gate_gd rfl ?_);first|((with_reducible refine gd_on rfl ?_ ?_);rfl;dsimp only)|((with_reducible refine gd_off rfl ?_ ?_);rfl))|((with_reducible refine gate_dst (N:=19) rfl ?_);(with_reducible refine gate_callee (f:=51) rfl ?_);refine goesL_ (some 19) rfl rfl Try.func51 kz rfl #[.agg #[.int .i64 c0,.int .i64 c1,.int .i64 c2,.int .i64 c3,.int .i64 c4],.agg #[.int .i64 t0,.int .i64 t1,.slice A2 fl.length k2,.int .i64 t3,.slice A4 q.length k4,.bool t5,.int .i64 t6,.bool t7,.int .i64 t8,.bool t9]] rfl am ?_;(with_reducible refine (impl_TxOk.calls k1_ c0 c1 c2 c3 c4 t0 t1 A2 k2 fl t3 A4 k4 q t5 t6 t7 t8 t9 true _ (Kd.C_below H2.out HL.out.bel) K2.out (Kd.C_below H4.out HL.out.bel) K4.out P1.out).mono ?_);rintro e w_ ⟨rfl,hb_⟩;refine ⟨_,rfl,?_⟩;replace HL:=mk_ (HL.out.call hb_);clear hb_)|((with_reducible refine gate_dst (N:=23) rfl ?_);(with_reducible refine gate_callee (f:=48) rfl ?_);refine goesL_ (some 23) rfl rfl Try.func48 kz rfl #[.agg #[.int .i64 c0,.int .i64 c1,.int .i64 c2,.int .i64 c3,.int .i64 c4],.agg #[.int .i64 t0,.int .i64 t1,.slice A2 fl.length k2,.int .i64 t3,.slice A4 q.length k4,.bool t5,.int .i64 t6,.bool t7,.int .i64 t8,.bool t9]] rfl am ?_;(with_reducible refine (spec_TxOk.calls k2_ c0 c1 c2 c3 c4 t0 t1 A2 k2 fl t3 A4 k4 q t5 t6 t7 t8 t9 true _ (Kd.C_below H2.out HL.out.bel) K2.out (Kd.C_below H4.out HL.out.bel) K4.out P2.out).mono ?_);rintro e w_ ⟨rfl,hb_⟩;refine ⟨_,rfl,?_⟩;replace HL:=mk_ (HL.out.call hb_);clear hb_)|((with_reducible refine gate_dst (N:=31) rfl ?_);(with_reducible refine gate_callee (f:=59) rfl ?_);refine goesL_ (some 31) rfl rfl Try.func59 kz rfl #[.int .i64 t0] rfl am ?_;(with_reducible refine (impl_NumNext.calls t0 _ _ rfl).mono ?_);rintro e w_ ⟨rfl,hb_⟩;refine ⟨_,rfl,?_⟩;replace HL:=mk_ (HL.out.call hb_.below);clear hb_)|((with_reducible refine gate_dst (N:=6) rfl ?_);refine loc_alloc rfl rfl tz69 HL.out ?_;intro gb6 w_ HL_;replace HL:=mk_ HL_;clear HL_)|((with_reducible refine gate_dst (N:=7) rfl ?_);refine loc_alloc rfl rfl tz69 HL.out ?_;intro gb7 w_ HL_;replace HL:=mk_ HL_;clear HL_)|((with_reducible refine gate_ld0 (t:=66) rfl ?_);refine loc_load (n:=5) rfl rfl kz rfl kz HL.out sz ?_)|((with_reducible refine gate_ld0 (t:=69) rfl ?_);refine loc_load (n:=10) rfl rfl kz rfl kz HL.out sz ?_)|((with_reducible refine gate_ld0 rfl ?_);refine loc_load1 rfl rfl kz rfl HL.out sz ?_)|((with_reducible refine gate_st0 rfl ?_);refine loc_store rfl rfl rfl gz kz kz HL.out pz ?_;intro w_ HL_;replace HL:=mk_ HL_;clear HL_))
 go_wp2_with (first|((with_reducible refine gate_gd rfl ?_);first|((with_reducible refine gd_on rfl ?_ ?_);rfl;dsimp only)|((with_reducible refine gd_off rfl ?_ ?_);rfl))|((with_reducible refine gate_dst (N:=34) rfl ?_);refine Kd.N_lit k39 (w0:=wb) wb.heap.size 39 rfl (N':=34) rfl (xs:=([]:List S39)) (inner:=[]) (ok:=(fun k_=>k_≠gb3∧k_≠gb4∧k_≠gb6∧k_≠gb7)) (okp:=fun _=>False) gz (Reps.none _ _) (fun _ h_=>h_.elim) ?aF HL.out.bel HL.out.bel.size (by simp) ?_;(case aF=>have h39:=blk_lt (HL.out.blk (g:=gb3) hz);have h49:=blk_lt (HL.out.blk (g:=gb4) hz);have h69:=blk_lt (HL.out.blk (g:=gb6) hz);have h79:=blk_lt (HL.out.blk (g:=gb7) hz);exact ⟨by omega,by omega,by omega,by omega⟩);intro v34 w_ ho_ hb_ hg_ hat_;have HN:=mk_ ho_;have GE:=mk_ (show ∀ k_,k_<wb.heap.size→some k_≠v34.ownBlock from fun k_ h_ e_=>by obtain ⟨g34,hown_,hge_⟩:=hat_;rw [hown_] at e_;have h5:=HL.out.bel.size;have h6:=Option.some.inj e_;omega);replace HL:=mk_ (Lok_grown HL.out hb_ hg_ (fun b_ hb9 he_=>by simp at he_));clear ho_ hb_ hg_ hat_)|((with_reducible refine gate_dst (N:=37) rfl ?_);refine Kd.N_append_rows k39 (w0:=wb) wb.heap.size rfl (.tmp 34) (.tmp 36) 23 39 (.agg #[(.int .i64 0),(.int .i64 0),(.slice none 0 0)]) 40 rfl Try.underlying23 info39 rfl (by decide) (by decide) v34 [] fl A2 fl.length k2 (fun k_=>k_≠gb3∧k_≠gb4∧k_≠gb6∧k_≠gb7) (fun k_=>k_<wb.heap.size) rfl rfl HN.out (Kd.F_below HF.out HL.out.bel) ?aP ?aF HL.out.bel HL.out.bel.size ?aL ?_;(case aP=>exact (fun k_ h_=>⟨by have h39:=Lok_ge HL.out (g:=gb3) hz;have h49:=Lok_ge HL.out (g:=gb4) hz;have h69:=Lok_ge HL.out (g:=gb6) hz;have h79:=Lok_ge HL.out (g:=gb7) hz;exact ⟨by omega,by omega,by omega,by omega⟩,GE.out k_ h_⟩));(case aF=>exact (fun k_ h_=>by have h39:=blk_lt (HL.out.blk (g:=gb3) hz);have h49:=blk_lt (HL.out.blk (g:=gb4) hz);have h69:=blk_lt (HL.out.blk (g:=gb6) hz);have h79:=blk_lt (HL.out.blk (g:=gb7) hz);exact ⟨by omega,by omega,by omega,by omega⟩));(case aL=>have h8:=SM.out.1.1;dsimp only at h8;simp only [List.length_nil];omega);intro v37 w_ ho_ hb_ hg_ hat_;rw [List.nil_append] at ho_;replace HL:=mk_ (Lok_grown HL.out hb_ hg_ (fun b_ hb9 he_=>by have h9:=HN.out.1 b_.1 he_.symm;simp only [List.mem_cons,List.not_mem_nil,or_false] at hb9;rcases hb9 with rfl|rfl|rfl|rfl <;> first|exact h9.1 rfl|exact h9.2.1 rfl|exact h9.2.2.1 rfl|exact h9.2.2.2 rfl));replace HN:=mk_ ho_;clear ho_ hb_ hg_ hat_)|((with_reducible refine gate_dst (N:=39) rfl ?_);refine lit_at2 (cs:=[.int .i64 0,.int .i64 0,.slice none 0 0]) rfl gz ?_)|((with_reducible refine gate_dst (N:=40) rfl ?_);refine Kd.N_append k39 (w0:=wb) wb.heap.size rfl (.tmp 37) (.tmp 39) 23 39 (.agg #[(.int .i64 0),(.int .i64 0),(.slice none 0 0)]) 40 rfl Try.underlying23 info39 rfl (by decide) (by decide) v37 fl (⟨0,0,[]⟩:S39) [.int .i64 0,.int .i64 0,.slice none 0 0] (fun k_=>k_≠gb3∧k_≠gb4∧k_≠gb6∧k_≠gb7) (fun _=>False) rfl rfl ?aP (fun _ h_=>h_.elim) ?aF ?aO ?aB ?aS ?aL ?_;(case aP=>exact k39_mkF _ _ (⟨0,0,[]⟩:S39) (A2:=none) (c2:=0) (Nat.le_refl 0) (Kd.F_nil _ _ _));(case aF=>exact (fun k_ h_=>by have h39:=blk_lt (HL.out.blk (g:=gb3) hz);have h49:=blk_lt (HL.out.blk (g:=gb4) hz);have h69:=blk_lt (HL.out.blk (g:=gb6) hz);have h79:=blk_lt (HL.out.blk (g:=gb7) hz);exact ⟨by omega,by omega,by omega,by omega⟩));(case aO=>exact HN.out);(case aB=>exact HL.out.bel);(case aS=>exact HL.out.bel.size);(case aL=>have h8:=SM.out.1.1;dsimp only at h8;omega);intro v1 w_ ho_ hb_ hg_ hat_;rw [← HFY.out] at ho_;obtain ⟨A7,k7,hv7⟩:=Kd.N_slice ho_;subst hv7;have KY:=mk_ (Kd.N_reads' ho_).2.1;have HY:=mk_ (Kd.F_mono (ok':=fun k_=>k_≠gb7) (Kd.N_F ho_) (fun k_ h_=>h_.2.2.2));replace HL:=mk_ (Lok_grown HL.out hb_ hg_ (fun b_ hb9 he_=>by have h9:=HN.out.1 b_.1 he_.symm;simp only [List.mem_cons,List.not_mem_nil,or_false] at hb9;rcases hb9 with rfl|rfl|rfl|rfl <;> first|exact h9.1 rfl|exact h9.2.1 rfl|exact h9.2.2.1 rfl|exact h9.2.2.2 rfl));clear HN ho_ hb_ hg_ hat_)|((with_reducible refine gate_dst (N:=8) rfl ?_);refine loc_alloc2 rfl rfl tz69 HL.out ?_;intro gb8 w_ HL_ hb_ hg_;replace HY:=mk_ (Kd.F_mono (ok':=fun k_=>k_≠gb7∧k_≠gb8) (Kd.F_below (Kd.F_bound HY.out) hb_) (fun k_ h_=>⟨h_.1,by have h9:=h_.2;omega⟩));replace HL:=mk_ HL_;clear HL_ hb_ hg_)|((with_reducible refine gate_dst (N:=49) rfl ?_);(with_reducible refine gate_callee (f:=51) rfl ?_);refine goesL_ (some 49) rfl rfl Try.func51 kz rfl #[.agg #[.int .i64 c0,.int .i64 c1,.int .i64 c2,.int .i64 c3,.int .i64 c4],.agg #[.int .i64 (Int.tmod (wrap64 (t0+1)) 8),.int .i64 t1,.slice A2 fl.length k2,.int .i64 t3,.slice A4 q.length k4,.bool t5,.int .i64 t6,.bool t7,.int .i64 t8,.bool t9]] rfl am ?_;(with_reducible refine (impl_TxOk.calls k3_ c0 c1 c2 c3 c4 (Int.tmod (wrap64 (t0+1)) 8) t1 A2 k2 fl t3 A4 k4 q t5 t6 t7 t8 t9 false _ (Kd.C_below H2.out HL.out.bel) K2.out (Kd.C_below H4.out HL.out.bel) K4.out P3.out).mono ?_);rintro e w_ ⟨rfl,hb_⟩;refine ⟨_,rfl,?_⟩;replace HY:=mk_ (Kd.F_below HY.out hb_);replace HL:=mk_ (HL.out.call hb_);clear hb_)|((with_reducible refine gate_dst (N:=54) rfl ?_);(with_reducible refine gate_callee (f:=51) rfl ?_);refine goesL_ (some 54) rfl rfl Try.func51 kz rfl #[.agg #[.int .i64 c0,.int .i64 c1,.int .i64 c2,.int .i64 c3,.int .i64 c4],.agg #[.int .i64 t0,.int .i64 t1,.slice A7 fy.length k7,.int .i64 t3,.slice A4 q.length k4,.bool t5,.int .i64 t6,.bool t7,.int .i64 t8,.bool t9]] rfl am ?_;(with_reducible refine (impl_TxOk.calls k4_ c0 c1 c2 c3 c4 t0 t1 A7 k7 fy t3 A4 k4 q t5 t6 t7 t8 t9 false _ (Kd.F_now HY.out) KY.out (Kd.C_below H4.out HL.out.bel) K4.out P4.out).mono ?_);rintro e w_ ⟨rfl,hb_⟩;refine ⟨_,rfl,?_⟩;replace HY:=mk_ (Kd.F_below HY.out hb_);replace HL:=mk_ (HL.out.call hb_);clear hb_)|((with_reducible refine gate_dst (N:=60) rfl ?_);(with_reducible refine gate_callee (f:=51) rfl ?_);refine goesL_ (some 60) rfl rfl Try.func51 kz rfl #[.agg #[.int .i64 c0,.int .i64 c1,.int .i64 c2,.int .i64 c3,.int .i64 c4],.agg #[.int .i64 t0,.int .i64 t1,.slice A2 fl.length k2,.int .i64 t3,.slice A4 q.length k4,.bool t5,.int .i64 t6,.bool t7,.int .i64 (wrap64 (t8+1)),.bool t9]] rfl am ?_;(with_reducible refine (impl_TxOk.calls k5_ c0 c1 c2 c3 c4 t0 t1 A2 k2 fl t3 A4 k4 q t5 t6 t7 (wrap64 (t8+1)) t9 false _ (Kd.C_below H2.out HL.out.bel) K2.out (Kd.C_below H4.out HL.out.bel) K4.out P5.out).mono ?_);rintro e w_ ⟨rfl,hb_⟩;refine ⟨_,rfl,?_⟩;replace HY:=mk_ (Kd.F_below HY.out hb_);replace HL:=mk_ (HL.out.call hb_);clear hb_)|((with_reducible refine gate_ld0 (t:=66) rfl ?_);refine loc_load (n:=5) rfl rfl kz rfl kz HL.out sz ?_)|((with_reducible refine gate_ld0 (t:=69) rfl ?_);refine loc_load (n:=10) rfl rfl kz rfl kz HL.out sz ?_)|((with_reducible refine gate_ld0 rfl ?_);refine loc_load1 rfl rfl kz rfl HL.out sz ?_)|((with_reducible refine gate_st0 rfl ?_);refine tx_store rfl rfl rfl gz kz kz HL.out pz ?_;intro w_ HL_ hs_ hf_;replace HL:=mk_ HL_;replace HY:=mk_ (Kd.F_step HY.out (fun j_ h_ _=>hf_ j_ (by first|exact h_|exact h_.1|exact h_.2)));clear HL_ hs_ hf_))
 go_ret
 exact ⟨by first|rfl|(simp [errW_none,errW_some] <;> rfl)|(simp [*,errW_none,errW_some] <;> rfl),lok_bel HL.out HB0.out⟩
theorem laws_FnTxOk.walk (a0:Option Addr) (len0 cap0:Nat) (z0:List Int) (w:World) (w0:(a0=none∧len0=0∧cap0=0∧z0=[])∨∃ x,a0=some x∧len0≤cap0∧cap0≤maxLen∧z0.length=cap0∧(∀ i,i<z0.length→w.cell? (x.add i)=some (.int .u8 (z0.getD i 0)))∧∀ n ∈ z0,(Lit.int .u8 n).wf=true) (y0:len0 * 1≤140737488351232) :
  Calls Try.prog 12 #[.slice a0 len0 cap0] w fun e w'=>e=.returned (.bool true)∧Below w.heap.size w w':=by
 obtain ⟨l0,rfl,hr0,hm0,hw0,hc0⟩:=ReadsInt.ofRowC w0
 exact lawok_calls _ _ l0 hw0 w (Kd.C_of_reads (d:=(0:Int)) (h1:=fun _=>rfl) hr0) hc0
end Go.Proofs.Yteknaofnageihaa.QFnTxOk
