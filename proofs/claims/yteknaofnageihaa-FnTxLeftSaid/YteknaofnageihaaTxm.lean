-- Texts by hand for FnTxLeft, FnTxOk.
import Derived.Test.YteknaofnageihaaTxl
import Derived.Test.YteknaofnageihaaQFnTxLeftx3
import Derived.Test.YteknaofnageihaaQFnTxLeftx4
import Derived.Test.YteknaofnageihaaQFnTxLeftx7
import Derived.Test.YteknaofnageihaaQFnTxLeftx35
import Derived.Test.YteknaofnageihaaQFnTxLeftx36
namespace Go.Proofs.Yteknaofnageihaa.QFnTxLeft
open Go.RowKit Go.Proofs.YteknaofnageihaaW.PrintWords Go.Proofs.YteknaofnageihaaW.PrintLast Go.Proofs.YteknaofnageihaaW.PrintMore Go.Proofs.YteknaofnageihaaLoc
attribute [local go_sem] max2_int min2_int max_two min_two max_three min_three max_four min_four   -- for this text's walks alone
set_option linter.unusedVariables false
set_option linter.unusedSimpArgs false
open Go.Proofs.Yteknaofnageihaa.Pure
theorem Lok_keep {w0 w w1:World} {g:Nat} {H:List Blk} (h:Lok w0 w H) (hb:Below w0.heap.size w0 w1) (hk:KeepBut w w1 g none) (hne:∀ b ∈ H,b.1≠g):Lok w0 w1 H :=
 ⟨hb,fun x hx=>⟨hk.blk (h.all x hx).1 (hne x hx) (by simp),(h.all x hx).2⟩,h.ne⟩
theorem rd_ne {w0 w W:World} {g:Nat} {s:List Int} {p:Int} {H:List Blk} (hi:IsS113 w0 W g s p) (h:Lok w W H) (ht:H.all (fun b=>b.2.2 != 113)=true):∀ b ∈ H,b.1≠g:=by
 intro b hb e
 obtain ⟨A0,c0,hg,_,_⟩:=hi
 have h1:=(h.all b hb).1
 rw [e,hg] at h1
 simp only [Option.some.injEq,Obj.cells.injEq] at h1
 have h9:=List.all_eq_true.mp ht b hb
 rw [← h1.2.1] at h9
 exact absurd h9 (by decide)
def TxL (w:World):Ending→World→Prop:=fun e w'=>∃ v t,e=.returned v∧Txf w' (fun k=>w.heap.size≤k) t v∧Sm3 t∧Below w.heap.size w w'
theorem mkTxL {w w':World} {e:Ending} (t:Tx) (v:Value) (h:e=.returned v) (h1:Txf w' (fun k=>w.heap.size≤k) t v) (hs:Sm3 t) (h2:Below w.heap.size w w'):TxL w e w':=⟨v,t,h,h1,hs,h2⟩
set_option maxHeartbeats 60000000 in
set_option maxRecDepth 100000 in
theorem drawleft_calls (A0:Option Addr) (z0:Nat) (l0:List Int) (hw:∀ x ∈ l0,(Lit.int .u8 x).wf=true) (w:World) (hr0:Kd.C (Kd.int .u8) w A0 l0.length l0) (hc0:l0.length≤z0):Calls Try.prog 61 #[.slice A0 l0.length z0] w (TxL w):=by
 have HL:=mk_ (Lok.start w)
 obtain ⟨s,hop,hs⟩:=open_ok l0 hw
 have HO:=mk_ hop
 have HR:=mk_ hr0
 have HZ:=mk_ hc0
 clear hop hr0 hc0
 obtain ⟨kc,⟨c0,c1,c2,c3,c4,p1⟩,hcf,⟨hp0,hp1⟩,hcr,_⟩:=(cfg_ok hs (p:=0) (by decide) 0 (by decide)).got
 dsimp only at hp0 hp1 hcr
 have HCF:=mk_ hcf
 have HP:=mk_ (show 0≤p1∧p1≤1000 by omega)
 have HCR:=mk_ hcr
 clear hcf hp0 hp1 hcr
 go_enter Try.func61,Try.ntmps61
 go_wp2_with (first|((with_reducible refine gate_gd rfl ?_);first|((with_reducible refine gd_on rfl ?_ ?_);rfl;dsimp only)|((with_reducible refine gd_off rfl ?_ ?_);rfl))|((with_reducible refine gate_dst (N:=5) rfl ?_);(with_reducible refine gate_callee (f:=68) rfl ?_);refine goesL_ (some 5) rfl rfl Try.func68 kz rfl #[.slice A0 l0.length z0] rfl am ?_;(with_reducible refine (spec_l20Open.calls A0 z0 l0 s 0 w _ HL.out.bel HR.out HZ.out HO.out).mono ?_);rintro e w_ ⟨g,rfl,hi_,hb_,hb2_⟩;refine ⟨_,rfl,?_⟩;replace HL:=mk_ (HL.out.call hb2_);have HI:=mk_ hi_;clear hi_ hb_ hb2_)|((with_reducible refine gate_dst (N:=8) rfl ?_);(with_reducible refine gate_callee (f:=90) rfl ?_);refine goesL_ (some 8) rfl rfl Try.func90 kz rfl #[.pointer (some ⟨g,0,none⟩),.int .i64 0] rfl am ?_;(with_reducible refine (spec_l20Cfg.calls kc g s 0 0 c0 c1 c2 c3 c4 p1 w _ HI.out HL.out.bel HCF.out).mono ?_);rintro e w_ ⟨rfl,hi_,hb_,hk_⟩;refine ⟨_,rfl,?_⟩;replace HL:=mk_ (Lok_keep HL.out hb_ hk_ (rd_ne HI.out HL.out (by rfl)));replace HI:=mk_ hi_;clear hi_ hb_ hk_)|((with_reducible refine gate_dst (N:=9) rfl ?_);(with_reducible refine gate_callee (f:=91) rfl ?_);refine goesL_ (some 9) rfl rfl Try.func91 kz rfl #[.pointer (some ⟨g,0,none⟩),.agg #[.int .i64 c0,.int .i64 c1,.int .i64 c2,.int .i64 c3,.int .i64 c4],.int .i64 6] rfl am ?_;(refine (l20tx_calls g s p1 c0 c1 c2 c3 c4 6 HCR.out (by decide) hs HP.out w _ HI.out HL.out.bel).mono ?_);rintro e w_ ⟨v,t,rfl,⟨A2,k2,A4,k4,hv_,g2_,gk2_,g4_,gk4_⟩,sm_,hb_,hk_⟩;subst hv_;refine ⟨_,rfl,?_⟩;have LT2:=mk_ (blk_lt (HL.out.blk (g:=gb2) hz));have LTB:=mk_ HL.out.bel.size;have K2:=mk_ gk2_;have K4:=mk_ gk4_;have SM:=mk_ sm_;have HX:=mk_ (And.intro (Kd.F_mono (ok':=fun k_=>k_≠gb2∧w.heap.size≤k_) g2_ (fun k_ h_=>by have h7:=LT2.out;have h8:=LTB.out;exact ⟨by omega,by omega⟩)) (Kd.F_mono (ok':=fun k_=>k_≠gb2∧w.heap.size≤k_) g4_ (fun k_ h_=>by have h7:=LT2.out;have h8:=LTB.out;exact ⟨by omega,by omega⟩)));replace HL:=mk_ (Lok_keep HL.out hb_ hk_ (rd_ne HI.out HL.out (by rfl)));clear g2_ gk2_ g4_ gk4_ sm_ hb_ hk_ HI)|((with_reducible refine gate_dst (N:=2) rfl ?_);refine loc_alloc rfl rfl tz69 HL.out ?_;intro gb2 w_ HL_;replace HL:=mk_ HL_;clear HL_)|((with_reducible refine gate_ld0 rfl ?_);refine loc_load1 rfl rfl kz rfl HL.out sz ?_)|((with_reducible refine gate_st0 rfl ?_);refine tx_store rfl rfl rfl gz kz kz HL.out pz ?_;intro w_ HL_ hs_ hf_;replace HL:=mk_ HL_;replace HX:=mk_ (And.intro (Kd.F_step HX.out.1 (fun j_ h_ _=>hf_ j_ h_.1)) (Kd.F_step HX.out.2 (fun j_ h_ _=>hf_ j_ h_.1)));clear HL_ hs_ hf_))
 refine bodyPost_ret (results_cell_row rfl _ _ _ 69 _ (0,0) _ rfl (HL.out.blk hz) Try.underlying69 rfl kz) rfl ?_
 exact mkTxL t _ ez ⟨A2,k2,A4,k4,rfl,Kd.F_mono HX.out.1 (fun _ h_=>h_.2),K2.out,Kd.F_mono HX.out.2 (fun _ h_=>h_.2),K4.out⟩ SM.out HL.out.bel
theorem loc_alloc2 {P:Program} {ops:Array Oper} {o:Oper} {a:Act} {ty:TypeId} {rest:List Oper} {Q:Exit→Act→World→Prop} {w0 w:World} {H:List Blk} {cs:List Value} (hgd:o.guard=none) (ho:o.op=.alloc ty) (hy:((P.info? ty).bind (·.zero)).map (·.cells.toList)=some cs) (HL:Lok w0 w H) (h:∀ g w',Lok w0 w' ((g,cs,ty) :: H)→Below w.heap.size w w'→g=w.heap.size→wpList P ops Q rest (a.put o.dst (.pointer (some ⟨g,0,none⟩))) w'):wpList P ops Q (o :: rest) a w :=
 Kd.event_run hgd (loc_alloc_run ho hy w) (h _ _ (HL.new cs ty) (below_alloc (Below.refl _ _) _) rfl)
theorem liOk_true:laws_liOk.f=some true:=by
 unfold laws_liOk.f
 rw [show impl_CfgOk.f 1 1 1 1 1=some true by decide]
 rfl
set_option maxHeartbeats 60000000 in
set_option maxRecDepth 100000 in
theorem lawleft_calls (A0:Option Addr) (z0:Nat) (l0:List Int) (hw:∀ x ∈ l0,(Lit.int .u8 x).wf=true) (w:World) (hr0:Kd.C (Kd.int .u8) w A0 l0.length l0) (hc0:l0.length≤z0):Calls Try.prog 14 #[.slice A0 l0.length z0] w fun e w'=>e=.returned (.bool true)∧Below w.heap.size w w':=by
 have HL:=mk_ (Lok.start w)
 have HR:=mk_ hr0
 have HZ:=mk_ hc0
 clear hr0 hc0
 by_cases c:1048576<l0.length
 ·have cb:decide (1048576<(l0.length:Int))=true:=decide_eq_true (by omega)
  have cb2:decide (1048576<l0.length)=true:=decide_eq_true c
  go_enter Try.func14,Try.ntmps14
  go_wp2_with (first|((with_reducible refine gate_gd rfl ?_);first|((with_reducible refine gd_on rfl ?_ ?_);rfl;dsimp only)|((with_reducible refine gd_off rfl ?_ ?_);rfl))|((with_reducible refine gate_dst (N:=3) rfl ?_);refine loc_alloc rfl rfl tz69 HL.out ?_;intro gb3 w_ HL_;replace HL:=mk_ HL_;clear HL_)|((with_reducible refine gate_ld0 (t:=69) rfl ?_);refine loc_load (n:=10) rfl rfl kz rfl kz HL.out sz ?_)|((with_reducible refine gate_ld0 rfl ?_);refine loc_load1 rfl rfl kz rfl HL.out sz ?_)|((with_reducible refine gate_st0 rfl ?_);refine loc_store rfl rfl rfl gz kz kz HL.out pz ?_;intro w_ HL_;replace HL:=mk_ HL_;clear HL_))
  go_ret
  exact ⟨by first|rfl|(simp [errW_none,errW_some] <;> rfl)|(simp [*,errW_none,errW_some] <;> rfl),HL.out.bel⟩
 have cb:decide (1048576<(l0.length:Int))=false:=decide_eq_false (by omega)
 have cb2:decide (1048576<l0.length)=false:=decide_eq_false c
 go_enter Try.func14,Try.ntmps14
 go_wp2_with (first|((with_reducible refine gate_gd rfl ?_);first|((with_reducible refine gd_on rfl ?_ ?_);rfl;dsimp only)|((with_reducible refine gd_off rfl ?_ ?_);rfl))|((with_reducible refine gate_dst (N:=9) rfl ?_);(with_reducible refine gate_callee (f:=61) rfl ?_);refine goesL_ (some 9) rfl rfl Try.func61 kz rfl #[.slice A0 l0.length z0] rfl am ?_;(refine (drawleft_calls A0 z0 l0 hw _ (Kd.C_below HR.out HL.out.bel) HZ.out).mono ?_);rintro e w_ ⟨v,t,rfl,ht_,sm_,hb_⟩;obtain ⟨t0,t1,fl,t3,q,t5,t6,t7,t8,t9⟩:=t;obtain ⟨A2,k2,A4,k4,rfl,g2_,gk2_,g4_,gk4_⟩:=ht_;refine ⟨_,rfl,?_⟩;dsimp only at g2_ gk2_ g4_ gk4_ ⊢;have K2:=mk_ gk2_;have K4:=mk_ gk4_;have HX:=mk_ (And.intro (Kd.F_mono (ok':=fun k_=>k_<w_.heap.size) (Kd.F_bound g2_) (fun _ h_=>h_.2)) (Kd.F_mono (ok':=fun k_=>k_<w_.heap.size) (Kd.F_bound g4_) (fun _ h_=>h_.2)));replace HL:=mk_ (HL.out.call hb_);clear g2_ gk2_ g4_ gk4_ sm_ hb_)|((with_reducible refine gate_dst (N:=3) rfl ?_);refine loc_alloc2 rfl rfl tz69 HL.out ?_;intro gb3 w_ HL_ hb_ hg_;replace HX:=mk_ (And.intro (Kd.F_mono (ok':=fun k_=>k_≠gb3) (Kd.F_below HX.out.1 hb_) (fun k_ h_=>by omega)) (Kd.F_mono (ok':=fun k_=>k_≠gb3) (Kd.F_below HX.out.2 hb_) (fun k_ h_=>by omega)));replace HL:=mk_ HL_;clear HL_ hb_ hg_)|((with_reducible refine gate_dst (N:=11) rfl ?_);(with_reducible refine gate_callee (f:=62) rfl ?_);refine goesL_ (some 11) rfl rfl Try.func62 kz rfl #[.agg #[.int .i64 t0,.int .i64 t1,.slice A2 fl.length k2,.int .i64 t3,.slice A4 q.length k4,.bool t5,.int .i64 t6,.bool t7,.int .i64 t8,.bool t9]] rfl am ?_;(with_reducible refine (impl_TxLeft.calls t0 t1 A2 k2 fl t3 A4 k4 q t5 t6 t7 t8 t9 _ _ (Kd.F_now HX.out.1) K2.out (Kd.F_now HX.out.2) K4.out rfl).mono ?_);rintro e w_ ⟨rfl,hb_⟩;refine ⟨_,rfl,?_⟩;replace HX:=mk_ (And.intro (Kd.F_below HX.out.1 hb_) (Kd.F_below HX.out.2 hb_));replace HL:=mk_ (HL.out.call hb_);clear hb_)|((with_reducible refine gate_dst (N:=14) rfl ?_);(with_reducible refine gate_callee (f:=63) rfl ?_);refine goesL_ (some 14) rfl rfl Try.func63 kz rfl #[.agg #[.int .i64 t0,.int .i64 t1,.slice A2 fl.length k2,.int .i64 t3,.slice A4 q.length k4,.bool t5,.int .i64 t6,.bool t7,.int .i64 t8,.bool t9]] rfl am ?_;(with_reducible refine (spec_TxLeft.calls t0 t1 A2 k2 fl t3 A4 k4 q t5 t6 t7 t8 t9 _ _ (Kd.F_now HX.out.1) K2.out (Kd.F_now HX.out.2) K4.out rfl).mono ?_);rintro e w_ ⟨rfl,hb_⟩;refine ⟨_,rfl,?_⟩;replace HX:=mk_ (And.intro (Kd.F_below HX.out.1 hb_) (Kd.F_below HX.out.2 hb_));replace HL:=mk_ (HL.out.call hb_);clear hb_)|((with_reducible refine gate_dst (N:=28) rfl ?_);(with_reducible refine gate_callee (f:=25) rfl ?_);refine goesL_ (some 28) rfl rfl Try.func25 kz rfl #[] rfl am ?_;(with_reducible refine (laws_liOk.calls true _ liOk_true).mono ?_);rintro e w_ ⟨rfl,hb_⟩;refine ⟨_,rfl,?_⟩;replace HL:=mk_ (HL.out.call hb_);clear hb_)|((with_reducible refine gate_ld0 (t:=69) rfl ?_);refine loc_load (n:=10) rfl rfl kz rfl kz HL.out sz ?_)|((with_reducible refine gate_ld0 rfl ?_);refine loc_load1 rfl rfl kz rfl HL.out sz ?_)|((with_reducible refine gate_st0 rfl ?_);refine tx_store rfl rfl rfl gz kz kz HL.out pz ?_;intro w_ HL_ hs_ hf_;replace HL:=mk_ HL_;replace HX:=mk_ (And.intro (Kd.F_step HX.out.1 (fun j_ h_ _=>hf_ j_ h_)) (Kd.F_step HX.out.2 (fun j_ h_ _=>hf_ j_ h_)));clear HL_ hs_ hf_))
 go_ret
 exact ⟨by first|rfl|(simp [errW_none,errW_some] <;> rfl)|(simp [*,errW_none,errW_some] <;> rfl),HL.out.bel⟩
theorem laws_FnTxLeft.walk (a0:Option Addr) (len0 cap0:Nat) (z0:List Int) (w:World) (w0:(a0=none∧len0=0∧cap0=0∧z0=[])∨∃ x,a0=some x∧len0≤cap0∧cap0≤maxLen∧z0.length=cap0∧(∀ i,i<z0.length→w.cell? (x.add i)=some (.int .u8 (z0.getD i 0)))∧∀ n ∈ z0,(Lit.int .u8 n).wf=true) (y0:len0 * 1≤140737488351232) :
  Calls Try.prog 14 #[.slice a0 len0 cap0] w fun e w'=>e=.returned (.bool true)∧Below w.heap.size w w':=by
 obtain ⟨l0,rfl,hr0,hm0,hw0,hc0⟩:=ReadsInt.ofRowC w0
 exact lawleft_calls _ _ l0 hw0 w (Kd.C_of_reads (d:=(0:Int)) (h1:=fun _=>rfl) hr0) hc0
end Go.Proofs.Yteknaofnageihaa.QFnTxLeft
