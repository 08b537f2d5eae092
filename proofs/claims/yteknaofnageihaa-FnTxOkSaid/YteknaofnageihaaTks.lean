-- Texts by hand for FnTxLeft, FnTxOk.
import Derived.Test.YteknaofnageihaaTke
import Derived.Test.YteknaofnageihaaQFnTxOkx23
import Derived.Test.YteknaofnageihaaQFnTxOkx32
namespace Go.Proofs.Yteknaofnageihaa.QFnTxOk
open Go.RowKit Go.Proofs.YteknaofnageihaaW.PrintWords Go.Proofs.YteknaofnageihaaW.PrintLast Go.Proofs.YteknaofnageihaaW.PrintMore Go.Proofs.YteknaofnageihaaLoc
attribute [local go_sem] max2_int min2_int max_two min_two max_three min_three max_four min_four   -- for this text's walks alone
set_option linter.unusedVariables false
set_option linter.unusedSimpArgs false
open Go.Proofs.Yteknaofnageihaa.Pure
def fx113.T6:Bool × List (List Nat × List Nat):=(true,[([],[]),([0],[0]),([],[]),([2],[2]),([3],[3]),([4],[4]),([5],[5]),([1,6],[1,6]),([0,1,2,3,4,5,6,7],[]),([8,7,7,0,1,2,3,4,5,6,7],[7,8])])
def fx113.B6:List Nat:=[0,1,0,4,12,28,60,127,255,511]
theorem fx113.tab6:rtab .any (opsOf Try.f113 6)=fx113.T6:=by kernel_rfl
theorem fx113.bits6:waitsOk fx113.T6.2 fx113.B6=true:=by kernel_rfl
def fx113.T9:Bool × List (List Nat × List Nat):=(true,[([],[]),([0],[0]),([],[]),([2],[2]),([1,3],[1,3]),([4],[4]),([],[]),([6],[6]),([],[]),([8],[8]),([7,9],[7,9]),([10],[10]),([],[]),([5,11,12],[5,11,12]),([],[]),([14,13,13,0,1,2,3,4,5,6,7,8,9,10,11,12,13,14],[13,14])])
def fx113.B9:List Nat:=[0,1,0,4,15,31,0,64,0,256,960,1984,0,8191,0,32767]
theorem fx113.tab9:rtab .any (opsOf Try.f113 9)=fx113.T9:=by kernel_rfl
theorem fx113.bits9:waitsOk fx113.T9.2 fx113.B9=true:=by kernel_rfl
def fx113.T11:Bool × List (List Nat × List Nat):=(true,[([],[]),([],[]),([0,0],[0]),([1,2,0,1,2],[1]),([3,0,1,2,3],[])])
def fx113.B11:List Nat:=[0,0,1,7,15]
theorem fx113.tab11:rtab .any (opsOf Try.f113 11)=fx113.T11:=by kernel_rfl
theorem fx113.bits11:waitsOk fx113.T11.2 fx113.B11=true:=by kernel_rfl
theorem add_add (ad:Addr) (k j:Nat):(ad.add k).add j=ad.add (k+j):=by
 unfold Addr.add
 by_cases hk:k=0
 ·subst hk;simp
 ·by_cases hj:j=0
  ·subst hj;simp [hk]
  ·have:k+j≠0:=by omega
   simp [hk,hj,Nat.add_assoc]
section
variable {P:Program} {o:Oper} {a:Act} {w w0 w1 W:World} {x:Operand} {ty:TypeId}
def CellsAt (w:World) (ad:Addr) (us:List Value):Prop:=∀ j u,us[j]? =some u→w.cell? (ad.add j)=some u
theorem CellsAt.below {ad:Addr} {us:List Value} (h:CellsAt w ad us) (hb:Below w.heap.size w w1):CellsAt w1 ad us:=by
 intro j u hj
 have h9:=h j u hj
 have h8:=hb.block (ad.add j).block (World.block_lt_of_cell? w _ h9)
 simpa [World.cell?,h8] using h9
theorem elem_run {ad:Addr} {n:Nat} {us:List Value} (hN:(aggB P ty && (P.underlying ty).isSome)=true) (ho:o.op=.load ty x) (hx:a.eval x=.pointer (some ad)) (hi:(P.info? ty).map (·.size)=some n) (hl:us.length=n) (hc:CellsAt w ad us):(execOp a.eval o).run P w=.ok (.value (.agg us.toArray)) w:=by
 simp only [Bool.and_eq_true] at hN
 have hl2:(loadCells ad n).run P w=.ok us.toArray w:=by
  rw [← hl]
  exact run_loadCells_list (P:=P) w ad us (fun j v hv=>hc j v hv)
 cases hq:P.info? ty with
 | none=>simp [hq] at hi
 | some i =>
  have hs:i.size=n:=by simpa [hq] using hi
  have hz:(loadVar ty ad).run P w=.ok (.agg us.toArray) w:=by
   simp [loadVar,Sem.run_bind,agg_run hN.2,hN.1,sizeOf,typeInfo,hq,hs,hl2]
  unfold execOp
  simp only [ho,hx,Instr.loadAt,Instr.sureAddr,Sem.run_bind,Sem.run_pure,Result.andThen_ok,hz]
end
/-- The element at i of a row: its cells, and what its data is. -/
theorem elem_at {w:World} {ok:Nat→Prop} {A:Option Addr} {n:Nat} {xs:List S39} (h:Kd.F k39 w ok A n xs) (i:Int) (h0:0≤i) (h1:i<n):∃ ad x D d,A=some ad∧x ∈ xs∧CellsAt w (ad.add (i.toNat * 3)) [.int .i64 x.f0,.int .i64 x.f1,.slice D x.f2.length d]∧x.f2.length≤d∧Kd.F (Kd.int .u8) w ok D x.f2.length x.f2:=by
 have hl:=Kd.F_len h
 obtain ⟨ad,c,rfl,hcl,hK,hcc,_⟩:=Kd.F_get h (⟨0,0,[]⟩:S39) i h0 h1
 obtain ⟨D,d,rfl,hd,hF⟩:=k39_openF hK
 refine ⟨ad,_,D,d,rfl,?_,fun j u hj=>?_,hd,hF⟩
 ·rw [List.getD_eq_getElem?_getD,List.getElem?_eq_getElem (by omega),Option.getD_some]
  exact List.getElem_mem _
 ·rw [add_add]
  exact hcc j u hj
theorem PX.mono {w W:World} {S ok ok':Nat→Prop} {A2 A4:Option Addr} {l2 l4:List S39} (h:PX w W S ok A2 l2 A4 l4) (hm:∀ k,ok k→ok' k):PX w W S ok' A2 l2 A4 l4:=⟨Kd.F_mono h.f2 hm,Kd.F_mono h.f4 hm,h.kp⟩
theorem PX.new {w W w1:World} {S ok:Nat→Prop} {A2 A4:Option Addr} {l2 l4:List S39} {g:Nat} (h:PX w W S ok A2 l2 A4 l4) (hb:Below W.heap.size W w1) (hg:g=W.heap.size):PX w w1 S (fun k=>ok k∧k≠g) A2 l2 A4 l4 :=
 ⟨Kd.F_mono (Kd.F_below (Kd.F_bound h.f2) hb) (fun _ h_=>⟨h_.1,by have:=h_.2;omega⟩),Kd.F_mono (Kd.F_below (Kd.F_bound h.f4) hb) (fun _ h_=>⟨h_.1,by have:=h_.2;omega⟩),(h.call hb).kp⟩
theorem p_frame (f0 f1:Int) (l:List Int) (a b:Int) (hl:l.length≤1000):∃ r,spec_l6Frame.f f0 f1 l a b=some r:=by
 unfold spec_l6Frame.f
 exact ⟨_,if_pos (by simp only [List.length_nil];omega)⟩
set_option maxHeartbeats 60000000 in
set_option maxRecDepth 100000 in
theorem send_b2 (t:Tx) (v:Value) (b2 b4:Option Nat) (c0 c1 c2 c3 c4:Int) (w0 w:World) (hB:Below w0.heap.size w0 w) (ht:Txn w w0.heap.size t v b2 b4) (hs:Sm t) (h3:0≤t.a3∧t.a3≤(t.fl.length:Int)) (h4:t.fl.length≤4) (h9:t.a9=false) (h5:t.a5=false) (h7:t.a7=false) (d1:t.a3=(t.fl.length:Int)) (e1:¬ (t.fl.length:Int)=c1) (e2:¬ (t.q.length:Int)=0) (e3:¬ 9999≤wrap64 (t.a8+(t.fl.length:Int))):Calls Try.prog 113 #[.agg #[.int .i64 c0,.int .i64 c1,.int .i64 c2,.int .i64 c3,.int .i64 c4],v,.int .i64 0] w (TxF w0 w b2 (TY w)):=by
 obtain ⟨t0,t1,fl,t3,q,t5,t6,t7,t8,t9⟩:=t
 obtain ⟨A2,k2,A4,k4,rfl,rfl,rfl,s2,s4⟩:=ht
 dsimp only at s2 s4 h3 h4 h9 h5 h7 d1 e1 e2 e3 ⊢;subst h9 h5 h7
 have N2:=mk_ (Kd.S_N (Kd.S_mono (ok':=fun k_=>TY w k_) (Kd.S_bound s2) (fun _ h_=>ty_of h_.2.2.2)))
 have F4:=mk_ (Kd.S_F (Kd.S_mono (ok':=fun k_=>TY w k_∧some k_≠(Value.slice A2 fl.length k2).ownBlock) (Kd.S_bound s4) (fun _ h_=>⟨ty_of h_.2.2.2,h_.1⟩)))
 have F2:=mk_ (Kd.N_F N2.out)
 have K2:=mk_ (Kd.S_reads' s2).2.1
 have K4:=mk_ (Kd.S_reads' s4).2.1
 have HB:=mk_ hB
 have HL:=mk_ (Lok.start w)
 have S0:=mk_ (show Sm2 fl q from hs)
 have H3:=mk_ h3
 have H4:=mk_ h4
 clear s2 s4 hs h3 h4 hB
 have d1b:(t3 == (fl.length:Int))=true:=beq_iff_eq.mpr d1
 have d1c:decide (t3=(fl.length:Int))=true:=decide_eq_true d1
 have e1b:((fl.length:Int) == c1)=false:=beq_eq_false_iff_ne.mpr e1
 have e1c:decide ((fl.length:Int)=c1)=false:=decide_eq_false e1
 clear e1
 have e2b:((q.length:Int) == 0)=false:=beq_eq_false_iff_ne.mpr e2
 have e2c:decide ((q.length:Int)=0)=false:=decide_eq_false e2
 have Q0:=mk_ (show 0<q.length by omega)
 clear e2
 have e3b:decide (9999≤wrap64 (t8+(fl.length:Int)))=false:=decide_eq_false e3
 clear e3
 obtain ⟨adq,x6,D6,d6,hA4,hx6,hc6,hd6,hf6⟩:=elem_at F4.out 0 (Int.le_refl 0) (by have:=Q0.out;omega)
 subst hA4
 have HC6:=mk_ hc6
 have KD6:=mk_ hd6
 have HF6:=mk_ hf6
 have M6:=mk_ hx6
 clear hx6 hc6 hd6 hf6
 obtain ⟨fl1,hfl1⟩:∃ l,l=fl++[x6]:=⟨_,rfl⟩
 obtain ⟨qd,hqd⟩:∃ l,l=q.drop 1:=⟨_,rfl⟩
 have hl1:fl1.length=fl.length+1:=by rw [hfl1];simp
 have HFL:=mk_ hfl1
 have hlq:q.length - (1:Int).toNat=qd.length:=by rw [hqd,List.length_drop];rfl
 have S1:=mk_ (show Sm2 fl1 qd by refine ⟨⟨by have:=H4.out;omega,fun p hp=>?_⟩,⟨by have h9:=S0.out.2.1;rw [hqd,List.length_drop];omega,fun p hp=>S0.out.2.2 p (List.mem_of_mem_drop (by rw [hqd] at hp;exact hp))⟩⟩;rw [hfl1] at hp;rcases List.mem_append.mp hp with hp|hp;exact S0.out.1.2 p hp;rw [List.mem_singleton.mp hp];exact S0.out.2.2 x6 M6.out)
 obtain ⟨kL,hkL⟩:=p_list qd S1.out.2
 have PL:=mk_ hkL
 clear hkL
 obtain ⟨i39,hi39,_,hsz39,_⟩:=info_parts info39
 have hcut:=cut_from (P:=Try.prog) 23 39 .i64 Try.underlying23 hi39 3 hsz39 (some adq) q.length k4 1 (by decide) (by have:=Q0.out;omega)
 obtain ⟨A62,hA62⟩:∃ A1,A1=(if k4=(1:Int).toNat then (some adq) else (some adq).map (·.add ((1:Int).toNat * 3))):=⟨_,rfl⟩
 obtain ⟨c62,hc62⟩:∃ c1,c1=k4 - (1:Int).toNat:=⟨_,rfl⟩
 rw [← hA62,← hc62,hlq] at hcut
 have HTD:=mk_ (show ∀ W,Kd.C k39 W (some adq) q.length q→Kd.C k39 W A62 qd.length qd from fun W h=>by have h9:=Kd.C_drop (m:=(1:Int).toNat) h (by have:=Q0.out;omega) K4.out;rw [hA62,hqd];exact h9)
 have K62:=mk_ (show qd.length≤c62 by rw [hc62,← hlq];have:=K4.out;omega)
 clear hA62 hc62 hi39 hsz39
 have T0:=mk_ (show 0≤t3∧t3<(fl1.length:Int) by omega)
 have d2b:decide (0≤t3)=true:=decide_eq_true T0.out.1
 have d3b:decide (t3<(fl1.length:Int))=true:=decide_eq_true T0.out.2
 have d4b:decide (0<(q.length:Int))=true:=decide_eq_true (by have:=Q0.out;omega)
 clear d1 hqd hlq hl1 hfl1
 go_enter Try.func113,Try.ntmps113
 go_upto_region 6 with (first|((with_reducible refine gate_gd rfl ?_);first|((with_reducible refine gd_on rfl ?_ ?_);rfl;dsimp only)|((with_reducible refine gd_off rfl ?_ ?_);rfl))|((with_reducible refine gate_dst (N:=3) rfl ?_);refine loc_box rfl rfl gz HL.out ?_;intro gb3 w_ HL_;replace HL:=mk_ HL_;clear HL_)|((with_reducible refine gate_dst (N:=4) rfl ?_);refine loc_box rfl rfl gz HL.out ?_;intro gb4 w_ HL_;replace HL:=mk_ HL_;clear HL_)|((with_reducible refine gate_dst (N:=6) rfl ?_);refine loc_alloc rfl rfl tz69 HL.out ?_;intro gb6 w_ HL_;replace HL:=mk_ HL_;clear HL_)|((with_reducible refine gate_dst (N:=7) rfl ?_);refine loc_alloc rfl rfl tz102 HL.out ?_;intro gb7 w_ HL_;replace HL:=mk_ HL_;clear HL_)|((with_reducible refine gate_ld0 (t:=69) rfl ?_);refine loc_load (n:=10) rfl rfl kz rfl kz HL.out sz ?_)|((with_reducible refine gate_ld0 (t:=66) rfl ?_);refine loc_load (n:=5) rfl rfl kz rfl kz HL.out sz ?_)|((with_reducible refine gate_ld0 rfl ?_);refine loc_load1 rfl rfl kz rfl HL.out sz ?_)|((with_reducible refine gate_st0 rfl ?_);refine loc_store rfl rfl rfl gz kz kz HL.out pz ?_;intro w_ HL_;replace HL:=mk_ HL_;clear HL_))
 refine start_ (n:=10) (S:=fun w'=>Lok w w' _∧CellsAt w' adq [.int .i64 x6.f0,.int .i64 x6.f1,.slice D6 x6.f2.length d6]) (ds:=[7,9]) (YteknaofnageihaaLoc.bm 10 0) kz rfl rfl ⟨HL.out.drew,HC6.out.below (below_drew1 HL.out.bel)⟩ (fun hHeld=>?_)
 refine with_tabW fx113.tab6 fx113.bits6 (fun HT_ HW_=>?_)
 have HS:=mk_ hHeld
 clear hHeld
 replace HL:=mk_ HL.out.drew
 clear HC6
 revert HS HL 
 generalize World.drew _=w8_
 intro HS HL 
 refine qA 0 51 1 HT_ ?_
 refine qT 1 52 3 rfl rfl HT_ HW_ HS (fun w' hS=>loc_load1_run kz rfl rfl hS.1 sz) ?_
 refine qA 2 53 7 HT_ ?_
 refine qT 3 54 15 rfl rfl HT_ HW_ HS (fun w' hS=>loc_load1_run kz rfl rfl hS.1 sz) ?_
 refine pA (v:=.pointer (some adq)) 4 (some 55) (YteknaofnageihaaLoc.bm 10 31) rfl rfl HT_.out kz (fun _ _ _ h=>h) (by rfl) (by intro w';go_simp;intro h9;have h8:=Q0.out;rw [h9] at h8;simp at h8) uz ?_
 refine qT 5 56 63 rfl rfl HT_ HW_ HS (fun w' hS=>elem_run kz rfl rfl kz rfl hS.2) ?_
 refine qO 6 (some 57) 127 HT_ (fun K hK=>?_)
 refine value_ (w1:=w8_.alloc (.cells #[.int .i64 x6.f0,.int .i64 x6.f1,.slice D6 x6.f2.length d6] 39)) (v:=.slice (some ⟨w8_.heap.size,0,none⟩) 1 1) (by rfl) rfl ?_ ?_
 ·first|(go_simp;done)|(go_simp;rfl)
 replace HS:=mk_ (And.intro (HS.out.1.call (below_alloc (Below.refl _ _) (.cells #[.int .i64 x6.f0,.int .i64 x6.f1,.slice D6 x6.f2.length d6] 39))) (HS.out.2.below (below_alloc (Below.refl _ _) (.cells #[.int .i64 x6.f0,.int .i64 x6.f1,.slice D6 x6.f2.length d6] 39))))
 refine qK hK HS ?_;clear hK K
 refine qE 7 (some 58) 255 HT_ (fun K hK=>?_)
 refine Kd.N_append_step k39 (w0:=w0) (W:=w8_) w0.heap.size (by rfl) (.tmp 52) (.tmp 57) 23 39 (.agg #[(.int .i64 0),(.int .i64 0),(.slice none 0 0)]) 40 rfl Try.underlying23 info39 rfl (by decide) (by decide) (.slice A2 fl.length k2) fl x6 [.int .i64 x6.f0,.int .i64 x6.f1,.slice D6 x6.f2.length d6] (fun k_=>k_≠gb4∧k_≠gb6∧k_≠gb7∧(TY w k_∨w.heap.size≤k_)) (fun k_=>(fun k_=>k_≠gb4∧k_≠gb6∧k_≠gb7∧(TY w k_∨w.heap.size≤k_)) k_∧some k_≠(Value.slice A2 fl.length k2).ownBlock) rfl rfl ?aP (fun _ h_=>h_) ?aF ?aO ?aB ?aS ?aL ?_
 case aP=>exact k39_mkF _ _ x6 KD6.out (Kd.F_mono (Kd.F_below (Kd.F_bound HF6.out) HL.out.bel) (fun k_ h_=>by have h9:=h_.2;have h4_:=Lok_ge HL.out (g:=gb4) hz;have h6_:=Lok_ge HL.out (g:=gb6) hz;have h7_:=Lok_ge HL.out (g:=gb7) hz;exact ⟨⟨by omega,by omega,by omega,Or.inl h_.1.1⟩,h_.1.2⟩))
 case aF=>exact (fun k_ h_=>by have h4_:=blk_lt (HL.out.blk (g:=gb4) hz);have h6_:=blk_lt (HL.out.blk (g:=gb6) hz);have h7_:=blk_lt (HL.out.blk (g:=gb7) hz);have h9:=HL.out.bel.size;exact ⟨by omega,by omega,by omega,Or.inr (by omega)⟩)
 case aO=>exact Kd.N_mono (Kd.N_below (Kd.N_bound N2.out) HL.out.bel) (fun k_ h_=>by have h9:=h_.2;have h4_:=Lok_ge HL.out (g:=gb4) hz;have h6_:=Lok_ge HL.out (g:=gb6) hz;have h7_:=Lok_ge HL.out (g:=gb7) hz;exact ⟨by omega,by omega,by omega,Or.inl h_.1⟩)
 case aB=>exact (Lok_base HL.out HB.out).bel
 case aS=>exact (Lok_base HL.out HB.out).bel.size
 case aL=>have:=H4.out;omega
 intro v1 w1 ho_ hb_ hg_ hat_
 rw [← HFL.out] at ho_
 obtain ⟨A58,k58,hv58⟩:=Kd.N_slice ho_
 subst hv58
 have HX:=mk_ (show PX w w1 (fun k_=>some k_=(Value.slice A2 fl.length k2).ownBlock) (fun k_=>k_≠gb4∧k_≠gb6∧k_≠gb7∧(TY w k_∨w.heap.size≤k_)) A58 fl1 (some adq) q from ⟨Kd.N_F ho_,Kd.F_mono (Kd.F_grown (Kd.F_below (Kd.F_bound F4.out) HL.out.bel) hg_ (fun k_ h_=>h_.1.2)) (fun k_ h_=>by have h9:=h_.2;have h4_:=Lok_ge HL.out (g:=gb4) hz;have h6_:=Lok_ge HL.out (g:=gb6) hz;have h7_:=Lok_ge HL.out (g:=gb7) hz;exact ⟨by omega,by omega,by omega,Or.inl h_.1.1⟩),Nat.le_trans HL.out.bel.size hg_.size,fun i_ hi_ hn_=>(hg_.block i_ (Nat.lt_of_lt_of_le hi_ HL.out.bel.size) hn_).trans (HL.out.bel.block i_ hi_)⟩)
 have GE4:=mk_ (Lok_ge HL.out (g:=gb4) hz)
 have GE6:=mk_ (Lok_ge HL.out (g:=gb6) hz)
 have GE7:=mk_ (Lok_ge HL.out (g:=gb7) hz)
 have KF:=mk_ (Kd.N_reads' ho_).2.1
 have HL9:=mk_ (Lok_grown (Lok_base HL.out HB.out) hb_ hg_ (fun b_ hb9 he_=>by have h7:=Lok_ges HL.out b_ hb9;have h8:=Kd.N_lt N2.out b_.1 he_.symm;omega))
 clear HL ho_ hb_ hg_ hat_
 have HL:=HL9
 clear HL9
 refine hK.out _ _ ?_;clear hK K
 refine norm_ (a':=?_) ?_ ?_
 rotate_left
 ·show Act.put _ (some 58) _=_
  simp only [Act.put,zs1,zs2,zs3,i64_w,i32_w]
  rfl
 refine qA 8 59 511 HT_ ?_
 refine qE 9 none 1023 HT_ (fun K hK=>?_)
 refine store_step (by rfl) rfl rfl rfl gz kz kz HL.out pz ?_
 intro w9_ HL_ hs_ hf_
 replace HX:=mk_ (HX.out.far hs_ hf_ (fun j_ h_=>h_.1) GE4.out)
 replace HL:=mk_ HL_
 clear HL_ hs_ hf_
 refine hK.out _ _ ?_;clear hK K
 refine qF HT_ ?_
 clear HT_ HW_ HS
 go_upto_region 9 with (first|((with_reducible refine gate_gd rfl ?_);first|((with_reducible refine gd_on rfl ?_ ?_);rfl;dsimp only)|((with_reducible refine gd_off rfl ?_ ?_);rfl))|((with_reducible refine gate_dst (N:=63) rfl ?_);(with_reducible refine gate_callee (f:=118) rfl ?_);refine goesL_ (some 63) rfl rfl Try.func118 kz rfl #[.slice A62 qd.length c62] rfl am ?_;(with_reducible refine (spec_l6List.calls kL A62 c62 qd _ _ (HTD.out _ (Kd.F_now HX.out.f4)) K62.out PL.out).mono ?_);rintro e w_ ⟨vp,rfl,hp_,hb_⟩;obtain ⟨Ap,kp,hvp⟩:=Kd.S_slice hp_;subst hvp;refine ⟨_,rfl,?_⟩;have KQ:=mk_ (Kd.S_reads' hp_).2.1;have HX9:=mk_ (show PX w w_ (fun k_=>some k_=(Value.slice A2 fl.length k2).ownBlock) (fun k_=>k_≠gb4∧k_≠gb6∧k_≠gb7∧(TY w k_∨w.heap.size≤k_)) A58 fl1 Ap qd from ⟨(HX.out.call hb_).f2,Kd.S_F (Kd.S_mono (Kd.S_bound hp_) (fun k_ h_=>by have h9:=h_.2.1;have h4_:=blk_lt (HL.out.blk (g:=gb4) hz);have h6_:=blk_lt (HL.out.blk (g:=gb6) hz);have h7_:=blk_lt (HL.out.blk (g:=gb7) hz);have h5_:=HX.out.kp.1;exact ⟨by omega,by omega,by omega,Or.inr (by omega)⟩)),(HX.out.call hb_).kp⟩);clear HX;have HX:=HX9;clear HX9;replace HL:=mk_ (HL.out.call hb_);clear hb_ hp_)|((with_reducible refine gate_dst (N:=67) rfl ?_);(with_reducible refine gate_callee (f:=106) rfl ?_);refine goesL_ (some 67) rfl rfl Try.func106 kz rfl #[.int .i64 t0] rfl am ?_;(with_reducible refine (spec_NumNext.calls t0 _ _ rfl).mono ?_);rintro e w_ ⟨rfl,hb_⟩;refine ⟨_,rfl,?_⟩;replace HX:=mk_ (HX.out.call hb_.below);replace HL:=mk_ (HL.out.call hb_.below);clear hb_)|((with_reducible refine gate_ld0 rfl ?_);refine loc_load1 rfl rfl kz rfl HL.out sz ?_)|((with_reducible refine gate_st0 rfl ?_);refine tx_store rfl rfl rfl gz kz kz HL.out pz ?_;intro w_ HL_ hs_ hf_;replace HX:=mk_ (HX.out.far hs_ hf_ (fun j_ h_=>h_.1) GE4.out);replace HL:=mk_ HL_;clear HL_ hs_ hf_))
 obtain ⟨ad,x,D,d,hA,hxm,hce,hdl,hdf⟩:=elem_at HX.out.f2 t3 T0.out.1 T0.out.2
 subst hA
 have KD:=mk_ hdl
 have HDF:=mk_ hdf
 have HCE:=mk_ hce
 clear hdl hdf hce
 obtain ⟨fr,hfr⟩:∃ r,spec_l6Frame.f x.f0 x.f1 x.f2 (Int.tmod (wrap64 (t1+t3)) 8) 0=some r:=p_frame x.f0 x.f1 x.f2 _ _ (S1.out.1.2 x hxm)
 obtain ⟨e0,e1,e2,e3,e4,e5,e6,e7,e8⟩:=fr
 have PFR:=mk_ hfr
 clear hfr hxm
 refine start_ (n:=16) (S:=fun w'=>Lok w0 w' _∧CellsAt w' (ad.add (t3.toNat * 3)) [.int .i64 x.f0,.int .i64 x.f1,.slice D x.f2.length d]) (ds:=[15]) (YteknaofnageihaaLoc.bm 16 0) kz rfl rfl ⟨HL.out.drew,HCE.out.below (below_drew (Below.refl _ _))⟩ (fun hHeld=>?_)
 refine with_tabW fx113.tab9 fx113.bits9 (fun HT_ HW_=>?_)
 have HS:=mk_ hHeld
 clear hHeld
 replace HL:=mk_ HL.out.drew
 replace HX:=mk_ (HX.out.call (below_drew (Below.refl _ _)))
 replace HDF:=mk_ (Kd.F_below HDF.out (below_drew (Below.refl _ _)))
 clear HCE
 revert HS HL HX HDF
 generalize World.drew _=w8_
 intro HS HL HX HDF
 refine qA 0 69 1 HT_ ?_
 refine qT 1 70 3 rfl rfl HT_ HW_ HS (fun w' hS=>loc_load1_run kz rfl rfl hS.1 sz) ?_
 refine qA 2 71 7 HT_ ?_
 refine qT 3 72 15 rfl rfl HT_ HW_ HS (fun w' hS=>loc_load1_run kz rfl rfl hS.1 sz) ?_
 refine pA (v:=.pointer (some (ad.add (t3.toNat * 3)))) 4 (some 73) (YteknaofnageihaaLoc.bm 16 31) rfl rfl HT_.out kz (fun _ _ _ h=>h) (by rfl) (by intro w';go_simp;intro h9;exact absurd (h9 T0.out.1) (by have:=T0.out.2;omega)) uz ?_
 refine qT 5 74 63 rfl rfl HT_ HW_ HS (fun w' hS=>elem_run kz rfl rfl kz rfl hS.2) ?_
 refine qA 6 75 127 HT_ ?_
 refine qT 7 76 255 rfl rfl HT_ HW_ HS (fun w' hS=>loc_load1_run kz rfl rfl hS.1 sz) ?_
 refine qA 8 77 511 HT_ ?_
 refine qT 9 78 1023 rfl rfl HT_ HW_ HS (fun w' hS=>loc_load1_run kz rfl rfl hS.1 sz) ?_
 refine qA 10 79 2047 HT_ ?_
 refine qA 11 80 4095 HT_ ?_
 refine qA 12 81 8191 HT_ ?_
 refine two_ (i:=13) (j:=14) (Ni:=some 82) (Nj:=some 9) (YteknaofnageihaaLoc.bm 16 16383) (YteknaofnageihaaLoc.bm 16 24575) rfl rfl rfl rfl (two_of HT_.out kz) (by decide) (by decide) (fun K hK=>?_) (fun K hK=>?_)
 ·refine goes_ Try.func119 kz rfl #[.agg #[.int .i64 x.f0,.int .i64 x.f1,.slice D x.f2.length d],.int .i64 (Int.tmod (wrap64 (t1+t3)) 8),.int .i64 0] rz rfl rfl am ?_
  refine (spec_l6Frame.calls x.f0 x.f1 D d x.f2 _ _ e0 e1 e2 e3 e4 e5 e6 e7 e8 _ (Kd.F_now HDF.out) KD.out PFR.out).mono ?_
  rintro e w9_ ⟨v8_,rfl,h8_,hb_⟩
  obtain ⟨E8,c8,hv8⟩:=Kd.R_slice h8_
  subst hv8
  refine ⟨_,rfl,?_⟩
  replace HX:=mk_ (HX.out.call hb_)
  replace HDF:=mk_ (Kd.F_below HDF.out hb_)
  replace HL:=mk_ (HL.out.call hb_)
  replace HS:=mk_ (And.intro (HS.out.1.call hb_) (HS.out.2.below hb_))
  clear hb_ h8_
  refine qK hK HS ?_;clear hK K
  refine qO 14 (some 9) 32767 HT_ (fun K hK=>?_)
  refine alloc_step (by rfl) rfl rfl tz102 HL.out ?_
  intro gb9 w9_ HL_ hb_ hg_
  have GE9:=mk_ (show w.heap.size≤gb9 by rw [hg_];exact HX.out.kp.1)
  replace HX:=mk_ (HX.out.new hb_ hg_)
  replace HDF:=mk_ (Kd.F_below HDF.out hb_)
  replace HS:=mk_ (And.intro (HS.out.1.call hb_) (HS.out.2.below hb_))
  replace HL:=mk_ HL_
  clear HL_ hb_ hg_
  refine qK hK HS ?_;clear hK K
  refine qE 15 none 65535 HT_ (fun K hK=>?_)
  refine store_step (by rfl) rfl rfl rfl gz kz kz HL.out pz ?_
  intro w9_ HL_ hs_ hf_
  replace HX:=mk_ (HX.out.far hs_ hf_ (fun j_ h_=>h_.2) GE9.out)
  replace HL:=mk_ HL_
  clear HL_ hs_ hf_
  refine hK.out _ _ ?_;clear hK K
  refine qF HT_ ?_
  clear HT_ HW_ HS
  go_upto_region 11 with (first|((with_reducible refine gate_gd rfl ?_);first|((with_reducible refine gd_on rfl ?_ ?_);rfl;dsimp only)|((with_reducible refine gd_off rfl ?_ ?_);rfl))|((with_reducible refine gate_ld0 rfl ?_);refine loc_load1 rfl rfl kz rfl HL.out sz ?_)|((with_reducible refine gate_st0 rfl ?_);refine tx_store rfl rfl rfl gz kz kz HL.out pz ?_;intro w_ HL_ hs_ hf_;replace HX:=mk_ (HX.out.far hs_ hf_ (fun j_ h_=>h_.1.1) GE4.out);replace HL:=mk_ HL_;clear HL_ hs_ hf_))
  refine start_ (n:=5) (S:=fun w'=>Lok w0 w' _) (ds:=[3]) (YteknaofnageihaaLoc.bm 5 0) kz rfl rfl (Lok_two (g1:=gb4) (g2:=gb9) HL.out.drew hz hz (nz HL.out)) (fun hHeld=>?_)
  refine with_tabW fx113.tab11 fx113.bits11 (fun HT_ HW_=>?_)
  have HS:=mk_ hHeld
  clear hHeld
  replace HL:=mk_ HL.out.drew
  replace HX:=mk_ (HX.out.call (below_drew (Below.refl _ _)))
  revert HS HL HX
  generalize World.drew _=w8_
  intro HS HL HX
  refine qL 0 87 1 10 HT_ HW_ HS ?_
  refine qL 1 88 3 9 HT_ HW_ HS ?_
  refine qO 2 none 7 HT_ (fun K hK=>?_)
  refine store_step (by rfl) rfl rfl rfl gz kz kz HL.out pz ?_
  intro w9_ HL_ hs_ hf_
  replace HS:=mk_ (Lok_far HS.out HL_.bel hf_ (by intro b_ hb9;simp only [List.mem_cons,List.not_mem_nil,or_false] at hb9;have h9:=HL.out.ne;simp only [List.map_cons,List.nodup_cons,List.mem_cons,List.map_nil,not_or] at h9;rcases hb9 with rfl|rfl <;> (dsimp only;omega)))
  replace HX:=mk_ (HX.out.far hs_ hf_ (fun j_ h_=>h_.1.2.1) GE6.out)
  replace HL:=mk_ HL_
  clear HL_ hs_ hf_
  refine qN hK HS ?_;clear hK K
  refine qE 3 none 15 HT_ (fun K hK=>?_)
  refine store_step (by rfl) rfl rfl rfl gz kz kz HL.out pz ?_
  intro w9_ HL_ hs_ hf_
  replace HX:=mk_ (HX.out.far hs_ hf_ (fun j_ h_=>h_.1.2.2.1) GE7.out)
  replace HL:=mk_ HL_
  clear HL_ hs_ hf_
  refine hK.out _ _ ?_;clear hK K
  refine qA 4 8 31 HT_ ?_
  refine qF HT_ ?_
  clear HT_ HW_ HS
  go_wp2
  refine bodyPost_ret (results_list (rs:=[.cell 6 69,.cell 7 102,.tmp 8]) rfl (by simp) (.cell _ 69 _ (0,0) _ rfl (HL.out.blk hz) Try.underlying69 rfl kz (.cell _ 102 _ (0,0) _ rfl (HL.out.blk hz) Try.underlying102 rfl kz (.tmp .nil)))) rfl ?_
  exact mkTxF ⟨_,_,fl1,_,qd,_,_,_,_,_⟩ _ _ _ ez ⟨some ad,k58,Ap,kp,rfl,Kd.F_mono HX.out.f2 (fun _ h_=>h_.1.2.2.2),KF.out,Kd.F_mono HX.out.f4 (fun _ h_=>h_.1.2.2.2),KQ.out⟩ S1.out (mkFrv _ _ _ _ _ _ _ _ _ _ _) HL.out.bel HX.out.kp
 ·refine alloc_step (by rfl) rfl rfl tz102 HL.out ?_
  intro gb9 w9_ HL_ hb_ hg_
  have GE9:=mk_ (show w.heap.size≤gb9 by rw [hg_];exact HX.out.kp.1)
  replace HX:=mk_ (HX.out.new hb_ hg_)
  replace HDF:=mk_ (Kd.F_below HDF.out hb_)
  replace HS:=mk_ (And.intro (HS.out.1.call hb_) (HS.out.2.below hb_))
  replace HL:=mk_ HL_
  clear HL_ hb_ hg_
  refine qK hK HS ?_;clear hK K
  refine qO 13 (some 82) 32767 HT_ (fun K hK=>?_)
  refine goes_ Try.func119 kz rfl #[.agg #[.int .i64 x.f0,.int .i64 x.f1,.slice D x.f2.length d],.int .i64 (Int.tmod (wrap64 (t1+t3)) 8),.int .i64 0] rz rfl rfl am ?_
  refine (spec_l6Frame.calls x.f0 x.f1 D d x.f2 _ _ e0 e1 e2 e3 e4 e5 e6 e7 e8 _ (Kd.F_now HDF.out) KD.out PFR.out).mono ?_
  rintro e w9_ ⟨v8_,rfl,h8_,hb_⟩
  obtain ⟨E8,c8,hv8⟩:=Kd.R_slice h8_
  subst hv8
  refine ⟨_,rfl,?_⟩
  replace HX:=mk_ (HX.out.call hb_)
  replace HDF:=mk_ (Kd.F_below HDF.out hb_)
  replace HL:=mk_ (HL.out.call hb_)
  replace HS:=mk_ (And.intro (HS.out.1.call hb_) (HS.out.2.below hb_))
  clear hb_ h8_
  refine qK hK HS ?_;clear hK K
  refine qE 15 none 65535 HT_ (fun K hK=>?_)
  refine store_step (by rfl) rfl rfl rfl gz kz kz HL.out pz ?_
  intro w9_ HL_ hs_ hf_
  replace HX:=mk_ (HX.out.far hs_ hf_ (fun j_ h_=>h_.2) GE9.out)
  replace HL:=mk_ HL_
  clear HL_ hs_ hf_
  refine hK.out _ _ ?_;clear hK K
  refine qF HT_ ?_
  clear HT_ HW_ HS
  go_upto_region 11 with (first|((with_reducible refine gate_gd rfl ?_);first|((with_reducible refine gd_on rfl ?_ ?_);rfl;dsimp only)|((with_reducible refine gd_off rfl ?_ ?_);rfl))|((with_reducible refine gate_ld0 rfl ?_);refine loc_load1 rfl rfl kz rfl HL.out sz ?_)|((with_reducible refine gate_st0 rfl ?_);refine tx_store rfl rfl rfl gz kz kz HL.out pz ?_;intro w_ HL_ hs_ hf_;replace HX:=mk_ (HX.out.far hs_ hf_ (fun j_ h_=>h_.1.1) GE4.out);replace HL:=mk_ HL_;clear HL_ hs_ hf_))
  refine start_ (n:=5) (S:=fun w'=>Lok w0 w' _) (ds:=[3]) (YteknaofnageihaaLoc.bm 5 0) kz rfl rfl (Lok_two (g1:=gb4) (g2:=gb9) HL.out.drew hz hz (nz HL.out)) (fun hHeld=>?_)
  refine with_tabW fx113.tab11 fx113.bits11 (fun HT_ HW_=>?_)
  have HS:=mk_ hHeld
  clear hHeld
  replace HL:=mk_ HL.out.drew
  replace HX:=mk_ (HX.out.call (below_drew (Below.refl _ _)))
  revert HS HL HX
  generalize World.drew _=w8_
  intro HS HL HX
  refine qL 0 87 1 10 HT_ HW_ HS ?_
  refine qL 1 88 3 9 HT_ HW_ HS ?_
  refine qO 2 none 7 HT_ (fun K hK=>?_)
  refine store_step (by rfl) rfl rfl rfl gz kz kz HL.out pz ?_
  intro w9_ HL_ hs_ hf_
  replace HS:=mk_ (Lok_far HS.out HL_.bel hf_ (by intro b_ hb9;simp only [List.mem_cons,List.not_mem_nil,or_false] at hb9;have h9:=HL.out.ne;simp only [List.map_cons,List.nodup_cons,List.mem_cons,List.map_nil,not_or] at h9;rcases hb9 with rfl|rfl <;> (dsimp only;omega)))
  replace HX:=mk_ (HX.out.far hs_ hf_ (fun j_ h_=>h_.1.2.1) GE6.out)
  replace HL:=mk_ HL_
  clear HL_ hs_ hf_
  refine qN hK HS ?_;clear hK K
  refine qE 3 none 15 HT_ (fun K hK=>?_)
  refine store_step (by rfl) rfl rfl rfl gz kz kz HL.out pz ?_
  intro w9_ HL_ hs_ hf_
  replace HX:=mk_ (HX.out.far hs_ hf_ (fun j_ h_=>h_.1.2.2.1) GE7.out)
  replace HL:=mk_ HL_
  clear HL_ hs_ hf_
  refine hK.out _ _ ?_;clear hK K
  refine qA 4 8 31 HT_ ?_
  refine qF HT_ ?_
  clear HT_ HW_ HS
  go_wp2
  refine bodyPost_ret (results_list (rs:=[.cell 6 69,.cell 7 102,.tmp 8]) rfl (by simp) (.cell _ 69 _ (0,0) _ rfl (HL.out.blk hz) Try.underlying69 rfl kz (.cell _ 102 _ (0,0) _ rfl (HL.out.blk hz) Try.underlying102 rfl kz (.tmp .nil)))) rfl ?_
  exact mkTxF ⟨_,_,fl1,_,qd,_,_,_,_,_⟩ _ _ _ ez ⟨some ad,k58,Ap,kp,rfl,Kd.F_mono HX.out.f2 (fun _ h_=>h_.1.2.2.2),KF.out,Kd.F_mono HX.out.f4 (fun _ h_=>h_.1.2.2.2),KQ.out⟩ S1.out (mkFrv _ _ _ _ _ _ _ _ _ _ _) HL.out.bel HX.out.kp
end Go.Proofs.Yteknaofnageihaa.QFnTxOk
