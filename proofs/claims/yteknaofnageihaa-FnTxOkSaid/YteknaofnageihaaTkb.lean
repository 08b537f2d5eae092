-- Texts by hand for FnTxLeft, FnTxOk.
import Derived.Test.YteknaofnageihaaTka
import Derived.Test.YteknaofnageihaaQFnTxOkx14
namespace Go.Proofs.Yteknaofnageihaa.QFnTxOk
open Go.RowKit Go.Proofs.YteknaofnageihaaW.PrintWords Go.Proofs.YteknaofnageihaaW.PrintLast Go.Proofs.YteknaofnageihaaW.PrintMore Go.Proofs.YteknaofnageihaaLoc
attribute [local go_sem] max2_int min2_int max_two min_two max_three min_three max_four min_four   -- for this text's walks alone
set_option linter.unusedVariables false
set_option linter.unusedSimpArgs false
def AckF (k:Nat) (t:Tx) (ak:Int):Option Tx:=(spec_NumFar.f t.a1 ak).bind fun n=>if n > (t.fl.length:Int) then some { t with a9:=true } else (if 0≤n then ((spec_l6List.f k (t.fl.drop n.toNat)).bind fun l=>some ⟨t.a0,ak,l,mx 0 (wrap64 (t.a3 - n)),t.q,t.a5,t.a6,t.a7,wrap64 (t.a8+n),t.a9⟩) else none)
def TxP (w:World) (ok:Nat→Prop) (t:Tx):Ending→World→Prop:=fun e w'=>∃ v,e=.returned v∧Txf w' (fun k=>ok k∨w.heap.size≤k) t v∧Below w.heap.size w w'
theorem mkTxP {w w':World} {ok:Nat→Prop} {t:Tx} {e:Ending} (v:Value) (h:e=.returned v) (h1:Txf w' (fun k=>ok k∨w.heap.size≤k) t v) (h2:Below w.heap.size w w'):TxP w ok t e w':=⟨v,h,h1,h2⟩
set_option maxHeartbeats 60000000 in
set_option maxRecDepth 100000 in
theorem acked_calls (k:Nat) (t r:Tx) (v:Value) (ak:Int) (ok:Nat→Prop) (w:World) (ht:Txf w ok t v) (h:AckF k t ak=some r):Calls Try.prog 120 #[v,.int .i64 ak] w (TxP w ok r):=by
 obtain ⟨t0,t1,fl,t3,q,t5,t6,t7,t8,t9⟩:=t
 obtain ⟨A2,k2,A4,k4,rfl,h2,hk2,h4,hk4⟩:=ht
 dsimp only at h2 hk2 h4 hk4 ⊢
 have H2:=mk_ h2
 have K2:=mk_ hk2
 have H4:=mk_ h4
 have K4:=mk_ hk4
 clear h2 hk2 h4 hk4
 have HL:=mk_ (Lok.start w)
 unfold AckF at h
 simp only at h
 obtain ⟨n,hn,h⟩:=Option.bind_eq_some_iff.mp h
 have PN:=mk_ hn
 clear hn
 by_cases c1:n > (fl.length:Int)
 ·rw [if_pos c1] at h
  obtain rfl:=Option.some.inj h
  clear h
  have c1b:decide ((fl.length:Int)<n)=true:=decide_eq_true c1
  go_enter Try.func120,Try.ntmps120
  go_wp2_with (first|((with_reducible refine gate_gd rfl ?_);first|((with_reducible refine gd_on rfl ?_ ?_);rfl;dsimp only)|((with_reducible refine gd_off rfl ?_ ?_);rfl))|((with_reducible refine gate_dst (N:=9) rfl ?_);(with_reducible refine gate_callee (f:=82) rfl ?_);refine goesL_ (some 9) rfl rfl Try.func82 kz rfl #[.int .i64 t1,.int .i64 ak] rfl am ?_;(with_reducible refine (spec_NumFar.calls t1 ak n _ PN.out).mono ?_);rintro e w_ ⟨rfl,hb_⟩;refine ⟨_,rfl,?_⟩;replace HL:=mk_ (HL.out.call hb_.below);clear hb_)|((with_reducible refine gate_dst (N:=2) rfl ?_);refine loc_box rfl rfl gz HL.out ?_;intro gb2 w_ HL_;replace HL:=mk_ HL_;clear HL_)|((with_reducible refine gate_dst (N:=4) rfl ?_);refine loc_alloc rfl rfl tz69 HL.out ?_;intro gb4 w_ HL_;replace HL:=mk_ HL_;clear HL_)|((with_reducible refine gate_ld0 (t:=69) rfl ?_);refine loc_load (n:=10) rfl rfl kz rfl kz HL.out sz ?_)|((with_reducible refine gate_ld0 rfl ?_);refine loc_load1 rfl rfl kz rfl HL.out sz ?_)|((with_reducible refine gate_st0 rfl ?_);refine loc_store rfl rfl rfl gz kz kz HL.out pz ?_;intro w_ HL_;replace HL:=mk_ HL_;clear HL_))
  refine bodyPost_ret (results_cell_row rfl _ _ _ 69 _ (0,0) _ rfl (HL.out.blk hz) Try.underlying69 rfl kz) rfl ?_
  exact mkTxP _ ez ⟨A2,k2,A4,k4,rfl,Kd.F_mono (Kd.F_below H2.out HL.out.bel) (fun _ h_=>Or.inl h_),K2.out,Kd.F_mono (Kd.F_below H4.out HL.out.bel) (fun _ h_=>Or.inl h_),K4.out⟩ HL.out.bel
 rw [if_neg c1] at h
 have c1b:decide ((fl.length:Int)<n)=false:=decide_eq_false c1
 by_cases c2:0≤n
 rotate_left
 ·rw [if_neg c2] at h;exact absurd h (by simp)
 rw [if_pos c2] at h
 obtain ⟨l,hl,h⟩:=Option.bind_eq_some_iff.mp h
 obtain rfl:=Option.some.inj h
 have PL:=mk_ hl
 clear hl h
 have c3:n≤(fl.length:Int):=by omega
 obtain ⟨i39,hi39,_,hsz39,_⟩:=info_parts info39
 have hcut:=cut_from (P:=Try.prog) 23 39 .i64 Try.underlying23 hi39 3 hsz39 A2 fl.length k2 n c2 c3
 have HT:=mk_ (Kd.C_drop (m:=n.toNat) (Kd.F_now H2.out) (by omega) K2.out)
 obtain ⟨A27,hA27⟩:∃ A1,A1=(if k2=n.toNat then A2 else A2.map (·.add (n.toNat * 3))):=⟨_,rfl⟩
 obtain ⟨c27,hc27⟩:∃ c1,c1=k2 - n.toNat:=⟨_,rfl⟩
 obtain ⟨fd,hfd⟩:∃ z,z=fl.drop n.toNat:=⟨_,rfl⟩
 rw [← hfd] at HT PL
 have hlen:fl.length - n.toNat=fd.length:=by rw [hfd,List.length_drop]
 rw [← hA27,← hc27,hlen] at hcut
 replace HT:=mk_ (show Kd.C k39 w A27 fd.length fd by rw [hA27];exact HT.out)
 have KT:=mk_ (show fd.length≤c27 by rw [hc27,← hlen];have:=K2.out;omega)
 clear hA27 hc27 hi39 hsz39 hlen hfd
 go_enter Try.func120,Try.ntmps120
 go_wp2_with (first|((with_reducible refine gate_gd rfl ?_);first|((with_reducible refine gd_on rfl ?_ ?_);rfl;dsimp only)|((with_reducible refine gd_off rfl ?_ ?_);rfl))|((with_reducible refine gate_dst (N:=9) rfl ?_);(with_reducible refine gate_callee (f:=82) rfl ?_);refine goesL_ (some 9) rfl rfl Try.func82 kz rfl #[.int .i64 t1,.int .i64 ak] rfl am ?_;(with_reducible refine (spec_NumFar.calls t1 ak n _ PN.out).mono ?_);rintro e w_ ⟨rfl,hb_⟩;refine ⟨_,rfl,?_⟩;replace HL:=mk_ (HL.out.call hb_.below);clear hb_)|((with_reducible refine gate_dst (N:=21) rfl ?_);(with_reducible refine gate_callee (f:=118) rfl ?_);refine goesL_ (some 21) rfl rfl Try.func118 kz rfl #[.slice A27 fd.length c27] rfl am ?_;(with_reducible refine (spec_l6List.calls k A27 c27 fd l _ (Kd.C_below HT.out HL.out.bel) KT.out PL.out).mono ?_);rintro e w_ ⟨vp,rfl,hp_,hb_⟩;obtain ⟨Ap,kp,hvp⟩:=Kd.S_slice hp_;subst hvp;refine ⟨_,rfl,?_⟩;have KP:=mk_ (Kd.S_reads' hp_).2.1;have HX:=mk_ (Kd.S_F (Kd.S_mono (ok':=fun k_=>k_≠gb2∧k_≠gb4∧w.heap.size≤k_) (Kd.S_bound hp_) (fun k_ h_=>by have h7:=h_.2.1;have h8:=blk_lt (HL.out.blk (g:=gb2) hz);have h9:=blk_lt (HL.out.blk (g:=gb4) hz);have h10:=HL.out.bel.size;omega)));replace HL:=mk_ (HL.out.call hb_);clear hb_ hp_)|((with_reducible refine gate_dst (N:=2) rfl ?_);refine loc_box rfl rfl gz HL.out ?_;intro gb2 w_ HL_;replace HL:=mk_ HL_;clear HL_)|((with_reducible refine gate_dst (N:=4) rfl ?_);refine loc_alloc rfl rfl tz69 HL.out ?_;intro gb4 w_ HL_;replace HL:=mk_ HL_;clear HL_)|((with_reducible refine gate_ld0 (t:=69) rfl ?_);refine loc_load (n:=10) rfl rfl kz rfl kz HL.out sz ?_)|((with_reducible refine gate_ld0 rfl ?_);refine loc_load1 rfl rfl kz rfl HL.out sz ?_)|((with_reducible refine gate_st0 rfl ?_);refine tx_store rfl rfl rfl gz kz kz HL.out pz ?_;intro w_ HL_ hs_ hf_;replace HL:=mk_ HL_;replace HX:=mk_ (Kd.F_step HX.out (fun j_ h_ _=>hf_ j_ (by first|exact h_.1|exact h_.2.1|exact h_.2.2|exact h_.2)));clear HL_ hs_ hf_))
 all_goals refine bodyPost_ret (results_cell_row rfl _ _ _ 69 _ (0,0) _ rfl (HL.out.blk hz) Try.underlying69 rfl kz) rfl ?_
 all_goals exact mkTxP _ ez ⟨Ap,kp,A4,k4,rfl,Kd.F_mono (HX.out) (fun _ h_=>Or.inr h_.2.2),KP.out,Kd.F_mono (Kd.F_below H4.out HL.out.bel) (fun _ h_=>Or.inl h_),K4.out⟩ HL.out.bel
end Go.Proofs.Yteknaofnageihaa.QFnTxOk
