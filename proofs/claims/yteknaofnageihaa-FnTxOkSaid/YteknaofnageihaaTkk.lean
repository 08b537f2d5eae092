-- Texts by hand for FnTxLeft, FnTxOk.
import Derived.Test.YteknaofnageihaaTke
import Derived.Test.YteknaofnageihaaQFnTxOkx5
import Derived.Test.YteknaofnageihaaQFnTxOkx6
import Derived.Test.YteknaofnageihaaQFnTxOkx8
import Derived.Test.YteknaofnageihaaQFnTxOkx9
import Derived.Test.YteknaofnageihaaQFnTxOkx10
namespace Go.Proofs.Yteknaofnageihaa.QFnTxOk
open Go.RowKit Go.Proofs.YteknaofnageihaaW.PrintWords Go.Proofs.YteknaofnageihaaW.PrintLast Go.Proofs.YteknaofnageihaaW.PrintMore Go.Proofs.YteknaofnageihaaLoc
attribute [local go_sem] max2_int min2_int max_two min_two max_three min_three max_four min_four   -- for this text's walks alone
set_option linter.unusedVariables false
set_option linter.unusedSimpArgs false
open Go.Proofs.Yteknaofnageihaa.Pure
structure DX (w0 w W:World) (g:Nat) (s:List Int) (N:Int) (H:List Blk):Prop where
 lok:Lok w0 W H
 rd:∃ p,0≤p∧p≤N∧IsS113 w0 W g s p
 kb:KeepBut w W g none
 far:∀ b ∈ H,w.heap.size≤b.1∧b.2.2≠39∧b.2.2≠5
 gw:g<w.heap.size
section
variable {w0 w W w1:World} {g:Nat} {s:List Int} {N:Int} {H H':List Blk}
theorem DX.ne (h:DX w0 w W g s N H):∀ b ∈ H,b.1≠g:=fun b hb=>by have h1:=(h.far b hb).1;have h2:=h.gw;omega
theorem DX.up (h:DX w0 w W g s N H) {N':Int} (hn:N≤N'):DX w0 w W g s N' H:=by
 obtain ⟨p,h1,h2,h3⟩:=h.rd
 exact ⟨h.lok,⟨p,h1,by omega,h3⟩,h.kb,h.far,h.gw⟩
theorem DX.call (h:DX w0 w W g s N H) (hb:Below W.heap.size W w1):DX w0 w w1 g s N H:=by
 obtain ⟨p,h1,h2,h3⟩:=h.rd
 exact ⟨h.lok.call hb,⟨p,h1,h2,h3.below hb⟩,h.kb.trans (KeepBut.of_below hb g none) (.inl rfl),h.far,h.gw⟩
theorem DX.pick (h:DX w0 w W g s N H) {p' N':Int} (h0:0≤p') (hN:p'≤N') (hi:IsS113 w0 w1 g s p') (hb:Below w0.heap.size w0 w1) (hk:KeepBut W w1 g none):DX w0 w w1 g s N' H :=
 ⟨⟨hb,fun x hx=>⟨hk.blk (h.lok.all x hx).1 (h.ne x hx) (by simp),(h.lok.all x hx).2⟩,h.lok.ne⟩,⟨p',h0,hN,hi⟩,h.kb.trans hk (.inl rfl),h.far,h.gw⟩
theorem DX.drew (h:DX w0 w W g s N H):DX w0 w W.drew g s N H:=h.call (below_drew (Below.refl _ _))
theorem DX.new (h:DX w0 w W g s N H) {gn:Nat} {cs:List Value} {ty:TypeId} (hl:Lok w0 w1 ((gn,cs,ty) :: H)) (hb:Below W.heap.size W w1) (hg:gn=W.heap.size) (ht:ty≠39∧ty≠5):DX w0 w w1 g s N ((gn,cs,ty) :: H):=by
 have h9:=h.call hb
 exact ⟨hl,h9.rd,h9.kb,fun b hb9=>by
  rcases List.mem_cons.1 hb9 with rfl|hb9
  ·exact ⟨by have:=h.kb.1;dsimp only;omega,ht⟩
  ·exact h.far b hb9,h.gw⟩
theorem DX.st (h:DX w0 w W g s N H) {gs k:Nat} {vs:List Value} (hl:Lok w0 w1 H') (hs:W.heap.size≤w1.heap.size) (hf:∀ j,j≠gs→w1.heap[j]? =W.heap[j]?) (hu:Upd H gs k vs H'):DX w0 w w1 g s N H':=by
 obtain ⟨A,cs,t,B,cs',rfl,rfl,_⟩:=hu.spec
 have hgs:=h.far (gs,cs,t) (by simp)
 dsimp only at hgs
 have hgw:=h.gw
 obtain ⟨p,h1,h2,A0,c0,hb,hg,hr⟩:=h.rd
 refine ⟨hl,⟨p,h1,h2,A0,c0,(hf g (by omega)).trans hb,hg,hr⟩,⟨Nat.le_trans h.kb.1 hs,fun i hi hn hr=>(hf i (by omega)).trans (h.kb.2 i hi hn hr)⟩,fun b hb=>?_,h.gw⟩
 rcases List.mem_append.1 hb with hb|hb
 ·exact h.far b (List.mem_append.2 (.inl hb))
 rcases List.mem_cons.1 hb with rfl|hb
 ·exact hgs
 ·exact h.far b (List.mem_append.2 (.inr (List.mem_cons_of_mem _ hb)))
theorem Txn.st {base:Nat} {t:Tx} {v:Value} {b2 b4:Option Nat} {gs k:Nat} {vs:List Value} (h:Txn W base t v b2 b4) (hd:DX w0 w W g s N H) (hf:∀ j,j≠gs→w1.heap[j]? =W.heap[j]?) (hu:Upd H gs k vs H'):Txn w1 base t v b2 b4:=by
 obtain ⟨A,cs,t',B,cs',rfl,rfl,_⟩:=hu.spec
 have hgs:=hd.far (gs,cs,t') (by simp)
 have hbl:=(hd.lok.all (gs,cs,t') (by simp)).1
 dsimp only at hgs hbl
 refine h.step (fun k hk hty _=>hf k ?_)
 rintro rfl
 obtain ⟨q,cells,hc,hq⟩:=hty
 rw [hbl] at hc
 simp only [Option.some.injEq,Obj.cells.injEq] at hc
 rcases hq with rfl|rfl
 ·exact hgs.2.1 hc.2.1
 ·exact hgs.2.2 hc.2.1
theorem Txn.pick {t:Tx} {v:Value} {b2 b4:Option Nat} (h:Txn W w.heap.size t v b2 b4) (hd:DX w0 w W g s N H) (hk:KeepBut W w1 g none):Txn w1 w.heap.size t v b2 b4 :=
 h.step (fun k hb _ hlt=>hk.2 k hlt (by have:=hd.gw;omega) (by simp))
end
section
variable {P:Program} {ops:Array Oper} {o:Oper} {a:Act} {ty:TypeId} {x y:Operand} {rest:List Oper} {Q:Exit→Act→World→Prop} {K:Act→World→Prop} {w0 w W:World} {g gs k:Nat} {s:List Int} {N:Int} {H H':List Blk} {vs cs:List Value} {t:Tx} {v:Value} {b2 b4:Option Nat} {M:Option Tmp}
theorem dx_box (hgd:o.guard=none) (ho:o.op=.box ty x) (hy:(a.eval x).cells.toList=cs) (HD:DX w0 w W g s N H) (HT:Txn W w.heap.size t v b2 b4) (ht:ty≠39∧ty≠5) (h:∀ g' w',DX w0 w w' g s N ((g',cs,ty) :: H)→Txn w' w.heap.size t v b2 b4→wpList P ops Q rest (a.put o.dst (.pointer (some ⟨g',0,none⟩))) w'):wpList P ops Q (o :: rest) a W :=
 Kd.event_run hgd (loc_box_run ho hy W) (h _ _ (HD.new (HD.lok.new cs ty) (below_alloc (Below.refl _ _) _) rfl ht) (HT.below (below_alloc (Below.refl _ _) _)))
theorem dx_alloc (hgd:o.guard=none) (ho:o.op=.alloc ty) (hy:((P.info? ty).bind (·.zero)).map (·.cells.toList)=some cs) (HD:DX w0 w W g s N H) (HT:Txn W w.heap.size t v b2 b4) (ht:ty≠39∧ty≠5) (h:∀ g' w',DX w0 w w' g s N ((g',cs,ty) :: H)→Txn w' w.heap.size t v b2 b4→wpList P ops Q rest (a.put o.dst (.pointer (some ⟨g',0,none⟩))) w'):wpList P ops Q (o :: rest) a W :=
 Kd.event_run hgd (loc_alloc_run ho hy W) (h _ _ (HD.new (HD.lok.new cs ty) (below_alloc (Below.refl _ _) _) rfl ht) (HT.below (below_alloc (Below.refl _ _) _)))
theorem dx_store (hgd:o.guard=none) (ho:o.op=.store ty x y) (hx:a.eval x=.pointer (some ⟨gs,k,none⟩)) (hy:(a.eval y).cells.toList=vs) (hi:(P.info? ty).map (·.size)=some vs.length) (h1:vs.all (·.oneCell')=true) (HD:DX w0 w W g s N H) (HT:Txn W w.heap.size t v b2 b4) (hu:Upd H gs k vs H')
  (h:∀ w',DX w0 w w' g s N H'→Txn w' w.heap.size t v b2 b4→wpList P ops Q rest (a.put o.dst undef) w'):wpList P ops Q (o :: rest) a W :=
 tx_store hgd ho hx hy hi h1 HD.lok hu (fun w' hl hs hf=>h w' (HD.st hl hs hf hu) (HT.st HD hf hu))
theorem dx_store_step (hw:Region.wanted o (yielded ops a.tmps)=true) (hN:o.dst=none) (ho:o.op=.store ty x y) (hx:a.eval x=.pointer (some ⟨gs,k,none⟩)) (hy:(a.eval y).cells.toList=vs) (hi:(P.info? ty).map (·.size)=some vs.length) (h1:vs.all (·.oneCell')=true) (HD:DX w0 w W g s N H) (HT:Txn W w.heap.size t v b2 b4) (hu:Upd H gs k vs H')
  (h:∀ w',DX w0 w w' g s N H'→Txn w' w.heap.size t v b2 b4→K a w'):if Region.wanted o (yielded ops a.tmps)=true then Oper.wp P o a W K Q else K (a.put none undef) W :=
 store_step hw hN ho hx hy hi h1 HD.lok hu (fun w' hl hs hf=>h w' (HD.st hl hs hf hu) (HT.st HD hf hu))
end
/-- What a draw of the reader leaves. -/
def PkP (w0 w W:World) (g:Nat) (s:List Int) (N:Int) (H:List Blk) (t:Tx) (v:Value) (b2 b4:Option Nat) (R:Value→World→Prop):Ending→World→Prop:=fun e w'=>∃ u,e=.returned u∧R u w'∧DX w0 w w' g s N H∧Txn w' w.heap.size t v b2 b4∧KeepBut W w' g none
theorem pick_calls {w0 w W:World} {g:Nat} {s:List Int} {N:Int} {H:List Blk} {t:Tx} {v:Value} {b2 b4:Option Nat} (n:Int) (hn:1≤n) (hs:RdOk s) (hN:N≤100000) (HD:DX w0 w W g s N H) (HT:Txn W w.heap.size t v b2 b4) :
  Calls Try.prog 70 #[.pointer (some ⟨g,0,none⟩),.int .i64 n] W (PkP w0 w W g s (N+1) H t v b2 b4 (fun u _=>∃ r,u=.int .i64 r∧0≤r∧r<n)):=by
 obtain ⟨p,h1,h2,h3⟩:=HD.rd
 obtain ⟨k,⟨r,p1⟩,hk,e1,e2,e3⟩:=(pick_ok hs (p:=p) (by omega) n).got
 dsimp only at e1 e2 e3
 refine (spec_l20Rd_pick.calls k g s p n r p1 w0 W h3 HD.lok.bel hk).mono ?_
 rintro e w' ⟨rfl,hi,hb,hkb⟩
 exact ⟨_,rfl,⟨r,rfl,e2,by omega⟩,HD.pick (by omega) (by omega) hi hb hkb,HT.pick HD hkb,hkb⟩
theorem odd_calls {w0 w W:World} {g:Nat} {s:List Int} {N:Int} {H:List Blk} {t:Tx} {v:Value} {b2 b4:Option Nat} (n:Int) (hn:n≤1000) (hs:RdOk s) (hN:N≤100000) (HD:DX w0 w W g s N H) (HT:Txn W w.heap.size t v b2 b4) :
  Calls Try.prog 98 #[.pointer (some ⟨g,0,none⟩),.int .i64 n] W (PkP w0 w W g s (N+1) H t v b2 b4 (fun u _=>∃ r,u=.bool r)):=by
 obtain ⟨p,h1,h2,h3⟩:=HD.rd
 obtain ⟨k,⟨r,p1⟩,hk,e1,e2,_⟩:=(odd_ok hs (p:=p) (by omega) n (by omega)).got
 dsimp only at e1 e2
 refine (spec_l20Rd_odd.calls k g s p n r p1 w0 W h3 HD.lok.bel hk).mono ?_
 rintro e w' ⟨rfl,hi,hb,hkb⟩
 exact ⟨_,rfl,⟨r,rfl⟩,HD.pick (by omega) (by omega) hi hb hkb,HT.pick HD hkb,hkb⟩
theorem part_calls {w0 w W:World} {g:Nat} {s:List Int} {N:Int} {H:List Blk} {t:Tx} {v:Value} {b2 b4:Option Nat} (hs:RdOk s) (hN:N≤100000) (HD:DX w0 w W g s N H) (HT:Txn W w.heap.size t v b2 b4) :
  Calls Try.prog 99 #[.pointer (some ⟨g,0,none⟩)] W (PkP w0 w W g s (N+50) H t v b2 b4 (fun u w'=>∃ x:S39,∃ D d,u=.agg #[.int .i64 x.f0,.int .i64 x.f1,.slice D x.f2.length d]∧x.f2.length≤1000∧x.f2.length≤d∧Kd.F (Kd.int .u8) w' (fun k=>W.heap.size≤k) D x.f2.length x.f2)):=by
 obtain ⟨p,h1,h2,h3⟩:=HD.rd
 obtain ⟨k,⟨r1,r2,r3,p1⟩,hk,e1,e2,_,_,e3,_⟩:=(part_ok hs (p:=p) (by omega)).got
 dsimp only at e1 e2 e3
 refine (spec_l20Part.calls k g s p r1 r2 r3 p1 w0 W h3 HD.lok.bel hk).mono ?_
 rintro e w' ⟨v2,rfl,hr,hi,hb,hkb⟩
 obtain ⟨D,d,rfl⟩:=Kd.R_slice hr
 exact ⟨_,rfl,⟨⟨r1,r2,r3⟩,D,d,rfl,by dsimp only;omega,(Kd.R_reads' hr).2.1,Kd.F_mono (Kd.R_F (Kd.R_bound hr)) (fun _ h_=>h_.2.1)⟩,HD.pick (by omega) (by omega) hi hb hkb,HT.pick HD hkb,hkb⟩
theorem partOr_calls {w0 w W:World} {g:Nat} {s:List Int} {N:Int} {H:List Blk} {t:Tx} {v:Value} {b2 b4:Option Nat} (n:Int) (hn:n≤1000) (hs:RdOk s) (hN:N≤100000) (HD:DX w0 w W g s N H) (HT:Txn W w.heap.size t v b2 b4) :
  Calls Try.prog 78 #[.pointer (some ⟨g,0,none⟩),.int .i64 n] W (PkP w0 w W g s (N+50) H t v b2 b4 (fun u w'=>∃ x:S39,∃ D d,u=.agg #[.int .i64 x.f0,.int .i64 x.f1,.slice D x.f2.length d]∧x.f2.length≤1000∧x.f2.length≤d∧Kd.F (Kd.int .u8) w' (fun k=>W.heap.size≤k) D x.f2.length x.f2)):=by
 obtain ⟨p,h1,h2,h3⟩:=HD.rd
 obtain ⟨k,⟨r1,r2,r3,p1⟩,hk,e1,e2,_,e3,_⟩:=(partOr_ok hs (p:=p) (by omega) n hn).got
 dsimp only at e1 e2 e3
 refine (spec_l20PartOr.calls k g s p n r1 r2 r3 p1 w0 W h3 HD.lok.bel hk).mono ?_
 rintro e w' ⟨v2,rfl,hr,hi,hb,hkb⟩
 obtain ⟨D,d,rfl⟩:=Kd.R_slice hr
 exact ⟨_,rfl,⟨⟨r1,r2,r3⟩,D,d,rfl,by dsimp only;omega,(Kd.R_reads' hr).2.1,Kd.F_mono (Kd.R_F (Kd.R_bound hr)) (fun _ h_=>h_.2.1)⟩,HD.pick (by omega) (by omega) hi hb hkb,HT.pick HD hkb,hkb⟩
theorem bytes_calls {w0 w W:World} {g:Nat} {s:List Int} {N:Int} {H:List Blk} {t:Tx} {v:Value} {b2 b4:Option Nat} (n:Int) (hn:0≤n∧n≤30) (hs:RdOk s) (hN:N≤100000) (HD:DX w0 w W g s N H) (HT:Txn W w.heap.size t v b2 b4) :
  Calls Try.prog 69 #[.pointer (some ⟨g,0,none⟩),.int .i64 n] W (PkP w0 w W g s (N+100) H t v b2 b4 (fun u w'=>∃ (l:List Int) (D:Option Addr) (d:Nat),u=.slice D l.length d∧l.length≤1000∧l.length≤d∧Kd.C (Kd.int .u8) w' D l.length l)):=by
 obtain ⟨p,h1,h2,h3⟩:=HD.rd
 obtain ⟨k,⟨r,p1⟩,hk,e1,e2,_,e3⟩:=(bytes_ok hs (p:=p) n hn.1 (by omega) (by omega)).got
 dsimp only at e1 e2 e3
 refine (spec_l20Bytes.calls k g s p n r p1 w0 W h3 HD.lok.bel hk).mono ?_
 rintro e w' ⟨v2,rfl,hr,hi,hb,hkb⟩
 obtain ⟨D,d,rfl⟩:=Kd.R_slice hr
 have hrr:=Kd.R_reads' hr
 exact ⟨_,rfl,⟨r,D,d,rfl,by omega,hrr.2.1,hrr.2.2⟩,HD.pick (by omega) (by omega) hi hb hkb,HT.pick HD hkb,hkb⟩
end Go.Proofs.Yteknaofnageihaa.QFnTxOk
