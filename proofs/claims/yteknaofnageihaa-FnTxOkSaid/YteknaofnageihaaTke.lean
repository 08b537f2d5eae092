-- Texts by hand for FnTxLeft, FnTxOk.
import Derived.Test.YteknaofnageihaaPureFnTxOkb
import Derived.Test.YteknaofnageihaaQFnTxOkx21
namespace Go.Proofs.Yteknaofnageihaa.QFnTxOk
open Go.RowKit Go.Proofs.YteknaofnageihaaW.PrintWords Go.Proofs.YteknaofnageihaaW.PrintLast Go.Proofs.YteknaofnageihaaW.PrintMore Go.Proofs.YteknaofnageihaaLoc
attribute [local go_sem] max2_int min2_int max_two min_two max_three min_three max_four min_four   -- for this text's walks alone
set_option linter.unusedVariables false
set_option linter.unusedSimpArgs false
open Go.Proofs.Yteknaofnageihaa.Pure
def TY (w:World) (k:Nat):Prop:=∃ q cells,w.heap[k]? =some (.cells cells q (0,0))∧(q=39∨q=5)
theorem ty_of {w:World} {k:Nat} (h:∃ q,q ∈ 39 :: k39.E∧∃ cells,w.heap[k]? =some (.cells cells q (0,0))):TY w k:=by
 obtain ⟨q,hq,cells,hc⟩:=h
 refine ⟨q,cells,hc,?_⟩
 have:39 :: k39.E=[39,5]:=rfl
 rw [this] at hq
 simpa using hq
theorem ty_ne {w0 w:World} {H:List Blk} {g k:Nat} {cs:List Value} {ty:TypeId} (HL:Lok w0 w H) (hh:Has H g cs ty) (ht:ty≠39∧ty≠5) (h:TY w k∨w.heap.size≤k):k≠g:=by
 rintro rfl
 rcases h with ⟨q,cells,hc,hq⟩|h
 ·have h9:=HL.blk hh
  rw [h9] at hc
  simp only [Option.some.injEq,Obj.cells.injEq] at hc
  rcases hq with rfl|rfl
  ·exact ht.1 hc.2.1
  ·exact ht.2 hc.2.1
 ·have:=blk_lt (HL.blk hh)
  omega
/-- A Tx of fresh rows (since base), apart; b2, b4: their own blocks. -/
def Txn (W:World) (base:Nat) (t:Tx) (v:Value) (b2 b4:Option Nat):Prop:=∃ A2 k2 A4 k4,v=.agg #[.int .i64 t.a0,.int .i64 t.a1,.slice A2 t.fl.length k2,.int .i64 t.a3,.slice A4 t.q.length k4,.bool t.a5,.int .i64 t.a6,.bool t.a7,.int .i64 t.a8,.bool t.a9]∧b2=(Value.slice A2 t.fl.length k2).ownBlock∧b4=(Value.slice A4 t.q.length k4).ownBlock ∧
 Kd.S k39 39 W base (fun k_=>some k_≠(Value.slice A4 t.q.length k4).ownBlock) (.slice A2 t.fl.length k2) t.fl∧Kd.S k39 39 W base (fun k_=>some k_≠(Value.slice A2 t.fl.length k2).ownBlock) (.slice A4 t.q.length k4) t.q
theorem Txn.f {W:World} {base:Nat} {t:Tx} {v:Value} {b2 b4:Option Nat} (h:Txn W base t v b2 b4):Txf W (fun k=>base≤k) t v:=by
 obtain ⟨A2,k2,A4,k4,rfl,_,_,h2,h4⟩:=h
 exact ⟨A2,k2,A4,k4,rfl,Kd.F_mono (Kd.S_F (Kd.S_bound h2)) (fun _ h_=>h_.2.1),(Kd.S_reads' h2).2.1,Kd.F_mono (Kd.S_F (Kd.S_bound h4)) (fun _ h_=>h_.2.1),(Kd.S_reads' h4).2.1⟩
theorem Txn.below {W w1:World} {base:Nat} {t:Tx} {v:Value} {b2 b4:Option Nat} (h:Txn W base t v b2 b4) (hb:Below W.heap.size W w1):Txn w1 base t v b2 b4:=by
 obtain ⟨A2,k2,A4,k4,rfl,e2,e4,h2,h4⟩:=h
 exact ⟨A2,k2,A4,k4,rfl,e2,e4,Kd.S_below h2 hb,Kd.S_below h4 hb⟩
theorem Txn.ne2 {W:World} {base:Nat} {t:Tx} {v:Value} {b2 b4:Option Nat} (h:Txn W base t v b2 b4) {H:List Blk} {w0:World} (HL:Lok w0 W H) (ht:H.all (fun b=>b.2.2 != 39)=true):∀ b ∈ H,some b.1≠b2:=by
 obtain ⟨A2,k2,A4,k4,rfl,rfl,rfl,h2,h4⟩:=h
 intro b hb
 have h9:=List.all_eq_true.mp ht b hb
 exact Kd.N_ne (Kd.S_N h2) (HL.all b hb).1 (fun e=>by rw [← e] at h9;exact absurd h9 (by decide))
theorem Txn.ne4 {W:World} {base:Nat} {t:Tx} {v:Value} {b2 b4:Option Nat} (h:Txn W base t v b2 b4) {H:List Blk} {w0:World} (HL:Lok w0 W H) (ht:H.all (fun b=>b.2.2 != 39)=true):∀ b ∈ H,some b.1≠b4:=by
 obtain ⟨A2,k2,A4,k4,rfl,rfl,rfl,h2,h4⟩:=h
 intro b hb
 have h9:=List.all_eq_true.mp ht b hb
 exact Kd.N_ne (Kd.S_N h4) (HL.all b hb).1 (fun e=>by rw [← e] at h9;exact absurd h9 (by decide))
theorem Lok_kept {w0 W w1:World} {H:List Blk} {r:Option Nat} (h:Lok w0 W H) (hb:Below w0.heap.size w0 w1) (hk:Kept W w1 (fun k=>some k=r)) (hne:∀ b ∈ H,some b.1≠r):Lok w0 w1 H :=
 ⟨hb,fun x hx=>⟨(hk.2 x.1 (blk_lt (h.all x hx).1) (hne x hx)).trans (h.all x hx).1,(h.all x hx).2⟩,h.ne⟩
theorem Lok_two {w0 w:World} {H:List Blk} {g1 g2:Nat} {c1 c2:List Value} {t1 t2:TypeId} (h:Lok w0 w H) (h1:Has H g1 c1 t1) (h2:Has H g2 c2 t2) (hn:g1≠g2):Lok w0 w [(g1,c1,t1),(g2,c2,t2)]:=by
 refine ⟨h.bel,fun x hx=>?_,by simp [hn]⟩
 simp only [List.mem_cons,List.not_mem_nil,or_false] at hx
 rcases hx with rfl|rfl
 ·exact ⟨h.blk h1,Lok_ge h h1⟩
 ·exact ⟨h.blk h2,Lok_ge h h2⟩
theorem Lok_far {w0 W w1:World} {H:List Blk} {g:Nat} (h:Lok w0 W H) (hb:Below w0.heap.size w0 w1) (hf:∀ j,j≠g→w1.heap[j]? =W.heap[j]?) (hne:∀ b ∈ H,b.1≠g):Lok w0 w1 H :=
 ⟨hb,fun x hx=>⟨(hf x.1 (hne x hx)).trans (h.all x hx).1,(h.all x hx).2⟩,h.ne⟩
theorem Txn.step {W w1:World} {base:Nat} {t:Tx} {v:Value} {b2 b4:Option Nat} (h:Txn W base t v b2 b4) (hm:∀ k,base≤k→TY W k→k<W.heap.size→w1.heap[k]? =W.heap[k]?):Txn w1 base t v b2 b4:=by
 obtain ⟨A2,k2,A4,k4,rfl,e2,e4,h2,h4⟩:=h
 exact ⟨A2,k2,A4,k4,rfl,e2,e4,Kd.S_mono (Kd.S_step (Kd.S_bound h2) (fun k hk hlt=>hm k hk.2.1 (ty_of hk.2.2.2) hlt)) (fun _ h_=>h_.1),Kd.S_mono (Kd.S_step (Kd.S_bound h4) (fun k hk hlt=>hm k hk.2.1 (ty_of hk.2.2.2) hlt)) (fun _ h_=>h_.1)⟩
theorem Txn.far {W w1:World} {base g:Nat} {t:Tx} {v:Value} {b2 b4:Option Nat} (h:Txn W base t v b2 b4) (hg:g<base) (hf:∀ j,j≠g→w1.heap[j]? =W.heap[j]?):Txn w1 base t v b2 b4:=h.step (fun k hk _ _=>hf k (by omega))
theorem Txn.lower {W:World} {base base':Nat} {t:Tx} {v:Value} {b2 b4:Option Nat} (h:Txn W base t v b2 b4) (hb:base'≤base):Txn W base' t v b2 b4:=by
 obtain ⟨A2,k2,A4,k4,rfl,e2,e4,h2,h4⟩:=h
 exact ⟨A2,k2,A4,k4,rfl,e2,e4,Kd.S_lower h2 hb,Kd.S_lower h4 hb⟩
theorem Txn_zero (w:World) (base:Nat):Txn w base ⟨0,0,[],0,[],false,0,false,0,false⟩ (.agg #[.int .i64 0,.int .i64 0,.slice none 0 0,.int .i64 0,.slice none 0 0,.bool false,.int .i64 0,.bool false,.int .i64 0,.bool false]) none none:=⟨none,0,none,0,rfl,rfl,rfl,Kd.S_nil _ _ _ _ _,Kd.S_nil _ _ _ _ _⟩
def TxE' (w:World):Ending→World→Prop:=fun e w'=>∃ v t b2 b4,e=.returned v∧Txn w' w.heap.size t v b2 b4∧Sm t∧Below w.heap.size w w'
theorem mkTxE' {w w':World} {e:Ending} {b2 b4:Option Nat} (t:Tx) (v:Value) (h:e=.returned v) (h1:Txn w' w.heap.size t v b2 b4) (hs:Sm t) (h2:Below w.heap.size w w'):TxE' w e w':=⟨v,t,b2,b4,h,h1,hs,h2⟩
def TxC (w:World) (t:Tx):Ending→World→Prop:=fun e w'=>∃ v b2 b4,e=.returned v∧Txn w' w.heap.size t v b2 b4∧Below w.heap.size w w'
theorem copy_calls (t:Tx) (v:Value) (w:World) (ht:Txr w t v) (hs:Sm t):Calls Try.prog 112 #[v] w (TxC w t):=by
 obtain ⟨k,hk⟩:=p_copy t hs
 obtain ⟨A2,k2,A4,k4,rfl,h2,hk2,h4,hk4⟩:=ht
 refine (spec_l6Copy.calls k _ _ A2 k2 _ _ A4 k4 _ _ _ _ _ _ _ _ _ _ _ _ _ _ _ _ w h2 hk2 h4 hk4 hk).mono ?_
 rintro e w' ⟨v2,v4,rfl,s2,s4,hb⟩
 obtain ⟨B2,j2,rfl⟩:=Kd.S_slice s2
 obtain ⟨B4,j4,rfl⟩:=Kd.S_slice s4
 exact ⟨_,_,_,rfl,⟨B2,j2,B4,j4,rfl,rfl,rfl,s2,s4⟩,hb⟩
theorem Txn.ty {W:World} {base:Nat} {t:Tx} {v:Value} {b2 b4:Option Nat} (h:Txn W base t v b2 b4):Txf W (TY W) t v:=by
 obtain ⟨A2,k2,A4,k4,rfl,_,_,h2,h4⟩:=h
 exact ⟨A2,k2,A4,k4,rfl,Kd.F_mono (Kd.S_F (Kd.S_bound h2)) (fun _ h_=>ty_of h_.2.2.2),(Kd.S_reads' h2).2.1,Kd.F_mono (Kd.S_F (Kd.S_bound h4)) (fun _ h_=>ty_of h_.2.2.2),(Kd.S_reads' h4).2.1⟩
theorem Txf.new {W w1:World} {ok:Nat→Prop} {t:Tx} {v:Value} {g:Nat} (h:Txf W ok t v) (hb:Below W.heap.size W w1) (hg:g=W.heap.size):Txf w1 (fun k=>ok k∧k≠g) t v:=by
 obtain ⟨A2,k2,A4,k4,rfl,h2,hk2,h4,hk4⟩:=h
 exact ⟨A2,k2,A4,k4,rfl,Kd.F_mono (Kd.F_below (Kd.F_bound h2) hb) (fun _ h_=>⟨h_.1,by have:=h_.2;omega⟩),hk2,Kd.F_mono (Kd.F_below (Kd.F_bound h4) hb) (fun _ h_=>⟨h_.1,by have:=h_.2;omega⟩),hk4⟩
def TxPP (w0 w:World) (b:Option Nat):Ending→World→Prop:=fun e w'=>∃ v t rb,e=.returned (.tuple #[v,.bool rb])∧Txf w' (fun k=>TY w k∨w.heap.size≤k) t v∧Sm t∧Below w0.heap.size w0 w'∧Kept w w' (fun k=>some k=b)
theorem put_calls (c0 c1 c2 c3 c4:Int) (hc:1≤c2∧c2≤8) (t:Tx) (v:Value) (b2 b4:Option Nat) (As:Option Addr) (ks:Nat) (sd:List Int) (w0 w:World) (hB:Below w0.heap.size w0 w) (ht:Txn w w0.heap.size t v b2 b4) (hs:Sm t) (hd:Kd.C (Kd.int .u8) w As sd.length sd) (hks:sd.length≤ks) (hl:sd.length≤1000) :
  Calls Try.prog 111 #[.agg #[.int .i64 c0,.int .i64 c1,.int .i64 c2,.int .i64 c3,.int .i64 c4],v,.slice As sd.length ks] w (TxPP w0 w b4):=by
 obtain ⟨k,r,rb,hk,hr⟩:=p_put c0 c1 c2 c3 c4 t hs hc sd hl
 obtain ⟨A2,k2,A4,k4,rfl,rfl,rfl,h2,h4⟩:=ht
 refine (spec_l6Put.callsT k c0 c1 c2 c3 c4 _ _ _ _ _ _ _ _ _ _ sd A2 A4 As k2 k4 ks r rb (TY w) w0 w hB (Kd.F_mono (Kd.S_F (Kd.S_bound h2)) (fun _ h_=>⟨ty_of h_.2.2.2,h_.1⟩)) (Kd.S_reads' h2).2.1 (Kd.S_N (Kd.S_mono (Kd.S_bound h4) (fun _ h_=>ty_of h_.2.2.2))) hd hks hk).mono ?_
 rintro e w' ⟨v,rfl,h1,hb,hk⟩
 exact ⟨v,r,rb,rfl,h1,hr,hb,hk⟩
theorem Txr_zero (w:World):Txr w ⟨0,0,[],0,[],false,0,false,0,false⟩ (.agg #[.int .i64 0,.int .i64 0,.slice none 0 0,.int .i64 0,.slice none 0 0,.bool false,.int .i64 0,.bool false,.int .i64 0,.bool false]):=⟨none,0,none,0,rfl,Kd.C_nil _ _,Nat.le_refl _,Kd.C_nil _ _,Nat.le_refl _⟩
theorem Sm_zero:Sm ⟨0,0,[],0,[],false,0,false,0,false⟩:=⟨⟨Nat.zero_le _,by simp⟩,Nat.zero_le _,by simp⟩
end Go.Proofs.Yteknaofnageihaa.QFnTxOk
