-- Written by a program of this session, a turned copy of the print (not by print.sh itself). Lean checks it.
import Derived.Test.YteknaofnageihaaQFnTxOkx0
import Derived.Test.YteknaofnageihaaQFnTxOkx4
import Derived.Test.YteknaofnageihaaQFnTxOkx5
import Derived.Test.YteknaofnageihaaQFnTxOkx6
namespace Go.Proofs.Yteknaofnageihaa.QFnTxOk
open Go.RowKit Go.Proofs.YteknaofnageihaaW.PrintWords Go.Proofs.YteknaofnageihaaW.PrintLast Go.Proofs.YteknaofnageihaaW.PrintMore Go.Proofs.YteknaofnageihaaLoc
attribute [local go_sem] max2_int min2_int max_two min_two max_three min_three max_four min_four   -- for this text's walks alone
set_option linter.unusedVariables false
set_option linter.unusedSimpArgs false

/-! ### spec_l20Cfg: function 90 -/
def spec_l20Cfg.f (k : Nat) (s0_0 : List Int) (s0_1 : Int) (a1 : Int) : Option (Int × Int × Int × Int × Int × Int) := (spec_l20Rd_pick.f k s0_0 s0_1 2).bind fun bt117 => ((spec_l20Rd_pick.f k s0_0 bt117.2 4).bind fun bt119 => ((spec_l20Rd_pick.f k s0_0 bt119.2 8).bind fun bt121 => ((some (([wrap64 (1 + bt121.1), 3, 8] : List Int) : List Int)).bind fun y123 => ((spec_l20Rd_pick.f k s0_0 bt121.2 3).bind fun bt126 => (if 0 ≤ bt126.1 then (if bt126.1 < (y123.length : Int) then ((spec_l20Rd_pick.f k s0_0 bt126.2 24).bind fun bt129 => ((some (([24, wrap64 (1 + bt129.1)] : List Int) : List Int)).bind fun y131 => ((spec_l20Rd_pick.f k s0_0 bt129.2 2).bind fun bt134 => (if 0 ≤ bt134.1 then (if bt134.1 < (y131.length : Int) then ((spec_l20Rd_pick.f k s0_0 bt134.2 5).bind fun bt137 => ((spec_l20Rd_odd.f k s0_0 bt137.2 a1).bind fun bt140 => (if bt140.1 = true then ((spec_l20Rd_pick.f k s0_0 bt140.2 5).bind fun bt142 => (if bt142.1 = 0 then ((some (([0, 3] : List Int) : List Int)).bind fun y144 => ((spec_l20Rd_pick.f k s0_0 bt142.2 2).bind fun bt147 => (if 0 ≤ bt147.1 then (if bt147.1 < (y144.length : Int) then (some (rd y144 bt147.1, wrap64 (1 + bt119.1), rd y123 bt126.1, rd y131 bt134.1, wrap64 (1 + bt137.1), bt147.2)) else (none)) else (none)))) else (if bt142.1 = 1 then ((some (([0, 5] : List Int) : List Int)).bind fun y150 => ((spec_l20Rd_pick.f k s0_0 bt142.2 2).bind fun bt153 => (if 0 ≤ bt153.1 then (if bt153.1 < (y150.length : Int) then (some (wrap64 (1 + bt117.1), rd y150 bt153.1, rd y123 bt126.1, rd y131 bt134.1, wrap64 (1 + bt137.1), bt153.2)) else (none)) else (none)))) else (if bt142.1 = 2 then ((some (([0, 9] : List Int) : List Int)).bind fun y156 => ((spec_l20Rd_pick.f k s0_0 bt142.2 2).bind fun bt159 => (if 0 ≤ bt159.1 then (if bt159.1 < (y156.length : Int) then (some (wrap64 (1 + bt117.1), wrap64 (1 + bt119.1), rd y156 bt159.1, rd y131 bt134.1, wrap64 (1 + bt137.1), bt159.2)) else (none)) else (none)))) else (if bt142.1 = 3 then ((some (([0, 25] : List Int) : List Int)).bind fun y162 => ((spec_l20Rd_pick.f k s0_0 bt142.2 2).bind fun bt165 => (if 0 ≤ bt165.1 then (if bt165.1 < (y162.length : Int) then (some (wrap64 (1 + bt117.1), wrap64 (1 + bt119.1), rd y123 bt126.1, rd y162 bt165.1, wrap64 (1 + bt137.1), bt165.2)) else (none)) else (none)))) else ((some (([0, 6] : List Int) : List Int)).bind fun y168 => ((spec_l20Rd_pick.f k s0_0 bt142.2 2).bind fun bt171 => (if 0 ≤ bt171.1 then (if bt171.1 < (y168.length : Int) then (some (wrap64 (1 + bt117.1), wrap64 (1 + bt119.1), rd y123 bt126.1, rd y131 bt134.1, rd y168 bt171.1, bt171.2)) else (none)) else (none))))))))) else (some (wrap64 (1 + bt117.1), wrap64 (1 + bt119.1), rd y123 bt126.1, rd y131 bt134.1, wrap64 (1 + bt137.1), bt140.2))))) else (none)) else (none))))) else (none)) else (none))))))
theorem spec_l20Cfg.mono : ∀ a0 a1 a2 k, LeO (spec_l20Cfg.f k a0 a1 a2) (spec_l20Cfg.f (k + 1) a0 a1 a2) := by
 intro a0 a1 a2 k
 unfold spec_l20Cfg.f
 repeat' first
     | (with_reducible exact spec_l20Rd_odd.mono _ _ _ _)
     | (with_reducible exact spec_l20Rd_pick.mono _ _ _ _)
     | (with_reducible exact LeO.refl _)
     | (with_reducible exact LeO.none _)
     | (with_reducible refine LeO.ite ?_ ?_)
     | (with_reducible refine LeO.bind ?_ (fun _ => ?_))
     | exact spec_l20Rd_odd.mono _ _ _ _
     | exact spec_l20Rd_pick.mono _ _ _ _
     | exact LeO.none _
     | refine LeO.ite ?_ ?_
     | refine LeO.bind ?_ (fun _ => ?_)
def spec_l20Cfg.T1 : Bool × List (List Nat × List Nat) := (true, [([], []), ([0], [0]), ([1], [1]), ([], []), ([3, 1], [3]), ([4], [4]), ([], []), ([6, 4], [6]), ([7], [7]), ([8], [8]), ([], []), ([10, 7], [10]), ([9, 11], [9, 11]), ([12], [12]), ([], []), ([14, 11], [14]), ([15], [15]), ([16], [16]), ([], []), ([18, 15], [18]), ([17, 19], [17, 19]), ([20], [20]), ([], []), ([22, 19], [22]), ([23], [23]), ([2, 5, 13, 21, 24], [2, 5, 13, 21, 24]), ([], []), ([26, 25, 23, 0, 1, 2, 3, 4, 5, 6, 7, 8, 9, 10, 11, 12, 13, 14, 15, 16, 17, 18, 19, 20, 21, 22, 23, 24, 25, 26], [25, 26])])
def spec_l20Cfg.B1 : List Nat := [0, 1, 3, 0, 11, 27, 0, 91, 219, 475, 0, 1243, 4059, 8155, 0, 19675, 52443, 117979, 0, 314587, 1035483, 2084059, 0, 5033179, 13421787, 33554431, 0, 134217727]
theorem spec_l20Cfg.tab1 : rtab .any (opsOf Try.f90 1) = spec_l20Cfg.T1 := by kernel_rfl
theorem spec_l20Cfg.bits1 : waitsOk spec_l20Cfg.T1.2 spec_l20Cfg.B1 = true := by kernel_rfl
set_option maxHeartbeats 60000000 in
set_option maxRecDepth 100000 in
theorem spec_l20Cfg.calls (k : Nat) (g : Nat) (s0_0 : List Int) (s0_1 : Int) (a1 : Int) (r1 : Int) (r2 : Int) (r3 : Int) (r4 : Int) (r5 : Int) (r6 : Int) (w0 w : World) (hI : IsS113 w0 w g s0_0 s0_1) (hB : Below w0.heap.size w0 w) (h : spec_l20Cfg.f k s0_0 s0_1 a1 = some (r1, r2, r3, r4, r5, r6)) :
  Calls Try.prog 90 #[.pointer (some ⟨g,0,none⟩),.int .i64 a1] w fun e w'=>e=.returned (.agg #[.int .i64 r1,.int .i64 r2,.int .i64 r3,.int .i64 r4,.int .i64 r5])∧IsS113 w0 w' g s0_0 r6∧Below w0.heap.size w0 w'∧KeepBut w w' g none:=by
 have hu66:=Try.underlying66
 have HI0:=Aside0.mk hI
 have HGL:=Aside0.mk hI.lt
 have HK:=Aside0.mk (KeepBut.refl w g none)
 have HL:=Aside0.mk hB.size
 clear hI
 have HW0:=Aside0.mk hB.size
 have HB:=Aside0.mk hB
 clear hB
 have H:((spec_l20Rd_pick.f k s0_0 s0_1 2).bind fun bt117=>((spec_l20Rd_pick.f k s0_0 bt117.2 4).bind fun bt119=>((spec_l20Rd_pick.f k s0_0 bt119.2 8).bind fun bt121=>((some (([wrap64 (1+bt121.1),3,8]:List Int):List Int)).bind fun y123=>((spec_l20Rd_pick.f k s0_0 bt121.2 3).bind fun bt126=>(if 0≤bt126.1 then (if bt126.1<(y123.length:Int) then ((spec_l20Rd_pick.f k s0_0 bt126.2 24).bind fun bt129=>((some (([24,wrap64 (1+bt129.1)]:List Int):List Int)).bind fun y131=>((spec_l20Rd_pick.f k s0_0 bt129.2 2).bind fun bt134=>(if 0≤bt134.1 then (if bt134.1<(y131.length:Int) then ((spec_l20Rd_pick.f k s0_0 bt134.2 5).bind fun bt137=>((spec_l20Rd_odd.f k s0_0 bt137.2 a1).bind fun bt140=>(if bt140.1=true then ((spec_l20Rd_pick.f k s0_0 bt140.2 5).bind fun bt142=>(if bt142.1=0 then ((some (([0,3]:List Int):List Int)).bind fun y144=>((spec_l20Rd_pick.f k s0_0 bt142.2 2).bind fun bt147=>(if 0≤bt147.1 then (if bt147.1<(y144.length:Int) then (some (rd y144 bt147.1,wrap64 (1+bt119.1),rd y123 bt126.1,rd y131 bt134.1,wrap64 (1+bt137.1),bt147.2)) else (none)) else (none)))) else (if bt142.1=1 then ((some (([0,5]:List Int):List Int)).bind fun y150=>((spec_l20Rd_pick.f k s0_0 bt142.2 2).bind fun bt153=>(if 0≤bt153.1 then (if bt153.1<(y150.length:Int) then (some (wrap64 (1+bt117.1),rd y150 bt153.1,rd y123 bt126.1,rd y131 bt134.1,wrap64 (1+bt137.1),bt153.2)) else (none)) else (none)))) else (if bt142.1=2 then ((some (([0,9]:List Int):List Int)).bind fun y156=>((spec_l20Rd_pick.f k s0_0 bt142.2 2).bind fun bt159=>(if 0≤bt159.1 then (if bt159.1<(y156.length:Int) then (some (wrap64 (1+bt117.1),wrap64 (1+bt119.1),rd y156 bt159.1,rd y131 bt134.1,wrap64 (1+bt137.1),bt159.2)) else (none)) else (none)))) else (if bt142.1=3 then ((some (([0,25]:List Int):List Int)).bind fun y162=>((spec_l20Rd_pick.f k s0_0 bt142.2 2).bind fun bt165=>(if 0≤bt165.1 then (if bt165.1<(y162.length:Int) then (some (wrap64 (1+bt117.1),wrap64 (1+bt119.1),rd y123 bt126.1,rd y162 bt165.1,wrap64 (1+bt137.1),bt165.2)) else (none)) else (none)))) else ((some (([0,6]:List Int):List Int)).bind fun y168=>((spec_l20Rd_pick.f k s0_0 bt142.2 2).bind fun bt171=>(if 0≤bt171.1 then (if bt171.1<(y168.length:Int) then (some (wrap64 (1+bt117.1),wrap64 (1+bt119.1),rd y123 bt126.1,rd y131 bt134.1,rd y168 bt171.1,bt171.2)) else (none)) else (none))))))))) else (some (wrap64 (1+bt117.1),wrap64 (1+bt119.1),rd y123 bt126.1,rd y131 bt134.1,wrap64 (1+bt137.1),bt140.2))))) else (none)) else (none))))) else (none)) else (none)))))))=some (r1,r2,r3,r4,r5,r6):=h
 clear h
 replace H:=Option.bind_eq_some_iff.mp H
 obtain ⟨⟨t117,t118⟩,Cj,H⟩:=H
 replace H:((spec_l20Rd_pick.f k s0_0 t118 4).bind fun bt119=>((spec_l20Rd_pick.f k s0_0 bt119.2 8).bind fun bt121=>((some (([wrap64 (1+bt121.1),3,8]:List Int):List Int)).bind fun y123=>((spec_l20Rd_pick.f k s0_0 bt121.2 3).bind fun bt126=>(if 0≤bt126.1 then (if bt126.1<(y123.length:Int) then ((spec_l20Rd_pick.f k s0_0 bt126.2 24).bind fun bt129=>((some (([24,wrap64 (1+bt129.1)]:List Int):List Int)).bind fun y131=>((spec_l20Rd_pick.f k s0_0 bt129.2 2).bind fun bt134=>(if 0≤bt134.1 then (if bt134.1<(y131.length:Int) then ((spec_l20Rd_pick.f k s0_0 bt134.2 5).bind fun bt137=>((spec_l20Rd_odd.f k s0_0 bt137.2 a1).bind fun bt140=>(if bt140.1=true then ((spec_l20Rd_pick.f k s0_0 bt140.2 5).bind fun bt142=>(if bt142.1=0 then ((some (([0,3]:List Int):List Int)).bind fun y144=>((spec_l20Rd_pick.f k s0_0 bt142.2 2).bind fun bt147=>(if 0≤bt147.1 then (if bt147.1<(y144.length:Int) then (some (rd y144 bt147.1,wrap64 (1+bt119.1),rd y123 bt126.1,rd y131 bt134.1,wrap64 (1+bt137.1),bt147.2)) else (none)) else (none)))) else (if bt142.1=1 then ((some (([0,5]:List Int):List Int)).bind fun y150=>((spec_l20Rd_pick.f k s0_0 bt142.2 2).bind fun bt153=>(if 0≤bt153.1 then (if bt153.1<(y150.length:Int) then (some (wrap64 (1+t117),rd y150 bt153.1,rd y123 bt126.1,rd y131 bt134.1,wrap64 (1+bt137.1),bt153.2)) else (none)) else (none)))) else (if bt142.1=2 then ((some (([0,9]:List Int):List Int)).bind fun y156=>((spec_l20Rd_pick.f k s0_0 bt142.2 2).bind fun bt159=>(if 0≤bt159.1 then (if bt159.1<(y156.length:Int) then (some (wrap64 (1+t117),wrap64 (1+bt119.1),rd y156 bt159.1,rd y131 bt134.1,wrap64 (1+bt137.1),bt159.2)) else (none)) else (none)))) else (if bt142.1=3 then ((some (([0,25]:List Int):List Int)).bind fun y162=>((spec_l20Rd_pick.f k s0_0 bt142.2 2).bind fun bt165=>(if 0≤bt165.1 then (if bt165.1<(y162.length:Int) then (some (wrap64 (1+t117),wrap64 (1+bt119.1),rd y123 bt126.1,rd y162 bt165.1,wrap64 (1+bt137.1),bt165.2)) else (none)) else (none)))) else ((some (([0,6]:List Int):List Int)).bind fun y168=>((spec_l20Rd_pick.f k s0_0 bt142.2 2).bind fun bt171=>(if 0≤bt171.1 then (if bt171.1<(y168.length:Int) then (some (wrap64 (1+t117),wrap64 (1+bt119.1),rd y123 bt126.1,rd y131 bt134.1,rd y168 bt171.1,bt171.2)) else (none)) else (none))))))))) else (some (wrap64 (1+t117),wrap64 (1+bt119.1),rd y123 bt126.1,rd y131 bt134.1,wrap64 (1+bt137.1),bt140.2))))) else (none)) else (none))))) else (none)) else (none))))))=some (r1,r2,r3,r4,r5,r6):=H
 have A3:=Aside0.mk Cj
 clear Cj
 replace H:=Option.bind_eq_some_iff.mp H
 obtain ⟨⟨t119,t120⟩,Ck,H⟩:=H
 replace H:((spec_l20Rd_pick.f k s0_0 t120 8).bind fun bt121=>((some (([wrap64 (1+bt121.1),3,8]:List Int):List Int)).bind fun y123=>((spec_l20Rd_pick.f k s0_0 bt121.2 3).bind fun bt126=>(if 0≤bt126.1 then (if bt126.1<(y123.length:Int) then ((spec_l20Rd_pick.f k s0_0 bt126.2 24).bind fun bt129=>((some (([24,wrap64 (1+bt129.1)]:List Int):List Int)).bind fun y131=>((spec_l20Rd_pick.f k s0_0 bt129.2 2).bind fun bt134=>(if 0≤bt134.1 then (if bt134.1<(y131.length:Int) then ((spec_l20Rd_pick.f k s0_0 bt134.2 5).bind fun bt137=>((spec_l20Rd_odd.f k s0_0 bt137.2 a1).bind fun bt140=>(if bt140.1=true then ((spec_l20Rd_pick.f k s0_0 bt140.2 5).bind fun bt142=>(if bt142.1=0 then ((some (([0,3]:List Int):List Int)).bind fun y144=>((spec_l20Rd_pick.f k s0_0 bt142.2 2).bind fun bt147=>(if 0≤bt147.1 then (if bt147.1<(y144.length:Int) then (some (rd y144 bt147.1,wrap64 (1+t119),rd y123 bt126.1,rd y131 bt134.1,wrap64 (1+bt137.1),bt147.2)) else (none)) else (none)))) else (if bt142.1=1 then ((some (([0,5]:List Int):List Int)).bind fun y150=>((spec_l20Rd_pick.f k s0_0 bt142.2 2).bind fun bt153=>(if 0≤bt153.1 then (if bt153.1<(y150.length:Int) then (some (wrap64 (1+t117),rd y150 bt153.1,rd y123 bt126.1,rd y131 bt134.1,wrap64 (1+bt137.1),bt153.2)) else (none)) else (none)))) else (if bt142.1=2 then ((some (([0,9]:List Int):List Int)).bind fun y156=>((spec_l20Rd_pick.f k s0_0 bt142.2 2).bind fun bt159=>(if 0≤bt159.1 then (if bt159.1<(y156.length:Int) then (some (wrap64 (1+t117),wrap64 (1+t119),rd y156 bt159.1,rd y131 bt134.1,wrap64 (1+bt137.1),bt159.2)) else (none)) else (none)))) else (if bt142.1=3 then ((some (([0,25]:List Int):List Int)).bind fun y162=>((spec_l20Rd_pick.f k s0_0 bt142.2 2).bind fun bt165=>(if 0≤bt165.1 then (if bt165.1<(y162.length:Int) then (some (wrap64 (1+t117),wrap64 (1+t119),rd y123 bt126.1,rd y162 bt165.1,wrap64 (1+bt137.1),bt165.2)) else (none)) else (none)))) else ((some (([0,6]:List Int):List Int)).bind fun y168=>((spec_l20Rd_pick.f k s0_0 bt142.2 2).bind fun bt171=>(if 0≤bt171.1 then (if bt171.1<(y168.length:Int) then (some (wrap64 (1+t117),wrap64 (1+t119),rd y123 bt126.1,rd y131 bt134.1,rd y168 bt171.1,bt171.2)) else (none)) else (none))))))))) else (some (wrap64 (1+t117),wrap64 (1+t119),rd y123 bt126.1,rd y131 bt134.1,wrap64 (1+bt137.1),bt140.2))))) else (none)) else (none))))) else (none)) else (none)))))=some (r1,r2,r3,r4,r5,r6):=H
 have A4:=Aside0.mk Ck
 clear Ck
 replace H:=Option.bind_eq_some_iff.mp H
 obtain ⟨⟨t121,t122⟩,Cl,H⟩:=H
 replace H:((some (([wrap64 (1+t121),3,8]:List Int):List Int)).bind fun y123=>((spec_l20Rd_pick.f k s0_0 t122 3).bind fun bt126=>(if 0≤bt126.1 then (if bt126.1<(y123.length:Int) then ((spec_l20Rd_pick.f k s0_0 bt126.2 24).bind fun bt129=>((some (([24,wrap64 (1+bt129.1)]:List Int):List Int)).bind fun y131=>((spec_l20Rd_pick.f k s0_0 bt129.2 2).bind fun bt134=>(if 0≤bt134.1 then (if bt134.1<(y131.length:Int) then ((spec_l20Rd_pick.f k s0_0 bt134.2 5).bind fun bt137=>((spec_l20Rd_odd.f k s0_0 bt137.2 a1).bind fun bt140=>(if bt140.1=true then ((spec_l20Rd_pick.f k s0_0 bt140.2 5).bind fun bt142=>(if bt142.1=0 then ((some (([0,3]:List Int):List Int)).bind fun y144=>((spec_l20Rd_pick.f k s0_0 bt142.2 2).bind fun bt147=>(if 0≤bt147.1 then (if bt147.1<(y144.length:Int) then (some (rd y144 bt147.1,wrap64 (1+t119),rd y123 bt126.1,rd y131 bt134.1,wrap64 (1+bt137.1),bt147.2)) else (none)) else (none)))) else (if bt142.1=1 then ((some (([0,5]:List Int):List Int)).bind fun y150=>((spec_l20Rd_pick.f k s0_0 bt142.2 2).bind fun bt153=>(if 0≤bt153.1 then (if bt153.1<(y150.length:Int) then (some (wrap64 (1+t117),rd y150 bt153.1,rd y123 bt126.1,rd y131 bt134.1,wrap64 (1+bt137.1),bt153.2)) else (none)) else (none)))) else (if bt142.1=2 then ((some (([0,9]:List Int):List Int)).bind fun y156=>((spec_l20Rd_pick.f k s0_0 bt142.2 2).bind fun bt159=>(if 0≤bt159.1 then (if bt159.1<(y156.length:Int) then (some (wrap64 (1+t117),wrap64 (1+t119),rd y156 bt159.1,rd y131 bt134.1,wrap64 (1+bt137.1),bt159.2)) else (none)) else (none)))) else (if bt142.1=3 then ((some (([0,25]:List Int):List Int)).bind fun y162=>((spec_l20Rd_pick.f k s0_0 bt142.2 2).bind fun bt165=>(if 0≤bt165.1 then (if bt165.1<(y162.length:Int) then (some (wrap64 (1+t117),wrap64 (1+t119),rd y123 bt126.1,rd y162 bt165.1,wrap64 (1+bt137.1),bt165.2)) else (none)) else (none)))) else ((some (([0,6]:List Int):List Int)).bind fun y168=>((spec_l20Rd_pick.f k s0_0 bt142.2 2).bind fun bt171=>(if 0≤bt171.1 then (if bt171.1<(y168.length:Int) then (some (wrap64 (1+t117),wrap64 (1+t119),rd y123 bt126.1,rd y131 bt134.1,rd y168 bt171.1,bt171.2)) else (none)) else (none))))))))) else (some (wrap64 (1+t117),wrap64 (1+t119),rd y123 bt126.1,rd y131 bt134.1,wrap64 (1+bt137.1),bt140.2))))) else (none)) else (none))))) else (none)) else (none))))=some (r1,r2,r3,r4,r5,r6):=H
 have A5:=Aside0.mk Cl
 clear Cl
 obtain ⟨y123,hy123⟩:∃ y_:List Int,y_=(([wrap64 (1+t121),3,8]:List Int)):=⟨_,rfl⟩
 replace H:((spec_l20Rd_pick.f k s0_0 t122 3).bind fun bt126=>(if 0≤bt126.1 then (if bt126.1<(y123.length:Int) then ((spec_l20Rd_pick.f k s0_0 bt126.2 24).bind fun bt129=>((some (([24,wrap64 (1+bt129.1)]:List Int):List Int)).bind fun y131=>((spec_l20Rd_pick.f k s0_0 bt129.2 2).bind fun bt134=>(if 0≤bt134.1 then (if bt134.1<(y131.length:Int) then ((spec_l20Rd_pick.f k s0_0 bt134.2 5).bind fun bt137=>((spec_l20Rd_odd.f k s0_0 bt137.2 a1).bind fun bt140=>(if bt140.1=true then ((spec_l20Rd_pick.f k s0_0 bt140.2 5).bind fun bt142=>(if bt142.1=0 then ((some (([0,3]:List Int):List Int)).bind fun y144=>((spec_l20Rd_pick.f k s0_0 bt142.2 2).bind fun bt147=>(if 0≤bt147.1 then (if bt147.1<(y144.length:Int) then (some (rd y144 bt147.1,wrap64 (1+t119),rd y123 bt126.1,rd y131 bt134.1,wrap64 (1+bt137.1),bt147.2)) else (none)) else (none)))) else (if bt142.1=1 then ((some (([0,5]:List Int):List Int)).bind fun y150=>((spec_l20Rd_pick.f k s0_0 bt142.2 2).bind fun bt153=>(if 0≤bt153.1 then (if bt153.1<(y150.length:Int) then (some (wrap64 (1+t117),rd y150 bt153.1,rd y123 bt126.1,rd y131 bt134.1,wrap64 (1+bt137.1),bt153.2)) else (none)) else (none)))) else (if bt142.1=2 then ((some (([0,9]:List Int):List Int)).bind fun y156=>((spec_l20Rd_pick.f k s0_0 bt142.2 2).bind fun bt159=>(if 0≤bt159.1 then (if bt159.1<(y156.length:Int) then (some (wrap64 (1+t117),wrap64 (1+t119),rd y156 bt159.1,rd y131 bt134.1,wrap64 (1+bt137.1),bt159.2)) else (none)) else (none)))) else (if bt142.1=3 then ((some (([0,25]:List Int):List Int)).bind fun y162=>((spec_l20Rd_pick.f k s0_0 bt142.2 2).bind fun bt165=>(if 0≤bt165.1 then (if bt165.1<(y162.length:Int) then (some (wrap64 (1+t117),wrap64 (1+t119),rd y123 bt126.1,rd y162 bt165.1,wrap64 (1+bt137.1),bt165.2)) else (none)) else (none)))) else ((some (([0,6]:List Int):List Int)).bind fun y168=>((spec_l20Rd_pick.f k s0_0 bt142.2 2).bind fun bt171=>(if 0≤bt171.1 then (if bt171.1<(y168.length:Int) then (some (wrap64 (1+t117),wrap64 (1+t119),rd y123 bt126.1,rd y131 bt134.1,rd y168 bt171.1,bt171.2)) else (none)) else (none))))))))) else (some (wrap64 (1+t117),wrap64 (1+t119),rd y123 bt126.1,rd y131 bt134.1,wrap64 (1+bt137.1),bt140.2))))) else (none)) else (none))))) else (none)) else (none)))=some (r1,r2,r3,r4,r5,r6):=by first|(rw [hy123];with_reducible exact H)|(have H2_:=(Option.bind_some _ _).symm.trans H;rw [hy123];with_reducible exact H2_)|(have H2_:=(Option.bind_some _ _).symm.trans H;with_reducible exact H2_)|with_reducible exact H|(rw [hy123];exact H)|exact H
 have Ny123:=Aside0.mk hy123
 clear hy123
 replace H:=Option.bind_eq_some_iff.mp H
 obtain ⟨⟨t126,t127⟩,Cm,H⟩:=H
 replace H:(if 0≤t126 then (if t126<(y123.length:Int) then ((spec_l20Rd_pick.f k s0_0 t127 24).bind fun bt129=>((some (([24,wrap64 (1+bt129.1)]:List Int):List Int)).bind fun y131=>((spec_l20Rd_pick.f k s0_0 bt129.2 2).bind fun bt134=>(if 0≤bt134.1 then (if bt134.1<(y131.length:Int) then ((spec_l20Rd_pick.f k s0_0 bt134.2 5).bind fun bt137=>((spec_l20Rd_odd.f k s0_0 bt137.2 a1).bind fun bt140=>(if bt140.1=true then ((spec_l20Rd_pick.f k s0_0 bt140.2 5).bind fun bt142=>(if bt142.1=0 then ((some (([0,3]:List Int):List Int)).bind fun y144=>((spec_l20Rd_pick.f k s0_0 bt142.2 2).bind fun bt147=>(if 0≤bt147.1 then (if bt147.1<(y144.length:Int) then (some (rd y144 bt147.1,wrap64 (1+t119),rd y123 t126,rd y131 bt134.1,wrap64 (1+bt137.1),bt147.2)) else (none)) else (none)))) else (if bt142.1=1 then ((some (([0,5]:List Int):List Int)).bind fun y150=>((spec_l20Rd_pick.f k s0_0 bt142.2 2).bind fun bt153=>(if 0≤bt153.1 then (if bt153.1<(y150.length:Int) then (some (wrap64 (1+t117),rd y150 bt153.1,rd y123 t126,rd y131 bt134.1,wrap64 (1+bt137.1),bt153.2)) else (none)) else (none)))) else (if bt142.1=2 then ((some (([0,9]:List Int):List Int)).bind fun y156=>((spec_l20Rd_pick.f k s0_0 bt142.2 2).bind fun bt159=>(if 0≤bt159.1 then (if bt159.1<(y156.length:Int) then (some (wrap64 (1+t117),wrap64 (1+t119),rd y156 bt159.1,rd y131 bt134.1,wrap64 (1+bt137.1),bt159.2)) else (none)) else (none)))) else (if bt142.1=3 then ((some (([0,25]:List Int):List Int)).bind fun y162=>((spec_l20Rd_pick.f k s0_0 bt142.2 2).bind fun bt165=>(if 0≤bt165.1 then (if bt165.1<(y162.length:Int) then (some (wrap64 (1+t117),wrap64 (1+t119),rd y123 t126,rd y162 bt165.1,wrap64 (1+bt137.1),bt165.2)) else (none)) else (none)))) else ((some (([0,6]:List Int):List Int)).bind fun y168=>((spec_l20Rd_pick.f k s0_0 bt142.2 2).bind fun bt171=>(if 0≤bt171.1 then (if bt171.1<(y168.length:Int) then (some (wrap64 (1+t117),wrap64 (1+t119),rd y123 t126,rd y131 bt134.1,rd y168 bt171.1,bt171.2)) else (none)) else (none))))))))) else (some (wrap64 (1+t117),wrap64 (1+t119),rd y123 t126,rd y131 bt134.1,wrap64 (1+bt137.1),bt140.2))))) else (none)) else (none))))) else (none)) else (none))=some (r1,r2,r3,r4,r5,r6):=H
 have A6:=Aside0.mk Cm
 clear Cm
 by_cases c7:0≤t126
 rotate_left
 ·rw [if_neg c7] at H
  exact absurd H (by simp)
 rw [if_pos c7] at H
 have c7b0:decide (0≤t126)=true:=decide_eq_true c7
 clear c7
 by_cases c8:t126<(y123.length:Int)
 rotate_left
 ·rw [if_neg c8] at H
  exact absurd H (by simp)
 rw [if_pos c8] at H
 have c8b0:decide (t126<(y123.length:Int))=true:=decide_eq_true c8
 clear c8
 replace H:=Option.bind_eq_some_iff.mp H
 obtain ⟨⟨t129,t130⟩,Cn,H⟩:=H
 replace H:((some (([24,wrap64 (1+t129)]:List Int):List Int)).bind fun y131=>((spec_l20Rd_pick.f k s0_0 t130 2).bind fun bt134=>(if 0≤bt134.1 then (if bt134.1<(y131.length:Int) then ((spec_l20Rd_pick.f k s0_0 bt134.2 5).bind fun bt137=>((spec_l20Rd_odd.f k s0_0 bt137.2 a1).bind fun bt140=>(if bt140.1=true then ((spec_l20Rd_pick.f k s0_0 bt140.2 5).bind fun bt142=>(if bt142.1=0 then ((some (([0,3]:List Int):List Int)).bind fun y144=>((spec_l20Rd_pick.f k s0_0 bt142.2 2).bind fun bt147=>(if 0≤bt147.1 then (if bt147.1<(y144.length:Int) then (some (rd y144 bt147.1,wrap64 (1+t119),rd y123 t126,rd y131 bt134.1,wrap64 (1+bt137.1),bt147.2)) else (none)) else (none)))) else (if bt142.1=1 then ((some (([0,5]:List Int):List Int)).bind fun y150=>((spec_l20Rd_pick.f k s0_0 bt142.2 2).bind fun bt153=>(if 0≤bt153.1 then (if bt153.1<(y150.length:Int) then (some (wrap64 (1+t117),rd y150 bt153.1,rd y123 t126,rd y131 bt134.1,wrap64 (1+bt137.1),bt153.2)) else (none)) else (none)))) else (if bt142.1=2 then ((some (([0,9]:List Int):List Int)).bind fun y156=>((spec_l20Rd_pick.f k s0_0 bt142.2 2).bind fun bt159=>(if 0≤bt159.1 then (if bt159.1<(y156.length:Int) then (some (wrap64 (1+t117),wrap64 (1+t119),rd y156 bt159.1,rd y131 bt134.1,wrap64 (1+bt137.1),bt159.2)) else (none)) else (none)))) else (if bt142.1=3 then ((some (([0,25]:List Int):List Int)).bind fun y162=>((spec_l20Rd_pick.f k s0_0 bt142.2 2).bind fun bt165=>(if 0≤bt165.1 then (if bt165.1<(y162.length:Int) then (some (wrap64 (1+t117),wrap64 (1+t119),rd y123 t126,rd y162 bt165.1,wrap64 (1+bt137.1),bt165.2)) else (none)) else (none)))) else ((some (([0,6]:List Int):List Int)).bind fun y168=>((spec_l20Rd_pick.f k s0_0 bt142.2 2).bind fun bt171=>(if 0≤bt171.1 then (if bt171.1<(y168.length:Int) then (some (wrap64 (1+t117),wrap64 (1+t119),rd y123 t126,rd y131 bt134.1,rd y168 bt171.1,bt171.2)) else (none)) else (none))))))))) else (some (wrap64 (1+t117),wrap64 (1+t119),rd y123 t126,rd y131 bt134.1,wrap64 (1+bt137.1),bt140.2))))) else (none)) else (none))))=some (r1,r2,r3,r4,r5,r6):=H
 have A9:=Aside0.mk Cn
 clear Cn
 obtain ⟨y131,hy131⟩:∃ y_:List Int,y_=(([24,wrap64 (1+t129)]:List Int)):=⟨_,rfl⟩
 replace H:((spec_l20Rd_pick.f k s0_0 t130 2).bind fun bt134=>(if 0≤bt134.1 then (if bt134.1<(y131.length:Int) then ((spec_l20Rd_pick.f k s0_0 bt134.2 5).bind fun bt137=>((spec_l20Rd_odd.f k s0_0 bt137.2 a1).bind fun bt140=>(if bt140.1=true then ((spec_l20Rd_pick.f k s0_0 bt140.2 5).bind fun bt142=>(if bt142.1=0 then ((some (([0,3]:List Int):List Int)).bind fun y144=>((spec_l20Rd_pick.f k s0_0 bt142.2 2).bind fun bt147=>(if 0≤bt147.1 then (if bt147.1<(y144.length:Int) then (some (rd y144 bt147.1,wrap64 (1+t119),rd y123 t126,rd y131 bt134.1,wrap64 (1+bt137.1),bt147.2)) else (none)) else (none)))) else (if bt142.1=1 then ((some (([0,5]:List Int):List Int)).bind fun y150=>((spec_l20Rd_pick.f k s0_0 bt142.2 2).bind fun bt153=>(if 0≤bt153.1 then (if bt153.1<(y150.length:Int) then (some (wrap64 (1+t117),rd y150 bt153.1,rd y123 t126,rd y131 bt134.1,wrap64 (1+bt137.1),bt153.2)) else (none)) else (none)))) else (if bt142.1=2 then ((some (([0,9]:List Int):List Int)).bind fun y156=>((spec_l20Rd_pick.f k s0_0 bt142.2 2).bind fun bt159=>(if 0≤bt159.1 then (if bt159.1<(y156.length:Int) then (some (wrap64 (1+t117),wrap64 (1+t119),rd y156 bt159.1,rd y131 bt134.1,wrap64 (1+bt137.1),bt159.2)) else (none)) else (none)))) else (if bt142.1=3 then ((some (([0,25]:List Int):List Int)).bind fun y162=>((spec_l20Rd_pick.f k s0_0 bt142.2 2).bind fun bt165=>(if 0≤bt165.1 then (if bt165.1<(y162.length:Int) then (some (wrap64 (1+t117),wrap64 (1+t119),rd y123 t126,rd y162 bt165.1,wrap64 (1+bt137.1),bt165.2)) else (none)) else (none)))) else ((some (([0,6]:List Int):List Int)).bind fun y168=>((spec_l20Rd_pick.f k s0_0 bt142.2 2).bind fun bt171=>(if 0≤bt171.1 then (if bt171.1<(y168.length:Int) then (some (wrap64 (1+t117),wrap64 (1+t119),rd y123 t126,rd y131 bt134.1,rd y168 bt171.1,bt171.2)) else (none)) else (none))))))))) else (some (wrap64 (1+t117),wrap64 (1+t119),rd y123 t126,rd y131 bt134.1,wrap64 (1+bt137.1),bt140.2))))) else (none)) else (none)))=some (r1,r2,r3,r4,r5,r6):=by first|(rw [hy131];with_reducible exact H)|(have H2_:=(Option.bind_some _ _).symm.trans H;rw [hy131];with_reducible exact H2_)|(have H2_:=(Option.bind_some _ _).symm.trans H;with_reducible exact H2_)|with_reducible exact H|(rw [hy131];exact H)|exact H
 have Ny131:=Aside0.mk hy131
 clear hy131
 replace H:=Option.bind_eq_some_iff.mp H
 obtain ⟨⟨t134,t135⟩,Ca,H⟩:=H
 replace H:(if 0≤t134 then (if t134<(y131.length:Int) then ((spec_l20Rd_pick.f k s0_0 t135 5).bind fun bt137=>((spec_l20Rd_odd.f k s0_0 bt137.2 a1).bind fun bt140=>(if bt140.1=true then ((spec_l20Rd_pick.f k s0_0 bt140.2 5).bind fun bt142=>(if bt142.1=0 then ((some (([0,3]:List Int):List Int)).bind fun y144=>((spec_l20Rd_pick.f k s0_0 bt142.2 2).bind fun bt147=>(if 0≤bt147.1 then (if bt147.1<(y144.length:Int) then (some (rd y144 bt147.1,wrap64 (1+t119),rd y123 t126,rd y131 t134,wrap64 (1+bt137.1),bt147.2)) else (none)) else (none)))) else (if bt142.1=1 then ((some (([0,5]:List Int):List Int)).bind fun y150=>((spec_l20Rd_pick.f k s0_0 bt142.2 2).bind fun bt153=>(if 0≤bt153.1 then (if bt153.1<(y150.length:Int) then (some (wrap64 (1+t117),rd y150 bt153.1,rd y123 t126,rd y131 t134,wrap64 (1+bt137.1),bt153.2)) else (none)) else (none)))) else (if bt142.1=2 then ((some (([0,9]:List Int):List Int)).bind fun y156=>((spec_l20Rd_pick.f k s0_0 bt142.2 2).bind fun bt159=>(if 0≤bt159.1 then (if bt159.1<(y156.length:Int) then (some (wrap64 (1+t117),wrap64 (1+t119),rd y156 bt159.1,rd y131 t134,wrap64 (1+bt137.1),bt159.2)) else (none)) else (none)))) else (if bt142.1=3 then ((some (([0,25]:List Int):List Int)).bind fun y162=>((spec_l20Rd_pick.f k s0_0 bt142.2 2).bind fun bt165=>(if 0≤bt165.1 then (if bt165.1<(y162.length:Int) then (some (wrap64 (1+t117),wrap64 (1+t119),rd y123 t126,rd y162 bt165.1,wrap64 (1+bt137.1),bt165.2)) else (none)) else (none)))) else ((some (([0,6]:List Int):List Int)).bind fun y168=>((spec_l20Rd_pick.f k s0_0 bt142.2 2).bind fun bt171=>(if 0≤bt171.1 then (if bt171.1<(y168.length:Int) then (some (wrap64 (1+t117),wrap64 (1+t119),rd y123 t126,rd y131 t134,rd y168 bt171.1,bt171.2)) else (none)) else (none))))))))) else (some (wrap64 (1+t117),wrap64 (1+t119),rd y123 t126,rd y131 t134,wrap64 (1+bt137.1),bt140.2))))) else (none)) else (none))=some (r1,r2,r3,r4,r5,r6):=H
 have F5:=Aside0.mk Ca
 clear Ca
 by_cases c11:0≤t134
 rotate_left
 ·rw [if_neg c11] at H
  exact absurd H (by simp)
 rw [if_pos c11] at H
 have c11b0:decide (0≤t134)=true:=decide_eq_true c11
 clear c11
 by_cases c12:t134<(y131.length:Int)
 rotate_left
 ·rw [if_neg c12] at H
  exact absurd H (by simp)
 rw [if_pos c12] at H
 have c12b0:decide (t134<(y131.length:Int))=true:=decide_eq_true c12
 clear c12
 replace H:=Option.bind_eq_some_iff.mp H
 obtain ⟨⟨t137,t138⟩,Cb,H⟩:=H
 replace H:((spec_l20Rd_odd.f k s0_0 t138 a1).bind fun bt140=>(if bt140.1=true then ((spec_l20Rd_pick.f k s0_0 bt140.2 5).bind fun bt142=>(if bt142.1=0 then ((some (([0,3]:List Int):List Int)).bind fun y144=>((spec_l20Rd_pick.f k s0_0 bt142.2 2).bind fun bt147=>(if 0≤bt147.1 then (if bt147.1<(y144.length:Int) then (some (rd y144 bt147.1,wrap64 (1+t119),rd y123 t126,rd y131 t134,wrap64 (1+t137),bt147.2)) else (none)) else (none)))) else (if bt142.1=1 then ((some (([0,5]:List Int):List Int)).bind fun y150=>((spec_l20Rd_pick.f k s0_0 bt142.2 2).bind fun bt153=>(if 0≤bt153.1 then (if bt153.1<(y150.length:Int) then (some (wrap64 (1+t117),rd y150 bt153.1,rd y123 t126,rd y131 t134,wrap64 (1+t137),bt153.2)) else (none)) else (none)))) else (if bt142.1=2 then ((some (([0,9]:List Int):List Int)).bind fun y156=>((spec_l20Rd_pick.f k s0_0 bt142.2 2).bind fun bt159=>(if 0≤bt159.1 then (if bt159.1<(y156.length:Int) then (some (wrap64 (1+t117),wrap64 (1+t119),rd y156 bt159.1,rd y131 t134,wrap64 (1+t137),bt159.2)) else (none)) else (none)))) else (if bt142.1=3 then ((some (([0,25]:List Int):List Int)).bind fun y162=>((spec_l20Rd_pick.f k s0_0 bt142.2 2).bind fun bt165=>(if 0≤bt165.1 then (if bt165.1<(y162.length:Int) then (some (wrap64 (1+t117),wrap64 (1+t119),rd y123 t126,rd y162 bt165.1,wrap64 (1+t137),bt165.2)) else (none)) else (none)))) else ((some (([0,6]:List Int):List Int)).bind fun y168=>((spec_l20Rd_pick.f k s0_0 bt142.2 2).bind fun bt171=>(if 0≤bt171.1 then (if bt171.1<(y168.length:Int) then (some (wrap64 (1+t117),wrap64 (1+t119),rd y123 t126,rd y131 t134,rd y168 bt171.1,bt171.2)) else (none)) else (none))))))))) else (some (wrap64 (1+t117),wrap64 (1+t119),rd y123 t126,rd y131 t134,wrap64 (1+t137),bt140.2))))=some (r1,r2,r3,r4,r5,r6):=H
 have F6:=Aside0.mk Cb
 clear Cb
 replace H:=Option.bind_eq_some_iff.mp H
 obtain ⟨⟨t140,t141⟩,Cc,H⟩:=H
 replace H:(if t140=true then ((spec_l20Rd_pick.f k s0_0 t141 5).bind fun bt142=>(if bt142.1=0 then ((some (([0,3]:List Int):List Int)).bind fun y144=>((spec_l20Rd_pick.f k s0_0 bt142.2 2).bind fun bt147=>(if 0≤bt147.1 then (if bt147.1<(y144.length:Int) then (some (rd y144 bt147.1,wrap64 (1+t119),rd y123 t126,rd y131 t134,wrap64 (1+t137),bt147.2)) else (none)) else (none)))) else (if bt142.1=1 then ((some (([0,5]:List Int):List Int)).bind fun y150=>((spec_l20Rd_pick.f k s0_0 bt142.2 2).bind fun bt153=>(if 0≤bt153.1 then (if bt153.1<(y150.length:Int) then (some (wrap64 (1+t117),rd y150 bt153.1,rd y123 t126,rd y131 t134,wrap64 (1+t137),bt153.2)) else (none)) else (none)))) else (if bt142.1=2 then ((some (([0,9]:List Int):List Int)).bind fun y156=>((spec_l20Rd_pick.f k s0_0 bt142.2 2).bind fun bt159=>(if 0≤bt159.1 then (if bt159.1<(y156.length:Int) then (some (wrap64 (1+t117),wrap64 (1+t119),rd y156 bt159.1,rd y131 t134,wrap64 (1+t137),bt159.2)) else (none)) else (none)))) else (if bt142.1=3 then ((some (([0,25]:List Int):List Int)).bind fun y162=>((spec_l20Rd_pick.f k s0_0 bt142.2 2).bind fun bt165=>(if 0≤bt165.1 then (if bt165.1<(y162.length:Int) then (some (wrap64 (1+t117),wrap64 (1+t119),rd y123 t126,rd y162 bt165.1,wrap64 (1+t137),bt165.2)) else (none)) else (none)))) else ((some (([0,6]:List Int):List Int)).bind fun y168=>((spec_l20Rd_pick.f k s0_0 bt142.2 2).bind fun bt171=>(if 0≤bt171.1 then (if bt171.1<(y168.length:Int) then (some (wrap64 (1+t117),wrap64 (1+t119),rd y123 t126,rd y131 t134,rd y168 bt171.1,bt171.2)) else (none)) else (none))))))))) else (some (wrap64 (1+t117),wrap64 (1+t119),rd y123 t126,rd y131 t134,wrap64 (1+t137),t141)))=some (r1,r2,r3,r4,r5,r6):=H
 have B3:=Aside0.mk Cc
 clear Cc
 have HH:=Aside0.mk H
 clear H
 go_enter Try.func90,Try.ntmps90
 try go_wp2_with (first|((with_reducible refine gate_dst (N:=4) rfl ?_);refine box_event ?hg (N:=4) ?hd (cs:=#[.int .i64 0,.int .i64 0,.int .i64 0,.int .i64 0,.int .i64 0]) (t:=66) ?hr ?_;(case hd=>rfl);(case hg=>rfl);(case hr=>first|(go_simp;done)|(go_simp;rfl));intro gb116 hg Co hbox hb;have n0_:=Aside0.mk (IsS113.below (yu2 HI0.out) hb);have n1_:=Aside0.mk (KeepBut.trans (yu8 HK.out) (KeepBut.of_below hb g none) (.inl rfl));have n2_:=Aside0.mk (below_step (yu9 HB.out HI0.out) hb);have n3_:=Aside0.mk (hbox);have n4_:=Aside0.mk ((by rw [hg];exact (keep_size (w:=w) (g:=g) (row:=none) (yu8 HK.out)):w.heap.size≤gb116));have n5_:=Aside0.mk ((Nat.le_trans HW0.out (by rw [hg];exact (keep_size (w:=w) (g:=g) (row:=none) (yu8 HK.out)):w.heap.size≤gb116):w0.heap.size≤gb116));have n6_:=Aside0.mk ((by rw [hg];exact Nat.ne_of_lt (IsS113.lt (show IsS113 w0 _ g s0_0 s0_1 from by exact yu2 HI0.out)):g≠gb116));have n7_:=Aside0.mk ((by rw [hg];exact Nat.ne_of_gt (IsS113.lt (show IsS113 w0 _ g s0_0 s0_1 from by exact yu2 HI0.out)):gb116≠g));clear HI0;clear HK;clear HB;have HI0:=n0_;have HK:=n1_;have HB:=n2_;have Aa:=n3_;have Gz:=n4_;have G0:=n5_;have Bb:=n6_;have A8:=n7_;clear n0_ n1_ n2_ n3_ n4_ n5_ n6_ n7_;clear hb hbox hg))
 have pi128:(0≤(t126:Int))=True:=eq_true (of_decide_eq_true (by first|(with_reducible assumption)|assumption))
 have qi128:(t126<(y123.length:Int))=True:=eq_true (of_decide_eq_true (by first|(with_reducible assumption)|assumption))
 have pi136:(0≤(t134:Int))=True:=eq_true (of_decide_eq_true (by first|(with_reducible assumption)|assumption))
 have qi136:(t134<(y131.length:Int))=True:=eq_true (of_decide_eq_true (by first|(with_reducible assumption)|assumption))
 have n0_:=Aside0.mk (blk_drew Aa.out)
 have n1_:=Aside0.mk (IsS113.drew HI0.out)
 have n2_:=Aside0.mk (keep_drew HK.out)
 have n3_:=Aside0.mk (below_drew1 HB.out)
 clear Aa
 clear HI0
 clear HK
 clear HB
 have Aa:=n0_
 have HI0:=n1_
 have HK:=n2_
 have HB:=n3_
 clear n0_ n1_ n2_ n3_
 refine start_ (n:=28) (S:=fun w'=>True) (ds:=[]) #[false,false,false,false,false,false,false,false,false,false,false,false,false,false,false,false,false,false,false,false,false,false,false,false,false,false,false,false] (by kernel_rfl) rfl rfl trivial (fun hHeld=>?_);refine with_tabW spec_l20Cfg.tab1 spec_l20Cfg.bits1 (fun HT_ HW_=>?_)
 generalize Co.drew=Hd at Aa HI0 HK HB hHeld ⊢
 refine pure_ (i:=0) (N:=some 6) (v:=?_) (a':=?_) #[true,false,false,false,false,false,false,false,false,false,false,false,false,false,false,false,false,false,false,false,false,false,false,false,false,false,false,false] rfl rfl (any_of HT_.out (by kernel_rfl)) (fun _ _ _ h=>h) (Or.inl ⟨by rfl,?_⟩) ?_ ?_
 rotate_left
 ·intro w'
  go_simp
  with_reducible rfl
 rotate_left
 ·simp only [Act.put,List.setIfInBounds_toArray,List.set_cons_zero,List.set_cons_succ,i64_w,i32_w]
  rfl
 refine pure_ (i:=3) (N:=some 9) (v:=?_) (a':=?_) #[true,false,false,true,false,false,false,false,false,false,false,false,false,false,false,false,false,false,false,false,false,false,false,false,false,false,false,false] rfl rfl (any_of HT_.out (by kernel_rfl)) (fun _ _ _ h=>h) (Or.inl ⟨by rfl,?_⟩) ?_ ?_
 rotate_left
 ·intro w'
  go_simp
  with_reducible rfl
 rotate_left
 ·simp only [Act.put,List.setIfInBounds_toArray,List.set_cons_zero,List.set_cons_succ,i64_w,i32_w]
  rfl
 refine pure_ (i:=6) (N:=some 12) (v:=?_) (a':=?_) #[true,false,false,true,false,false,true,false,false,false,false,false,false,false,false,false,false,false,false,false,false,false,false,false,false,false,false,false] rfl rfl (any_of HT_.out (by kernel_rfl)) (fun _ _ _ h=>h) (Or.inl ⟨by rfl,?_⟩) ?_ ?_
 rotate_left
 ·intro w'
  go_simp
  with_reducible rfl
 rotate_left
 ·simp only [Act.put,List.setIfInBounds_toArray,List.set_cons_zero,List.set_cons_succ,i64_w,i32_w]
  rfl
 refine pure_ (i:=10) (N:=some 16) (v:=?_) (a':=?_) #[true,false,false,true,false,false,true,false,false,false,true,false,false,false,false,false,false,false,false,false,false,false,false,false,false,false,false,false] rfl rfl (any_of HT_.out (by kernel_rfl)) (fun _ _ _ h=>h) (Or.inl ⟨by rfl,?_⟩) ?_ ?_
 rotate_left
 ·intro w'
  go_simp
  with_reducible rfl
 rotate_left
 ·simp only [Act.put,List.setIfInBounds_toArray,List.set_cons_zero,List.set_cons_succ,i64_w,i32_w]
  rfl
 refine pure_ (i:=14) (N:=some 20) (v:=?_) (a':=?_) #[true,false,false,true,false,false,true,false,false,false,true,false,false,false,true,false,false,false,false,false,false,false,false,false,false,false,false,false] rfl rfl (any_of HT_.out (by kernel_rfl)) (fun _ _ _ h=>h) (Or.inl ⟨by rfl,?_⟩) ?_ ?_
 rotate_left
 ·intro w'
  go_simp
  with_reducible rfl
 rotate_left
 ·simp only [Act.put,List.setIfInBounds_toArray,List.set_cons_zero,List.set_cons_succ,i64_w,i32_w]
  rfl
 refine pure_ (i:=18) (N:=some 24) (v:=?_) (a':=?_) #[true,false,false,true,false,false,true,false,false,false,true,false,false,false,true,false,false,false,true,false,false,false,false,false,false,false,false,false] rfl rfl (any_of HT_.out (by kernel_rfl)) (fun _ _ _ h=>h) (Or.inl ⟨by rfl,?_⟩) ?_ ?_
 rotate_left
 ·intro w'
  go_simp
  with_reducible rfl
 rotate_left
 ·simp only [Act.put,List.setIfInBounds_toArray,List.set_cons_zero,List.set_cons_succ,i64_w,i32_w]
  rfl
 refine pure_ (i:=22) (N:=some 28) (v:=?_) (a':=?_) #[true,false,false,true,false,false,true,false,false,false,true,false,false,false,true,false,false,false,true,false,false,false,true,false,false,false,false,false] rfl rfl (any_of HT_.out (by kernel_rfl)) (fun _ _ _ h=>h) (Or.inl ⟨by rfl,?_⟩) ?_ ?_
 rotate_left
 ·intro w'
  go_simp
  with_reducible rfl
 rotate_left
 ·simp only [Act.put,List.setIfInBounds_toArray,List.set_cons_zero,List.set_cons_succ,i64_w,i32_w]
  rfl
 refine inv_at [1,2,4,5,7,8,9,11,12,13,15,16,17,19,20,21,23,24,25,26,27] (fun a0_ b a w'=>∃ (v124:Value) (adz_v124:Addr) (v132:Value) (adz_v132:Addr) (gb139:Nat) (m12_:Value) (m20_:Value) (m26_:Value),a=putSel a0_ b [(1,7,.int .i64 t117),(2,8,.int .i64 (wrap64 (1+t117))),(4,10,.int .i64 t119),(5,11,.int .i64 (wrap64 (1+t119))),(7,13,.int .i64 t121),(8,14,.int .i64 (wrap64 (1+t121))),(9,15,v124),(11,17,.int .i64 t126),(12,18,m12_),(13,19,.int .i64 (rd y123 t126)),(15,21,.int .i64 t129),(16,22,.int .i64 (wrap64 (1+t129))),(17,23,v132),(19,25,.int .i64 t134),(20,26,m20_),(21,27,.int .i64 (rd y131 t134)),(23,29,.int .i64 t137),(24,30,.int .i64 (wrap64 (1+t137))),(25,31,.agg #[.int .i64 (wrap64 (1+t117)),.int .i64 (wrap64 (1+t119)),.int .i64 (rd y123 t126),.int .i64 (rd y131 t134),.int .i64 (wrap64 (1+t137))]),(26,5,m26_)]∧(w'.heap[gb116]? =some (.cells #[.int .i64 0,.int .i64 0,.int .i64 0,.int .i64 0,.int .i64 0] 66 (0,0)))∧(b 1=false→IsS113 w0 w' g s0_0 s0_1)∧(KeepBut w w' g none)∧(Below w0.heap.size w0 w')∧(b 1=true→b 4=false→IsS113 w0 w' g s0_0 t118)∧(b 4=true→b 7=false→IsS113 w0 w' g s0_0 t120)∧(b 7=true→b 11=false→IsS113 w0 w' g s0_0 t122)∧(b 9=true→Kd.R (Kd.int .i64) 3 w' w.heap.size (fun _=>True) v124 y123)∧(b 9=true→∃ c_,(v124:Value)=.slice (some adz_v124) y123.length c_)∧(b 11=true→b 15=false→IsS113 w0 w' g s0_0 t127)∧(b 15=true→b 19=false→IsS113 w0 w' g s0_0 t130)∧(b 17=true→Kd.R (Kd.int .i64) 3 w' w.heap.size (fun _=>True) v132 y131)∧(b 17=true→∃ c_,(v132:Value)=.slice (some adz_v132) y131.length c_)∧(b 19=true→b 23=false→IsS113 w0 w' g s0_0 t135)∧(b 23=true→IsS113 w0 w' g s0_0 t138)∧(b 26=true→b 27=false→w'.heap[gb139]? =some (.cells #[.int .i64 0,.int .i64 0,.int .i64 0,.int .i64 0,.int .i64 0] 66 (0,0)))∧(b 26=true→w.heap.size≤gb139)∧(b 26=true→w0.heap.size≤gb139)∧(b 26=true→g≠gb139)∧(b 26=true→gb139≠g)∧(b 26=true→gb116≠gb139)∧(b 26=true→gb139≠gb116)∧(b 27=true→w'.heap[gb139]? =some (.cells #[.int .i64 (wrap64 (1+t117)),.int .i64 (wrap64 (1+t119)),.int .i64 (rd y123 t126),.int .i64 (rd y131 t134),.int .i64 (wrap64 (1+t137))] 66 (0,0)))∧(b 12=true→(m12_:Value)=.pointer (some (adz_v124.add (t126).toNat)))∧(b 20=true→(m20_:Value)=.pointer (some (adz_v132.add (t134).toNat)))∧(b 26=true→(m26_:Value)=.pointer (some ⟨gb139,0,none⟩))) HT_.out HW_.out (by kernel_rfl) (by kernel_rfl) ?_ ?_ ?_
 ·exact ⟨.bool false,⟨0,0,none⟩,.bool false,⟨0,0,none⟩,0,.bool false,.bool false,.bool false,by simp only [putSel,Bool.false_eq_true,if_false],Aa.out,fun _=>HI0.out,HK.out,HB.out,fun h_=>absurd h_ (by decide),fun h_=>absurd h_ (by decide),fun h_=>absurd h_ (by decide),fun h_=>absurd h_ (by decide),fun h_=>absurd h_ (by decide),fun h_=>absurd h_ (by decide),fun h_=>absurd h_ (by decide),fun h_=>absurd h_ (by decide),fun h_=>absurd h_ (by decide),fun h_=>absurd h_ (by decide),fun h_=>absurd h_ (by decide),fun h_=>absurd h_ (by decide),fun h_=>absurd h_ (by decide),fun h_=>absurd h_ (by decide),fun h_=>absurd h_ (by decide),fun h_=>absurd h_ (by decide),fun h_=>absurd h_ (by decide),fun h_=>absurd h_ (by decide),fun h_=>absurd h_ (by decide),fun h_=>absurd h_ (by decide),fun h_=>absurd h_ (by decide),fun h_=>absurd h_ (by decide)⟩
 ·skip
  clear Aa HB HI0 HK
  refine steps_cons ?_ ?_
  ·rintro b a w' ⟨v124,adz_v124,v132,adz_v132,gb139,m12_,m20_,m26_,ha,Al,Bd,A0,A1,A2,Az,Aw,Am,Af,At,Ao,Ap,Ag,An,Ak,As,Aq,Ar,Ah,Ae,Ac,Ad,Au,Ay,A7,Av⟩ hb_ hon hoff
   refine ⟨_,rfl,fun K hK=>?_⟩
   have e6:a.tmps[6]? =some (.pointer (some ⟨g,0,none⟩)):=by rw [ha];exact (putSel_off rfl).trans rfl
   replace ha:=Aside0.mk ha
   have Aa:=Aside0.mk Al
   have HI0:=Aside0.mk (Bd hb_)
   have HK:=Aside0.mk A0
   have HB:=Aside0.mk A1
   refine goes_ Try.func70 (by kernel_rfl) rfl #[.pointer (some ⟨g,0,none⟩),.int .i64 2] (by rfl) rfl rfl (by first|(simp only [List.map_toArray,List.map_cons,List.map_nil,Act.eval,Array.getD_eq_getD_getElem?,Option.getD_some,e6];done)|(simp only [List.map_toArray,List.map_cons,List.map_nil,Act.eval,Array.getD_eq_getD_getElem?,Option.getD_some,e6];rfl)) ?_
   with_reducible refine (spec_l20Rd_pick.calls k g s0_0 s0_1 2 t117 t118 w0 _ ?side1 ?side2 A3.out).mono ?_
   (case side1=>exact yu3 HI0.out)
   (case side2=>exact yu10 HB.out HI0.out)
   rintro e Bl ⟨rfl,hi,hb,hk⟩
   refine ⟨_,rfl,?_⟩
   have n0_:=Aside0.mk (KeepBut.blk hk (g':=gb116) (o:=.cells #[.int .i64 0,.int .i64 0,.int .i64 0,.int .i64 0,.int .i64 0] 66 (0,0)) (yv14 Aa.out) A8.out (by simp))
   have n1_:=Aside0.mk (KeepBut.trans (yu11 HK.out) hk (.inl rfl))
   have n2_:=Aside0.mk (hb)
   have n3_:=Aside0.mk (hi)
   have Be:=fun (h0_:b 26=true) (h1_:b 27=false)=>(show Bl.heap[gb139]? =some (.cells #[.int .i64 0,.int .i64 0,.int .i64 0,.int .i64 0,.int .i64 0] 66 (0,0)) from by first|exact (KeepBut.blk hk (g':=gb139) (o:=.cells #[.int .i64 0,.int .i64 0,.int .i64 0,.int .i64 0,.int .i64 0] 66 (0,0)) (by (with_reducible repeat (first|refine blk_drewN ?_ _|refine blk_drew ?_|refine blk_alloc ?_ _));exact (As h0_ h1_)) (Ae h0_) (by simp)))
   clear Aa
   clear HK
   clear HB
   clear HI0
   have Aa:=n0_
   have HK:=n1_
   have HB:=n2_
   have HI0:=n3_
   clear n0_ n1_ n2_ n3_
   (try clear hb)
   (try clear hb2)
   (try clear hk)
   (try clear hi)
   refine hK.out _ _ ⟨v124,adz_v124,v132,adz_v132,gb139,m12_,m20_,m26_,(by rw [ha.out];exact putSel_upk 0 hb_ rfl rfl rfl),(yv14 Aa.out),fun h0_=>absurd ((up_self b 1).symm.trans h0_) (by decide),(yu11 HK.out),(yu10 HB.out HI0.out),fun _ _=>(yu3 HI0.out),fun h0_ _=>nh (hoff 4 (by kernel_rfl)) h0_,fun h0_ _=>nh (hoff 7 (by kernel_rfl)) h0_,fun h0_=>nh (hoff 9 (by kernel_rfl)) h0_,fun h0_=>nh (hoff 9 (by kernel_rfl)) h0_,fun h0_ _=>nh (hoff 11 (by kernel_rfl)) h0_,fun h0_ _=>nh (hoff 15 (by kernel_rfl)) h0_,fun h0_=>nh (hoff 17 (by kernel_rfl)) h0_,fun h0_=>nh (hoff 17 (by kernel_rfl)) h0_,fun h0_ _=>nh (hoff 19 (by kernel_rfl)) h0_,fun h0_=>nh (hoff 23 (by kernel_rfl)) h0_,Be,Aq,Ar,Ah,Ae,Ac,Ad,fun h0_=>nh (hoff 27 (by kernel_rfl)) h0_,fun h0_=>nh (hoff 12 (by kernel_rfl)) h0_,fun h0_=>nh (hoff 20 (by kernel_rfl)) h0_,Av⟩
  refine steps_cons ?_ ?_
  ·rintro b a w' ⟨v124,adz_v124,v132,adz_v132,gb139,m12_,m20_,m26_,ha,Al,Bd,A0,A1,A2,Az,Aw,Am,Af,At,Ao,Ap,Ag,An,Ak,As,Aq,Ar,Ah,Ae,Ac,Ad,Au,Ay,A7,Av⟩ hb_ hon hoff
   refine ⟨_,rfl,fun K hK=>?_⟩
   have e7:a.tmps[7]? =some (.int .i64 t117):=by rw [ha];exact putSel_on (e:=(1,7,.int .i64 t117)) 0 rfl rfl (hon 1 (by kernel_rfl)) rfl
   replace ha:=Aside0.mk ha
   have Aa:=Aside0.mk Al
   have HK:=Aside0.mk A0
   have HB:=Aside0.mk A1
   refine value_ (w1:=w') (v:=.int .i64 (wrap64 (1+t117))) (by rfl) rfl ?_ ?_
   ·go_simp
    (try simp only [i64_w])
    try rfl
   refine hK.out _ _ ⟨v124,adz_v124,v132,adz_v132,gb139,m12_,m20_,m26_,(by rw [ha.out];exact putSel_upk 1 hb_ rfl rfl rfl),Al,fun h0_=>absurd ((hon 1 (by kernel_rfl)).symm.trans h0_) (by decide),A0,A1,A2,Az,Aw,Am,Af,At,Ao,Ap,Ag,An,Ak,As,Aq,Ar,Ah,Ae,Ac,Ad,fun h0_=>nh (hoff 27 (by kernel_rfl)) h0_,Ay,A7,Av⟩
  refine steps_cons ?_ ?_
  ·rintro b a w' ⟨v124,adz_v124,v132,adz_v132,gb139,m12_,m20_,m26_,ha,Al,Bd,A0,A1,A2,Az,Aw,Am,Af,At,Ao,Ap,Ag,An,Ak,As,Aq,Ar,Ah,Ae,Ac,Ad,Au,Ay,A7,Av⟩ hb_ hon hoff
   refine ⟨_,rfl,fun K hK=>?_⟩
   have e9:a.tmps[9]? =some (.pointer (some ⟨g,0,none⟩)):=by rw [ha];exact (putSel_off rfl).trans rfl
   replace ha:=Aside0.mk ha
   have Aa:=Aside0.mk Al
   have HK:=Aside0.mk A0
   have HB:=Aside0.mk A1
   have HI0:=Aside0.mk (A2 (hon 1 (by kernel_rfl)) hb_)
   refine goes_ Try.func70 (by kernel_rfl) rfl #[.pointer (some ⟨g,0,none⟩),.int .i64 4] (by rfl) rfl rfl (by first|(simp only [List.map_toArray,List.map_cons,List.map_nil,Act.eval,Array.getD_eq_getD_getElem?,Option.getD_some,e9];done)|(simp only [List.map_toArray,List.map_cons,List.map_nil,Act.eval,Array.getD_eq_getD_getElem?,Option.getD_some,e9];rfl)) ?_
   with_reducible refine (spec_l20Rd_pick.calls k g s0_0 t118 4 t119 t120 w0 _ ?side1 ?side2 A4.out).mono ?_
   (case side1=>exact yu3 HI0.out)
   (case side2=>exact yu10 HB.out HI0.out)
   rintro e Cp ⟨rfl,hi,hb,hk⟩
   refine ⟨_,rfl,?_⟩
   have n0_:=Aside0.mk (KeepBut.blk hk (g':=gb116) (o:=.cells #[.int .i64 0,.int .i64 0,.int .i64 0,.int .i64 0,.int .i64 0] 66 (0,0)) (yv14 Aa.out) A8.out (by simp))
   have n1_:=Aside0.mk (KeepBut.trans (yu11 HK.out) hk (.inl rfl))
   have n2_:=Aside0.mk (hb)
   have n3_:=Aside0.mk (hi)
   have Be:=fun (h0_:b 26=true) (h1_:b 27=false)=>(show Cp.heap[gb139]? =some (.cells #[.int .i64 0,.int .i64 0,.int .i64 0,.int .i64 0,.int .i64 0] 66 (0,0)) from by first|exact (KeepBut.blk hk (g':=gb139) (o:=.cells #[.int .i64 0,.int .i64 0,.int .i64 0,.int .i64 0,.int .i64 0] 66 (0,0)) (by (with_reducible repeat (first|refine blk_drewN ?_ _|refine blk_drew ?_|refine blk_alloc ?_ _));exact (As h0_ h1_)) (Ae h0_) (by simp)))
   clear Aa
   clear HK
   clear HB
   clear HI0
   have Aa:=n0_
   have HK:=n1_
   have HB:=n2_
   have HI0:=n3_
   clear n0_ n1_ n2_ n3_
   (try clear hb)
   (try clear hb2)
   (try clear hk)
   (try clear hi)
   refine hK.out _ _ ⟨v124,adz_v124,v132,adz_v132,gb139,m12_,m20_,m26_,(by rw [ha.out];exact putSel_upk 2 hb_ rfl rfl rfl),(yv14 Aa.out),fun h0_=>absurd ((hon 1 (by kernel_rfl)).symm.trans h0_) (by decide),(yu11 HK.out),(yu10 HB.out HI0.out),fun _ h1_=>absurd ((up_self b 4).symm.trans h1_) (by decide),fun _ _=>(yu3 HI0.out),fun h0_ _=>nh (hoff 7 (by kernel_rfl)) h0_,fun h0_=>nh (hoff 9 (by kernel_rfl)) h0_,fun h0_=>nh (hoff 9 (by kernel_rfl)) h0_,fun h0_ _=>nh (hoff 11 (by kernel_rfl)) h0_,fun h0_ _=>nh (hoff 15 (by kernel_rfl)) h0_,fun h0_=>nh (hoff 17 (by kernel_rfl)) h0_,fun h0_=>nh (hoff 17 (by kernel_rfl)) h0_,fun h0_ _=>nh (hoff 19 (by kernel_rfl)) h0_,fun h0_=>nh (hoff 23 (by kernel_rfl)) h0_,Be,Aq,Ar,Ah,Ae,Ac,Ad,fun h0_=>nh (hoff 27 (by kernel_rfl)) h0_,fun h0_=>nh (hoff 12 (by kernel_rfl)) h0_,fun h0_=>nh (hoff 20 (by kernel_rfl)) h0_,Av⟩
  refine steps_cons ?_ ?_
  ·rintro b a w' ⟨v124,adz_v124,v132,adz_v132,gb139,m12_,m20_,m26_,ha,Al,Bd,A0,A1,A2,Az,Aw,Am,Af,At,Ao,Ap,Ag,An,Ak,As,Aq,Ar,Ah,Ae,Ac,Ad,Au,Ay,A7,Av⟩ hb_ hon hoff
   refine ⟨_,rfl,fun K hK=>?_⟩
   have e10:a.tmps[10]? =some (.int .i64 t119):=by rw [ha];exact putSel_on (e:=(4,10,.int .i64 t119)) 2 rfl rfl (hon 4 (by kernel_rfl)) rfl
   replace ha:=Aside0.mk ha
   have Aa:=Aside0.mk Al
   have HK:=Aside0.mk A0
   have HB:=Aside0.mk A1
   refine value_ (w1:=w') (v:=.int .i64 (wrap64 (1+t119))) (by rfl) rfl ?_ ?_
   ·go_simp
    (try simp only [i64_w])
    try rfl
   refine hK.out _ _ ⟨v124,adz_v124,v132,adz_v132,gb139,m12_,m20_,m26_,(by rw [ha.out];exact putSel_upk 3 hb_ rfl rfl rfl),Al,fun h0_=>absurd ((hon 1 (by kernel_rfl)).symm.trans h0_) (by decide),A0,A1,fun _ h1_=>absurd ((hon 4 (by kernel_rfl)).symm.trans h1_) (by decide),Az,Aw,Am,Af,At,Ao,Ap,Ag,An,Ak,As,Aq,Ar,Ah,Ae,Ac,Ad,fun h0_=>nh (hoff 27 (by kernel_rfl)) h0_,Ay,A7,Av⟩
  refine steps_cons ?_ ?_
  ·rintro b a w' ⟨v124,adz_v124,v132,adz_v132,gb139,m12_,m20_,m26_,ha,Al,Bd,A0,A1,A2,Az,Aw,Am,Af,At,Ao,Ap,Ag,An,Ak,As,Aq,Ar,Ah,Ae,Ac,Ad,Au,Ay,A7,Av⟩ hb_ hon hoff
   refine ⟨_,rfl,fun K hK=>?_⟩
   have e12:a.tmps[12]? =some (.pointer (some ⟨g,0,none⟩)):=by rw [ha];exact (putSel_off rfl).trans rfl
   replace ha:=Aside0.mk ha
   have Aa:=Aside0.mk Al
   have HK:=Aside0.mk A0
   have HB:=Aside0.mk A1
   have HI0:=Aside0.mk (Az (hon 4 (by kernel_rfl)) hb_)
   refine goes_ Try.func70 (by kernel_rfl) rfl #[.pointer (some ⟨g,0,none⟩),.int .i64 8] (by rfl) rfl rfl (by first|(simp only [List.map_toArray,List.map_cons,List.map_nil,Act.eval,Array.getD_eq_getD_getElem?,Option.getD_some,e12];done)|(simp only [List.map_toArray,List.map_cons,List.map_nil,Act.eval,Array.getD_eq_getD_getElem?,Option.getD_some,e12];rfl)) ?_
   with_reducible refine (spec_l20Rd_pick.calls k g s0_0 t120 8 t121 t122 w0 _ ?side1 ?side2 A5.out).mono ?_
   (case side1=>exact yu3 HI0.out)
   (case side2=>exact yu10 HB.out HI0.out)
   rintro e Cq ⟨rfl,hi,hb,hk⟩
   refine ⟨_,rfl,?_⟩
   have n0_:=Aside0.mk (KeepBut.blk hk (g':=gb116) (o:=.cells #[.int .i64 0,.int .i64 0,.int .i64 0,.int .i64 0,.int .i64 0] 66 (0,0)) (yv14 Aa.out) A8.out (by simp))
   have n1_:=Aside0.mk (KeepBut.trans (yu11 HK.out) hk (.inl rfl))
   have n2_:=Aside0.mk (hb)
   have n3_:=Aside0.mk (hi)
   have Be:=fun (h0_:b 26=true) (h1_:b 27=false)=>(show Cq.heap[gb139]? =some (.cells #[.int .i64 0,.int .i64 0,.int .i64 0,.int .i64 0,.int .i64 0] 66 (0,0)) from by first|exact (KeepBut.blk hk (g':=gb139) (o:=.cells #[.int .i64 0,.int .i64 0,.int .i64 0,.int .i64 0,.int .i64 0] 66 (0,0)) (by (with_reducible repeat (first|refine blk_drewN ?_ _|refine blk_drew ?_|refine blk_alloc ?_ _));exact (As h0_ h1_)) (Ae h0_) (by simp)))
   clear Aa
   clear HK
   clear HB
   clear HI0
   have Aa:=n0_
   have HK:=n1_
   have HB:=n2_
   have HI0:=n3_
   clear n0_ n1_ n2_ n3_
   (try clear hb)
   (try clear hb2)
   (try clear hk)
   (try clear hi)
   refine hK.out _ _ ⟨v124,adz_v124,v132,adz_v132,gb139,m12_,m20_,m26_,(by rw [ha.out];exact putSel_upk 4 hb_ rfl rfl rfl),(yv14 Aa.out),fun h0_=>absurd ((hon 1 (by kernel_rfl)).symm.trans h0_) (by decide),(yu11 HK.out),(yu10 HB.out HI0.out),fun _ h1_=>absurd ((hon 4 (by kernel_rfl)).symm.trans h1_) (by decide),fun _ h1_=>absurd ((up_self b 7).symm.trans h1_) (by decide),fun _ _=>(yu3 HI0.out),fun h0_=>nh (hoff 9 (by kernel_rfl)) h0_,fun h0_=>nh (hoff 9 (by kernel_rfl)) h0_,fun h0_ _=>nh (hoff 11 (by kernel_rfl)) h0_,fun h0_ _=>nh (hoff 15 (by kernel_rfl)) h0_,fun h0_=>nh (hoff 17 (by kernel_rfl)) h0_,fun h0_=>nh (hoff 17 (by kernel_rfl)) h0_,fun h0_ _=>nh (hoff 19 (by kernel_rfl)) h0_,fun h0_=>nh (hoff 23 (by kernel_rfl)) h0_,Be,Aq,Ar,Ah,Ae,Ac,Ad,fun h0_=>nh (hoff 27 (by kernel_rfl)) h0_,fun h0_=>nh (hoff 12 (by kernel_rfl)) h0_,fun h0_=>nh (hoff 20 (by kernel_rfl)) h0_,Av⟩
  refine steps_cons ?_ ?_
  ·rintro b a w' ⟨v124,adz_v124,v132,adz_v132,gb139,m12_,m20_,m26_,ha,Al,Bd,A0,A1,A2,Az,Aw,Am,Af,At,Ao,Ap,Ag,An,Ak,As,Aq,Ar,Ah,Ae,Ac,Ad,Au,Ay,A7,Av⟩ hb_ hon hoff
   refine ⟨_,rfl,fun K hK=>?_⟩
   have e13:a.tmps[13]? =some (.int .i64 t121):=by rw [ha];exact putSel_on (e:=(7,13,.int .i64 t121)) 4 rfl rfl (hon 7 (by kernel_rfl)) rfl
   replace ha:=Aside0.mk ha
   have Aa:=Aside0.mk Al
   have HK:=Aside0.mk A0
   have HB:=Aside0.mk A1
   refine value_ (w1:=w') (v:=.int .i64 (wrap64 (1+t121))) (by rfl) rfl ?_ ?_
   ·go_simp
    (try simp only [i64_w])
    try rfl
   refine hK.out _ _ ⟨v124,adz_v124,v132,adz_v132,gb139,m12_,m20_,m26_,(by rw [ha.out];exact putSel_upk 5 hb_ rfl rfl rfl),Al,fun h0_=>absurd ((hon 1 (by kernel_rfl)).symm.trans h0_) (by decide),A0,A1,fun _ h1_=>absurd ((hon 4 (by kernel_rfl)).symm.trans h1_) (by decide),fun _ h1_=>absurd ((hon 7 (by kernel_rfl)).symm.trans h1_) (by decide),Aw,fun h0_=>nh (hoff 9 (by kernel_rfl)) h0_,fun h0_=>nh (hoff 9 (by kernel_rfl)) h0_,At,Ao,Ap,Ag,An,Ak,As,Aq,Ar,Ah,Ae,Ac,Ad,fun h0_=>nh (hoff 27 (by kernel_rfl)) h0_,fun h0_=>nh (hoff 12 (by kernel_rfl)) h0_,A7,Av⟩
  refine steps_cons ?_ ?_
  ·rintro b a w' ⟨v124,adz_v124,v132,adz_v132,gb139,m12_,m20_,m26_,ha,Al,Bd,A0,A1,A2,Az,Aw,Am,Af,At,Ao,Ap,Ag,An,Ak,As,Aq,Ar,Ah,Ae,Ac,Ad,Au,Ay,A7,Av⟩ hb_ hon hoff
   refine ⟨_,rfl,fun K hK=>?_⟩
   have e14:a.tmps[14]? =some (.int .i64 (wrap64 (1+t121))):=by rw [ha];exact putSel_on (e:=(8,14,.int .i64 (wrap64 (1+t121)))) 5 rfl rfl (hon 8 (by kernel_rfl)) rfl
   replace ha:=Aside0.mk ha
   have Aa:=Aside0.mk Al
   have HK:=Aside0.mk A0
   have HB:=Aside0.mk A1
   refine Kd.R_lit_step (Kd.int .i64) _ 3 ?hg (N:=15) ?hd (xs:=([wrap64 (1+t121),3,8]:List Int)) (inner:=[.int .i64 (wrap64 (1+t121)),.int .i64 3,.int .i64 8]) (ok:=fun _=>True) (okp:=fun _=>True) ?hr ?hp (fun _ hk=>hk) trivial (Below.refl _ _) (Nat.le_refl _) (by simp) ?_;(case hd=>rfl);(case hg=>rfl);(case hr=>first|(go_simp;done)|(go_simp;rfl));(case hp=>exact (Reps.one (show Kd.M (Kd.int .i64) _ _ _ (wrap64 (1+t121)) [.int .i64 (wrap64 (1+t121))] from rfl) (Reps.one (show Kd.M (Kd.int .i64) _ _ _ 3 [.int .i64 3] from rfl) (Reps.one (show Kd.M (Kd.int .i64) _ _ _ 8 [.int .i64 8] from rfl) (Reps.none _ _)))))
   intro v124 Bm ho218 hb hg_ hnew_
   clear hg_ hnew_
   (first|rw [← Ny123.out] at ho218|(simp only [Int.reduceToNat] at ho218;rw [← Ny123.out] at ho218))
   have n0_:=Aside0.mk (Kd.R_lower ho218 (keep_size (w:=w) (g:=g) (row:=none) (yu11 HK.out)))
   have n2_:=Aside0.mk (blk_below (g:=gb116) (o:=.cells #[.int .i64 0,.int .i64 0,.int .i64 0,.int .i64 0,.int .i64 0] 66 (0,0)) (yv14 Aa.out) hb)
   have n3_:=Aside0.mk (KeepBut.trans (yu11 HK.out) (KeepBut.of_below hb g none) (.inl rfl))
   have n4_:=Aside0.mk (below_step (yu12 HB.out) hb)
   have Bv:=fun (h0_:b 7=true) (h1_:b 11=false)=>(show IsS113 w0 Bm g s0_0 t122 from by first|exact (IsS113.below (by repeat (first|(with_reducible first|exact (Aw h0_ h1_)|apply IsS113.alloc|apply IsS113.drewN|apply IsS113.drew|apply IsS113.set_1|refine IsS113.far ?_ Bb.out _)|exact (Aw h0_ h1_))) hb))
   have Bs:=fun (h0_:b 11=true) (h1_:b 15=false)=>(show IsS113 w0 Bm g s0_0 t127 from by first|exact (IsS113.below (by repeat (first|(with_reducible first|exact (At h0_ h1_)|apply IsS113.alloc|apply IsS113.drewN|apply IsS113.drew|apply IsS113.set_1|refine IsS113.far ?_ Bb.out _)|exact (At h0_ h1_))) hb))
   have Bi:=fun (h0_:b 15=true) (h1_:b 19=false)=>(show IsS113 w0 Bm g s0_0 t130 from by first|exact (IsS113.below (by repeat (first|(with_reducible first|exact (Ao h0_ h1_)|apply IsS113.alloc|apply IsS113.drewN|apply IsS113.drew|apply IsS113.set_1|refine IsS113.far ?_ Bb.out _)|exact (Ao h0_ h1_))) hb))
   have Bh:=fun (h0_:b 17=true)=>(show Kd.R (Kd.int .i64) 3 Bm w.heap.size (fun _=>True) v132 y131 from by first|exact (Kd.R_elder' (mR (Ap h0_)) (Kd.R_base ho218) hb)|exact Kd.R_mono (Kd.R_elder' (mR (Ap h0_)) (Kd.R_base ho218) hb) (fun _ h_=>by first|trivial|exact h_|exact h_.1))
   have Bj:=fun (h0_:b 19=true) (h1_:b 23=false)=>(show IsS113 w0 Bm g s0_0 t135 from by first|exact (IsS113.below (by repeat (first|(with_reducible first|exact (An h0_ h1_)|apply IsS113.alloc|apply IsS113.drewN|apply IsS113.drew|apply IsS113.set_1|refine IsS113.far ?_ Bb.out _)|exact (An h0_ h1_))) hb))
   have Bk:=fun (h0_:b 23=true)=>(show IsS113 w0 Bm g s0_0 t138 from by first|exact (IsS113.below (by repeat (first|(with_reducible first|exact (Ak h0_)|apply IsS113.alloc|apply IsS113.drewN|apply IsS113.drew|apply IsS113.set_1|refine IsS113.far ?_ Bb.out _)|exact (Ak h0_))) hb))
   have Be:=fun (h0_:b 26=true) (h1_:b 27=false)=>(show Bm.heap[gb139]? =some (.cells #[.int .i64 0,.int .i64 0,.int .i64 0,.int .i64 0,.int .i64 0] 66 (0,0)) from by first|exact (blk_below (g:=gb139) (o:=.cells #[.int .i64 0,.int .i64 0,.int .i64 0,.int .i64 0,.int .i64 0] 66 (0,0)) (by (with_reducible repeat (first|refine blk_drewN ?_ _|refine blk_drew ?_|refine blk_alloc ?_ _));exact (As h0_ h1_)) hb))
   clear Aa
   clear HK
   clear HB
   have Ai:=n0_
   have Aa:=n2_
   have HK:=n3_
   have HB:=n4_
   clear n0_ n2_ n3_ n4_
   clear hb ho218
   obtain ⟨Ao219,co219,eo219⟩:=Kd.R_slice Ai.out
   subst eo219
   obtain ⟨ado219,fo219,_⟩:=Kd.at_int (Kd.R_reads' Ai.out).2.2 0 (by decide) (by rw [Ny123.out];simp)
   cases fo219
   refine hK.out _ _ ⟨.slice (some ado219) y123.length co219,ado219,v132,adz_v132,gb139,m12_,m20_,m26_,(by rw [ha.out];exact putSel_upk 6 hb_ rfl rfl rfl),(yv14 Aa.out),fun h0_=>absurd ((hon 1 (by kernel_rfl)).symm.trans h0_) (by decide),(yu11 HK.out),(yu12 HB.out),fun _ h1_=>absurd ((hon 4 (by kernel_rfl)).symm.trans h1_) (by decide),fun _ h1_=>absurd ((hon 7 (by kernel_rfl)).symm.trans h1_) (by decide),Bv,fun _=>(mR Ai.out),fun _=>⟨_,rfl⟩,Bs,Bi,Bh,Ag,Bj,Bk,Be,Aq,Ar,Ah,Ae,Ac,Ad,fun h0_=>nh (hoff 27 (by kernel_rfl)) h0_,fun h0_=>nh (hoff 12 (by kernel_rfl)) h0_,A7,Av⟩
  refine steps_cons ?_ ?_
  ·rintro b a w' ⟨v124,adz_v124,v132,adz_v132,gb139,m12_,m20_,m26_,ha,Al,Bd,A0,A1,A2,Az,Aw,Am,Af,At,Ao,Ap,Ag,An,Ak,As,Aq,Ar,Ah,Ae,Ac,Ad,Au,Ay,A7,Av⟩ hb_ hon hoff
   refine ⟨_,rfl,fun K hK=>?_⟩
   have e16:a.tmps[16]? =some (.pointer (some ⟨g,0,none⟩)):=by rw [ha];exact (putSel_off rfl).trans rfl
   replace ha:=Aside0.mk ha
   have Aa:=Aside0.mk Al
   have HK:=Aside0.mk A0
   have HB:=Aside0.mk A1
   have HI0:=Aside0.mk (Aw (hon 7 (by kernel_rfl)) hb_)
   refine goes_ Try.func70 (by kernel_rfl) rfl #[.pointer (some ⟨g,0,none⟩),.int .i64 3] (by rfl) rfl rfl (by first|(simp only [List.map_toArray,List.map_cons,List.map_nil,Act.eval,Array.getD_eq_getD_getElem?,Option.getD_some,e16];done)|(simp only [List.map_toArray,List.map_cons,List.map_nil,Act.eval,Array.getD_eq_getD_getElem?,Option.getD_some,e16];rfl)) ?_
   with_reducible refine (spec_l20Rd_pick.calls k g s0_0 t122 3 t126 t127 w0 _ ?side1 ?side2 A6.out).mono ?_
   (case side1=>exact yu3 HI0.out)
   (case side2=>exact yu10 HB.out HI0.out)
   rintro e Bm ⟨rfl,hi,hb,hk⟩
   refine ⟨_,rfl,?_⟩
   have n0_:=Aside0.mk (KeepBut.blk hk (g':=gb116) (o:=.cells #[.int .i64 0,.int .i64 0,.int .i64 0,.int .i64 0,.int .i64 0] 66 (0,0)) (yv14 Aa.out) A8.out (by simp))
   have n1_:=Aside0.mk (KeepBut.trans (yu11 HK.out) hk (.inl rfl))
   have n2_:=Aside0.mk (hb)
   have n3_:=Aside0.mk (hi)
   have Bf:=fun (h0_:b 9=true)=>(show Kd.R (Kd.int .i64) 3 Bm w.heap.size (fun _=>True) v124 y123 from by first|exact (Kd.R_mono (Kd.R_keep (IsS113.apart (show IsS113 w0 _ g s0_0 t122 from by exact yu3 HI0.out) (mR (Am h0_)) (by decide)) hk (fun _ h=>h.2)) (fun _ h=>h.1))|exact Kd.R_mono (Kd.R_mono (Kd.R_keep (IsS113.apart (show IsS113 w0 _ g s0_0 t122 from by exact yu3 HI0.out) (mR (Am h0_)) (by decide)) hk (fun _ h=>h.2)) (fun _ h=>h.1)) (fun _ h_=>by first|trivial|exact h_|exact h_.1))
   have Be:=fun (h0_:b 26=true) (h1_:b 27=false)=>(show Bm.heap[gb139]? =some (.cells #[.int .i64 0,.int .i64 0,.int .i64 0,.int .i64 0,.int .i64 0] 66 (0,0)) from by first|exact (KeepBut.blk hk (g':=gb139) (o:=.cells #[.int .i64 0,.int .i64 0,.int .i64 0,.int .i64 0,.int .i64 0] 66 (0,0)) (by (with_reducible repeat (first|refine blk_drewN ?_ _|refine blk_drew ?_|refine blk_alloc ?_ _));exact (As h0_ h1_)) (Ae h0_) (by simp)))
   clear Aa
   clear HK
   clear HB
   clear HI0
   have Aa:=n0_
   have HK:=n1_
   have HB:=n2_
   have HI0:=n3_
   clear n0_ n1_ n2_ n3_
   (try clear hb)
   (try clear hb2)
   (try clear hk)
   (try clear hi)
   refine hK.out _ _ ⟨v124,adz_v124,v132,adz_v132,gb139,m12_,m20_,m26_,(by rw [ha.out];exact putSel_upk 7 hb_ rfl rfl rfl),(yv14 Aa.out),fun h0_=>absurd ((hon 1 (by kernel_rfl)).symm.trans h0_) (by decide),(yu11 HK.out),(yu10 HB.out HI0.out),fun _ h1_=>absurd ((hon 4 (by kernel_rfl)).symm.trans h1_) (by decide),fun _ h1_=>absurd ((hon 7 (by kernel_rfl)).symm.trans h1_) (by decide),fun _ h1_=>absurd ((up_self b 11).symm.trans h1_) (by decide),Bf,Af,fun _ _=>(yu3 HI0.out),fun h0_ _=>nh (hoff 15 (by kernel_rfl)) h0_,fun h0_=>nh (hoff 17 (by kernel_rfl)) h0_,fun h0_=>nh (hoff 17 (by kernel_rfl)) h0_,fun h0_ _=>nh (hoff 19 (by kernel_rfl)) h0_,fun h0_=>nh (hoff 23 (by kernel_rfl)) h0_,Be,Aq,Ar,Ah,Ae,Ac,Ad,fun h0_=>nh (hoff 27 (by kernel_rfl)) h0_,fun h0_=>nh (hoff 12 (by kernel_rfl)) h0_,fun h0_=>nh (hoff 20 (by kernel_rfl)) h0_,Av⟩
  refine steps_cons ?_ ?_
  ·rintro b a w' ⟨v124,adz_v124,v132,adz_v132,gb139,m12_,m20_,m26_,ha,Al,Bd,A0,A1,A2,Az,Aw,Am,Af,At,Ao,Ap,Ag,An,Ak,As,Aq,Ar,Ah,Ae,Ac,Ad,Au,Ay,A7,Av⟩ hb_ hon hoff
   refine ⟨_,rfl,fun K hK=>?_⟩
   have e15:a.tmps[15]? =some (v124):=by rw [ha];exact putSel_on (e:=(9,15,v124)) 6 rfl rfl (hon 9 (by kernel_rfl)) rfl
   have e17:a.tmps[17]? =some (.int .i64 t126):=by rw [ha];exact putSel_on (e:=(11,17,.int .i64 t126)) 7 rfl rfl (hon 11 (by kernel_rfl)) rfl
   replace ha:=Aside0.mk ha
   have Aa:=Aside0.mk Al
   have HK:=Aside0.mk A0
   have HB:=Aside0.mk A1
   have Ai:=Aside0.mk (Am (hon 9 (by kernel_rfl)))
   have HA_HO125:=Aside0.mk (Af (hon 9 (by kernel_rfl)))
   obtain ⟨c_,hv_⟩:=HA_HO125.out
   rw [hv_] at e15
   refine value_ (w1:=w') (v:=.pointer (some (adz_v124.add (t126).toNat))) (by rfl) rfl ?_ ?_
   ·go_simp
    (try simp only [i64_w])
    try rfl
   refine hK.out _ _ ⟨v124,adz_v124,v132,adz_v132,gb139,(.pointer (some (adz_v124.add (t126).toNat))),m20_,m26_,(by rw [ha.out];exact putSel_upk 8 hb_ rfl rfl rfl),Al,fun h0_=>absurd ((hon 1 (by kernel_rfl)).symm.trans h0_) (by decide),A0,A1,fun _ h1_=>absurd ((hon 4 (by kernel_rfl)).symm.trans h1_) (by decide),fun _ h1_=>absurd ((hon 7 (by kernel_rfl)).symm.trans h1_) (by decide),fun _ h1_=>absurd ((hon 11 (by kernel_rfl)).symm.trans h1_) (by decide),Am,Af,At,Ao,Ap,Ag,An,Ak,As,Aq,Ar,Ah,Ae,Ac,Ad,fun h0_=>nh (hoff 27 (by kernel_rfl)) h0_,fun _=>rfl,A7,Av⟩
  refine steps_cons ?_ ?_
  ·rintro b a w' ⟨v124,adz_v124,v132,adz_v132,gb139,m12_,m20_,m26_,ha,Al,Bd,A0,A1,A2,Az,Aw,Am,Af,At,Ao,Ap,Ag,An,Ak,As,Aq,Ar,Ah,Ae,Ac,Ad,Au,Ay,A7,Av⟩ hb_ hon hoff
   refine ⟨_,rfl,fun K hK=>?_⟩
   have e18:a.tmps[18]? =some (m12_):=by rw [ha];exact putSel_on (e:=(12,18,m12_)) 8 rfl rfl (hon 12 (by kernel_rfl)) rfl
   rw [Ay (hon 12 (by kernel_rfl))] at e18
   replace ha:=Aside0.mk ha
   have Aa:=Aside0.mk Al
   have HK:=Aside0.mk A0
   have HB:=Aside0.mk A1
   have Ai:=Aside0.mk (Am (hon 9 (by kernel_rfl)))
   have HA_HO125:=Aside0.mk (Af (hon 9 (by kernel_rfl)))
   obtain ⟨c_,hv_⟩:=HA_HO125.out
   have hF_:=Ai.out
   rw [hv_] at hF_
   obtain ⟨ad_,ea_,hx_⟩:=Kd.at_int (Kd.R_reads' hF_).2.2 t126 (of_eq_true pi128) (of_eq_true qi128)
   cases ea_
   refine value_ (w1:=w') (v:=.int .i64 (rd y123 t126)) (by rfl) rfl ?_ ?_
   ·go_simp
    (try simp only [i64_w])
    try rfl
   refine hK.out _ _ ⟨v124,adz_v124,v132,adz_v132,gb139,m12_,m20_,m26_,(by rw [ha.out];exact putSel_upk 9 hb_ rfl rfl rfl),Al,fun h0_=>absurd ((hon 1 (by kernel_rfl)).symm.trans h0_) (by decide),A0,A1,fun _ h1_=>absurd ((hon 4 (by kernel_rfl)).symm.trans h1_) (by decide),fun _ h1_=>absurd ((hon 7 (by kernel_rfl)).symm.trans h1_) (by decide),fun _ h1_=>absurd ((hon 11 (by kernel_rfl)).symm.trans h1_) (by decide),Am,Af,At,Ao,Ap,Ag,An,Ak,As,Aq,Ar,Ah,Ae,Ac,Ad,fun h0_=>nh (hoff 27 (by kernel_rfl)) h0_,Ay,A7,Av⟩
  refine steps_cons ?_ ?_
  ·rintro b a w' ⟨v124,adz_v124,v132,adz_v132,gb139,m12_,m20_,m26_,ha,Al,Bd,A0,A1,A2,Az,Aw,Am,Af,At,Ao,Ap,Ag,An,Ak,As,Aq,Ar,Ah,Ae,Ac,Ad,Au,Ay,A7,Av⟩ hb_ hon hoff
   refine ⟨_,rfl,fun K hK=>?_⟩
   have e20:a.tmps[20]? =some (.pointer (some ⟨g,0,none⟩)):=by rw [ha];exact (putSel_off rfl).trans rfl
   replace ha:=Aside0.mk ha
   have Aa:=Aside0.mk Al
   have HK:=Aside0.mk A0
   have HB:=Aside0.mk A1
   have HI0:=Aside0.mk (At (hon 11 (by kernel_rfl)) hb_)
   refine goes_ Try.func70 (by kernel_rfl) rfl #[.pointer (some ⟨g,0,none⟩),.int .i64 24] (by rfl) rfl rfl (by first|(simp only [List.map_toArray,List.map_cons,List.map_nil,Act.eval,Array.getD_eq_getD_getElem?,Option.getD_some,e20];done)|(simp only [List.map_toArray,List.map_cons,List.map_nil,Act.eval,Array.getD_eq_getD_getElem?,Option.getD_some,e20];rfl)) ?_
   with_reducible refine (spec_l20Rd_pick.calls k g s0_0 t127 24 t129 t130 w0 _ ?side1 ?side2 A9.out).mono ?_
   (case side1=>exact yu3 HI0.out)
   (case side2=>exact yu10 HB.out HI0.out)
   rintro e Cd ⟨rfl,hi,hb,hk⟩
   refine ⟨_,rfl,?_⟩
   have n0_:=Aside0.mk (KeepBut.blk hk (g':=gb116) (o:=.cells #[.int .i64 0,.int .i64 0,.int .i64 0,.int .i64 0,.int .i64 0] 66 (0,0)) (yv14 Aa.out) A8.out (by simp))
   have n1_:=Aside0.mk (KeepBut.trans (yu11 HK.out) hk (.inl rfl))
   have n2_:=Aside0.mk (hb)
   have n3_:=Aside0.mk (hi)
   have Bf:=fun (h0_:b 9=true)=>(show Kd.R (Kd.int .i64) 3 Cd w.heap.size (fun _=>True) v124 y123 from by first|exact (Kd.R_mono (Kd.R_keep (IsS113.apart (show IsS113 w0 _ g s0_0 t127 from by exact yu3 HI0.out) (mR (Am h0_)) (by decide)) hk (fun _ h=>h.2)) (fun _ h=>h.1))|exact Kd.R_mono (Kd.R_mono (Kd.R_keep (IsS113.apart (show IsS113 w0 _ g s0_0 t127 from by exact yu3 HI0.out) (mR (Am h0_)) (by decide)) hk (fun _ h=>h.2)) (fun _ h=>h.1)) (fun _ h_=>by first|trivial|exact h_|exact h_.1))
   have Be:=fun (h0_:b 26=true) (h1_:b 27=false)=>(show Cd.heap[gb139]? =some (.cells #[.int .i64 0,.int .i64 0,.int .i64 0,.int .i64 0,.int .i64 0] 66 (0,0)) from by first|exact (KeepBut.blk hk (g':=gb139) (o:=.cells #[.int .i64 0,.int .i64 0,.int .i64 0,.int .i64 0,.int .i64 0] 66 (0,0)) (by (with_reducible repeat (first|refine blk_drewN ?_ _|refine blk_drew ?_|refine blk_alloc ?_ _));exact (As h0_ h1_)) (Ae h0_) (by simp)))
   clear Aa
   clear HK
   clear HB
   clear HI0
   have Aa:=n0_
   have HK:=n1_
   have HB:=n2_
   have HI0:=n3_
   clear n0_ n1_ n2_ n3_
   (try clear hb)
   (try clear hb2)
   (try clear hk)
   (try clear hi)
   refine hK.out _ _ ⟨v124,adz_v124,v132,adz_v132,gb139,m12_,m20_,m26_,(by rw [ha.out];exact putSel_upk 10 hb_ rfl rfl rfl),(yv14 Aa.out),fun h0_=>absurd ((hon 1 (by kernel_rfl)).symm.trans h0_) (by decide),(yu11 HK.out),(yu10 HB.out HI0.out),fun _ h1_=>absurd ((hon 4 (by kernel_rfl)).symm.trans h1_) (by decide),fun _ h1_=>absurd ((hon 7 (by kernel_rfl)).symm.trans h1_) (by decide),fun _ h1_=>absurd ((hon 11 (by kernel_rfl)).symm.trans h1_) (by decide),Bf,Af,fun _ h1_=>absurd ((up_self b 15).symm.trans h1_) (by decide),fun _ _=>(yu3 HI0.out),fun h0_=>nh (hoff 17 (by kernel_rfl)) h0_,fun h0_=>nh (hoff 17 (by kernel_rfl)) h0_,fun h0_ _=>nh (hoff 19 (by kernel_rfl)) h0_,fun h0_=>nh (hoff 23 (by kernel_rfl)) h0_,Be,Aq,Ar,Ah,Ae,Ac,Ad,fun h0_=>nh (hoff 27 (by kernel_rfl)) h0_,Ay,fun h0_=>nh (hoff 20 (by kernel_rfl)) h0_,Av⟩
  refine steps_cons ?_ ?_
  ·rintro b a w' ⟨v124,adz_v124,v132,adz_v132,gb139,m12_,m20_,m26_,ha,Al,Bd,A0,A1,A2,Az,Aw,Am,Af,At,Ao,Ap,Ag,An,Ak,As,Aq,Ar,Ah,Ae,Ac,Ad,Au,Ay,A7,Av⟩ hb_ hon hoff
   refine ⟨_,rfl,fun K hK=>?_⟩
   have e21:a.tmps[21]? =some (.int .i64 t129):=by rw [ha];exact putSel_on (e:=(15,21,.int .i64 t129)) 10 rfl rfl (hon 15 (by kernel_rfl)) rfl
   replace ha:=Aside0.mk ha
   have Aa:=Aside0.mk Al
   have HK:=Aside0.mk A0
   have HB:=Aside0.mk A1
   refine value_ (w1:=w') (v:=.int .i64 (wrap64 (1+t129))) (by rfl) rfl ?_ ?_
   ·go_simp
    (try simp only [i64_w])
    try rfl
   refine hK.out _ _ ⟨v124,adz_v124,v132,adz_v132,gb139,m12_,m20_,m26_,(by rw [ha.out];exact putSel_upk 11 hb_ rfl rfl rfl),Al,fun h0_=>absurd ((hon 1 (by kernel_rfl)).symm.trans h0_) (by decide),A0,A1,fun _ h1_=>absurd ((hon 4 (by kernel_rfl)).symm.trans h1_) (by decide),fun _ h1_=>absurd ((hon 7 (by kernel_rfl)).symm.trans h1_) (by decide),fun _ h1_=>absurd ((hon 11 (by kernel_rfl)).symm.trans h1_) (by decide),Am,Af,fun _ h1_=>absurd ((hon 15 (by kernel_rfl)).symm.trans h1_) (by decide),Ao,fun h0_=>nh (hoff 17 (by kernel_rfl)) h0_,fun h0_=>nh (hoff 17 (by kernel_rfl)) h0_,An,Ak,As,Aq,Ar,Ah,Ae,Ac,Ad,fun h0_=>nh (hoff 27 (by kernel_rfl)) h0_,Ay,fun h0_=>nh (hoff 20 (by kernel_rfl)) h0_,Av⟩
  refine steps_cons ?_ ?_
  ·rintro b a w' ⟨v124,adz_v124,v132,adz_v132,gb139,m12_,m20_,m26_,ha,Al,Bd,A0,A1,A2,Az,Aw,Am,Af,At,Ao,Ap,Ag,An,Ak,As,Aq,Ar,Ah,Ae,Ac,Ad,Au,Ay,A7,Av⟩ hb_ hon hoff
   refine ⟨_,rfl,fun K hK=>?_⟩
   have e22:a.tmps[22]? =some (.int .i64 (wrap64 (1+t129))):=by rw [ha];exact putSel_on (e:=(16,22,.int .i64 (wrap64 (1+t129)))) 11 rfl rfl (hon 16 (by kernel_rfl)) rfl
   replace ha:=Aside0.mk ha
   have Aa:=Aside0.mk Al
   have HK:=Aside0.mk A0
   have HB:=Aside0.mk A1
   refine Kd.R_lit_step (Kd.int .i64) _ 3 ?hg (N:=23) ?hd (xs:=([24,wrap64 (1+t129)]:List Int)) (inner:=[.int .i64 24,.int .i64 (wrap64 (1+t129))]) (ok:=fun _=>True) (okp:=fun _=>True) ?hr ?hp (fun _ hk=>hk) trivial (Below.refl _ _) (Nat.le_refl _) (by simp) ?_;(case hd=>rfl);(case hg=>rfl);(case hr=>first|(go_simp;done)|(go_simp;rfl));(case hp=>exact (Reps.one (show Kd.M (Kd.int .i64) _ _ _ 24 [.int .i64 24] from rfl) (Reps.one (show Kd.M (Kd.int .i64) _ _ _ (wrap64 (1+t129)) [.int .i64 (wrap64 (1+t129))] from rfl) (Reps.none _ _))))
   intro v132 Br ho220 hb hg_ hnew_
   clear hg_ hnew_
   (first|rw [← Ny131.out] at ho220|(simp only [Int.reduceToNat] at ho220;rw [← Ny131.out] at ho220))
   have n0_:=Aside0.mk (Kd.R_lower ho220 (keep_size (w:=w) (g:=g) (row:=none) (yu11 HK.out)))
   have n2_:=Aside0.mk (blk_below (g:=gb116) (o:=.cells #[.int .i64 0,.int .i64 0,.int .i64 0,.int .i64 0,.int .i64 0] 66 (0,0)) (yv14 Aa.out) hb)
   have n3_:=Aside0.mk (KeepBut.trans (yu11 HK.out) (KeepBut.of_below hb g none) (.inl rfl))
   have n4_:=Aside0.mk (below_step (yu12 HB.out) hb)
   have Bf:=fun (h0_:b 9=true)=>(show Kd.R (Kd.int .i64) 3 Br w.heap.size (fun _=>True) v124 y123 from by first|exact (Kd.R_elder' (mR (Am h0_)) (Kd.R_base ho220) hb)|exact Kd.R_mono (Kd.R_elder' (mR (Am h0_)) (Kd.R_base ho220) hb) (fun _ h_=>by first|trivial|exact h_|exact h_.1))
   have Bi:=fun (h0_:b 15=true) (h1_:b 19=false)=>(show IsS113 w0 Br g s0_0 t130 from by first|exact (IsS113.below (by repeat (first|(with_reducible first|exact (Ao h0_ h1_)|apply IsS113.alloc|apply IsS113.drewN|apply IsS113.drew|apply IsS113.set_1|refine IsS113.far ?_ Bb.out _)|exact (Ao h0_ h1_))) hb))
   have Bj:=fun (h0_:b 19=true) (h1_:b 23=false)=>(show IsS113 w0 Br g s0_0 t135 from by first|exact (IsS113.below (by repeat (first|(with_reducible first|exact (An h0_ h1_)|apply IsS113.alloc|apply IsS113.drewN|apply IsS113.drew|apply IsS113.set_1|refine IsS113.far ?_ Bb.out _)|exact (An h0_ h1_))) hb))
   have Bk:=fun (h0_:b 23=true)=>(show IsS113 w0 Br g s0_0 t138 from by first|exact (IsS113.below (by repeat (first|(with_reducible first|exact (Ak h0_)|apply IsS113.alloc|apply IsS113.drewN|apply IsS113.drew|apply IsS113.set_1|refine IsS113.far ?_ Bb.out _)|exact (Ak h0_))) hb))
   have Be:=fun (h0_:b 26=true) (h1_:b 27=false)=>(show Br.heap[gb139]? =some (.cells #[.int .i64 0,.int .i64 0,.int .i64 0,.int .i64 0,.int .i64 0] 66 (0,0)) from by first|exact (blk_below (g:=gb139) (o:=.cells #[.int .i64 0,.int .i64 0,.int .i64 0,.int .i64 0,.int .i64 0] 66 (0,0)) (by (with_reducible repeat (first|refine blk_drewN ?_ _|refine blk_drew ?_|refine blk_alloc ?_ _));exact (As h0_ h1_)) hb))
   clear Aa
   clear HK
   clear HB
   have Aj:=n0_
   have Aa:=n2_
   have HK:=n3_
   have HB:=n4_
   clear n0_ n2_ n3_ n4_
   clear hb ho220
   obtain ⟨Ao221,co221,eo221⟩:=Kd.R_slice Aj.out
   subst eo221
   obtain ⟨ado221,fo221,_⟩:=Kd.at_int (Kd.R_reads' Aj.out).2.2 0 (by decide) (by rw [Ny131.out];simp)
   cases fo221
   refine hK.out _ _ ⟨v124,adz_v124,.slice (some ado221) y131.length co221,ado221,gb139,m12_,m20_,m26_,(by rw [ha.out];exact putSel_upk 12 hb_ rfl rfl rfl),(yv14 Aa.out),fun h0_=>absurd ((hon 1 (by kernel_rfl)).symm.trans h0_) (by decide),(yu11 HK.out),(yu12 HB.out),fun _ h1_=>absurd ((hon 4 (by kernel_rfl)).symm.trans h1_) (by decide),fun _ h1_=>absurd ((hon 7 (by kernel_rfl)).symm.trans h1_) (by decide),fun _ h1_=>absurd ((hon 11 (by kernel_rfl)).symm.trans h1_) (by decide),Bf,Af,fun _ h1_=>absurd ((hon 15 (by kernel_rfl)).symm.trans h1_) (by decide),Bi,fun _=>(mR Aj.out),fun _=>⟨_,rfl⟩,Bj,Bk,Be,Aq,Ar,Ah,Ae,Ac,Ad,fun h0_=>nh (hoff 27 (by kernel_rfl)) h0_,Ay,fun h0_=>nh (hoff 20 (by kernel_rfl)) h0_,Av⟩
  refine steps_cons ?_ ?_
  ·rintro b a w' ⟨v124,adz_v124,v132,adz_v132,gb139,m12_,m20_,m26_,ha,Al,Bd,A0,A1,A2,Az,Aw,Am,Af,At,Ao,Ap,Ag,An,Ak,As,Aq,Ar,Ah,Ae,Ac,Ad,Au,Ay,A7,Av⟩ hb_ hon hoff
   refine ⟨_,rfl,fun K hK=>?_⟩
   have e24:a.tmps[24]? =some (.pointer (some ⟨g,0,none⟩)):=by rw [ha];exact (putSel_off rfl).trans rfl
   replace ha:=Aside0.mk ha
   have Aa:=Aside0.mk Al
   have HK:=Aside0.mk A0
   have HB:=Aside0.mk A1
   have HI0:=Aside0.mk (Ao (hon 15 (by kernel_rfl)) hb_)
   refine goes_ Try.func70 (by kernel_rfl) rfl #[.pointer (some ⟨g,0,none⟩),.int .i64 2] (by rfl) rfl rfl (by first|(simp only [List.map_toArray,List.map_cons,List.map_nil,Act.eval,Array.getD_eq_getD_getElem?,Option.getD_some,e24];done)|(simp only [List.map_toArray,List.map_cons,List.map_nil,Act.eval,Array.getD_eq_getD_getElem?,Option.getD_some,e24];rfl)) ?_
   with_reducible refine (spec_l20Rd_pick.calls k g s0_0 t130 2 t134 t135 w0 _ ?side1 ?side2 F5.out).mono ?_
   (case side1=>exact yu3 HI0.out)
   (case side2=>exact yu10 HB.out HI0.out)
   rintro e Br ⟨rfl,hi,hb,hk⟩
   refine ⟨_,rfl,?_⟩
   have n0_:=Aside0.mk (KeepBut.blk hk (g':=gb116) (o:=.cells #[.int .i64 0,.int .i64 0,.int .i64 0,.int .i64 0,.int .i64 0] 66 (0,0)) (yv14 Aa.out) A8.out (by simp))
   have n1_:=Aside0.mk (KeepBut.trans (yu11 HK.out) hk (.inl rfl))
   have n2_:=Aside0.mk (hb)
   have n3_:=Aside0.mk (hi)
   have Bf:=fun (h0_:b 9=true)=>(show Kd.R (Kd.int .i64) 3 Br w.heap.size (fun _=>True) v124 y123 from by first|exact (Kd.R_mono (Kd.R_keep (IsS113.apart (show IsS113 w0 _ g s0_0 t130 from by exact yu3 HI0.out) (mR (Am h0_)) (by decide)) hk (fun _ h=>h.2)) (fun _ h=>h.1))|exact Kd.R_mono (Kd.R_mono (Kd.R_keep (IsS113.apart (show IsS113 w0 _ g s0_0 t130 from by exact yu3 HI0.out) (mR (Am h0_)) (by decide)) hk (fun _ h=>h.2)) (fun _ h=>h.1)) (fun _ h_=>by first|trivial|exact h_|exact h_.1))
   have Bh:=fun (h0_:b 17=true)=>(show Kd.R (Kd.int .i64) 3 Br w.heap.size (fun _=>True) v132 y131 from by first|exact (Kd.R_mono (Kd.R_keep (IsS113.apart (show IsS113 w0 _ g s0_0 t130 from by exact yu3 HI0.out) (mR (Ap h0_)) (by decide)) hk (fun _ h=>h.2)) (fun _ h=>h.1))|exact Kd.R_mono (Kd.R_mono (Kd.R_keep (IsS113.apart (show IsS113 w0 _ g s0_0 t130 from by exact yu3 HI0.out) (mR (Ap h0_)) (by decide)) hk (fun _ h=>h.2)) (fun _ h=>h.1)) (fun _ h_=>by first|trivial|exact h_|exact h_.1))
   have Be:=fun (h0_:b 26=true) (h1_:b 27=false)=>(show Br.heap[gb139]? =some (.cells #[.int .i64 0,.int .i64 0,.int .i64 0,.int .i64 0,.int .i64 0] 66 (0,0)) from by first|exact (KeepBut.blk hk (g':=gb139) (o:=.cells #[.int .i64 0,.int .i64 0,.int .i64 0,.int .i64 0,.int .i64 0] 66 (0,0)) (by (with_reducible repeat (first|refine blk_drewN ?_ _|refine blk_drew ?_|refine blk_alloc ?_ _));exact (As h0_ h1_)) (Ae h0_) (by simp)))
   clear Aa
   clear HK
   clear HB
   clear HI0
   have Aa:=n0_
   have HK:=n1_
   have HB:=n2_
   have HI0:=n3_
   clear n0_ n1_ n2_ n3_
   (try clear hb)
   (try clear hb2)
   (try clear hk)
   (try clear hi)
   refine hK.out _ _ ⟨v124,adz_v124,v132,adz_v132,gb139,m12_,m20_,m26_,(by rw [ha.out];exact putSel_upk 13 hb_ rfl rfl rfl),(yv14 Aa.out),fun h0_=>absurd ((hon 1 (by kernel_rfl)).symm.trans h0_) (by decide),(yu11 HK.out),(yu10 HB.out HI0.out),fun _ h1_=>absurd ((hon 4 (by kernel_rfl)).symm.trans h1_) (by decide),fun _ h1_=>absurd ((hon 7 (by kernel_rfl)).symm.trans h1_) (by decide),fun _ h1_=>absurd ((hon 11 (by kernel_rfl)).symm.trans h1_) (by decide),Bf,Af,fun _ h1_=>absurd ((hon 15 (by kernel_rfl)).symm.trans h1_) (by decide),fun _ h1_=>absurd ((up_self b 19).symm.trans h1_) (by decide),Bh,Ag,fun _ _=>(yu3 HI0.out),fun h0_=>nh (hoff 23 (by kernel_rfl)) h0_,Be,Aq,Ar,Ah,Ae,Ac,Ad,fun h0_=>nh (hoff 27 (by kernel_rfl)) h0_,Ay,fun h0_=>nh (hoff 20 (by kernel_rfl)) h0_,Av⟩
  refine steps_cons ?_ ?_
  ·rintro b a w' ⟨v124,adz_v124,v132,adz_v132,gb139,m12_,m20_,m26_,ha,Al,Bd,A0,A1,A2,Az,Aw,Am,Af,At,Ao,Ap,Ag,An,Ak,As,Aq,Ar,Ah,Ae,Ac,Ad,Au,Ay,A7,Av⟩ hb_ hon hoff
   refine ⟨_,rfl,fun K hK=>?_⟩
   have e23:a.tmps[23]? =some (v132):=by rw [ha];exact putSel_on (e:=(17,23,v132)) 12 rfl rfl (hon 17 (by kernel_rfl)) rfl
   have e25:a.tmps[25]? =some (.int .i64 t134):=by rw [ha];exact putSel_on (e:=(19,25,.int .i64 t134)) 13 rfl rfl (hon 19 (by kernel_rfl)) rfl
   replace ha:=Aside0.mk ha
   have Aa:=Aside0.mk Al
   have HK:=Aside0.mk A0
   have HB:=Aside0.mk A1
   have Aj:=Aside0.mk (Ap (hon 17 (by kernel_rfl)))
   have HA_HO133:=Aside0.mk (Ag (hon 17 (by kernel_rfl)))
   obtain ⟨c_,hv_⟩:=HA_HO133.out
   rw [hv_] at e23
   refine value_ (w1:=w') (v:=.pointer (some (adz_v132.add (t134).toNat))) (by rfl) rfl ?_ ?_
   ·go_simp
    (try simp only [i64_w])
    try rfl
   refine hK.out _ _ ⟨v124,adz_v124,v132,adz_v132,gb139,m12_,(.pointer (some (adz_v132.add (t134).toNat))),m26_,(by rw [ha.out];exact putSel_upk 14 hb_ rfl rfl rfl),Al,fun h0_=>absurd ((hon 1 (by kernel_rfl)).symm.trans h0_) (by decide),A0,A1,fun _ h1_=>absurd ((hon 4 (by kernel_rfl)).symm.trans h1_) (by decide),fun _ h1_=>absurd ((hon 7 (by kernel_rfl)).symm.trans h1_) (by decide),fun _ h1_=>absurd ((hon 11 (by kernel_rfl)).symm.trans h1_) (by decide),Am,Af,fun _ h1_=>absurd ((hon 15 (by kernel_rfl)).symm.trans h1_) (by decide),fun _ h1_=>absurd ((hon 19 (by kernel_rfl)).symm.trans h1_) (by decide),Ap,Ag,An,Ak,As,Aq,Ar,Ah,Ae,Ac,Ad,fun h0_=>nh (hoff 27 (by kernel_rfl)) h0_,Ay,fun _=>rfl,Av⟩
  refine steps_cons ?_ ?_
  ·rintro b a w' ⟨v124,adz_v124,v132,adz_v132,gb139,m12_,m20_,m26_,ha,Al,Bd,A0,A1,A2,Az,Aw,Am,Af,At,Ao,Ap,Ag,An,Ak,As,Aq,Ar,Ah,Ae,Ac,Ad,Au,Ay,A7,Av⟩ hb_ hon hoff
   refine ⟨_,rfl,fun K hK=>?_⟩
   have e26:a.tmps[26]? =some (m20_):=by rw [ha];exact putSel_on (e:=(20,26,m20_)) 14 rfl rfl (hon 20 (by kernel_rfl)) rfl
   rw [A7 (hon 20 (by kernel_rfl))] at e26
   replace ha:=Aside0.mk ha
   have Aa:=Aside0.mk Al
   have HK:=Aside0.mk A0
   have HB:=Aside0.mk A1
   have Aj:=Aside0.mk (Ap (hon 17 (by kernel_rfl)))
   have HA_HO133:=Aside0.mk (Ag (hon 17 (by kernel_rfl)))
   obtain ⟨c_,hv_⟩:=HA_HO133.out
   have hF_:=Aj.out
   rw [hv_] at hF_
   obtain ⟨ad_,ea_,hx_⟩:=Kd.at_int (Kd.R_reads' hF_).2.2 t134 (of_eq_true pi136) (of_eq_true qi136)
   cases ea_
   refine value_ (w1:=w') (v:=.int .i64 (rd y131 t134)) (by rfl) rfl ?_ ?_
   ·go_simp
    (try simp only [i64_w])
    try rfl
   refine hK.out _ _ ⟨v124,adz_v124,v132,adz_v132,gb139,m12_,m20_,m26_,(by rw [ha.out];exact putSel_upk 15 hb_ rfl rfl rfl),Al,fun h0_=>absurd ((hon 1 (by kernel_rfl)).symm.trans h0_) (by decide),A0,A1,fun _ h1_=>absurd ((hon 4 (by kernel_rfl)).symm.trans h1_) (by decide),fun _ h1_=>absurd ((hon 7 (by kernel_rfl)).symm.trans h1_) (by decide),fun _ h1_=>absurd ((hon 11 (by kernel_rfl)).symm.trans h1_) (by decide),Am,Af,fun _ h1_=>absurd ((hon 15 (by kernel_rfl)).symm.trans h1_) (by decide),fun _ h1_=>absurd ((hon 19 (by kernel_rfl)).symm.trans h1_) (by decide),Ap,Ag,An,Ak,As,Aq,Ar,Ah,Ae,Ac,Ad,fun h0_=>nh (hoff 27 (by kernel_rfl)) h0_,Ay,A7,Av⟩
  refine steps_cons ?_ ?_
  ·rintro b a w' ⟨v124,adz_v124,v132,adz_v132,gb139,m12_,m20_,m26_,ha,Al,Bd,A0,A1,A2,Az,Aw,Am,Af,At,Ao,Ap,Ag,An,Ak,As,Aq,Ar,Ah,Ae,Ac,Ad,Au,Ay,A7,Av⟩ hb_ hon hoff
   refine ⟨_,rfl,fun K hK=>?_⟩
   have e28:a.tmps[28]? =some (.pointer (some ⟨g,0,none⟩)):=by rw [ha];exact (putSel_off rfl).trans rfl
   replace ha:=Aside0.mk ha
   have Aa:=Aside0.mk Al
   have HK:=Aside0.mk A0
   have HB:=Aside0.mk A1
   have HI0:=Aside0.mk (An (hon 19 (by kernel_rfl)) hb_)
   refine goes_ Try.func70 (by kernel_rfl) rfl #[.pointer (some ⟨g,0,none⟩),.int .i64 5] (by rfl) rfl rfl (by first|(simp only [List.map_toArray,List.map_cons,List.map_nil,Act.eval,Array.getD_eq_getD_getElem?,Option.getD_some,e28];done)|(simp only [List.map_toArray,List.map_cons,List.map_nil,Act.eval,Array.getD_eq_getD_getElem?,Option.getD_some,e28];rfl)) ?_
   with_reducible refine (spec_l20Rd_pick.calls k g s0_0 t135 5 t137 t138 w0 _ ?side1 ?side2 F6.out).mono ?_
   (case side1=>exact yu3 HI0.out)
   (case side2=>exact yu10 HB.out HI0.out)
   rintro e B5 ⟨rfl,hi,hb,hk⟩
   refine ⟨_,rfl,?_⟩
   have n0_:=Aside0.mk (KeepBut.blk hk (g':=gb116) (o:=.cells #[.int .i64 0,.int .i64 0,.int .i64 0,.int .i64 0,.int .i64 0] 66 (0,0)) (yv14 Aa.out) A8.out (by simp))
   have n1_:=Aside0.mk (KeepBut.trans (yu11 HK.out) hk (.inl rfl))
   have n2_:=Aside0.mk (hb)
   have n3_:=Aside0.mk (hi)
   have Bf:=fun (h0_:b 9=true)=>(show Kd.R (Kd.int .i64) 3 B5 w.heap.size (fun _=>True) v124 y123 from by first|exact (Kd.R_mono (Kd.R_keep (IsS113.apart (show IsS113 w0 _ g s0_0 t135 from by exact yu3 HI0.out) (mR (Am h0_)) (by decide)) hk (fun _ h=>h.2)) (fun _ h=>h.1))|exact Kd.R_mono (Kd.R_mono (Kd.R_keep (IsS113.apart (show IsS113 w0 _ g s0_0 t135 from by exact yu3 HI0.out) (mR (Am h0_)) (by decide)) hk (fun _ h=>h.2)) (fun _ h=>h.1)) (fun _ h_=>by first|trivial|exact h_|exact h_.1))
   have Bh:=fun (h0_:b 17=true)=>(show Kd.R (Kd.int .i64) 3 B5 w.heap.size (fun _=>True) v132 y131 from by first|exact (Kd.R_mono (Kd.R_keep (IsS113.apart (show IsS113 w0 _ g s0_0 t135 from by exact yu3 HI0.out) (mR (Ap h0_)) (by decide)) hk (fun _ h=>h.2)) (fun _ h=>h.1))|exact Kd.R_mono (Kd.R_mono (Kd.R_keep (IsS113.apart (show IsS113 w0 _ g s0_0 t135 from by exact yu3 HI0.out) (mR (Ap h0_)) (by decide)) hk (fun _ h=>h.2)) (fun _ h=>h.1)) (fun _ h_=>by first|trivial|exact h_|exact h_.1))
   have Be:=fun (h0_:b 26=true) (h1_:b 27=false)=>(show B5.heap[gb139]? =some (.cells #[.int .i64 0,.int .i64 0,.int .i64 0,.int .i64 0,.int .i64 0] 66 (0,0)) from by first|exact (KeepBut.blk hk (g':=gb139) (o:=.cells #[.int .i64 0,.int .i64 0,.int .i64 0,.int .i64 0,.int .i64 0] 66 (0,0)) (by (with_reducible repeat (first|refine blk_drewN ?_ _|refine blk_drew ?_|refine blk_alloc ?_ _));exact (As h0_ h1_)) (Ae h0_) (by simp)))
   clear Aa
   clear HK
   clear HB
   clear HI0
   have Aa:=n0_
   have HK:=n1_
   have HB:=n2_
   have HI0:=n3_
   clear n0_ n1_ n2_ n3_
   (try clear hb)
   (try clear hb2)
   (try clear hk)
   (try clear hi)
   refine hK.out _ _ ⟨v124,adz_v124,v132,adz_v132,gb139,m12_,m20_,m26_,(by rw [ha.out];exact putSel_upk 16 hb_ rfl rfl rfl),(yv14 Aa.out),fun h0_=>absurd ((hon 1 (by kernel_rfl)).symm.trans h0_) (by decide),(yu11 HK.out),(yu10 HB.out HI0.out),fun _ h1_=>absurd ((hon 4 (by kernel_rfl)).symm.trans h1_) (by decide),fun _ h1_=>absurd ((hon 7 (by kernel_rfl)).symm.trans h1_) (by decide),fun _ h1_=>absurd ((hon 11 (by kernel_rfl)).symm.trans h1_) (by decide),Bf,Af,fun _ h1_=>absurd ((hon 15 (by kernel_rfl)).symm.trans h1_) (by decide),fun _ h1_=>absurd ((hon 19 (by kernel_rfl)).symm.trans h1_) (by decide),Bh,Ag,fun _ h1_=>absurd ((up_self b 23).symm.trans h1_) (by decide),fun _=>(yu3 HI0.out),Be,Aq,Ar,Ah,Ae,Ac,Ad,fun h0_=>nh (hoff 27 (by kernel_rfl)) h0_,Ay,A7,Av⟩
  refine steps_cons ?_ ?_
  ·rintro b a w' ⟨v124,adz_v124,v132,adz_v132,gb139,m12_,m20_,m26_,ha,Al,Bd,A0,A1,A2,Az,Aw,Am,Af,At,Ao,Ap,Ag,An,Ak,As,Aq,Ar,Ah,Ae,Ac,Ad,Au,Ay,A7,Av⟩ hb_ hon hoff
   refine ⟨_,rfl,fun K hK=>?_⟩
   have e29:a.tmps[29]? =some (.int .i64 t137):=by rw [ha];exact putSel_on (e:=(23,29,.int .i64 t137)) 16 rfl rfl (hon 23 (by kernel_rfl)) rfl
   replace ha:=Aside0.mk ha
   have Aa:=Aside0.mk Al
   have HK:=Aside0.mk A0
   have HB:=Aside0.mk A1
   have HI0:=Aside0.mk (Ak (hon 23 (by kernel_rfl)))
   refine value_ (w1:=w') (v:=.int .i64 (wrap64 (1+t137))) (by rfl) rfl ?_ ?_
   ·go_simp
    (try simp only [i64_w])
    try rfl
   refine hK.out _ _ ⟨v124,adz_v124,v132,adz_v132,gb139,m12_,m20_,m26_,(by rw [ha.out];exact putSel_upk 17 hb_ rfl rfl rfl),Al,fun h0_=>absurd ((hon 1 (by kernel_rfl)).symm.trans h0_) (by decide),A0,A1,fun _ h1_=>absurd ((hon 4 (by kernel_rfl)).symm.trans h1_) (by decide),fun _ h1_=>absurd ((hon 7 (by kernel_rfl)).symm.trans h1_) (by decide),fun _ h1_=>absurd ((hon 11 (by kernel_rfl)).symm.trans h1_) (by decide),Am,Af,fun _ h1_=>absurd ((hon 15 (by kernel_rfl)).symm.trans h1_) (by decide),fun _ h1_=>absurd ((hon 19 (by kernel_rfl)).symm.trans h1_) (by decide),Ap,Ag,fun _ h1_=>absurd ((hon 23 (by kernel_rfl)).symm.trans h1_) (by decide),Ak,As,Aq,Ar,Ah,Ae,Ac,Ad,fun h0_=>nh (hoff 27 (by kernel_rfl)) h0_,Ay,A7,Av⟩
  refine steps_cons ?_ ?_
  ·rintro b a w' ⟨v124,adz_v124,v132,adz_v132,gb139,m12_,m20_,m26_,ha,Al,Bd,A0,A1,A2,Az,Aw,Am,Af,At,Ao,Ap,Ag,An,Ak,As,Aq,Ar,Ah,Ae,Ac,Ad,Au,Ay,A7,Av⟩ hb_ hon hoff
   refine ⟨_,rfl,fun K hK=>?_⟩
   have e8:a.tmps[8]? =some (.int .i64 (wrap64 (1+t117))):=by rw [ha];exact putSel_on (e:=(2,8,.int .i64 (wrap64 (1+t117)))) 1 rfl rfl (hon 2 (by kernel_rfl)) rfl
   have e11:a.tmps[11]? =some (.int .i64 (wrap64 (1+t119))):=by rw [ha];exact putSel_on (e:=(5,11,.int .i64 (wrap64 (1+t119)))) 3 rfl rfl (hon 5 (by kernel_rfl)) rfl
   have e19:a.tmps[19]? =some (.int .i64 (rd y123 t126)):=by rw [ha];exact putSel_on (e:=(13,19,.int .i64 (rd y123 t126))) 9 rfl rfl (hon 13 (by kernel_rfl)) rfl
   have e27:a.tmps[27]? =some (.int .i64 (rd y131 t134)):=by rw [ha];exact putSel_on (e:=(21,27,.int .i64 (rd y131 t134))) 15 rfl rfl (hon 21 (by kernel_rfl)) rfl
   have e30:a.tmps[30]? =some (.int .i64 (wrap64 (1+t137))):=by rw [ha];exact putSel_on (e:=(24,30,.int .i64 (wrap64 (1+t137)))) 17 rfl rfl (hon 24 (by kernel_rfl)) rfl
   replace ha:=Aside0.mk ha
   have Aa:=Aside0.mk Al
   have HK:=Aside0.mk A0
   have HB:=Aside0.mk A1
   have Ai:=Aside0.mk (Am (hon 9 (by kernel_rfl)))
   have HA_HO125:=Aside0.mk (Af (hon 9 (by kernel_rfl)))
   have Aj:=Aside0.mk (Ap (hon 17 (by kernel_rfl)))
   have HA_HO133:=Aside0.mk (Ag (hon 17 (by kernel_rfl)))
   have HI0:=Aside0.mk (Ak (hon 23 (by kernel_rfl)))
   refine value_ (w1:=w') (v:=.agg #[.int .i64 (wrap64 (1+t117)),.int .i64 (wrap64 (1+t119)),.int .i64 (rd y123 t126),.int .i64 (rd y131 t134),.int .i64 (wrap64 (1+t137))]) (by rfl) rfl ?_ ?_
   ·go_simp
    (try simp only [i64_w])
    try rfl
   refine hK.out _ _ ⟨v124,adz_v124,v132,adz_v132,gb139,m12_,m20_,m26_,(by rw [ha.out];exact putSel_upk 18 hb_ rfl rfl rfl),Al,fun h0_=>absurd ((hon 1 (by kernel_rfl)).symm.trans h0_) (by decide),A0,A1,fun _ h1_=>absurd ((hon 4 (by kernel_rfl)).symm.trans h1_) (by decide),fun _ h1_=>absurd ((hon 7 (by kernel_rfl)).symm.trans h1_) (by decide),fun _ h1_=>absurd ((hon 11 (by kernel_rfl)).symm.trans h1_) (by decide),Am,Af,fun _ h1_=>absurd ((hon 15 (by kernel_rfl)).symm.trans h1_) (by decide),fun _ h1_=>absurd ((hon 19 (by kernel_rfl)).symm.trans h1_) (by decide),Ap,Ag,fun _ h1_=>absurd ((hon 23 (by kernel_rfl)).symm.trans h1_) (by decide),Ak,As,Aq,Ar,Ah,Ae,Ac,Ad,fun h0_=>nh (hoff 27 (by kernel_rfl)) h0_,Ay,A7,Av⟩
  refine steps_cons ?_ ?_
  ·rintro b a w' ⟨v124,adz_v124,v132,adz_v132,gb139,m12_,m20_,m26_,ha,Al,Bd,A0,A1,A2,Az,Aw,Am,Af,At,Ao,Ap,Ag,An,Ak,As,Aq,Ar,Ah,Ae,Ac,Ad,Au,Ay,A7,Av⟩ hb_ hon hoff
   refine ⟨_,rfl,fun K hK=>?_⟩
   replace ha:=Aside0.mk ha
   have Aa:=Aside0.mk Al
   have HK:=Aside0.mk A0
   have HB:=Aside0.mk A1
   refine box_step ?hg (N:=5) ?hd (cs:=#[.int .i64 0,.int .i64 0,.int .i64 0,.int .i64 0,.int .i64 0]) (t:=66) ?hr ?_;(case hd=>rfl);(case hg=>rfl);(case hr=>first|(go_simp;done)|(go_simp;rfl))
   intro gb139 hg Bl hbox hb
   have n1_:=Aside0.mk (blk_below (g:=gb116) (o:=.cells #[.int .i64 0,.int .i64 0,.int .i64 0,.int .i64 0,.int .i64 0] 66 (0,0)) (yv14 Aa.out) hb)
   have n2_:=Aside0.mk (KeepBut.trans (yu11 HK.out) (KeepBut.of_below hb g none) (.inl rfl))
   have n3_:=Aside0.mk (below_step (yu12 HB.out) hb)
   have n4_:=Aside0.mk (hbox)
   have n5_:=Aside0.mk ((by rw [hg];exact (keep_size (w:=w) (g:=g) (row:=none) (yu11 HK.out)):w.heap.size≤gb139))
   have n6_:=Aside0.mk ((Nat.le_trans HW0.out (by rw [hg];exact (keep_size (w:=w) (g:=g) (row:=none) (yu11 HK.out)):w.heap.size≤gb139):w0.heap.size≤gb139))
   have n7_:=Aside0.mk ((by rw [hg];exact Nat.ne_of_lt (blk_lt (g:=gb116) (o:=.cells #[.int .i64 0,.int .i64 0,.int .i64 0,.int .i64 0,.int .i64 0] 66 (0,0)) (yv14 Aa.out)):gb116≠gb139))
   have n8_:=Aside0.mk ((by rw [hg];exact Nat.ne_of_gt (blk_lt (g:=gb116) (o:=.cells #[.int .i64 0,.int .i64 0,.int .i64 0,.int .i64 0,.int .i64 0] 66 (0,0)) (yv14 Aa.out)):gb139≠gb116))
   have n9_:=Aside0.mk ((by rw [hg];exact Nat.ne_of_lt (Nat.lt_of_lt_of_le HGL.out (keep_size (w:=w) (g:=g) (row:=none) (yu8 HK.out))):g≠gb139))
   have n10_:=Aside0.mk ((by rw [hg];exact Nat.ne_of_gt (Nat.lt_of_lt_of_le HGL.out (keep_size (w:=w) (g:=g) (row:=none) (yu8 HK.out))):gb139≠g))
   have Ci:=fun (h0_:b 1=false)=>(show IsS113 w0 Bl g s0_0 s0_1 from by first|exact (IsS113.below (by repeat (first|(with_reducible first|exact (Bd h0_)|apply IsS113.alloc|apply IsS113.drewN|apply IsS113.drew|apply IsS113.set_1|refine IsS113.far ?_ Bb.out _)|exact (Bd h0_))) hb))
   have B6:=fun (h0_:b 1=true) (h1_:b 4=false)=>(show IsS113 w0 Bl g s0_0 t118 from by first|exact (IsS113.below (by repeat (first|(with_reducible first|exact (A2 h0_ h1_)|apply IsS113.alloc|apply IsS113.drewN|apply IsS113.drew|apply IsS113.set_1|refine IsS113.far ?_ Bb.out _)|exact (A2 h0_ h1_))) hb))
   have B7:=fun (h0_:b 4=true) (h1_:b 7=false)=>(show IsS113 w0 Bl g s0_0 t120 from by first|exact (IsS113.below (by repeat (first|(with_reducible first|exact (Az h0_ h1_)|apply IsS113.alloc|apply IsS113.drewN|apply IsS113.drew|apply IsS113.set_1|refine IsS113.far ?_ Bb.out _)|exact (Az h0_ h1_))) hb))
   have Bv:=fun (h0_:b 7=true) (h1_:b 11=false)=>(show IsS113 w0 Bl g s0_0 t122 from by first|exact (IsS113.below (by repeat (first|(with_reducible first|exact (Aw h0_ h1_)|apply IsS113.alloc|apply IsS113.drewN|apply IsS113.drew|apply IsS113.set_1|refine IsS113.far ?_ Bb.out _)|exact (Aw h0_ h1_))) hb))
   have Bf:=fun (h0_:b 9=true)=>(show Kd.R (Kd.int .i64) 3 Bl w.heap.size (fun _=>True) v124 y123 from by first|exact (Kd.R_below (mR (Am h0_)) hb)|exact Kd.R_mono (Kd.R_below (mR (Am h0_)) hb) (fun _ h_=>by first|trivial|exact h_|exact h_.1))
   have Bs:=fun (h0_:b 11=true) (h1_:b 15=false)=>(show IsS113 w0 Bl g s0_0 t127 from by first|exact (IsS113.below (by repeat (first|(with_reducible first|exact (At h0_ h1_)|apply IsS113.alloc|apply IsS113.drewN|apply IsS113.drew|apply IsS113.set_1|refine IsS113.far ?_ Bb.out _)|exact (At h0_ h1_))) hb))
   have Bi:=fun (h0_:b 15=true) (h1_:b 19=false)=>(show IsS113 w0 Bl g s0_0 t130 from by first|exact (IsS113.below (by repeat (first|(with_reducible first|exact (Ao h0_ h1_)|apply IsS113.alloc|apply IsS113.drewN|apply IsS113.drew|apply IsS113.set_1|refine IsS113.far ?_ Bb.out _)|exact (Ao h0_ h1_))) hb))
   have Bh:=fun (h0_:b 17=true)=>(show Kd.R (Kd.int .i64) 3 Bl w.heap.size (fun _=>True) v132 y131 from by first|exact (Kd.R_below (mR (Ap h0_)) hb)|exact Kd.R_mono (Kd.R_below (mR (Ap h0_)) hb) (fun _ h_=>by first|trivial|exact h_|exact h_.1))
   have Bj:=fun (h0_:b 19=true) (h1_:b 23=false)=>(show IsS113 w0 Bl g s0_0 t135 from by first|exact (IsS113.below (by repeat (first|(with_reducible first|exact (An h0_ h1_)|apply IsS113.alloc|apply IsS113.drewN|apply IsS113.drew|apply IsS113.set_1|refine IsS113.far ?_ Bb.out _)|exact (An h0_ h1_))) hb))
   have Bk:=fun (h0_:b 23=true)=>(show IsS113 w0 Bl g s0_0 t138 from by first|exact (IsS113.below (by repeat (first|(with_reducible first|exact (Ak h0_)|apply IsS113.alloc|apply IsS113.drewN|apply IsS113.drew|apply IsS113.set_1|refine IsS113.far ?_ Bb.out _)|exact (Ak h0_))) hb))
   clear Aa
   clear HK
   clear HB
   have Aa:=n1_
   have HK:=n2_
   have HB:=n3_
   have Ab:=n4_
   have B1:=n5_
   have B2:=n6_
   have Ax:=n7_
   have Bc:=n8_
   have Bg:=n9_
   have Ba:=n10_
   clear n1_ n2_ n3_ n4_ n5_ n6_ n7_ n8_ n9_ n10_
   clear hb hbox hg
   refine hK.out _ _ ⟨v124,adz_v124,v132,adz_v132,gb139,m12_,m20_,(.pointer (some ⟨gb139,0,none⟩)),(by rw [ha.out];exact putSel_upk 19 hb_ rfl rfl rfl),(yv14 Aa.out),Ci,(yu11 HK.out),(yu12 HB.out),B6,B7,Bv,Bf,Af,Bs,Bi,Bh,Ag,Bj,Bk,fun _ _=>(yv14 Ab.out),fun _=>B1.out,fun _=>B2.out,fun _=>Bg.out,fun _=>Ba.out,fun _=>Ax.out,fun _=>Bc.out,fun h0_=>nh (hoff 27 (by kernel_rfl)) h0_,Ay,A7,fun _=>rfl⟩
  refine steps_cons ?_ ?_
  ·rintro b a w' ⟨v124,adz_v124,v132,adz_v132,gb139,m12_,m20_,m26_,ha,Al,Bd,A0,A1,A2,Az,Aw,Am,Af,At,Ao,Ap,Ag,An,Ak,As,Aq,Ar,Ah,Ae,Ac,Ad,Au,Ay,A7,Av⟩ hb_ hon hoff
   refine ⟨_,rfl,fun K hK=>?_⟩
   have e5:a.tmps[5]? =some (m26_):=by rw [ha];exact putSel_on (e:=(26,5,m26_)) 19 rfl rfl (hon 26 (by kernel_rfl)) rfl
   rw [Av (hon 26 (by kernel_rfl))] at e5
   have e31:a.tmps[31]? =some (.agg #[.int .i64 (wrap64 (1+t117)),.int .i64 (wrap64 (1+t119)),.int .i64 (rd y123 t126),.int .i64 (rd y131 t134),.int .i64 (wrap64 (1+t137))]):=by rw [ha];exact putSel_on (e:=(25,31,.agg #[.int .i64 (wrap64 (1+t117)),.int .i64 (wrap64 (1+t119)),.int .i64 (rd y123 t126),.int .i64 (rd y131 t134),.int .i64 (wrap64 (1+t137))])) 18 rfl rfl (hon 25 (by kernel_rfl)) rfl
   replace ha:=Aside0.mk ha
   have Aa:=Aside0.mk Al
   have HK:=Aside0.mk A0
   have HB:=Aside0.mk A1
   have Ai:=Aside0.mk (Am (hon 9 (by kernel_rfl)))
   have HA_HO125:=Aside0.mk (Af (hon 9 (by kernel_rfl)))
   have Aj:=Aside0.mk (Ap (hon 17 (by kernel_rfl)))
   have HA_HO133:=Aside0.mk (Ag (hon 17 (by kernel_rfl)))
   have HI0:=Aside0.mk (Ak (hon 23 (by kernel_rfl)))
   have Ab:=Aside0.mk (As (hon 26 (by kernel_rfl)) hb_)
   have B1:=Aside0.mk (Aq (hon 26 (by kernel_rfl)))
   have B2:=Aside0.mk (Ar (hon 26 (by kernel_rfl)))
   have Bg:=Aside0.mk (Ah (hon 26 (by kernel_rfl)))
   have Ba:=Aside0.mk (Ae (hon 26 (by kernel_rfl)))
   have Ax:=Aside0.mk (Ac (hon 26 (by kernel_rfl)))
   have Bc:=Aside0.mk (Ad (hon 26 (by kernel_rfl)))
   obtain ⟨co228,eo228⟩:=HA_HO125.out
   clear HA_HO125
   subst eo228
   obtain ⟨co229,eo229⟩:=HA_HO133.out
   clear HA_HO133
   subst eo229
   have hs230:w'.cell? ⟨gb139,0,none⟩=some (.int .i64 0):=(blk_cell Ab.out 0).trans rfl
   have hfs230:=blk_frozen Ab.out 0
   have hns230_0:=Ax.out
   have hms230_0:=Bc.out
   have hs231:w'.cell? ⟨gb139,1,none⟩=some (.int .i64 0):=(blk_cell Ab.out 1).trans rfl
   have hfs231:=blk_frozen Ab.out 1
   have hns231_0:=Ax.out
   have hms231_0:=Bc.out
   have hs232:w'.cell? ⟨gb139,2,none⟩=some (.int .i64 0):=(blk_cell Ab.out 2).trans rfl
   have hfs232:=blk_frozen Ab.out 2
   have hns232_0:=Ax.out
   have hms232_0:=Bc.out
   have hs233:w'.cell? ⟨gb139,3,none⟩=some (.int .i64 0):=(blk_cell Ab.out 3).trans rfl
   have hfs233:=blk_frozen Ab.out 3
   have hns233_0:=Ax.out
   have hms233_0:=Bc.out
   have hs234:w'.cell? ⟨gb139,4,none⟩=some (.int .i64 0):=(blk_cell Ab.out 4).trans rfl
   have hfs234:=blk_frozen Ab.out 4
   have hns234_0:=Ax.out
   have hms234_0:=Bc.out
   refine skip_ (w1:=?_) (by rfl) rfl ?_ ?_
   rotate_left
   ·go_simp
    rfl
   refine hK.out _ _ ⟨.slice (some adz_v124) y123.length co228,adz_v124,.slice (some adz_v132) y131.length co229,adz_v132,gb139,m12_,m20_,m26_,(by rw [ha.out];exact putSel_none (v:=undef) rfl),(yv15 Ax.out Ax.out Ax.out Ax.out Ax.out Aa.out),fun h0_=>absurd ((hon 1 (by kernel_rfl)).symm.trans h0_) (by decide),(yu11 HK.out),(yu10 HB.out HI0.out),fun _ h1_=>absurd ((hon 4 (by kernel_rfl)).symm.trans h1_) (by decide),fun _ h1_=>absurd ((hon 7 (by kernel_rfl)).symm.trans h1_) (by decide),fun _ h1_=>absurd ((hon 11 (by kernel_rfl)).symm.trans h1_) (by decide),fun _=>(by (with_reducible repeat (first|apply Kd.R_alloc|apply Kd.R_drewN|apply Kd.R_drew));exact Kd.R_mono (Kd.R_far (p:=⟨gb139,4,none⟩) (Kd.R_far (p:=⟨gb139,3,none⟩) (Kd.R_far (p:=⟨gb139,2,none⟩) (Kd.R_far (p:=⟨gb139,1,none⟩) (Kd.R_far (p:=⟨gb139,0,none⟩) (Kd.R_types Ai.out Ab.out (by decide)) (fun _ hk=>hk.2) (.int .i64 (wrap64 (1+t117)))) (fun _ hk=>hk.2) (.int .i64 (wrap64 (1+t119)))) (fun _ hk=>hk.2) (.int .i64 (rd y123 t126))) (fun _ hk=>hk.2) (.int .i64 (rd y131 t134))) (fun _ hk=>hk.2) (.int .i64 (wrap64 (1+t137)))) (fun _ hk=>hk.1)),fun _=>⟨_,rfl⟩,fun _ h1_=>absurd ((hon 15 (by kernel_rfl)).symm.trans h1_) (by decide),fun _ h1_=>absurd ((hon 19 (by kernel_rfl)).symm.trans h1_) (by decide),fun _=>(by (with_reducible repeat (first|apply Kd.R_alloc|apply Kd.R_drewN|apply Kd.R_drew));exact Kd.R_mono (Kd.R_far (p:=⟨gb139,4,none⟩) (Kd.R_far (p:=⟨gb139,3,none⟩) (Kd.R_far (p:=⟨gb139,2,none⟩) (Kd.R_far (p:=⟨gb139,1,none⟩) (Kd.R_far (p:=⟨gb139,0,none⟩) (Kd.R_types Aj.out Ab.out (by decide)) (fun _ hk=>hk.2) (.int .i64 (wrap64 (1+t117)))) (fun _ hk=>hk.2) (.int .i64 (wrap64 (1+t119)))) (fun _ hk=>hk.2) (.int .i64 (rd y123 t126))) (fun _ hk=>hk.2) (.int .i64 (rd y131 t134))) (fun _ hk=>hk.2) (.int .i64 (wrap64 (1+t137)))) (fun _ hk=>hk.1)),fun _=>⟨_,rfl⟩,fun _ h1_=>absurd ((hon 23 (by kernel_rfl)).symm.trans h1_) (by decide),fun _=>(yu3 HI0.out),fun _ h1_=>absurd ((up_self b 27).symm.trans h1_) (by decide),fun _=>B1.out,fun _=>B2.out,fun _=>Bg.out,fun _=>Ba.out,fun _=>Ax.out,fun _=>Bc.out,fun _=>(by (with_reducible repeat (first|refine blk_drewN ?_ _|refine blk_drew ?_|refine blk_alloc ?_ _));refine blk_put (cs:=#[.int .i64 (wrap64 (1+t117)),.int .i64 (wrap64 (1+t119)),.int .i64 (rd y123 t126),.int .i64 (rd y131 t134),.int .i64 0]) ?_ 4 _ rfl;(with_reducible repeat (first|refine blk_drewN ?_ _|refine blk_drew ?_|refine blk_alloc ?_ _));refine blk_put (cs:=#[.int .i64 (wrap64 (1+t117)),.int .i64 (wrap64 (1+t119)),.int .i64 (rd y123 t126),.int .i64 0,.int .i64 0]) ?_ 3 _ rfl;(with_reducible repeat (first|refine blk_drewN ?_ _|refine blk_drew ?_|refine blk_alloc ?_ _));refine blk_put (cs:=#[.int .i64 (wrap64 (1+t117)),.int .i64 (wrap64 (1+t119)),.int .i64 0,.int .i64 0,.int .i64 0]) ?_ 2 _ rfl;(with_reducible repeat (first|refine blk_drewN ?_ _|refine blk_drew ?_|refine blk_alloc ?_ _));refine blk_put (cs:=#[.int .i64 (wrap64 (1+t117)),.int .i64 0,.int .i64 0,.int .i64 0,.int .i64 0]) ?_ 1 _ rfl;(with_reducible repeat (first|refine blk_drewN ?_ _|refine blk_drew ?_|refine blk_alloc ?_ _));refine blk_put (cs:=#[.int .i64 0,.int .i64 0,.int .i64 0,.int .i64 0,.int .i64 0]) ?_ 0 _ rfl;(with_reducible repeat (first|refine blk_drewN ?_ _|refine blk_drew ?_|refine blk_alloc ?_ _));exact Ab.out),Ay,A7,Av⟩
  exact steps_nil
 rintro b a He hall ⟨v124,adz_v124,v132,adz_v132,gb139,m12_,m20_,m26_,ha,Al,Bd,A0,A1,A2,Az,Aw,Am,Af,At,Ao,Ap,Ag,An,Ak,As,Aq,Ar,Ah,Ae,Ac,Ad,Au,Ay,A7,Av⟩
 clear Aa HB HI0 HK
 have hb1_:=hall 1 (by kernel_rfl)
 have hb2_:=hall 2 (by kernel_rfl)
 have hb4_:=hall 4 (by kernel_rfl)
 have hb5_:=hall 5 (by kernel_rfl)
 have hb7_:=hall 7 (by kernel_rfl)
 have hb8_:=hall 8 (by kernel_rfl)
 have hb9_:=hall 9 (by kernel_rfl)
 have hb11_:=hall 11 (by kernel_rfl)
 have hb12_:=hall 12 (by kernel_rfl)
 have hb13_:=hall 13 (by kernel_rfl)
 have hb15_:=hall 15 (by kernel_rfl)
 have hb16_:=hall 16 (by kernel_rfl)
 have hb17_:=hall 17 (by kernel_rfl)
 have hb19_:=hall 19 (by kernel_rfl)
 have hb20_:=hall 20 (by kernel_rfl)
 have hb21_:=hall 21 (by kernel_rfl)
 have hb23_:=hall 23 (by kernel_rfl)
 have hb24_:=hall 24 (by kernel_rfl)
 have hb25_:=hall 25 (by kernel_rfl)
 have hb26_:=hall 26 (by kernel_rfl)
 have hb27_:=hall 27 (by kernel_rfl)
 subst ha
 obtain rfl:=Ay hb12_
 obtain rfl:=A7 hb20_
 obtain rfl:=Av hb26_
 simp only [putSel,hb1_,hb2_,hb4_,hb5_,hb7_,hb8_,hb9_,hb11_,hb12_,hb13_,hb15_,hb16_,hb17_,hb19_,hb20_,hb21_,hb23_,hb24_,hb25_,hb26_,hb27_,if_true,Act.put,List.setIfInBounds_toArray,List.set_cons_zero,List.set_cons_succ]
 have Aa:=Aside0.mk Al
 clear Al
 clear Bd
 have HK:=Aside0.mk A0
 clear A0
 have HB:=Aside0.mk A1
 clear A1
 clear A2
 clear Az
 clear Aw
 have Ai:=Aside0.mk (Am hb9_)
 clear Am
 have HA_HO125:=Aside0.mk (Af hb9_)
 clear Af
 clear At
 clear Ao
 have Aj:=Aside0.mk (Ap hb17_)
 clear Ap
 have HA_HO133:=Aside0.mk (Ag hb17_)
 clear Ag
 clear An
 have HI0:=Aside0.mk (Ak hb23_)
 clear Ak
 clear As
 have B1:=Aside0.mk (Aq hb26_)
 clear Aq
 have B2:=Aside0.mk (Ar hb26_)
 clear Ar
 have Bg:=Aside0.mk (Ah hb26_)
 clear Ah
 have Ba:=Aside0.mk (Ae hb26_)
 clear Ae
 have Ax:=Aside0.mk (Ac hb26_)
 clear Ac
 have Bc:=Aside0.mk (Ad hb26_)
 clear Ad
 have Ab:=Aside0.mk (Au hb27_)
 clear Au
 clear hall hb1_ hb2_ hb4_ hb5_ hb7_ hb8_ hb9_ hb11_ hb12_ hb13_ hb15_ hb16_ hb17_ hb19_ hb20_ hb21_ hb23_ hb24_ hb25_ hb26_ hb27_
 obtain ⟨co233,eo233⟩:=HA_HO125.out
 clear HA_HO125
 subst eo233
 obtain ⟨co234,eo234⟩:=HA_HO133.out
 clear HA_HO133
 subst eo234
 have H:=HH.out
 clear HH
 by_cases c15:t140=true
 rotate_left
 ·replace c15:=Bool.eq_false_iff.mpr c15
  subst c15
  have H1:(some (wrap64 (1+t117),wrap64 (1+t119),rd y123 t126,rd y131 t134,wrap64 (1+t137),t141))=some (r1,r2,r3,r4,r5,r6):=by rw [if_neg (show ¬ (false=true) by decide)] at H;exact H
  clear H
  have H:=H1
  clear H1
  simp only [Option.some.injEq,Prod.mk.injEq] at H
  obtain ⟨rfl,rfl,rfl,rfl,rfl,rfl⟩:=H
  try go_wp2_with (first|((with_reducible refine gate_callee (f:=98) rfl ?_);refine goesL_ (some 34) rfl rfl Try.func98 (by kernel_rfl) rfl #[.pointer (some ⟨g,0,none⟩),.int .i64 a1] rfl am ?_;(with_reducible refine (spec_l20Rd_odd.calls k g s0_0 t138 a1 false t141 w0 _ ?side1 ?side2 B3.out).mono ?_);(case side1=>exact yu3 HI0.out);(case side2=>exact yu10 HB.out HI0.out);rintro e Bn ⟨rfl,hi,hb,hk⟩;refine ⟨_,rfl,?_⟩;have n0_:=Aside0.mk (KeepBut.blk hk (g':=gb116) (o:=.cells #[.int .i64 0,.int .i64 0,.int .i64 0,.int .i64 0,.int .i64 0] 66 (0,0)) (yv14 Aa.out) A8.out (by simp));have n1_:=Aside0.mk (Kd.R_mono (Kd.R_keep (IsS113.apart (show IsS113 w0 _ g s0_0 t138 from by exact yu3 HI0.out) (mR Ai.out) (by decide)) hk (fun _ h=>h.2)) (fun _ h=>h.1));have n2_:=Aside0.mk (Kd.R_mono (Kd.R_keep (IsS113.apart (show IsS113 w0 _ g s0_0 t138 from by exact yu3 HI0.out) (mR Aj.out) (by decide)) hk (fun _ h=>h.2)) (fun _ h=>h.1));have n3_:=Aside0.mk (KeepBut.blk hk (g':=gb139) (o:=.cells #[.int .i64 (wrap64 (1+t117)),.int .i64 (wrap64 (1+t119)),.int .i64 (rd y123 t126),.int .i64 (rd y131 t134),.int .i64 (wrap64 (1+t137))] 66 (0,0)) (yv14 Ab.out) Ba.out (by simp));have n4_:=Aside0.mk (KeepBut.trans (yu11 HK.out) hk (.inl rfl));have n5_:=Aside0.mk (hb);have n6_:=Aside0.mk (hi);clear Aa;clear Ai;clear Aj;clear Ab;clear HK;clear HB;clear HI0;have Aa:=n0_;have Ai:=n1_;have Aj:=n2_;have Ab:=n3_;have HK:=n4_;have HB:=n5_;have HI0:=n6_;clear n0_ n1_ n2_ n3_ n4_ n5_ n6_;(try clear hb);(try clear hb2);(try clear hk);(try clear hi);have F7:=Bc.out;have F8:=Ax.out;have F9:=Ba.out;have Ga:=Bg.out;have Cr:Bn.cell? ⟨gb139,0,none⟩=some (.int .i64 (wrap64 (1+t117))):=(blk_cell Ab.out 0).trans rfl;have Cs:Bn.cell? ⟨gb139,1,none⟩=some (.int .i64 (wrap64 (1+t119))):=(blk_cell Ab.out 1).trans rfl;have Ct:Bn.cell? ⟨gb139,2,none⟩=some (.int .i64 (rd y123 t126)):=(blk_cell Ab.out 2).trans rfl;have Cu:Bn.cell? ⟨gb139,3,none⟩=some (.int .i64 (rd y131 t134)):=(blk_cell Ab.out 3).trans rfl;have Cv:Bn.cell? ⟨gb139,4,none⟩=some (.int .i64 (wrap64 (1+t137))):=(blk_cell Ab.out 4).trans rfl;have Cw:=blk_frozen Ab.out 0;have Cx:=blk_frozen Ab.out 1;have Cy:=blk_frozen Ab.out 2;have Cz:=blk_frozen Ab.out 3;have C0:=blk_frozen Ab.out 4;have Gb:=A8.out;have Gc:=Bb.out;have C1:Bn.cell? ⟨gb116,0,none⟩=some (.int .i64 0):=(blk_cell Aa.out 0).trans rfl;have C2:Bn.cell? ⟨gb116,1,none⟩=some (.int .i64 0):=(blk_cell Aa.out 1).trans rfl;have C3:Bn.cell? ⟨gb116,2,none⟩=some (.int .i64 0):=(blk_cell Aa.out 2).trans rfl;have C4:Bn.cell? ⟨gb116,3,none⟩=some (.int .i64 0):=(blk_cell Aa.out 3).trans rfl;have C5:Bn.cell? ⟨gb116,4,none⟩=some (.int .i64 0):=(blk_cell Aa.out 4).trans rfl;have C6:=blk_frozen Aa.out 0;have C7:=blk_frozen Aa.out 1;have C8:=blk_frozen Aa.out 2;have C9:=blk_frozen Aa.out 3;have Da:=blk_frozen Aa.out 4))
  refine bodyPost_ret (results_cell_row rfl _ _ gb116 66 #[.int .i64 (wrap64 (1+t117)),.int .i64 (wrap64 (1+t119)),.int .i64 (rd y123 t126),.int .i64 (rd y131 t134),.int .i64 (wrap64 (1+t137))] (0,0) _ rfl (by (with_reducible repeat (first|refine blk_drewN ?_ _|refine blk_drew ?_|refine blk_alloc ?_ _));refine blk_put (cs:=#[.int .i64 (wrap64 (1+t117)),.int .i64 (wrap64 (1+t119)),.int .i64 (rd y123 t126),.int .i64 (rd y131 t134),.int .i64 0]) ?_ 4 _ rfl;(with_reducible repeat (first|refine blk_drewN ?_ _|refine blk_drew ?_|refine blk_alloc ?_ _));refine blk_put (cs:=#[.int .i64 (wrap64 (1+t117)),.int .i64 (wrap64 (1+t119)),.int .i64 (rd y123 t126),.int .i64 0,.int .i64 0]) ?_ 3 _ rfl;(with_reducible repeat (first|refine blk_drewN ?_ _|refine blk_drew ?_|refine blk_alloc ?_ _));refine blk_put (cs:=#[.int .i64 (wrap64 (1+t117)),.int .i64 (wrap64 (1+t119)),.int .i64 0,.int .i64 0,.int .i64 0]) ?_ 2 _ rfl;(with_reducible repeat (first|refine blk_drewN ?_ _|refine blk_drew ?_|refine blk_alloc ?_ _));refine blk_put (cs:=#[.int .i64 (wrap64 (1+t117)),.int .i64 0,.int .i64 0,.int .i64 0,.int .i64 0]) ?_ 1 _ rfl;(with_reducible repeat (first|refine blk_drewN ?_ _|refine blk_drew ?_|refine blk_alloc ?_ _));refine blk_put (cs:=#[.int .i64 0,.int .i64 0,.int .i64 0,.int .i64 0,.int .i64 0]) ?_ 0 _ rfl;(with_reducible repeat (first|refine blk_drewN ?_ _|refine blk_drew ?_|refine blk_alloc ?_ _));exact Aa.out) Try.underlying66 rfl (by kernel_rfl)) rfl ?_
  exact ⟨by first|rfl|(simp [errW_none,errW_some] <;> rfl)|(simp [*,errW_none,errW_some] <;> rfl),by exact yu3 HI0.out,by exact yu10 HB.out HI0.out,by exact yu11 HK.out⟩
 subst c15
 have H1:((spec_l20Rd_pick.f k s0_0 t141 5).bind fun bt142=>(if bt142.1=0 then ((some (([0,3]:List Int):List Int)).bind fun y144=>((spec_l20Rd_pick.f k s0_0 bt142.2 2).bind fun bt147=>(if 0≤bt147.1 then (if bt147.1<(y144.length:Int) then (some (rd y144 bt147.1,wrap64 (1+t119),rd y123 t126,rd y131 t134,wrap64 (1+t137),bt147.2)) else (none)) else (none)))) else (if bt142.1=1 then ((some (([0,5]:List Int):List Int)).bind fun y150=>((spec_l20Rd_pick.f k s0_0 bt142.2 2).bind fun bt153=>(if 0≤bt153.1 then (if bt153.1<(y150.length:Int) then (some (wrap64 (1+t117),rd y150 bt153.1,rd y123 t126,rd y131 t134,wrap64 (1+t137),bt153.2)) else (none)) else (none)))) else (if bt142.1=2 then ((some (([0,9]:List Int):List Int)).bind fun y156=>((spec_l20Rd_pick.f k s0_0 bt142.2 2).bind fun bt159=>(if 0≤bt159.1 then (if bt159.1<(y156.length:Int) then (some (wrap64 (1+t117),wrap64 (1+t119),rd y156 bt159.1,rd y131 t134,wrap64 (1+t137),bt159.2)) else (none)) else (none)))) else (if bt142.1=3 then ((some (([0,25]:List Int):List Int)).bind fun y162=>((spec_l20Rd_pick.f k s0_0 bt142.2 2).bind fun bt165=>(if 0≤bt165.1 then (if bt165.1<(y162.length:Int) then (some (wrap64 (1+t117),wrap64 (1+t119),rd y123 t126,rd y162 bt165.1,wrap64 (1+t137),bt165.2)) else (none)) else (none)))) else ((some (([0,6]:List Int):List Int)).bind fun y168=>((spec_l20Rd_pick.f k s0_0 bt142.2 2).bind fun bt171=>(if 0≤bt171.1 then (if bt171.1<(y168.length:Int) then (some (wrap64 (1+t117),wrap64 (1+t119),rd y123 t126,rd y131 t134,rd y168 bt171.1,bt171.2)) else (none)) else (none)))))))))=some (r1,r2,r3,r4,r5,r6):=by rw [if_pos rfl] at H;exact H
 clear H
 have H:=H1
 clear H1
 replace H:=Option.bind_eq_some_iff.mp H
 obtain ⟨⟨t142,t143⟩,Ce,H⟩:=H
 replace H:(if t142=0 then ((some (([0,3]:List Int):List Int)).bind fun y144=>((spec_l20Rd_pick.f k s0_0 t143 2).bind fun bt147=>(if 0≤bt147.1 then (if bt147.1<(y144.length:Int) then (some (rd y144 bt147.1,wrap64 (1+t119),rd y123 t126,rd y131 t134,wrap64 (1+t137),bt147.2)) else (none)) else (none)))) else (if t142=1 then ((some (([0,5]:List Int):List Int)).bind fun y150=>((spec_l20Rd_pick.f k s0_0 t143 2).bind fun bt153=>(if 0≤bt153.1 then (if bt153.1<(y150.length:Int) then (some (wrap64 (1+t117),rd y150 bt153.1,rd y123 t126,rd y131 t134,wrap64 (1+t137),bt153.2)) else (none)) else (none)))) else (if t142=2 then ((some (([0,9]:List Int):List Int)).bind fun y156=>((spec_l20Rd_pick.f k s0_0 t143 2).bind fun bt159=>(if 0≤bt159.1 then (if bt159.1<(y156.length:Int) then (some (wrap64 (1+t117),wrap64 (1+t119),rd y156 bt159.1,rd y131 t134,wrap64 (1+t137),bt159.2)) else (none)) else (none)))) else (if t142=3 then ((some (([0,25]:List Int):List Int)).bind fun y162=>((spec_l20Rd_pick.f k s0_0 t143 2).bind fun bt165=>(if 0≤bt165.1 then (if bt165.1<(y162.length:Int) then (some (wrap64 (1+t117),wrap64 (1+t119),rd y123 t126,rd y162 bt165.1,wrap64 (1+t137),bt165.2)) else (none)) else (none)))) else ((some (([0,6]:List Int):List Int)).bind fun y168=>((spec_l20Rd_pick.f k s0_0 t143 2).bind fun bt171=>(if 0≤bt171.1 then (if bt171.1<(y168.length:Int) then (some (wrap64 (1+t117),wrap64 (1+t119),rd y123 t126,rd y131 t134,rd y168 bt171.1,bt171.2)) else (none)) else (none))))))))=some (r1,r2,r3,r4,r5,r6):=H
 have B4:=Aside0.mk Ce
 clear Ce
 by_cases c17:t142=0
 ·rw [if_pos c17] at H
  have c17b0:(t142 == 0)=true:=beq_iff_eq.mpr c17
  have c17b1:(t142 != 0)=false:=bne_eq_false_iff_eq.mpr c17
  clear c17
  obtain ⟨y144,hy144⟩:∃ y_:List Int,y_=(([0,3]:List Int)):=⟨_,rfl⟩
  replace H:((spec_l20Rd_pick.f k s0_0 t143 2).bind fun bt147=>(if 0≤bt147.1 then (if bt147.1<(y144.length:Int) then (some (rd y144 bt147.1,wrap64 (1+t119),rd y123 t126,rd y131 t134,wrap64 (1+t137),bt147.2)) else (none)) else (none)))=some (r1,r2,r3,r4,r5,r6):=by first|(rw [hy144];with_reducible exact H)|(have H2_:=(Option.bind_some _ _).symm.trans H;rw [hy144];with_reducible exact H2_)|(have H2_:=(Option.bind_some _ _).symm.trans H;with_reducible exact H2_)|with_reducible exact H|(rw [hy144];exact H)|exact H
  have Ny144:=Aside0.mk hy144
  clear hy144
  replace H:=Option.bind_eq_some_iff.mp H
  obtain ⟨⟨t147,t148⟩,Cf,H⟩:=H
  replace H:(if 0≤t147 then (if t147<(y144.length:Int) then (some (rd y144 t147,wrap64 (1+t119),rd y123 t126,rd y131 t134,wrap64 (1+t137),t148)) else (none)) else (none))=some (r1,r2,r3,r4,r5,r6):=H
  have Gd:=Aside0.mk Cf
  clear Cf
  by_cases c19:0≤t147
  rotate_left
  ·rw [if_neg c19] at H
   exact absurd H (by simp)
  rw [if_pos c19] at H
  have c19b0:decide (0≤t147)=true:=decide_eq_true c19
  clear c19
  by_cases c20:t147<(y144.length:Int)
  rotate_left
  ·rw [if_neg c20] at H
   exact absurd H (by simp)
  rw [if_pos c20] at H
  have c20b0:decide (t147<(y144.length:Int))=true:=decide_eq_true c20
  clear c20
  simp only [Option.some.injEq,Prod.mk.injEq] at H
  obtain ⟨rfl,rfl,rfl,rfl,rfl,rfl⟩:=H
  try go_wp2_with (first|((with_reducible refine gate_callee (f:=98) rfl ?_);refine goesL_ (some 34) rfl rfl Try.func98 (by kernel_rfl) rfl #[.pointer (some ⟨g,0,none⟩),.int .i64 a1] rfl am ?_;(with_reducible refine (spec_l20Rd_odd.calls k g s0_0 t138 a1 true t141 w0 _ ?side1 ?side2 B3.out).mono ?_);(case side1=>exact yu3 HI0.out);(case side2=>exact yu10 HB.out HI0.out);rintro e Ho ⟨rfl,hi,hb,hk⟩;refine ⟨_,rfl,?_⟩;have n0_:=Aside0.mk (KeepBut.blk hk (g':=gb116) (o:=.cells #[.int .i64 0,.int .i64 0,.int .i64 0,.int .i64 0,.int .i64 0] 66 (0,0)) (yv14 Aa.out) A8.out (by simp));have n1_:=Aside0.mk (Kd.R_mono (Kd.R_keep (IsS113.apart (show IsS113 w0 _ g s0_0 t138 from by exact yu3 HI0.out) (mR Ai.out) (by decide)) hk (fun _ h=>h.2)) (fun _ h=>h.1));have n2_:=Aside0.mk (Kd.R_mono (Kd.R_keep (IsS113.apart (show IsS113 w0 _ g s0_0 t138 from by exact yu3 HI0.out) (mR Aj.out) (by decide)) hk (fun _ h=>h.2)) (fun _ h=>h.1));have n3_:=Aside0.mk (KeepBut.blk hk (g':=gb139) (o:=.cells #[.int .i64 (wrap64 (1+t117)),.int .i64 (wrap64 (1+t119)),.int .i64 (rd y123 t126),.int .i64 (rd y131 t134),.int .i64 (wrap64 (1+t137))] 66 (0,0)) (yv14 Ab.out) Ba.out (by simp));have n4_:=Aside0.mk (KeepBut.trans (yu11 HK.out) hk (.inl rfl));have n5_:=Aside0.mk (hb);have n6_:=Aside0.mk (hi);clear Aa;clear Ai;clear Aj;clear Ab;clear HK;clear HB;clear HI0;have Aa:=n0_;have Ai:=n1_;have Aj:=n2_;have Ab:=n3_;have HK:=n4_;have HB:=n5_;have HI0:=n6_;clear n0_ n1_ n2_ n3_ n4_ n5_ n6_;(try clear hb);(try clear hb2);(try clear hk);(try clear hi))|((with_reducible refine gate_callee (f:=70) rfl ?_);refine goesL_ (some 36) rfl rfl Try.func70 (by kernel_rfl) rfl #[.pointer (some ⟨g,0,none⟩),.int .i64 5] rfl am ?_;(with_reducible refine (spec_l20Rd_pick.calls k g s0_0 t141 5 t142 t143 w0 _ ?side1 ?side2 B4.out).mono ?_);(case side1=>exact yu3 HI0.out);(case side2=>exact yu10 HB.out HI0.out);rintro e Hp ⟨rfl,hi,hb,hk⟩;refine ⟨_,rfl,?_⟩;have n0_:=Aside0.mk (KeepBut.blk hk (g':=gb116) (o:=.cells #[.int .i64 0,.int .i64 0,.int .i64 0,.int .i64 0,.int .i64 0] 66 (0,0)) (yv14 Aa.out) A8.out (by simp));have n1_:=Aside0.mk (Kd.R_mono (Kd.R_keep (IsS113.apart (show IsS113 w0 _ g s0_0 t141 from by exact yu3 HI0.out) (mR Ai.out) (by decide)) hk (fun _ h=>h.2)) (fun _ h=>h.1));have n2_:=Aside0.mk (Kd.R_mono (Kd.R_keep (IsS113.apart (show IsS113 w0 _ g s0_0 t141 from by exact yu3 HI0.out) (mR Aj.out) (by decide)) hk (fun _ h=>h.2)) (fun _ h=>h.1));have n3_:=Aside0.mk (KeepBut.blk hk (g':=gb139) (o:=.cells #[.int .i64 (wrap64 (1+t117)),.int .i64 (wrap64 (1+t119)),.int .i64 (rd y123 t126),.int .i64 (rd y131 t134),.int .i64 (wrap64 (1+t137))] 66 (0,0)) (yv14 Ab.out) Ba.out (by simp));have n4_:=Aside0.mk (KeepBut.trans (yu11 HK.out) hk (.inl rfl));have n5_:=Aside0.mk (hb);have n6_:=Aside0.mk (hi);clear Aa;clear Ai;clear Aj;clear Ab;clear HK;clear HB;clear HI0;have Aa:=n0_;have Ai:=n1_;have Aj:=n2_;have Ab:=n3_;have HK:=n4_;have HB:=n5_;have HI0:=n6_;clear n0_ n1_ n2_ n3_ n4_ n5_ n6_;(try clear hb);(try clear hb2);(try clear hk);(try clear hi))|((with_reducible refine gate_dst (N:=45) rfl ?_);refine Kd.R_lit (Kd.int .i64) _ 3 ?hg (N:=45) ?hd (xs:=([0,3]:List Int)) (inner:=[.int .i64 0,.int .i64 3]) (ok:=fun _=>True) (okp:=fun _=>True) ?hr ?hp (fun _ hk=>hk) trivial (Below.refl _ _) (Nat.le_refl _) (by simp) ?_;(case hd=>rfl);(case hg=>rfl);(case hr=>first|(go_simp;done)|(go_simp;rfl));(case hp=>exact (Reps.one (show Kd.M (Kd.int .i64) _ _ _ 0 [.int .i64 0] from rfl) (Reps.one (show Kd.M (Kd.int .i64) _ _ _ 3 [.int .i64 3] from rfl) (Reps.none _ _))));intro v145 Hq ho48 hb hg_ hnew_;clear hg_ hnew_;(first|rw [← Ny144.out] at ho48|(simp only [Int.reduceToNat] at ho48;rw [← Ny144.out] at ho48));have n0_:=Aside0.mk (Kd.R_elder' (mR Ai.out) (Kd.R_base ho48) hb);have n1_:=Aside0.mk (Kd.R_elder' (mR Aj.out) (Kd.R_base ho48) hb);have n2_:=Aside0.mk (Kd.R_lower (Kd.R_new' (Kd.R_new' ho48 (Kd.R_lt (mR Ai.out))) (Kd.R_lt (mR Aj.out))) (keep_size (w:=w) (g:=g) (row:=none) (yu11 HK.out)));have n3_:=Aside0.mk (IsS113.below (yu3 HI0.out) hb);have n4_:=Aside0.mk (blk_below (g:=gb116) (o:=.cells #[.int .i64 0,.int .i64 0,.int .i64 0,.int .i64 0,.int .i64 0] 66 (0,0)) (yv14 Aa.out) hb);have n5_:=Aside0.mk (blk_below (g:=gb139) (o:=.cells #[.int .i64 (wrap64 (1+t117)),.int .i64 (wrap64 (1+t119)),.int .i64 (rd y123 t126),.int .i64 (rd y131 t134),.int .i64 (wrap64 (1+t137))] 66 (0,0)) (yv14 Ab.out) hb);have n6_:=Aside0.mk (KeepBut.trans (yu11 HK.out) (KeepBut.of_below hb g none) (.inl rfl));have n7_:=Aside0.mk (below_step (yu10 HB.out HI0.out) hb);clear Ai;clear Aj;clear HI0;clear Aa;clear Ab;clear HK;clear HB;have Ai:=n0_;have Aj:=n1_;have Bw:=n2_;have HI0:=n3_;have Aa:=n4_;have Ab:=n5_;have HK:=n6_;have HB:=n7_;clear n0_ n1_ n2_ n3_ n4_ n5_ n6_ n7_;clear hb ho48)|((with_reducible refine gate_callee (f:=70) rfl ?_);refine goesL_ (some 47) rfl rfl Try.func70 (by kernel_rfl) rfl #[.pointer (some ⟨g,0,none⟩),.int .i64 2] rfl am ?_;(with_reducible refine (spec_l20Rd_pick.calls k g s0_0 t143 2 t147 t148 w0 _ ?side1 ?side2 Gd.out).mono ?_);(case side1=>exact yu3 HI0.out);(case side2=>exact yu10 HB.out HI0.out);rintro e Bt ⟨rfl,hi,hb,hk⟩;refine ⟨_,rfl,?_⟩;have n0_:=Aside0.mk (KeepBut.blk hk (g':=gb116) (o:=.cells #[.int .i64 0,.int .i64 0,.int .i64 0,.int .i64 0,.int .i64 0] 66 (0,0)) (yv14 Aa.out) A8.out (by simp));have n1_:=Aside0.mk (Kd.R_mono (Kd.R_keep (IsS113.apart (show IsS113 w0 _ g s0_0 t143 from by exact yu3 HI0.out) (mR Ai.out) (by decide)) hk (fun _ h=>h.2)) (fun _ h=>h.1));have n2_:=Aside0.mk (Kd.R_mono (Kd.R_keep (IsS113.apart (show IsS113 w0 _ g s0_0 t143 from by exact yu3 HI0.out) (mR Aj.out) (by decide)) hk (fun _ h=>h.2)) (fun _ h=>h.1));have n3_:=Aside0.mk (KeepBut.blk hk (g':=gb139) (o:=.cells #[.int .i64 (wrap64 (1+t117)),.int .i64 (wrap64 (1+t119)),.int .i64 (rd y123 t126),.int .i64 (rd y131 t134),.int .i64 (wrap64 (1+t137))] 66 (0,0)) (yv14 Ab.out) Ba.out (by simp));have n4_:=Aside0.mk (Kd.R_mono (Kd.R_keep (IsS113.apart (show IsS113 w0 _ g s0_0 t143 from by exact yu3 HI0.out) (mR Bw.out) (by decide)) hk (fun _ h=>h.2)) (fun _ h=>h.1));have n5_:=Aside0.mk (KeepBut.trans (yu11 HK.out) hk (.inl rfl));have n6_:=Aside0.mk (hb);have n7_:=Aside0.mk (hi);clear Aa;clear Ai;clear Aj;clear Ab;clear Bw;clear HK;clear HB;clear HI0;have Aa:=n0_;have Ai:=n1_;have Aj:=n2_;have Ab:=n3_;have Bw:=n4_;have HK:=n5_;have HB:=n6_;have HI0:=n7_;clear n0_ n1_ n2_ n3_ n4_ n5_ n6_ n7_;(try clear hb);(try clear hb2);(try clear hk);(try clear hi);obtain ⟨Ao50,co50,eo50⟩:=Kd.R_slice Bw.out;subst eo50;have p149:0≤(t147:Int):=of_decide_eq_true (by first|(with_reducible assumption)|assumption);have q149:t147<(y144.length:Int):=of_decide_eq_true (by first|(with_reducible assumption)|assumption);obtain ⟨ad149,e149,hx149_0⟩:=Kd.at_int (Kd.R_reads' Bw.out).2.2 t147 p149 q149;cases e149;replace p149:=eq_true p149;replace q149:=eq_true q149;have G1:=Bc.out;have G2:=Ax.out;have G3:=Ba.out;have G4:=Bg.out;have E1:Bt.cell? ⟨gb139,0,none⟩=some (.int .i64 (wrap64 (1+t117))):=(blk_cell Ab.out 0).trans rfl;have E2:Bt.cell? ⟨gb139,1,none⟩=some (.int .i64 (wrap64 (1+t119))):=(blk_cell Ab.out 1).trans rfl;have E3:Bt.cell? ⟨gb139,2,none⟩=some (.int .i64 (rd y123 t126)):=(blk_cell Ab.out 2).trans rfl;have E4:Bt.cell? ⟨gb139,3,none⟩=some (.int .i64 (rd y131 t134)):=(blk_cell Ab.out 3).trans rfl;have E5:Bt.cell? ⟨gb139,4,none⟩=some (.int .i64 (wrap64 (1+t137))):=(blk_cell Ab.out 4).trans rfl;have E6:=blk_frozen Ab.out 0;have E7:=blk_frozen Ab.out 1;have E8:=blk_frozen Ab.out 2;have E9:=blk_frozen Ab.out 3;have Fa:=blk_frozen Ab.out 4;have G5:=A8.out;have G6:=Bb.out;have Fb:Bt.cell? ⟨gb116,0,none⟩=some (.int .i64 0):=(blk_cell Aa.out 0).trans rfl;have Fc:Bt.cell? ⟨gb116,1,none⟩=some (.int .i64 0):=(blk_cell Aa.out 1).trans rfl;have Fd:Bt.cell? ⟨gb116,2,none⟩=some (.int .i64 0):=(blk_cell Aa.out 2).trans rfl;have Fe:Bt.cell? ⟨gb116,3,none⟩=some (.int .i64 0):=(blk_cell Aa.out 3).trans rfl;have Ff:Bt.cell? ⟨gb116,4,none⟩=some (.int .i64 0):=(blk_cell Aa.out 4).trans rfl;have Fg:=blk_frozen Aa.out 0;have Fh:=blk_frozen Aa.out 1;have Fi:=blk_frozen Aa.out 2;have Fj:=blk_frozen Aa.out 3;have Fk:=blk_frozen Aa.out 4))
  refine bodyPost_ret (results_cell_row rfl _ _ gb116 66 #[.int .i64 (rd y144 t147),.int .i64 (wrap64 (1+t119)),.int .i64 (rd y123 t126),.int .i64 (rd y131 t134),.int .i64 (wrap64 (1+t137))] (0,0) _ rfl (by (with_reducible repeat (first|refine blk_drewN ?_ _|refine blk_drew ?_|refine blk_alloc ?_ _));refine blk_put (cs:=#[.int .i64 (rd y144 t147),.int .i64 (wrap64 (1+t119)),.int .i64 (rd y123 t126),.int .i64 (rd y131 t134),.int .i64 0]) ?_ 4 _ rfl;(with_reducible repeat (first|refine blk_drewN ?_ _|refine blk_drew ?_|refine blk_alloc ?_ _));refine blk_put (cs:=#[.int .i64 (rd y144 t147),.int .i64 (wrap64 (1+t119)),.int .i64 (rd y123 t126),.int .i64 0,.int .i64 0]) ?_ 3 _ rfl;(with_reducible repeat (first|refine blk_drewN ?_ _|refine blk_drew ?_|refine blk_alloc ?_ _));refine blk_put (cs:=#[.int .i64 (rd y144 t147),.int .i64 (wrap64 (1+t119)),.int .i64 0,.int .i64 0,.int .i64 0]) ?_ 2 _ rfl;(with_reducible repeat (first|refine blk_drewN ?_ _|refine blk_drew ?_|refine blk_alloc ?_ _));refine blk_put (cs:=#[.int .i64 (rd y144 t147),.int .i64 0,.int .i64 0,.int .i64 0,.int .i64 0]) ?_ 1 _ rfl;(with_reducible repeat (first|refine blk_drewN ?_ _|refine blk_drew ?_|refine blk_alloc ?_ _));refine blk_put (cs:=#[.int .i64 0,.int .i64 0,.int .i64 0,.int .i64 0,.int .i64 0]) ?_ 0 _ rfl;(with_reducible repeat (first|refine blk_drewN ?_ _|refine blk_drew ?_|refine blk_alloc ?_ _));refine blk_far ?_ Ax.out _;(with_reducible repeat (first|refine blk_drewN ?_ _|refine blk_drew ?_|refine blk_alloc ?_ _));exact Aa.out) Try.underlying66 rfl (by kernel_rfl)) rfl ?_
  exact ⟨by first|rfl|(simp [errW_none,errW_some] <;> rfl)|(simp [*,errW_none,errW_some] <;> rfl),by exact yu3 HI0.out,by exact yu10 HB.out HI0.out,by exact yu11 HK.out⟩
 rw [if_neg c17] at H
 have c17b0:(t142 == 0)=false:=beq_eq_false_iff_ne.mpr c17
 have c17b1:(t142 != 0)=true:=bne_iff_ne.mpr c17
 by_cases c56:t142=1
 ·rw [if_pos c56] at H
  have c56b0:(t142 == 1)=true:=beq_iff_eq.mpr c56
  have c56b1:(t142 != 1)=false:=bne_eq_false_iff_eq.mpr c56
  clear c56
  obtain ⟨y150,hy150⟩:∃ y_:List Int,y_=(([0,5]:List Int)):=⟨_,rfl⟩
  replace H:((spec_l20Rd_pick.f k s0_0 t143 2).bind fun bt153=>(if 0≤bt153.1 then (if bt153.1<(y150.length:Int) then (some (wrap64 (1+t117),rd y150 bt153.1,rd y123 t126,rd y131 t134,wrap64 (1+t137),bt153.2)) else (none)) else (none)))=some (r1,r2,r3,r4,r5,r6):=by first|(rw [hy150];with_reducible exact H)|(have H2_:=(Option.bind_some _ _).symm.trans H;rw [hy150];with_reducible exact H2_)|(have H2_:=(Option.bind_some _ _).symm.trans H;with_reducible exact H2_)|with_reducible exact H|(rw [hy150];exact H)|exact H
  have Ny150:=Aside0.mk hy150
  clear hy150
  replace H:=Option.bind_eq_some_iff.mp H
  obtain ⟨⟨t153,t154⟩,Cg,H⟩:=H
  replace H:(if 0≤t153 then (if t153<(y150.length:Int) then (some (wrap64 (1+t117),rd y150 t153,rd y123 t126,rd y131 t134,wrap64 (1+t137),t154)) else (none)) else (none))=some (r1,r2,r3,r4,r5,r6):=H
  have Ge:=Aside0.mk Cg
  clear Cg
  by_cases c58:0≤t153
  rotate_left
  ·rw [if_neg c58] at H
   exact absurd H (by simp)
  rw [if_pos c58] at H
  have c58b0:decide (0≤t153)=true:=decide_eq_true c58
  clear c58
  by_cases c59:t153<(y150.length:Int)
  rotate_left
  ·rw [if_neg c59] at H
   exact absurd H (by simp)
  rw [if_pos c59] at H
  have c59b0:decide (t153<(y150.length:Int))=true:=decide_eq_true c59
  clear c59
  simp only [Option.some.injEq,Prod.mk.injEq] at H
  obtain ⟨rfl,rfl,rfl,rfl,rfl,rfl⟩:=H
  try go_wp2_with (first|((with_reducible refine gate_callee (f:=98) rfl ?_);refine goesL_ (some 34) rfl rfl Try.func98 (by kernel_rfl) rfl #[.pointer (some ⟨g,0,none⟩),.int .i64 a1] rfl am ?_;(with_reducible refine (spec_l20Rd_odd.calls k g s0_0 t138 a1 true t141 w0 _ ?side1 ?side2 B3.out).mono ?_);(case side1=>exact yu3 HI0.out);(case side2=>exact yu10 HB.out HI0.out);rintro e Hr ⟨rfl,hi,hb,hk⟩;refine ⟨_,rfl,?_⟩;have n0_:=Aside0.mk (KeepBut.blk hk (g':=gb116) (o:=.cells #[.int .i64 0,.int .i64 0,.int .i64 0,.int .i64 0,.int .i64 0] 66 (0,0)) (yv14 Aa.out) A8.out (by simp));have n1_:=Aside0.mk (Kd.R_mono (Kd.R_keep (IsS113.apart (show IsS113 w0 _ g s0_0 t138 from by exact yu3 HI0.out) (mR Ai.out) (by decide)) hk (fun _ h=>h.2)) (fun _ h=>h.1));have n2_:=Aside0.mk (Kd.R_mono (Kd.R_keep (IsS113.apart (show IsS113 w0 _ g s0_0 t138 from by exact yu3 HI0.out) (mR Aj.out) (by decide)) hk (fun _ h=>h.2)) (fun _ h=>h.1));have n3_:=Aside0.mk (KeepBut.blk hk (g':=gb139) (o:=.cells #[.int .i64 (wrap64 (1+t117)),.int .i64 (wrap64 (1+t119)),.int .i64 (rd y123 t126),.int .i64 (rd y131 t134),.int .i64 (wrap64 (1+t137))] 66 (0,0)) (yv14 Ab.out) Ba.out (by simp));have n4_:=Aside0.mk (KeepBut.trans (yu11 HK.out) hk (.inl rfl));have n5_:=Aside0.mk (hb);have n6_:=Aside0.mk (hi);clear Aa;clear Ai;clear Aj;clear Ab;clear HK;clear HB;clear HI0;have Aa:=n0_;have Ai:=n1_;have Aj:=n2_;have Ab:=n3_;have HK:=n4_;have HB:=n5_;have HI0:=n6_;clear n0_ n1_ n2_ n3_ n4_ n5_ n6_;(try clear hb);(try clear hb2);(try clear hk);(try clear hi))|((with_reducible refine gate_callee (f:=70) rfl ?_);refine goesL_ (some 36) rfl rfl Try.func70 (by kernel_rfl) rfl #[.pointer (some ⟨g,0,none⟩),.int .i64 5] rfl am ?_;(with_reducible refine (spec_l20Rd_pick.calls k g s0_0 t141 5 t142 t143 w0 _ ?side1 ?side2 B4.out).mono ?_);(case side1=>exact yu3 HI0.out);(case side2=>exact yu10 HB.out HI0.out);rintro e Hs ⟨rfl,hi,hb,hk⟩;refine ⟨_,rfl,?_⟩;have n0_:=Aside0.mk (KeepBut.blk hk (g':=gb116) (o:=.cells #[.int .i64 0,.int .i64 0,.int .i64 0,.int .i64 0,.int .i64 0] 66 (0,0)) (yv14 Aa.out) A8.out (by simp));have n1_:=Aside0.mk (Kd.R_mono (Kd.R_keep (IsS113.apart (show IsS113 w0 _ g s0_0 t141 from by exact yu3 HI0.out) (mR Ai.out) (by decide)) hk (fun _ h=>h.2)) (fun _ h=>h.1));have n2_:=Aside0.mk (Kd.R_mono (Kd.R_keep (IsS113.apart (show IsS113 w0 _ g s0_0 t141 from by exact yu3 HI0.out) (mR Aj.out) (by decide)) hk (fun _ h=>h.2)) (fun _ h=>h.1));have n3_:=Aside0.mk (KeepBut.blk hk (g':=gb139) (o:=.cells #[.int .i64 (wrap64 (1+t117)),.int .i64 (wrap64 (1+t119)),.int .i64 (rd y123 t126),.int .i64 (rd y131 t134),.int .i64 (wrap64 (1+t137))] 66 (0,0)) (yv14 Ab.out) Ba.out (by simp));have n4_:=Aside0.mk (KeepBut.trans (yu11 HK.out) hk (.inl rfl));have n5_:=Aside0.mk (hb);have n6_:=Aside0.mk (hi);clear Aa;clear Ai;clear Aj;clear Ab;clear HK;clear HB;clear HI0;have Aa:=n0_;have Ai:=n1_;have Aj:=n2_;have Ab:=n3_;have HK:=n4_;have HB:=n5_;have HI0:=n6_;clear n0_ n1_ n2_ n3_ n4_ n5_ n6_;(try clear hb);(try clear hb2);(try clear hk);(try clear hi))|((with_reducible refine gate_dst (N:=53) rfl ?_);refine Kd.R_lit (Kd.int .i64) _ 3 ?hg (N:=53) ?hd (xs:=([0,5]:List Int)) (inner:=[.int .i64 0,.int .i64 5]) (ok:=fun _=>True) (okp:=fun _=>True) ?hr ?hp (fun _ hk=>hk) trivial (Below.refl _ _) (Nat.le_refl _) (by simp) ?_;(case hd=>rfl);(case hg=>rfl);(case hr=>first|(go_simp;done)|(go_simp;rfl));(case hp=>exact (Reps.one (show Kd.M (Kd.int .i64) _ _ _ 0 [.int .i64 0] from rfl) (Reps.one (show Kd.M (Kd.int .i64) _ _ _ 5 [.int .i64 5] from rfl) (Reps.none _ _))));intro v151 Ht ho87 hb hg_ hnew_;clear hg_ hnew_;(first|rw [← Ny150.out] at ho87|(simp only [Int.reduceToNat] at ho87;rw [← Ny150.out] at ho87));have n0_:=Aside0.mk (Kd.R_elder' (mR Ai.out) (Kd.R_base ho87) hb);have n1_:=Aside0.mk (Kd.R_elder' (mR Aj.out) (Kd.R_base ho87) hb);have n2_:=Aside0.mk (Kd.R_lower (Kd.R_new' (Kd.R_new' ho87 (Kd.R_lt (mR Ai.out))) (Kd.R_lt (mR Aj.out))) (keep_size (w:=w) (g:=g) (row:=none) (yu11 HK.out)));have n3_:=Aside0.mk (IsS113.below (yu3 HI0.out) hb);have n4_:=Aside0.mk (blk_below (g:=gb116) (o:=.cells #[.int .i64 0,.int .i64 0,.int .i64 0,.int .i64 0,.int .i64 0] 66 (0,0)) (yv14 Aa.out) hb);have n5_:=Aside0.mk (blk_below (g:=gb139) (o:=.cells #[.int .i64 (wrap64 (1+t117)),.int .i64 (wrap64 (1+t119)),.int .i64 (rd y123 t126),.int .i64 (rd y131 t134),.int .i64 (wrap64 (1+t137))] 66 (0,0)) (yv14 Ab.out) hb);have n6_:=Aside0.mk (KeepBut.trans (yu11 HK.out) (KeepBut.of_below hb g none) (.inl rfl));have n7_:=Aside0.mk (below_step (yu10 HB.out HI0.out) hb);clear Ai;clear Aj;clear HI0;clear Aa;clear Ab;clear HK;clear HB;have Ai:=n0_;have Aj:=n1_;have Bx:=n2_;have HI0:=n3_;have Aa:=n4_;have Ab:=n5_;have HK:=n6_;have HB:=n7_;clear n0_ n1_ n2_ n3_ n4_ n5_ n6_ n7_;clear hb ho87)|((with_reducible refine gate_callee (f:=70) rfl ?_);refine goesL_ (some 55) rfl rfl Try.func70 (by kernel_rfl) rfl #[.pointer (some ⟨g,0,none⟩),.int .i64 2] rfl am ?_;(with_reducible refine (spec_l20Rd_pick.calls k g s0_0 t143 2 t153 t154 w0 _ ?side1 ?side2 Ge.out).mono ?_);(case side1=>exact yu3 HI0.out);(case side2=>exact yu10 HB.out HI0.out);rintro e Bu ⟨rfl,hi,hb,hk⟩;refine ⟨_,rfl,?_⟩;have n0_:=Aside0.mk (KeepBut.blk hk (g':=gb116) (o:=.cells #[.int .i64 0,.int .i64 0,.int .i64 0,.int .i64 0,.int .i64 0] 66 (0,0)) (yv14 Aa.out) A8.out (by simp));have n1_:=Aside0.mk (Kd.R_mono (Kd.R_keep (IsS113.apart (show IsS113 w0 _ g s0_0 t143 from by exact yu3 HI0.out) (mR Ai.out) (by decide)) hk (fun _ h=>h.2)) (fun _ h=>h.1));have n2_:=Aside0.mk (Kd.R_mono (Kd.R_keep (IsS113.apart (show IsS113 w0 _ g s0_0 t143 from by exact yu3 HI0.out) (mR Aj.out) (by decide)) hk (fun _ h=>h.2)) (fun _ h=>h.1));have n3_:=Aside0.mk (KeepBut.blk hk (g':=gb139) (o:=.cells #[.int .i64 (wrap64 (1+t117)),.int .i64 (wrap64 (1+t119)),.int .i64 (rd y123 t126),.int .i64 (rd y131 t134),.int .i64 (wrap64 (1+t137))] 66 (0,0)) (yv14 Ab.out) Ba.out (by simp));have n4_:=Aside0.mk (Kd.R_mono (Kd.R_keep (IsS113.apart (show IsS113 w0 _ g s0_0 t143 from by exact yu3 HI0.out) (mR Bx.out) (by decide)) hk (fun _ h=>h.2)) (fun _ h=>h.1));have n5_:=Aside0.mk (KeepBut.trans (yu11 HK.out) hk (.inl rfl));have n6_:=Aside0.mk (hb);have n7_:=Aside0.mk (hi);clear Aa;clear Ai;clear Aj;clear Ab;clear Bx;clear HK;clear HB;clear HI0;have Aa:=n0_;have Ai:=n1_;have Aj:=n2_;have Ab:=n3_;have Bx:=n4_;have HK:=n5_;have HB:=n6_;have HI0:=n7_;clear n0_ n1_ n2_ n3_ n4_ n5_ n6_ n7_;(try clear hb);(try clear hb2);(try clear hk);(try clear hi);obtain ⟨Ao89,co89,eo89⟩:=Kd.R_slice Bx.out;subst eo89;have p155:0≤(t153:Int):=of_decide_eq_true (by first|(with_reducible assumption)|assumption);have q155:t153<(y150.length:Int):=of_decide_eq_true (by first|(with_reducible assumption)|assumption);obtain ⟨ad155,e155,hx155_0⟩:=Kd.at_int (Kd.R_reads' Bx.out).2.2 t153 p155 q155;cases e155;replace p155:=eq_true p155;replace q155:=eq_true q155;have G7:=Bc.out;have G8:=Ax.out;have G9:=Ba.out;have Ha:=Bg.out;have Fl:Bu.cell? ⟨gb139,0,none⟩=some (.int .i64 (wrap64 (1+t117))):=(blk_cell Ab.out 0).trans rfl;have Fm:Bu.cell? ⟨gb139,1,none⟩=some (.int .i64 (wrap64 (1+t119))):=(blk_cell Ab.out 1).trans rfl;have Fn:Bu.cell? ⟨gb139,2,none⟩=some (.int .i64 (rd y123 t126)):=(blk_cell Ab.out 2).trans rfl;have Fo:Bu.cell? ⟨gb139,3,none⟩=some (.int .i64 (rd y131 t134)):=(blk_cell Ab.out 3).trans rfl;have Fp:Bu.cell? ⟨gb139,4,none⟩=some (.int .i64 (wrap64 (1+t137))):=(blk_cell Ab.out 4).trans rfl;have Fq:=blk_frozen Ab.out 0;have Fr:=blk_frozen Ab.out 1;have Fs:=blk_frozen Ab.out 2;have Ft:=blk_frozen Ab.out 3;have Fu:=blk_frozen Ab.out 4;have Hb:=A8.out;have Hc:=Bb.out;have Fv:Bu.cell? ⟨gb116,0,none⟩=some (.int .i64 0):=(blk_cell Aa.out 0).trans rfl;have Fw:Bu.cell? ⟨gb116,1,none⟩=some (.int .i64 0):=(blk_cell Aa.out 1).trans rfl;have Fx:Bu.cell? ⟨gb116,2,none⟩=some (.int .i64 0):=(blk_cell Aa.out 2).trans rfl;have Fy:Bu.cell? ⟨gb116,3,none⟩=some (.int .i64 0):=(blk_cell Aa.out 3).trans rfl;have Fz:Bu.cell? ⟨gb116,4,none⟩=some (.int .i64 0):=(blk_cell Aa.out 4).trans rfl;have F0:=blk_frozen Aa.out 0;have F1:=blk_frozen Aa.out 1;have F2:=blk_frozen Aa.out 2;have F3:=blk_frozen Aa.out 3;have F4:=blk_frozen Aa.out 4))
  refine bodyPost_ret (results_cell_row rfl _ _ gb116 66 #[.int .i64 (wrap64 (1+t117)),.int .i64 (rd y150 t153),.int .i64 (rd y123 t126),.int .i64 (rd y131 t134),.int .i64 (wrap64 (1+t137))] (0,0) _ rfl (by (with_reducible repeat (first|refine blk_drewN ?_ _|refine blk_drew ?_|refine blk_alloc ?_ _));refine blk_put (cs:=#[.int .i64 (wrap64 (1+t117)),.int .i64 (rd y150 t153),.int .i64 (rd y123 t126),.int .i64 (rd y131 t134),.int .i64 0]) ?_ 4 _ rfl;(with_reducible repeat (first|refine blk_drewN ?_ _|refine blk_drew ?_|refine blk_alloc ?_ _));refine blk_put (cs:=#[.int .i64 (wrap64 (1+t117)),.int .i64 (rd y150 t153),.int .i64 (rd y123 t126),.int .i64 0,.int .i64 0]) ?_ 3 _ rfl;(with_reducible repeat (first|refine blk_drewN ?_ _|refine blk_drew ?_|refine blk_alloc ?_ _));refine blk_put (cs:=#[.int .i64 (wrap64 (1+t117)),.int .i64 (rd y150 t153),.int .i64 0,.int .i64 0,.int .i64 0]) ?_ 2 _ rfl;(with_reducible repeat (first|refine blk_drewN ?_ _|refine blk_drew ?_|refine blk_alloc ?_ _));refine blk_put (cs:=#[.int .i64 (wrap64 (1+t117)),.int .i64 0,.int .i64 0,.int .i64 0,.int .i64 0]) ?_ 1 _ rfl;(with_reducible repeat (first|refine blk_drewN ?_ _|refine blk_drew ?_|refine blk_alloc ?_ _));refine blk_put (cs:=#[.int .i64 0,.int .i64 0,.int .i64 0,.int .i64 0,.int .i64 0]) ?_ 0 _ rfl;(with_reducible repeat (first|refine blk_drewN ?_ _|refine blk_drew ?_|refine blk_alloc ?_ _));refine blk_far ?_ Ax.out _;(with_reducible repeat (first|refine blk_drewN ?_ _|refine blk_drew ?_|refine blk_alloc ?_ _));exact Aa.out) Try.underlying66 rfl (by kernel_rfl)) rfl ?_
  exact ⟨by first|rfl|(simp [errW_none,errW_some] <;> rfl)|(simp [*,errW_none,errW_some] <;> rfl),by exact yu3 HI0.out,by exact yu10 HB.out HI0.out,by exact yu11 HK.out⟩
 rw [if_neg c56] at H
 have c56b0:(t142 == 1)=false:=beq_eq_false_iff_ne.mpr c56
 have c56b1:(t142 != 1)=true:=bne_iff_ne.mpr c56
 by_cases c95:t142=2
 ·rw [if_pos c95] at H
  have c95b0:(t142 == 2)=true:=beq_iff_eq.mpr c95
  have c95b1:(t142 != 2)=false:=bne_eq_false_iff_eq.mpr c95
  clear c95
  obtain ⟨y156,hy156⟩:∃ y_:List Int,y_=(([0,9]:List Int)):=⟨_,rfl⟩
  replace H:((spec_l20Rd_pick.f k s0_0 t143 2).bind fun bt159=>(if 0≤bt159.1 then (if bt159.1<(y156.length:Int) then (some (wrap64 (1+t117),wrap64 (1+t119),rd y156 bt159.1,rd y131 t134,wrap64 (1+t137),bt159.2)) else (none)) else (none)))=some (r1,r2,r3,r4,r5,r6):=by first|(rw [hy156];with_reducible exact H)|(have H2_:=(Option.bind_some _ _).symm.trans H;rw [hy156];with_reducible exact H2_)|(have H2_:=(Option.bind_some _ _).symm.trans H;with_reducible exact H2_)|with_reducible exact H|(rw [hy156];exact H)|exact H
  have Ny156:=Aside0.mk hy156
  clear hy156
  replace H:=Option.bind_eq_some_iff.mp H
  obtain ⟨⟨t159,t160⟩,Ch,H⟩:=H
  replace H:(if 0≤t159 then (if t159<(y156.length:Int) then (some (wrap64 (1+t117),wrap64 (1+t119),rd y156 t159,rd y131 t134,wrap64 (1+t137),t160)) else (none)) else (none))=some (r1,r2,r3,r4,r5,r6):=H
  have Gf:=Aside0.mk Ch
  clear Ch
  by_cases c97:0≤t159
  rotate_left
  ·rw [if_neg c97] at H
   exact absurd H (by simp)
  rw [if_pos c97] at H
  have c97b0:decide (0≤t159)=true:=decide_eq_true c97
  clear c97
  by_cases c98:t159<(y156.length:Int)
  rotate_left
  ·rw [if_neg c98] at H
   exact absurd H (by simp)
  rw [if_pos c98] at H
  have c98b0:decide (t159<(y156.length:Int))=true:=decide_eq_true c98
  clear c98
  simp only [Option.some.injEq,Prod.mk.injEq] at H
  obtain ⟨rfl,rfl,rfl,rfl,rfl,rfl⟩:=H
  try go_wp2_with (first|((with_reducible refine gate_callee (f:=98) rfl ?_);refine goesL_ (some 34) rfl rfl Try.func98 (by kernel_rfl) rfl #[.pointer (some ⟨g,0,none⟩),.int .i64 a1] rfl am ?_;(with_reducible refine (spec_l20Rd_odd.calls k g s0_0 t138 a1 true t141 w0 _ ?side1 ?side2 B3.out).mono ?_);(case side1=>exact yu3 HI0.out);(case side2=>exact yu10 HB.out HI0.out);rintro e Hf ⟨rfl,hi,hb,hk⟩;refine ⟨_,rfl,?_⟩;have n0_:=Aside0.mk (KeepBut.blk hk (g':=gb116) (o:=.cells #[.int .i64 0,.int .i64 0,.int .i64 0,.int .i64 0,.int .i64 0] 66 (0,0)) (yv14 Aa.out) A8.out (by simp));have n1_:=Aside0.mk (Kd.R_mono (Kd.R_keep (IsS113.apart (show IsS113 w0 _ g s0_0 t138 from by exact yu3 HI0.out) (mR Ai.out) (by decide)) hk (fun _ h=>h.2)) (fun _ h=>h.1));have n2_:=Aside0.mk (Kd.R_mono (Kd.R_keep (IsS113.apart (show IsS113 w0 _ g s0_0 t138 from by exact yu3 HI0.out) (mR Aj.out) (by decide)) hk (fun _ h=>h.2)) (fun _ h=>h.1));have n3_:=Aside0.mk (KeepBut.blk hk (g':=gb139) (o:=.cells #[.int .i64 (wrap64 (1+t117)),.int .i64 (wrap64 (1+t119)),.int .i64 (rd y123 t126),.int .i64 (rd y131 t134),.int .i64 (wrap64 (1+t137))] 66 (0,0)) (yv14 Ab.out) Ba.out (by simp));have n4_:=Aside0.mk (KeepBut.trans (yu11 HK.out) hk (.inl rfl));have n5_:=Aside0.mk (hb);have n6_:=Aside0.mk (hi);clear Aa;clear Ai;clear Aj;clear Ab;clear HK;clear HB;clear HI0;have Aa:=n0_;have Ai:=n1_;have Aj:=n2_;have Ab:=n3_;have HK:=n4_;have HB:=n5_;have HI0:=n6_;clear n0_ n1_ n2_ n3_ n4_ n5_ n6_;(try clear hb);(try clear hb2);(try clear hk);(try clear hi))|((with_reducible refine gate_callee (f:=70) rfl ?_);refine goesL_ (some 36) rfl rfl Try.func70 (by kernel_rfl) rfl #[.pointer (some ⟨g,0,none⟩),.int .i64 5] rfl am ?_;(with_reducible refine (spec_l20Rd_pick.calls k g s0_0 t141 5 t142 t143 w0 _ ?side1 ?side2 B4.out).mono ?_);(case side1=>exact yu3 HI0.out);(case side2=>exact yu10 HB.out HI0.out);rintro e Hg ⟨rfl,hi,hb,hk⟩;refine ⟨_,rfl,?_⟩;have n0_:=Aside0.mk (KeepBut.blk hk (g':=gb116) (o:=.cells #[.int .i64 0,.int .i64 0,.int .i64 0,.int .i64 0,.int .i64 0] 66 (0,0)) (yv14 Aa.out) A8.out (by simp));have n1_:=Aside0.mk (Kd.R_mono (Kd.R_keep (IsS113.apart (show IsS113 w0 _ g s0_0 t141 from by exact yu3 HI0.out) (mR Ai.out) (by decide)) hk (fun _ h=>h.2)) (fun _ h=>h.1));have n2_:=Aside0.mk (Kd.R_mono (Kd.R_keep (IsS113.apart (show IsS113 w0 _ g s0_0 t141 from by exact yu3 HI0.out) (mR Aj.out) (by decide)) hk (fun _ h=>h.2)) (fun _ h=>h.1));have n3_:=Aside0.mk (KeepBut.blk hk (g':=gb139) (o:=.cells #[.int .i64 (wrap64 (1+t117)),.int .i64 (wrap64 (1+t119)),.int .i64 (rd y123 t126),.int .i64 (rd y131 t134),.int .i64 (wrap64 (1+t137))] 66 (0,0)) (yv14 Ab.out) Ba.out (by simp));have n4_:=Aside0.mk (KeepBut.trans (yu11 HK.out) hk (.inl rfl));have n5_:=Aside0.mk (hb);have n6_:=Aside0.mk (hi);clear Aa;clear Ai;clear Aj;clear Ab;clear HK;clear HB;clear HI0;have Aa:=n0_;have Ai:=n1_;have Aj:=n2_;have Ab:=n3_;have HK:=n4_;have HB:=n5_;have HI0:=n6_;clear n0_ n1_ n2_ n3_ n4_ n5_ n6_;(try clear hb);(try clear hb2);(try clear hk);(try clear hi))|((with_reducible refine gate_dst (N:=61) rfl ?_);refine Kd.R_lit (Kd.int .i64) _ 3 ?hg (N:=61) ?hd (xs:=([0,9]:List Int)) (inner:=[.int .i64 0,.int .i64 9]) (ok:=fun _=>True) (okp:=fun _=>True) ?hr ?hp (fun _ hk=>hk) trivial (Below.refl _ _) (Nat.le_refl _) (by simp) ?_;(case hd=>rfl);(case hg=>rfl);(case hr=>first|(go_simp;done)|(go_simp;rfl));(case hp=>exact (Reps.one (show Kd.M (Kd.int .i64) _ _ _ 0 [.int .i64 0] from rfl) (Reps.one (show Kd.M (Kd.int .i64) _ _ _ 9 [.int .i64 9] from rfl) (Reps.none _ _))));intro v157 Hh ho126 hb hg_ hnew_;clear hg_ hnew_;(first|rw [← Ny156.out] at ho126|(simp only [Int.reduceToNat] at ho126;rw [← Ny156.out] at ho126));have n0_:=Aside0.mk (Kd.R_elder' (mR Ai.out) (Kd.R_base ho126) hb);have n1_:=Aside0.mk (Kd.R_elder' (mR Aj.out) (Kd.R_base ho126) hb);have n2_:=Aside0.mk (Kd.R_lower (Kd.R_new' (Kd.R_new' ho126 (Kd.R_lt (mR Ai.out))) (Kd.R_lt (mR Aj.out))) (keep_size (w:=w) (g:=g) (row:=none) (yu11 HK.out)));have n3_:=Aside0.mk (IsS113.below (yu3 HI0.out) hb);have n4_:=Aside0.mk (blk_below (g:=gb116) (o:=.cells #[.int .i64 0,.int .i64 0,.int .i64 0,.int .i64 0,.int .i64 0] 66 (0,0)) (yv14 Aa.out) hb);have n5_:=Aside0.mk (blk_below (g:=gb139) (o:=.cells #[.int .i64 (wrap64 (1+t117)),.int .i64 (wrap64 (1+t119)),.int .i64 (rd y123 t126),.int .i64 (rd y131 t134),.int .i64 (wrap64 (1+t137))] 66 (0,0)) (yv14 Ab.out) hb);have n6_:=Aside0.mk (KeepBut.trans (yu11 HK.out) (KeepBut.of_below hb g none) (.inl rfl));have n7_:=Aside0.mk (below_step (yu10 HB.out HI0.out) hb);clear Ai;clear Aj;clear HI0;clear Aa;clear Ab;clear HK;clear HB;have Ai:=n0_;have Aj:=n1_;have By:=n2_;have HI0:=n3_;have Aa:=n4_;have Ab:=n5_;have HK:=n6_;have HB:=n7_;clear n0_ n1_ n2_ n3_ n4_ n5_ n6_ n7_;clear hb ho126)|((with_reducible refine gate_callee (f:=70) rfl ?_);refine goesL_ (some 63) rfl rfl Try.func70 (by kernel_rfl) rfl #[.pointer (some ⟨g,0,none⟩),.int .i64 2] rfl am ?_;(with_reducible refine (spec_l20Rd_pick.calls k g s0_0 t143 2 t159 t160 w0 _ ?side1 ?side2 Gf.out).mono ?_);(case side1=>exact yu3 HI0.out);(case side2=>exact yu10 HB.out HI0.out);rintro e Bo ⟨rfl,hi,hb,hk⟩;refine ⟨_,rfl,?_⟩;have n0_:=Aside0.mk (KeepBut.blk hk (g':=gb116) (o:=.cells #[.int .i64 0,.int .i64 0,.int .i64 0,.int .i64 0,.int .i64 0] 66 (0,0)) (yv14 Aa.out) A8.out (by simp));have n1_:=Aside0.mk (Kd.R_mono (Kd.R_keep (IsS113.apart (show IsS113 w0 _ g s0_0 t143 from by exact yu3 HI0.out) (mR Ai.out) (by decide)) hk (fun _ h=>h.2)) (fun _ h=>h.1));have n2_:=Aside0.mk (Kd.R_mono (Kd.R_keep (IsS113.apart (show IsS113 w0 _ g s0_0 t143 from by exact yu3 HI0.out) (mR Aj.out) (by decide)) hk (fun _ h=>h.2)) (fun _ h=>h.1));have n3_:=Aside0.mk (KeepBut.blk hk (g':=gb139) (o:=.cells #[.int .i64 (wrap64 (1+t117)),.int .i64 (wrap64 (1+t119)),.int .i64 (rd y123 t126),.int .i64 (rd y131 t134),.int .i64 (wrap64 (1+t137))] 66 (0,0)) (yv14 Ab.out) Ba.out (by simp));have n4_:=Aside0.mk (Kd.R_mono (Kd.R_keep (IsS113.apart (show IsS113 w0 _ g s0_0 t143 from by exact yu3 HI0.out) (mR By.out) (by decide)) hk (fun _ h=>h.2)) (fun _ h=>h.1));have n5_:=Aside0.mk (KeepBut.trans (yu11 HK.out) hk (.inl rfl));have n6_:=Aside0.mk (hb);have n7_:=Aside0.mk (hi);clear Aa;clear Ai;clear Aj;clear Ab;clear By;clear HK;clear HB;clear HI0;have Aa:=n0_;have Ai:=n1_;have Aj:=n2_;have Ab:=n3_;have By:=n4_;have HK:=n5_;have HB:=n6_;have HI0:=n7_;clear n0_ n1_ n2_ n3_ n4_ n5_ n6_ n7_;(try clear hb);(try clear hb2);(try clear hk);(try clear hi);obtain ⟨Ao128,co128,eo128⟩:=Kd.R_slice By.out;subst eo128;have p161:0≤(t159:Int):=of_decide_eq_true (by first|(with_reducible assumption)|assumption);have q161:t159<(y156.length:Int):=of_decide_eq_true (by first|(with_reducible assumption)|assumption);obtain ⟨ad161,e161,hx161_0⟩:=Kd.at_int (Kd.R_reads' By.out).2.2 t159 p161 q161;cases e161;replace p161:=eq_true p161;replace q161:=eq_true q161;have Gg:=Bc.out;have Gh:=Ax.out;have Gi:=Ba.out;have Gj:=Bg.out;have Db:Bo.cell? ⟨gb139,0,none⟩=some (.int .i64 (wrap64 (1+t117))):=(blk_cell Ab.out 0).trans rfl;have Dc:Bo.cell? ⟨gb139,1,none⟩=some (.int .i64 (wrap64 (1+t119))):=(blk_cell Ab.out 1).trans rfl;have Dd:Bo.cell? ⟨gb139,2,none⟩=some (.int .i64 (rd y123 t126)):=(blk_cell Ab.out 2).trans rfl;have De:Bo.cell? ⟨gb139,3,none⟩=some (.int .i64 (rd y131 t134)):=(blk_cell Ab.out 3).trans rfl;have Df:Bo.cell? ⟨gb139,4,none⟩=some (.int .i64 (wrap64 (1+t137))):=(blk_cell Ab.out 4).trans rfl;have Dg:=blk_frozen Ab.out 0;have Dh:=blk_frozen Ab.out 1;have Di:=blk_frozen Ab.out 2;have Dj:=blk_frozen Ab.out 3;have Dk:=blk_frozen Ab.out 4;have Gk:=A8.out;have Gl:=Bb.out;have Dl:Bo.cell? ⟨gb116,0,none⟩=some (.int .i64 0):=(blk_cell Aa.out 0).trans rfl;have Dm:Bo.cell? ⟨gb116,1,none⟩=some (.int .i64 0):=(blk_cell Aa.out 1).trans rfl;have Dn:Bo.cell? ⟨gb116,2,none⟩=some (.int .i64 0):=(blk_cell Aa.out 2).trans rfl;have Do:Bo.cell? ⟨gb116,3,none⟩=some (.int .i64 0):=(blk_cell Aa.out 3).trans rfl;have Dp:Bo.cell? ⟨gb116,4,none⟩=some (.int .i64 0):=(blk_cell Aa.out 4).trans rfl;have Dq:=blk_frozen Aa.out 0;have Dr:=blk_frozen Aa.out 1;have Ds:=blk_frozen Aa.out 2;have Dt:=blk_frozen Aa.out 3;have Du:=blk_frozen Aa.out 4))
  refine bodyPost_ret (results_cell_row rfl _ _ gb116 66 #[.int .i64 (wrap64 (1+t117)),.int .i64 (wrap64 (1+t119)),.int .i64 (rd y156 t159),.int .i64 (rd y131 t134),.int .i64 (wrap64 (1+t137))] (0,0) _ rfl (by (with_reducible repeat (first|refine blk_drewN ?_ _|refine blk_drew ?_|refine blk_alloc ?_ _));refine blk_put (cs:=#[.int .i64 (wrap64 (1+t117)),.int .i64 (wrap64 (1+t119)),.int .i64 (rd y156 t159),.int .i64 (rd y131 t134),.int .i64 0]) ?_ 4 _ rfl;(with_reducible repeat (first|refine blk_drewN ?_ _|refine blk_drew ?_|refine blk_alloc ?_ _));refine blk_put (cs:=#[.int .i64 (wrap64 (1+t117)),.int .i64 (wrap64 (1+t119)),.int .i64 (rd y156 t159),.int .i64 0,.int .i64 0]) ?_ 3 _ rfl;(with_reducible repeat (first|refine blk_drewN ?_ _|refine blk_drew ?_|refine blk_alloc ?_ _));refine blk_put (cs:=#[.int .i64 (wrap64 (1+t117)),.int .i64 (wrap64 (1+t119)),.int .i64 0,.int .i64 0,.int .i64 0]) ?_ 2 _ rfl;(with_reducible repeat (first|refine blk_drewN ?_ _|refine blk_drew ?_|refine blk_alloc ?_ _));refine blk_put (cs:=#[.int .i64 (wrap64 (1+t117)),.int .i64 0,.int .i64 0,.int .i64 0,.int .i64 0]) ?_ 1 _ rfl;(with_reducible repeat (first|refine blk_drewN ?_ _|refine blk_drew ?_|refine blk_alloc ?_ _));refine blk_put (cs:=#[.int .i64 0,.int .i64 0,.int .i64 0,.int .i64 0,.int .i64 0]) ?_ 0 _ rfl;(with_reducible repeat (first|refine blk_drewN ?_ _|refine blk_drew ?_|refine blk_alloc ?_ _));refine blk_far ?_ Ax.out _;(with_reducible repeat (first|refine blk_drewN ?_ _|refine blk_drew ?_|refine blk_alloc ?_ _));exact Aa.out) Try.underlying66 rfl (by kernel_rfl)) rfl ?_
  exact ⟨by first|rfl|(simp [errW_none,errW_some] <;> rfl)|(simp [*,errW_none,errW_some] <;> rfl),by exact yu3 HI0.out,by exact yu10 HB.out HI0.out,by exact yu11 HK.out⟩
 rw [if_neg c95] at H
 have c95b0:(t142 == 2)=false:=beq_eq_false_iff_ne.mpr c95
 have c95b1:(t142 != 2)=true:=bne_iff_ne.mpr c95
 by_cases c134:t142=3
 rotate_left
 ·rw [if_neg c134] at H
  have c134b0:(t142 == 3)=false:=beq_eq_false_iff_ne.mpr c134
  have c134b1:(t142 != 3)=true:=bne_iff_ne.mpr c134
  obtain ⟨y168,hy168⟩:∃ y_:List Int,y_=(([0,6]:List Int)):=⟨_,rfl⟩
  replace H:((spec_l20Rd_pick.f k s0_0 t143 2).bind fun bt171=>(if 0≤bt171.1 then (if bt171.1<(y168.length:Int) then (some (wrap64 (1+t117),wrap64 (1+t119),rd y123 t126,rd y131 t134,rd y168 bt171.1,bt171.2)) else (none)) else (none)))=some (r1,r2,r3,r4,r5,r6):=by first|(rw [hy168];with_reducible exact H)|(have H2_:=(Option.bind_some _ _).symm.trans H;rw [hy168];with_reducible exact H2_)|(have H2_:=(Option.bind_some _ _).symm.trans H;with_reducible exact H2_)|with_reducible exact H|(rw [hy168];exact H)|exact H
  have Ny168:=Aside0.mk hy168
  clear hy168
  replace H:=Option.bind_eq_some_iff.mp H
  obtain ⟨⟨t171,t172⟩,B8,H⟩:=H
  replace H:(if 0≤t171 then (if t171<(y168.length:Int) then (some (wrap64 (1+t117),wrap64 (1+t119),rd y123 t126,rd y131 t134,rd y168 t171,t172)) else (none)) else (none))=some (r1,r2,r3,r4,r5,r6):=H
  have Dv:=Aside0.mk B8
  clear B8
  by_cases c174:0≤t171
  rotate_left
  ·rw [if_neg c174] at H
   exact absurd H (by simp)
  rw [if_pos c174] at H
  have c174b0:decide (0≤t171)=true:=decide_eq_true c174
  clear c174
  by_cases c175:t171<(y168.length:Int)
  rotate_left
  ·rw [if_neg c175] at H
   exact absurd H (by simp)
  rw [if_pos c175] at H
  have c175b0:decide (t171<(y168.length:Int))=true:=decide_eq_true c175
  clear c175
  simp only [Option.some.injEq,Prod.mk.injEq] at H
  obtain ⟨rfl,rfl,rfl,rfl,rfl,rfl⟩:=H
  try go_wp2_with (first|((with_reducible refine gate_callee (f:=98) rfl ?_);refine goesL_ (some 34) rfl rfl Try.func98 (by kernel_rfl) rfl #[.pointer (some ⟨g,0,none⟩),.int .i64 a1] rfl am ?_;(with_reducible refine (spec_l20Rd_odd.calls k g s0_0 t138 a1 true t141 w0 _ ?side1 ?side2 B3.out).mono ?_);(case side1=>exact yu3 HI0.out);(case side2=>exact yu10 HB.out HI0.out);rintro e Hi ⟨rfl,hi,hb,hk⟩;refine ⟨_,rfl,?_⟩;have n0_:=Aside0.mk (KeepBut.blk hk (g':=gb116) (o:=.cells #[.int .i64 0,.int .i64 0,.int .i64 0,.int .i64 0,.int .i64 0] 66 (0,0)) (yv14 Aa.out) A8.out (by simp));have n1_:=Aside0.mk (Kd.R_mono (Kd.R_keep (IsS113.apart (show IsS113 w0 _ g s0_0 t138 from by exact yu3 HI0.out) (mR Ai.out) (by decide)) hk (fun _ h=>h.2)) (fun _ h=>h.1));have n2_:=Aside0.mk (Kd.R_mono (Kd.R_keep (IsS113.apart (show IsS113 w0 _ g s0_0 t138 from by exact yu3 HI0.out) (mR Aj.out) (by decide)) hk (fun _ h=>h.2)) (fun _ h=>h.1));have n3_:=Aside0.mk (KeepBut.blk hk (g':=gb139) (o:=.cells #[.int .i64 (wrap64 (1+t117)),.int .i64 (wrap64 (1+t119)),.int .i64 (rd y123 t126),.int .i64 (rd y131 t134),.int .i64 (wrap64 (1+t137))] 66 (0,0)) (yv14 Ab.out) Ba.out (by simp));have n4_:=Aside0.mk (KeepBut.trans (yu11 HK.out) hk (.inl rfl));have n5_:=Aside0.mk (hb);have n6_:=Aside0.mk (hi);clear Aa;clear Ai;clear Aj;clear Ab;clear HK;clear HB;clear HI0;have Aa:=n0_;have Ai:=n1_;have Aj:=n2_;have Ab:=n3_;have HK:=n4_;have HB:=n5_;have HI0:=n6_;clear n0_ n1_ n2_ n3_ n4_ n5_ n6_;(try clear hb);(try clear hb2);(try clear hk);(try clear hi))|((with_reducible refine gate_callee (f:=70) rfl ?_);refine goesL_ (some 36) rfl rfl Try.func70 (by kernel_rfl) rfl #[.pointer (some ⟨g,0,none⟩),.int .i64 5] rfl am ?_;(with_reducible refine (spec_l20Rd_pick.calls k g s0_0 t141 5 t142 t143 w0 _ ?side1 ?side2 B4.out).mono ?_);(case side1=>exact yu3 HI0.out);(case side2=>exact yu10 HB.out HI0.out);rintro e Hj ⟨rfl,hi,hb,hk⟩;refine ⟨_,rfl,?_⟩;have n0_:=Aside0.mk (KeepBut.blk hk (g':=gb116) (o:=.cells #[.int .i64 0,.int .i64 0,.int .i64 0,.int .i64 0,.int .i64 0] 66 (0,0)) (yv14 Aa.out) A8.out (by simp));have n1_:=Aside0.mk (Kd.R_mono (Kd.R_keep (IsS113.apart (show IsS113 w0 _ g s0_0 t141 from by exact yu3 HI0.out) (mR Ai.out) (by decide)) hk (fun _ h=>h.2)) (fun _ h=>h.1));have n2_:=Aside0.mk (Kd.R_mono (Kd.R_keep (IsS113.apart (show IsS113 w0 _ g s0_0 t141 from by exact yu3 HI0.out) (mR Aj.out) (by decide)) hk (fun _ h=>h.2)) (fun _ h=>h.1));have n3_:=Aside0.mk (KeepBut.blk hk (g':=gb139) (o:=.cells #[.int .i64 (wrap64 (1+t117)),.int .i64 (wrap64 (1+t119)),.int .i64 (rd y123 t126),.int .i64 (rd y131 t134),.int .i64 (wrap64 (1+t137))] 66 (0,0)) (yv14 Ab.out) Ba.out (by simp));have n4_:=Aside0.mk (KeepBut.trans (yu11 HK.out) hk (.inl rfl));have n5_:=Aside0.mk (hb);have n6_:=Aside0.mk (hi);clear Aa;clear Ai;clear Aj;clear Ab;clear HK;clear HB;clear HI0;have Aa:=n0_;have Ai:=n1_;have Aj:=n2_;have Ab:=n3_;have HK:=n4_;have HB:=n5_;have HI0:=n6_;clear n0_ n1_ n2_ n3_ n4_ n5_ n6_;(try clear hb);(try clear hb2);(try clear hk);(try clear hi))|((with_reducible refine gate_dst (N:=37) rfl ?_);refine Kd.R_lit (Kd.int .i64) _ 3 ?hg (N:=37) ?hd (xs:=([0,6]:List Int)) (inner:=[.int .i64 0,.int .i64 6]) (ok:=fun _=>True) (okp:=fun _=>True) ?hr ?hp (fun _ hk=>hk) trivial (Below.refl _ _) (Nat.le_refl _) (by simp) ?_;(case hd=>rfl);(case hg=>rfl);(case hr=>first|(go_simp;done)|(go_simp;rfl));(case hp=>exact (Reps.one (show Kd.M (Kd.int .i64) _ _ _ 0 [.int .i64 0] from rfl) (Reps.one (show Kd.M (Kd.int .i64) _ _ _ 6 [.int .i64 6] from rfl) (Reps.none _ _))));intro v169 Hk ho203 hb hg_ hnew_;clear hg_ hnew_;(first|rw [← Ny168.out] at ho203|(simp only [Int.reduceToNat] at ho203;rw [← Ny168.out] at ho203));have n0_:=Aside0.mk (Kd.R_elder' (mR Ai.out) (Kd.R_base ho203) hb);have n1_:=Aside0.mk (Kd.R_elder' (mR Aj.out) (Kd.R_base ho203) hb);have n2_:=Aside0.mk (Kd.R_lower (Kd.R_new' (Kd.R_new' ho203 (Kd.R_lt (mR Ai.out))) (Kd.R_lt (mR Aj.out))) (keep_size (w:=w) (g:=g) (row:=none) (yu11 HK.out)));have n3_:=Aside0.mk (IsS113.below (yu3 HI0.out) hb);have n4_:=Aside0.mk (blk_below (g:=gb116) (o:=.cells #[.int .i64 0,.int .i64 0,.int .i64 0,.int .i64 0,.int .i64 0] 66 (0,0)) (yv14 Aa.out) hb);have n5_:=Aside0.mk (blk_below (g:=gb139) (o:=.cells #[.int .i64 (wrap64 (1+t117)),.int .i64 (wrap64 (1+t119)),.int .i64 (rd y123 t126),.int .i64 (rd y131 t134),.int .i64 (wrap64 (1+t137))] 66 (0,0)) (yv14 Ab.out) hb);have n6_:=Aside0.mk (KeepBut.trans (yu11 HK.out) (KeepBut.of_below hb g none) (.inl rfl));have n7_:=Aside0.mk (below_step (yu10 HB.out HI0.out) hb);clear Ai;clear Aj;clear HI0;clear Aa;clear Ab;clear HK;clear HB;have Ai:=n0_;have Aj:=n1_;have Bz:=n2_;have HI0:=n3_;have Aa:=n4_;have Ab:=n5_;have HK:=n6_;have HB:=n7_;clear n0_ n1_ n2_ n3_ n4_ n5_ n6_ n7_;clear hb ho203)|((with_reducible refine gate_callee (f:=70) rfl ?_);refine goesL_ (some 39) rfl rfl Try.func70 (by kernel_rfl) rfl #[.pointer (some ⟨g,0,none⟩),.int .i64 2] rfl am ?_;(with_reducible refine (spec_l20Rd_pick.calls k g s0_0 t143 2 t171 t172 w0 _ ?side1 ?side2 Dv.out).mono ?_);(case side1=>exact yu3 HI0.out);(case side2=>exact yu10 HB.out HI0.out);rintro e Bp ⟨rfl,hi,hb,hk⟩;refine ⟨_,rfl,?_⟩;have n0_:=Aside0.mk (KeepBut.blk hk (g':=gb116) (o:=.cells #[.int .i64 0,.int .i64 0,.int .i64 0,.int .i64 0,.int .i64 0] 66 (0,0)) (yv14 Aa.out) A8.out (by simp));have n1_:=Aside0.mk (Kd.R_mono (Kd.R_keep (IsS113.apart (show IsS113 w0 _ g s0_0 t143 from by exact yu3 HI0.out) (mR Ai.out) (by decide)) hk (fun _ h=>h.2)) (fun _ h=>h.1));have n2_:=Aside0.mk (Kd.R_mono (Kd.R_keep (IsS113.apart (show IsS113 w0 _ g s0_0 t143 from by exact yu3 HI0.out) (mR Aj.out) (by decide)) hk (fun _ h=>h.2)) (fun _ h=>h.1));have n3_:=Aside0.mk (KeepBut.blk hk (g':=gb139) (o:=.cells #[.int .i64 (wrap64 (1+t117)),.int .i64 (wrap64 (1+t119)),.int .i64 (rd y123 t126),.int .i64 (rd y131 t134),.int .i64 (wrap64 (1+t137))] 66 (0,0)) (yv14 Ab.out) Ba.out (by simp));have n4_:=Aside0.mk (Kd.R_mono (Kd.R_keep (IsS113.apart (show IsS113 w0 _ g s0_0 t143 from by exact yu3 HI0.out) (mR Bz.out) (by decide)) hk (fun _ h=>h.2)) (fun _ h=>h.1));have n5_:=Aside0.mk (KeepBut.trans (yu11 HK.out) hk (.inl rfl));have n6_:=Aside0.mk (hb);have n7_:=Aside0.mk (hi);clear Aa;clear Ai;clear Aj;clear Ab;clear Bz;clear HK;clear HB;clear HI0;have Aa:=n0_;have Ai:=n1_;have Aj:=n2_;have Ab:=n3_;have Bz:=n4_;have HK:=n5_;have HB:=n6_;have HI0:=n7_;clear n0_ n1_ n2_ n3_ n4_ n5_ n6_ n7_;(try clear hb);(try clear hb2);(try clear hk);(try clear hi);obtain ⟨Ao205,co205,eo205⟩:=Kd.R_slice Bz.out;subst eo205;have p173:0≤(t171:Int):=of_decide_eq_true (by first|(with_reducible assumption)|assumption);have q173:t171<(y168.length:Int):=of_decide_eq_true (by first|(with_reducible assumption)|assumption);obtain ⟨ad173,e173,hx173_0⟩:=Kd.at_int (Kd.R_reads' Bz.out).2.2 t171 p173 q173;cases e173;replace p173:=eq_true p173;replace q173:=eq_true q173;have Gm:=Bc.out;have Gn:=Ax.out;have Gp:=Ba.out;have Gq:=Bg.out;have Dw:Bp.cell? ⟨gb139,0,none⟩=some (.int .i64 (wrap64 (1+t117))):=(blk_cell Ab.out 0).trans rfl;have Dx:Bp.cell? ⟨gb139,1,none⟩=some (.int .i64 (wrap64 (1+t119))):=(blk_cell Ab.out 1).trans rfl;have Dy:Bp.cell? ⟨gb139,2,none⟩=some (.int .i64 (rd y123 t126)):=(blk_cell Ab.out 2).trans rfl;have Dz:Bp.cell? ⟨gb139,3,none⟩=some (.int .i64 (rd y131 t134)):=(blk_cell Ab.out 3).trans rfl;have D0:Bp.cell? ⟨gb139,4,none⟩=some (.int .i64 (wrap64 (1+t137))):=(blk_cell Ab.out 4).trans rfl;have D1:=blk_frozen Ab.out 0;have D2:=blk_frozen Ab.out 1;have D3:=blk_frozen Ab.out 2;have D4:=blk_frozen Ab.out 3;have D5:=blk_frozen Ab.out 4;have Gr:=A8.out;have Gs:=Bb.out;have D6:Bp.cell? ⟨gb116,0,none⟩=some (.int .i64 0):=(blk_cell Aa.out 0).trans rfl;have D7:Bp.cell? ⟨gb116,1,none⟩=some (.int .i64 0):=(blk_cell Aa.out 1).trans rfl;have D8:Bp.cell? ⟨gb116,2,none⟩=some (.int .i64 0):=(blk_cell Aa.out 2).trans rfl;have D9:Bp.cell? ⟨gb116,3,none⟩=some (.int .i64 0):=(blk_cell Aa.out 3).trans rfl;have Ea:Bp.cell? ⟨gb116,4,none⟩=some (.int .i64 0):=(blk_cell Aa.out 4).trans rfl;have Eb:=blk_frozen Aa.out 0;have Ec:=blk_frozen Aa.out 1;have Ed:=blk_frozen Aa.out 2;have Ee:=blk_frozen Aa.out 3;have Ef:=blk_frozen Aa.out 4))
  refine bodyPost_ret (results_cell_row rfl _ _ gb116 66 #[.int .i64 (wrap64 (1+t117)),.int .i64 (wrap64 (1+t119)),.int .i64 (rd y123 t126),.int .i64 (rd y131 t134),.int .i64 (rd y168 t171)] (0,0) _ rfl (by (with_reducible repeat (first|refine blk_drewN ?_ _|refine blk_drew ?_|refine blk_alloc ?_ _));refine blk_put (cs:=#[.int .i64 (wrap64 (1+t117)),.int .i64 (wrap64 (1+t119)),.int .i64 (rd y123 t126),.int .i64 (rd y131 t134),.int .i64 0]) ?_ 4 _ rfl;(with_reducible repeat (first|refine blk_drewN ?_ _|refine blk_drew ?_|refine blk_alloc ?_ _));refine blk_put (cs:=#[.int .i64 (wrap64 (1+t117)),.int .i64 (wrap64 (1+t119)),.int .i64 (rd y123 t126),.int .i64 0,.int .i64 0]) ?_ 3 _ rfl;(with_reducible repeat (first|refine blk_drewN ?_ _|refine blk_drew ?_|refine blk_alloc ?_ _));refine blk_put (cs:=#[.int .i64 (wrap64 (1+t117)),.int .i64 (wrap64 (1+t119)),.int .i64 0,.int .i64 0,.int .i64 0]) ?_ 2 _ rfl;(with_reducible repeat (first|refine blk_drewN ?_ _|refine blk_drew ?_|refine blk_alloc ?_ _));refine blk_put (cs:=#[.int .i64 (wrap64 (1+t117)),.int .i64 0,.int .i64 0,.int .i64 0,.int .i64 0]) ?_ 1 _ rfl;(with_reducible repeat (first|refine blk_drewN ?_ _|refine blk_drew ?_|refine blk_alloc ?_ _));refine blk_put (cs:=#[.int .i64 0,.int .i64 0,.int .i64 0,.int .i64 0,.int .i64 0]) ?_ 0 _ rfl;(with_reducible repeat (first|refine blk_drewN ?_ _|refine blk_drew ?_|refine blk_alloc ?_ _));refine blk_far ?_ Ax.out _;(with_reducible repeat (first|refine blk_drewN ?_ _|refine blk_drew ?_|refine blk_alloc ?_ _));exact Aa.out) Try.underlying66 rfl (by kernel_rfl)) rfl ?_
  exact ⟨by first|rfl|(simp [errW_none,errW_some] <;> rfl)|(simp [*,errW_none,errW_some] <;> rfl),by exact yu3 HI0.out,by exact yu10 HB.out HI0.out,by exact yu11 HK.out⟩
 rw [if_pos c134] at H
 have c134b0:(t142 == 3)=true:=beq_iff_eq.mpr c134
 have c134b1:(t142 != 3)=false:=bne_eq_false_iff_eq.mpr c134
 clear c134
 obtain ⟨y162,hy162⟩:∃ y_:List Int,y_=(([0,25]:List Int)):=⟨_,rfl⟩
 replace H:((spec_l20Rd_pick.f k s0_0 t143 2).bind fun bt165=>(if 0≤bt165.1 then (if bt165.1<(y162.length:Int) then (some (wrap64 (1+t117),wrap64 (1+t119),rd y123 t126,rd y162 bt165.1,wrap64 (1+t137),bt165.2)) else (none)) else (none)))=some (r1,r2,r3,r4,r5,r6):=by first|(rw [hy162];with_reducible exact H)|(have H2_:=(Option.bind_some _ _).symm.trans H;rw [hy162];with_reducible exact H2_)|(have H2_:=(Option.bind_some _ _).symm.trans H;with_reducible exact H2_)|with_reducible exact H|(rw [hy162];exact H)|exact H
 have Ny162:=Aside0.mk hy162
 clear hy162
 replace H:=Option.bind_eq_some_iff.mp H
 obtain ⟨⟨t165,t166⟩,B9,H⟩:=H
 replace H:(if 0≤t165 then (if t165<(y162.length:Int) then (some (wrap64 (1+t117),wrap64 (1+t119),rd y123 t126,rd y162 t165,wrap64 (1+t137),t166)) else (none)) else (none))=some (r1,r2,r3,r4,r5,r6):=H
 have Eg:=Aside0.mk B9
 clear B9
 by_cases c136:0≤t165
 rotate_left
 ·rw [if_neg c136] at H
  exact absurd H (by simp)
 rw [if_pos c136] at H
 have c136b0:decide (0≤t165)=true:=decide_eq_true c136
 clear c136
 by_cases c137:t165<(y162.length:Int)
 rotate_left
 ·rw [if_neg c137] at H
  exact absurd H (by simp)
 rw [if_pos c137] at H
 have c137b0:decide (t165<(y162.length:Int))=true:=decide_eq_true c137
 clear c137
 simp only [Option.some.injEq,Prod.mk.injEq] at H
 obtain ⟨rfl,rfl,rfl,rfl,rfl,rfl⟩:=H
 try go_wp2_with (first|((with_reducible refine gate_callee (f:=98) rfl ?_);refine goesL_ (some 34) rfl rfl Try.func98 (by kernel_rfl) rfl #[.pointer (some ⟨g,0,none⟩),.int .i64 a1] rfl am ?_;(with_reducible refine (spec_l20Rd_odd.calls k g s0_0 t138 a1 true t141 w0 _ ?side1 ?side2 B3.out).mono ?_);(case side1=>exact yu3 HI0.out);(case side2=>exact yu10 HB.out HI0.out);rintro e Hl ⟨rfl,hi,hb,hk⟩;refine ⟨_,rfl,?_⟩;have n0_:=Aside0.mk (KeepBut.blk hk (g':=gb116) (o:=.cells #[.int .i64 0,.int .i64 0,.int .i64 0,.int .i64 0,.int .i64 0] 66 (0,0)) (yv14 Aa.out) A8.out (by simp));have n1_:=Aside0.mk (Kd.R_mono (Kd.R_keep (IsS113.apart (show IsS113 w0 _ g s0_0 t138 from by exact yu3 HI0.out) (mR Ai.out) (by decide)) hk (fun _ h=>h.2)) (fun _ h=>h.1));have n2_:=Aside0.mk (Kd.R_mono (Kd.R_keep (IsS113.apart (show IsS113 w0 _ g s0_0 t138 from by exact yu3 HI0.out) (mR Aj.out) (by decide)) hk (fun _ h=>h.2)) (fun _ h=>h.1));have n3_:=Aside0.mk (KeepBut.blk hk (g':=gb139) (o:=.cells #[.int .i64 (wrap64 (1+t117)),.int .i64 (wrap64 (1+t119)),.int .i64 (rd y123 t126),.int .i64 (rd y131 t134),.int .i64 (wrap64 (1+t137))] 66 (0,0)) (yv14 Ab.out) Ba.out (by simp));have n4_:=Aside0.mk (KeepBut.trans (yu11 HK.out) hk (.inl rfl));have n5_:=Aside0.mk (hb);have n6_:=Aside0.mk (hi);clear Aa;clear Ai;clear Aj;clear Ab;clear HK;clear HB;clear HI0;have Aa:=n0_;have Ai:=n1_;have Aj:=n2_;have Ab:=n3_;have HK:=n4_;have HB:=n5_;have HI0:=n6_;clear n0_ n1_ n2_ n3_ n4_ n5_ n6_;(try clear hb);(try clear hb2);(try clear hk);(try clear hi))|((with_reducible refine gate_callee (f:=70) rfl ?_);refine goesL_ (some 36) rfl rfl Try.func70 (by kernel_rfl) rfl #[.pointer (some ⟨g,0,none⟩),.int .i64 5] rfl am ?_;(with_reducible refine (spec_l20Rd_pick.calls k g s0_0 t141 5 t142 t143 w0 _ ?side1 ?side2 B4.out).mono ?_);(case side1=>exact yu3 HI0.out);(case side2=>exact yu10 HB.out HI0.out);rintro e Hm ⟨rfl,hi,hb,hk⟩;refine ⟨_,rfl,?_⟩;have n0_:=Aside0.mk (KeepBut.blk hk (g':=gb116) (o:=.cells #[.int .i64 0,.int .i64 0,.int .i64 0,.int .i64 0,.int .i64 0] 66 (0,0)) (yv14 Aa.out) A8.out (by simp));have n1_:=Aside0.mk (Kd.R_mono (Kd.R_keep (IsS113.apart (show IsS113 w0 _ g s0_0 t141 from by exact yu3 HI0.out) (mR Ai.out) (by decide)) hk (fun _ h=>h.2)) (fun _ h=>h.1));have n2_:=Aside0.mk (Kd.R_mono (Kd.R_keep (IsS113.apart (show IsS113 w0 _ g s0_0 t141 from by exact yu3 HI0.out) (mR Aj.out) (by decide)) hk (fun _ h=>h.2)) (fun _ h=>h.1));have n3_:=Aside0.mk (KeepBut.blk hk (g':=gb139) (o:=.cells #[.int .i64 (wrap64 (1+t117)),.int .i64 (wrap64 (1+t119)),.int .i64 (rd y123 t126),.int .i64 (rd y131 t134),.int .i64 (wrap64 (1+t137))] 66 (0,0)) (yv14 Ab.out) Ba.out (by simp));have n4_:=Aside0.mk (KeepBut.trans (yu11 HK.out) hk (.inl rfl));have n5_:=Aside0.mk (hb);have n6_:=Aside0.mk (hi);clear Aa;clear Ai;clear Aj;clear Ab;clear HK;clear HB;clear HI0;have Aa:=n0_;have Ai:=n1_;have Aj:=n2_;have Ab:=n3_;have HK:=n4_;have HB:=n5_;have HI0:=n6_;clear n0_ n1_ n2_ n3_ n4_ n5_ n6_;(try clear hb);(try clear hb2);(try clear hk);(try clear hi))|((with_reducible refine gate_dst (N:=69) rfl ?_);refine Kd.R_lit (Kd.int .i64) _ 3 ?hg (N:=69) ?hd (xs:=([0,25]:List Int)) (inner:=[.int .i64 0,.int .i64 25]) (ok:=fun _=>True) (okp:=fun _=>True) ?hr ?hp (fun _ hk=>hk) trivial (Below.refl _ _) (Nat.le_refl _) (by simp) ?_;(case hd=>rfl);(case hg=>rfl);(case hr=>first|(go_simp;done)|(go_simp;rfl));(case hp=>exact (Reps.one (show Kd.M (Kd.int .i64) _ _ _ 0 [.int .i64 0] from rfl) (Reps.one (show Kd.M (Kd.int .i64) _ _ _ 25 [.int .i64 25] from rfl) (Reps.none _ _))));intro v163 Hn ho165 hb hg_ hnew_;clear hg_ hnew_;(first|rw [← Ny162.out] at ho165|(simp only [Int.reduceToNat] at ho165;rw [← Ny162.out] at ho165));have n0_:=Aside0.mk (Kd.R_elder' (mR Ai.out) (Kd.R_base ho165) hb);have n1_:=Aside0.mk (Kd.R_elder' (mR Aj.out) (Kd.R_base ho165) hb);have n2_:=Aside0.mk (Kd.R_lower (Kd.R_new' (Kd.R_new' ho165 (Kd.R_lt (mR Ai.out))) (Kd.R_lt (mR Aj.out))) (keep_size (w:=w) (g:=g) (row:=none) (yu11 HK.out)));have n3_:=Aside0.mk (IsS113.below (yu3 HI0.out) hb);have n4_:=Aside0.mk (blk_below (g:=gb116) (o:=.cells #[.int .i64 0,.int .i64 0,.int .i64 0,.int .i64 0,.int .i64 0] 66 (0,0)) (yv14 Aa.out) hb);have n5_:=Aside0.mk (blk_below (g:=gb139) (o:=.cells #[.int .i64 (wrap64 (1+t117)),.int .i64 (wrap64 (1+t119)),.int .i64 (rd y123 t126),.int .i64 (rd y131 t134),.int .i64 (wrap64 (1+t137))] 66 (0,0)) (yv14 Ab.out) hb);have n6_:=Aside0.mk (KeepBut.trans (yu11 HK.out) (KeepBut.of_below hb g none) (.inl rfl));have n7_:=Aside0.mk (below_step (yu10 HB.out HI0.out) hb);clear Ai;clear Aj;clear HI0;clear Aa;clear Ab;clear HK;clear HB;have Ai:=n0_;have Aj:=n1_;have B0:=n2_;have HI0:=n3_;have Aa:=n4_;have Ab:=n5_;have HK:=n6_;have HB:=n7_;clear n0_ n1_ n2_ n3_ n4_ n5_ n6_ n7_;clear hb ho165)|((with_reducible refine gate_callee (f:=70) rfl ?_);refine goesL_ (some 71) rfl rfl Try.func70 (by kernel_rfl) rfl #[.pointer (some ⟨g,0,none⟩),.int .i64 2] rfl am ?_;(with_reducible refine (spec_l20Rd_pick.calls k g s0_0 t143 2 t165 t166 w0 _ ?side1 ?side2 Eg.out).mono ?_);(case side1=>exact yu3 HI0.out);(case side2=>exact yu10 HB.out HI0.out);rintro e Bq ⟨rfl,hi,hb,hk⟩;refine ⟨_,rfl,?_⟩;have n0_:=Aside0.mk (KeepBut.blk hk (g':=gb116) (o:=.cells #[.int .i64 0,.int .i64 0,.int .i64 0,.int .i64 0,.int .i64 0] 66 (0,0)) (yv14 Aa.out) A8.out (by simp));have n1_:=Aside0.mk (Kd.R_mono (Kd.R_keep (IsS113.apart (show IsS113 w0 _ g s0_0 t143 from by exact yu3 HI0.out) (mR Ai.out) (by decide)) hk (fun _ h=>h.2)) (fun _ h=>h.1));have n2_:=Aside0.mk (Kd.R_mono (Kd.R_keep (IsS113.apart (show IsS113 w0 _ g s0_0 t143 from by exact yu3 HI0.out) (mR Aj.out) (by decide)) hk (fun _ h=>h.2)) (fun _ h=>h.1));have n3_:=Aside0.mk (KeepBut.blk hk (g':=gb139) (o:=.cells #[.int .i64 (wrap64 (1+t117)),.int .i64 (wrap64 (1+t119)),.int .i64 (rd y123 t126),.int .i64 (rd y131 t134),.int .i64 (wrap64 (1+t137))] 66 (0,0)) (yv14 Ab.out) Ba.out (by simp));have n4_:=Aside0.mk (Kd.R_mono (Kd.R_keep (IsS113.apart (show IsS113 w0 _ g s0_0 t143 from by exact yu3 HI0.out) (mR B0.out) (by decide)) hk (fun _ h=>h.2)) (fun _ h=>h.1));have n5_:=Aside0.mk (KeepBut.trans (yu11 HK.out) hk (.inl rfl));have n6_:=Aside0.mk (hb);have n7_:=Aside0.mk (hi);clear Aa;clear Ai;clear Aj;clear Ab;clear B0;clear HK;clear HB;clear HI0;have Aa:=n0_;have Ai:=n1_;have Aj:=n2_;have Ab:=n3_;have B0:=n4_;have HK:=n5_;have HB:=n6_;have HI0:=n7_;clear n0_ n1_ n2_ n3_ n4_ n5_ n6_ n7_;(try clear hb);(try clear hb2);(try clear hk);(try clear hi);obtain ⟨Ao167,co167,eo167⟩:=Kd.R_slice B0.out;subst eo167;have p167:0≤(t165:Int):=of_decide_eq_true (by first|(with_reducible assumption)|assumption);have q167:t165<(y162.length:Int):=of_decide_eq_true (by first|(with_reducible assumption)|assumption);obtain ⟨ad167,e167,hx167_0⟩:=Kd.at_int (Kd.R_reads' B0.out).2.2 t165 p167 q167;cases e167;replace p167:=eq_true p167;replace q167:=eq_true q167;have Gt:=Bc.out;have Gu:=Ax.out;have Gv:=Ba.out;have Gw:=Bg.out;have Eh:Bq.cell? ⟨gb139,0,none⟩=some (.int .i64 (wrap64 (1+t117))):=(blk_cell Ab.out 0).trans rfl;have Ei:Bq.cell? ⟨gb139,1,none⟩=some (.int .i64 (wrap64 (1+t119))):=(blk_cell Ab.out 1).trans rfl;have Ej:Bq.cell? ⟨gb139,2,none⟩=some (.int .i64 (rd y123 t126)):=(blk_cell Ab.out 2).trans rfl;have Ek:Bq.cell? ⟨gb139,3,none⟩=some (.int .i64 (rd y131 t134)):=(blk_cell Ab.out 3).trans rfl;have El:Bq.cell? ⟨gb139,4,none⟩=some (.int .i64 (wrap64 (1+t137))):=(blk_cell Ab.out 4).trans rfl;have Em:=blk_frozen Ab.out 0;have En:=blk_frozen Ab.out 1;have Eo:=blk_frozen Ab.out 2;have Ep:=blk_frozen Ab.out 3;have Eq:=blk_frozen Ab.out 4;have Gx:=A8.out;have Gy:=Bb.out;have Er:Bq.cell? ⟨gb116,0,none⟩=some (.int .i64 0):=(blk_cell Aa.out 0).trans rfl;have Es:Bq.cell? ⟨gb116,1,none⟩=some (.int .i64 0):=(blk_cell Aa.out 1).trans rfl;have Et:Bq.cell? ⟨gb116,2,none⟩=some (.int .i64 0):=(blk_cell Aa.out 2).trans rfl;have Eu:Bq.cell? ⟨gb116,3,none⟩=some (.int .i64 0):=(blk_cell Aa.out 3).trans rfl;have Ev:Bq.cell? ⟨gb116,4,none⟩=some (.int .i64 0):=(blk_cell Aa.out 4).trans rfl;have Ew:=blk_frozen Aa.out 0;have Ex:=blk_frozen Aa.out 1;have Ey:=blk_frozen Aa.out 2;have Ez:=blk_frozen Aa.out 3;have E0:=blk_frozen Aa.out 4))
 refine bodyPost_ret (results_cell_row rfl _ _ gb116 66 #[.int .i64 (wrap64 (1+t117)),.int .i64 (wrap64 (1+t119)),.int .i64 (rd y123 t126),.int .i64 (rd y162 t165),.int .i64 (wrap64 (1+t137))] (0,0) _ rfl (by (with_reducible repeat (first|refine blk_drewN ?_ _|refine blk_drew ?_|refine blk_alloc ?_ _));refine blk_put (cs:=#[.int .i64 (wrap64 (1+t117)),.int .i64 (wrap64 (1+t119)),.int .i64 (rd y123 t126),.int .i64 (rd y162 t165),.int .i64 0]) ?_ 4 _ rfl;(with_reducible repeat (first|refine blk_drewN ?_ _|refine blk_drew ?_|refine blk_alloc ?_ _));refine blk_put (cs:=#[.int .i64 (wrap64 (1+t117)),.int .i64 (wrap64 (1+t119)),.int .i64 (rd y123 t126),.int .i64 0,.int .i64 0]) ?_ 3 _ rfl;(with_reducible repeat (first|refine blk_drewN ?_ _|refine blk_drew ?_|refine blk_alloc ?_ _));refine blk_put (cs:=#[.int .i64 (wrap64 (1+t117)),.int .i64 (wrap64 (1+t119)),.int .i64 0,.int .i64 0,.int .i64 0]) ?_ 2 _ rfl;(with_reducible repeat (first|refine blk_drewN ?_ _|refine blk_drew ?_|refine blk_alloc ?_ _));refine blk_put (cs:=#[.int .i64 (wrap64 (1+t117)),.int .i64 0,.int .i64 0,.int .i64 0,.int .i64 0]) ?_ 1 _ rfl;(with_reducible repeat (first|refine blk_drewN ?_ _|refine blk_drew ?_|refine blk_alloc ?_ _));refine blk_put (cs:=#[.int .i64 0,.int .i64 0,.int .i64 0,.int .i64 0,.int .i64 0]) ?_ 0 _ rfl;(with_reducible repeat (first|refine blk_drewN ?_ _|refine blk_drew ?_|refine blk_alloc ?_ _));refine blk_far ?_ Ax.out _;(with_reducible repeat (first|refine blk_drewN ?_ _|refine blk_drew ?_|refine blk_alloc ?_ _));exact Aa.out) Try.underlying66 rfl (by kernel_rfl)) rfl ?_
 exact ⟨by first|rfl|(simp [errW_none,errW_some] <;> rfl)|(simp [*,errW_none,errW_some] <;> rfl),by exact yu3 HI0.out,by exact yu10 HB.out HI0.out,by exact yu11 HK.out⟩

end Go.Proofs.Yteknaofnageihaa.QFnTxOk
