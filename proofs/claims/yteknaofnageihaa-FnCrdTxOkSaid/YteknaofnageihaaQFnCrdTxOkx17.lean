-- Written by a program of this session, a turned copy of the print (not by print.sh itself). Lean checks it.
import Derived.Test.YteknaofnageihaaQFnCrdTxOkx0
import Derived.Test.YteknaofnageihaaQFnCrdTxOkx14
import Derived.Test.YteknaofnageihaaQFnCrdTxOkx15
import Derived.Test.YteknaofnageihaaQFnCrdTxOkx16
namespace Go.Proofs.Yteknaofnageihaa.QFnCrdTxOk
open Go.RowKit Go.Proofs.YteknaofnageihaaW.PrintWords Go.Proofs.YteknaofnageihaaW.PrintLast Go.Proofs.YteknaofnageihaaW.PrintMore Go.Proofs.YteknaofnageihaaLoc
attribute [local go_sem] max2_int min2_int max_two min_two max_three min_three max_four min_four   -- for this text's walks alone
set_option linter.unusedVariables false
set_option linter.unusedSimpArgs false

/-! ### spec_l20Cfg: function 90 -/
def spec_l20Cfg.f (k : Nat) (s0_0 : List Int) (s0_1 : Int) (a1 : Int) : Option (Int × Int × Int × Int × Int × Int) := (spec_l20Rd_pick.f k s0_0 s0_1 2).bind fun bt151 => ((spec_l20Rd_pick.f k s0_0 bt151.2 4).bind fun bt153 => ((spec_l20Rd_pick.f k s0_0 bt153.2 8).bind fun bt155 => ((some (([wrap64 (1 + bt155.1), 3, 8] : List Int) : List Int)).bind fun y157 => ((spec_l20Rd_pick.f k s0_0 bt155.2 3).bind fun bt160 => (if 0 ≤ bt160.1 then (if bt160.1 < (y157.length : Int) then ((spec_l20Rd_pick.f k s0_0 bt160.2 24).bind fun bt163 => ((some (([24, wrap64 (1 + bt163.1)] : List Int) : List Int)).bind fun y165 => ((spec_l20Rd_pick.f k s0_0 bt163.2 2).bind fun bt168 => (if 0 ≤ bt168.1 then (if bt168.1 < (y165.length : Int) then ((spec_l20Rd_pick.f k s0_0 bt168.2 5).bind fun bt171 => ((spec_l20Rd_odd.f k s0_0 bt171.2 a1).bind fun bt174 => (if bt174.1 = true then ((spec_l20Rd_pick.f k s0_0 bt174.2 5).bind fun bt176 => (if bt176.1 = 0 then ((some (([0, 3] : List Int) : List Int)).bind fun y178 => ((spec_l20Rd_pick.f k s0_0 bt176.2 2).bind fun bt181 => (if 0 ≤ bt181.1 then (if bt181.1 < (y178.length : Int) then (some (rd y178 bt181.1, wrap64 (1 + bt153.1), rd y157 bt160.1, rd y165 bt168.1, wrap64 (1 + bt171.1), bt181.2)) else (none)) else (none)))) else (if bt176.1 = 1 then ((some (([0, 5] : List Int) : List Int)).bind fun y184 => ((spec_l20Rd_pick.f k s0_0 bt176.2 2).bind fun bt187 => (if 0 ≤ bt187.1 then (if bt187.1 < (y184.length : Int) then (some (wrap64 (1 + bt151.1), rd y184 bt187.1, rd y157 bt160.1, rd y165 bt168.1, wrap64 (1 + bt171.1), bt187.2)) else (none)) else (none)))) else (if bt176.1 = 2 then ((some (([0, 9] : List Int) : List Int)).bind fun y190 => ((spec_l20Rd_pick.f k s0_0 bt176.2 2).bind fun bt193 => (if 0 ≤ bt193.1 then (if bt193.1 < (y190.length : Int) then (some (wrap64 (1 + bt151.1), wrap64 (1 + bt153.1), rd y190 bt193.1, rd y165 bt168.1, wrap64 (1 + bt171.1), bt193.2)) else (none)) else (none)))) else (if bt176.1 = 3 then ((some (([0, 25] : List Int) : List Int)).bind fun y196 => ((spec_l20Rd_pick.f k s0_0 bt176.2 2).bind fun bt199 => (if 0 ≤ bt199.1 then (if bt199.1 < (y196.length : Int) then (some (wrap64 (1 + bt151.1), wrap64 (1 + bt153.1), rd y157 bt160.1, rd y196 bt199.1, wrap64 (1 + bt171.1), bt199.2)) else (none)) else (none)))) else ((some (([0, 6] : List Int) : List Int)).bind fun y202 => ((spec_l20Rd_pick.f k s0_0 bt176.2 2).bind fun bt205 => (if 0 ≤ bt205.1 then (if bt205.1 < (y202.length : Int) then (some (wrap64 (1 + bt151.1), wrap64 (1 + bt153.1), rd y157 bt160.1, rd y165 bt168.1, rd y202 bt205.1, bt205.2)) else (none)) else (none))))))))) else (some (wrap64 (1 + bt151.1), wrap64 (1 + bt153.1), rd y157 bt160.1, rd y165 bt168.1, wrap64 (1 + bt171.1), bt174.2))))) else (none)) else (none))))) else (none)) else (none))))))
theorem spec_l20Cfg.mono : ∀ a0 a1 a2 k, LeO (spec_l20Cfg.f k a0 a1 a2) (spec_l20Cfg.f (k + 1) a0 a1 a2) := by
 intro a0 a1 a2 k
 unfold spec_l20Cfg.f
 repeat' first
     | (with_reducible exact spec_l20Rd_odd.mono _ _ _ _)
     | (with_reducible exact spec_l20Rd_pick.mono _ _ _ _)
     | (with_reducible exact LeO.refl _)
     | (with_reducible exact LeO.none _)
     | (with_reducible refine LeO.ite ?_ ?_)
     | (with_reducible refine LeO.bind ?_ (fun _ => ?_))
     | exact spec_l20Rd_odd.mono _ _ _ _
     | exact spec_l20Rd_pick.mono _ _ _ _
     | exact LeO.none _
     | refine LeO.ite ?_ ?_
     | refine LeO.bind ?_ (fun _ => ?_)
def spec_l20Cfg.T1 : Bool × List (List Nat × List Nat) := (true, [([], []), ([0], [0]), ([1], [1]), ([], []), ([3, 1], [3]), ([4], [4]), ([], []), ([6, 4], [6]), ([7], [7]), ([8], [8]), ([], []), ([10, 7], [10]), ([9, 11], [9, 11]), ([12], [12]), ([], []), ([14, 11], [14]), ([15], [15]), ([16], [16]), ([], []), ([18, 15], [18]), ([17, 19], [17, 19]), ([20], [20]), ([], []), ([22, 19], [22]), ([23], [23]), ([2, 5, 13, 21, 24], [2, 5, 13, 21, 24]), ([], []), ([26, 25, 23, 0, 1, 2, 3, 4, 5, 6, 7, 8, 9, 10, 11, 12, 13, 14, 15, 16, 17, 18, 19, 20, 21, 22, 23, 24, 25, 26], [25, 26])])
def spec_l20Cfg.B1 : List Nat := [0, 1, 3, 0, 11, 27, 0, 91, 219, 475, 0, 1243, 4059, 8155, 0, 19675, 52443, 117979, 0, 314587, 1035483, 2084059, 0, 5033179, 13421787, 33554431, 0, 134217727]
theorem spec_l20Cfg.tab1 : rtab .any (opsOf Try.f90 1) = spec_l20Cfg.T1 := by kernel_rfl
theorem spec_l20Cfg.bits1 : waitsOk spec_l20Cfg.T1.2 spec_l20Cfg.B1 = true := by kernel_rfl
set_option maxHeartbeats 60000000 in
set_option maxRecDepth 100000 in
theorem spec_l20Cfg.calls (k : Nat) (g : Nat) (s0_0 : List Int) (s0_1 : Int) (a1 : Int) (r1 : Int) (r2 : Int) (r3 : Int) (r4 : Int) (r5 : Int) (r6 : Int) (w0 w : World) (hI : IsS113 w0 w g s0_0 s0_1) (hB : Below w0.heap.size w0 w) (h : spec_l20Cfg.f k s0_0 s0_1 a1 = some (r1, r2, r3, r4, r5, r6)) :
  Calls Try.prog 90 #[.pointer (some ⟨g,0,none⟩),.int .i64 a1] w fun e w'=>e=.returned (.agg #[.int .i64 r1,.int .i64 r2,.int .i64 r3,.int .i64 r4,.int .i64 r5])∧IsS113 w0 w' g s0_0 r6∧Below w0.heap.size w0 w'∧KeepBut w w' g none:=by
 have hu66:=Try.underlying66
 have HI0:=Aside0.mk hI
 have HGL:=Aside0.mk hI.lt
 have HK:=Aside0.mk (KeepBut.refl w g none)
 have HL:=Aside0.mk hB.size
 clear hI
 have HW0:=Aside0.mk hB.size
 have HB:=Aside0.mk hB
 clear hB
 have H:((spec_l20Rd_pick.f k s0_0 s0_1 2).bind fun bt151=>((spec_l20Rd_pick.f k s0_0 bt151.2 4).bind fun bt153=>((spec_l20Rd_pick.f k s0_0 bt153.2 8).bind fun bt155=>((some (([wrap64 (1+bt155.1),3,8]:List Int):List Int)).bind fun y157=>((spec_l20Rd_pick.f k s0_0 bt155.2 3).bind fun bt160=>(if 0≤bt160.1 then (if bt160.1<(y157.length:Int) then ((spec_l20Rd_pick.f k s0_0 bt160.2 24).bind fun bt163=>((some (([24,wrap64 (1+bt163.1)]:List Int):List Int)).bind fun y165=>((spec_l20Rd_pick.f k s0_0 bt163.2 2).bind fun bt168=>(if 0≤bt168.1 then (if bt168.1<(y165.length:Int) then ((spec_l20Rd_pick.f k s0_0 bt168.2 5).bind fun bt171=>((spec_l20Rd_odd.f k s0_0 bt171.2 a1).bind fun bt174=>(if bt174.1=true then ((spec_l20Rd_pick.f k s0_0 bt174.2 5).bind fun bt176=>(if bt176.1=0 then ((some (([0,3]:List Int):List Int)).bind fun y178=>((spec_l20Rd_pick.f k s0_0 bt176.2 2).bind fun bt181=>(if 0≤bt181.1 then (if bt181.1<(y178.length:Int) then (some (rd y178 bt181.1,wrap64 (1+bt153.1),rd y157 bt160.1,rd y165 bt168.1,wrap64 (1+bt171.1),bt181.2)) else (none)) else (none)))) else (if bt176.1=1 then ((some (([0,5]:List Int):List Int)).bind fun y184=>((spec_l20Rd_pick.f k s0_0 bt176.2 2).bind fun bt187=>(if 0≤bt187.1 then (if bt187.1<(y184.length:Int) then (some (wrap64 (1+bt151.1),rd y184 bt187.1,rd y157 bt160.1,rd y165 bt168.1,wrap64 (1+bt171.1),bt187.2)) else (none)) else (none)))) else (if bt176.1=2 then ((some (([0,9]:List Int):List Int)).bind fun y190=>((spec_l20Rd_pick.f k s0_0 bt176.2 2).bind fun bt193=>(if 0≤bt193.1 then (if bt193.1<(y190.length:Int) then (some (wrap64 (1+bt151.1),wrap64 (1+bt153.1),rd y190 bt193.1,rd y165 bt168.1,wrap64 (1+bt171.1),bt193.2)) else (none)) else (none)))) else (if bt176.1=3 then ((some (([0,25]:List Int):List Int)).bind fun y196=>((spec_l20Rd_pick.f k s0_0 bt176.2 2).bind fun bt199=>(if 0≤bt199.1 then (if bt199.1<(y196.length:Int) then (some (wrap64 (1+bt151.1),wrap64 (1+bt153.1),rd y157 bt160.1,rd y196 bt199.1,wrap64 (1+bt171.1),bt199.2)) else (none)) else (none)))) else ((some (([0,6]:List Int):List Int)).bind fun y202=>((spec_l20Rd_pick.f k s0_0 bt176.2 2).bind fun bt205=>(if 0≤bt205.1 then (if bt205.1<(y202.length:Int) then (some (wrap64 (1+bt151.1),wrap64 (1+bt153.1),rd y157 bt160.1,rd y165 bt168.1,rd y202 bt205.1,bt205.2)) else (none)) else (none))))))))) else (some (wrap64 (1+bt151.1),wrap64 (1+bt153.1),rd y157 bt160.1,rd y165 bt168.1,wrap64 (1+bt171.1),bt174.2))))) else (none)) else (none))))) else (none)) else (none)))))))=some (r1,r2,r3,r4,r5,r6):=h
 clear h
 replace H:=Option.bind_eq_some_iff.mp H
 obtain ⟨⟨t151,t152⟩,Cj,H⟩:=H
 replace H:((spec_l20Rd_pick.f k s0_0 t152 4).bind fun bt153=>((spec_l20Rd_pick.f k s0_0 bt153.2 8).bind fun bt155=>((some (([wrap64 (1+bt155.1),3,8]:List Int):List Int)).bind fun y157=>((spec_l20Rd_pick.f k s0_0 bt155.2 3).bind fun bt160=>(if 0≤bt160.1 then (if bt160.1<(y157.length:Int) then ((spec_l20Rd_pick.f k s0_0 bt160.2 24).bind fun bt163=>((some (([24,wrap64 (1+bt163.1)]:List Int):List Int)).bind fun y165=>((spec_l20Rd_pick.f k s0_0 bt163.2 2).bind fun bt168=>(if 0≤bt168.1 then (if bt168.1<(y165.length:Int) then ((spec_l20Rd_pick.f k s0_0 bt168.2 5).bind fun bt171=>((spec_l20Rd_odd.f k s0_0 bt171.2 a1).bind fun bt174=>(if bt174.1=true then ((spec_l20Rd_pick.f k s0_0 bt174.2 5).bind fun bt176=>(if bt176.1=0 then ((some (([0,3]:List Int):List Int)).bind fun y178=>((spec_l20Rd_pick.f k s0_0 bt176.2 2).bind fun bt181=>(if 0≤bt181.1 then (if bt181.1<(y178.length:Int) then (some (rd y178 bt181.1,wrap64 (1+bt153.1),rd y157 bt160.1,rd y165 bt168.1,wrap64 (1+bt171.1),bt181.2)) else (none)) else (none)))) else (if bt176.1=1 then ((some (([0,5]:List Int):List Int)).bind fun y184=>((spec_l20Rd_pick.f k s0_0 bt176.2 2).bind fun bt187=>(if 0≤bt187.1 then (if bt187.1<(y184.length:Int) then (some (wrap64 (1+t151),rd y184 bt187.1,rd y157 bt160.1,rd y165 bt168.1,wrap64 (1+bt171.1),bt187.2)) else (none)) else (none)))) else (if bt176.1=2 then ((some (([0,9]:List Int):List Int)).bind fun y190=>((spec_l20Rd_pick.f k s0_0 bt176.2 2).bind fun bt193=>(if 0≤bt193.1 then (if bt193.1<(y190.length:Int) then (some (wrap64 (1+t151),wrap64 (1+bt153.1),rd y190 bt193.1,rd y165 bt168.1,wrap64 (1+bt171.1),bt193.2)) else (none)) else (none)))) else (if bt176.1=3 then ((some (([0,25]:List Int):List Int)).bind fun y196=>((spec_l20Rd_pick.f k s0_0 bt176.2 2).bind fun bt199=>(if 0≤bt199.1 then (if bt199.1<(y196.length:Int) then (some (wrap64 (1+t151),wrap64 (1+bt153.1),rd y157 bt160.1,rd y196 bt199.1,wrap64 (1+bt171.1),bt199.2)) else (none)) else (none)))) else ((some (([0,6]:List Int):List Int)).bind fun y202=>((spec_l20Rd_pick.f k s0_0 bt176.2 2).bind fun bt205=>(if 0≤bt205.1 then (if bt205.1<(y202.length:Int) then (some (wrap64 (1+t151),wrap64 (1+bt153.1),rd y157 bt160.1,rd y165 bt168.1,rd y202 bt205.1,bt205.2)) else (none)) else (none))))))))) else (some (wrap64 (1+t151),wrap64 (1+bt153.1),rd y157 bt160.1,rd y165 bt168.1,wrap64 (1+bt171.1),bt174.2))))) else (none)) else (none))))) else (none)) else (none))))))=some (r1,r2,r3,r4,r5,r6):=H
 have A3:=Aside0.mk Cj
 clear Cj
 replace H:=Option.bind_eq_some_iff.mp H
 obtain ⟨⟨t153,t154⟩,Ck,H⟩:=H
 replace H:((spec_l20Rd_pick.f k s0_0 t154 8).bind fun bt155=>((some (([wrap64 (1+bt155.1),3,8]:List Int):List Int)).bind fun y157=>((spec_l20Rd_pick.f k s0_0 bt155.2 3).bind fun bt160=>(if 0≤bt160.1 then (if bt160.1<(y157.length:Int) then ((spec_l20Rd_pick.f k s0_0 bt160.2 24).bind fun bt163=>((some (([24,wrap64 (1+bt163.1)]:List Int):List Int)).bind fun y165=>((spec_l20Rd_pick.f k s0_0 bt163.2 2).bind fun bt168=>(if 0≤bt168.1 then (if bt168.1<(y165.length:Int) then ((spec_l20Rd_pick.f k s0_0 bt168.2 5).bind fun bt171=>((spec_l20Rd_odd.f k s0_0 bt171.2 a1).bind fun bt174=>(if bt174.1=true then ((spec_l20Rd_pick.f k s0_0 bt174.2 5).bind fun bt176=>(if bt176.1=0 then ((some (([0,3]:List Int):List Int)).bind fun y178=>((spec_l20Rd_pick.f k s0_0 bt176.2 2).bind fun bt181=>(if 0≤bt181.1 then (if bt181.1<(y178.length:Int) then (some (rd y178 bt181.1,wrap64 (1+t153),rd y157 bt160.1,rd y165 bt168.1,wrap64 (1+bt171.1),bt181.2)) else (none)) else (none)))) else (if bt176.1=1 then ((some (([0,5]:List Int):List Int)).bind fun y184=>((spec_l20Rd_pick.f k s0_0 bt176.2 2).bind fun bt187=>(if 0≤bt187.1 then (if bt187.1<(y184.length:Int) then (some (wrap64 (1+t151),rd y184 bt187.1,rd y157 bt160.1,rd y165 bt168.1,wrap64 (1+bt171.1),bt187.2)) else (none)) else (none)))) else (if bt176.1=2 then ((some (([0,9]:List Int):List Int)).bind fun y190=>((spec_l20Rd_pick.f k s0_0 bt176.2 2).bind fun bt193=>(if 0≤bt193.1 then (if bt193.1<(y190.length:Int) then (some (wrap64 (1+t151),wrap64 (1+t153),rd y190 bt193.1,rd y165 bt168.1,wrap64 (1+bt171.1),bt193.2)) else (none)) else (none)))) else (if bt176.1=3 then ((some (([0,25]:List Int):List Int)).bind fun y196=>((spec_l20Rd_pick.f k s0_0 bt176.2 2).bind fun bt199=>(if 0≤bt199.1 then (if bt199.1<(y196.length:Int) then (some (wrap64 (1+t151),wrap64 (1+t153),rd y157 bt160.1,rd y196 bt199.1,wrap64 (1+bt171.1),bt199.2)) else (none)) else (none)))) else ((some (([0,6]:List Int):List Int)).bind fun y202=>((spec_l20Rd_pick.f k s0_0 bt176.2 2).bind fun bt205=>(if 0≤bt205.1 then (if bt205.1<(y202.length:Int) then (some (wrap64 (1+t151),wrap64 (1+t153),rd y157 bt160.1,rd y165 bt168.1,rd y202 bt205.1,bt205.2)) else (none)) else (none))))))))) else (some (wrap64 (1+t151),wrap64 (1+t153),rd y157 bt160.1,rd y165 bt168.1,wrap64 (1+bt171.1),bt174.2))))) else (none)) else (none))))) else (none)) else (none)))))=some (r1,r2,r3,r4,r5,r6):=H
 have A4:=Aside0.mk Ck
 clear Ck
 replace H:=Option.bind_eq_some_iff.mp H
 obtain ⟨⟨t155,t156⟩,Cl,H⟩:=H
 replace H:((some (([wrap64 (1+t155),3,8]:List Int):List Int)).bind fun y157=>((spec_l20Rd_pick.f k s0_0 t156 3).bind fun bt160=>(if 0≤bt160.1 then (if bt160.1<(y157.length:Int) then ((spec_l20Rd_pick.f k s0_0 bt160.2 24).bind fun bt163=>((some (([24,wrap64 (1+bt163.1)]:List Int):List Int)).bind fun y165=>((spec_l20Rd_pick.f k s0_0 bt163.2 2).bind fun bt168=>(if 0≤bt168.1 then (if bt168.1<(y165.length:Int) then ((spec_l20Rd_pick.f k s0_0 bt168.2 5).bind fun bt171=>((spec_l20Rd_odd.f k s0_0 bt171.2 a1).bind fun bt174=>(if bt174.1=true then ((spec_l20Rd_pick.f k s0_0 bt174.2 5).bind fun bt176=>(if bt176.1=0 then ((some (([0,3]:List Int):List Int)).bind fun y178=>((spec_l20Rd_pick.f k s0_0 bt176.2 2).bind fun bt181=>(if 0≤bt181.1 then (if bt181.1<(y178.length:Int) then (some (rd y178 bt181.1,wrap64 (1+t153),rd y157 bt160.1,rd y165 bt168.1,wrap64 (1+bt171.1),bt181.2)) else (none)) else (none)))) else (if bt176.1=1 then ((some (([0,5]:List Int):List Int)).bind fun y184=>((spec_l20Rd_pick.f k s0_0 bt176.2 2).bind fun bt187=>(if 0≤bt187.1 then (if bt187.1<(y184.length:Int) then (some (wrap64 (1+t151),rd y184 bt187.1,rd y157 bt160.1,rd y165 bt168.1,wrap64 (1+bt171.1),bt187.2)) else (none)) else (none)))) else (if bt176.1=2 then ((some (([0,9]:List Int):List Int)).bind fun y190=>((spec_l20Rd_pick.f k s0_0 bt176.2 2).bind fun bt193=>(if 0≤bt193.1 then (if bt193.1<(y190.length:Int) then (some (wrap64 (1+t151),wrap64 (1+t153),rd y190 bt193.1,rd y165 bt168.1,wrap64 (1+bt171.1),bt193.2)) else (none)) else (none)))) else (if bt176.1=3 then ((some (([0,25]:List Int):List Int)).bind fun y196=>((spec_l20Rd_pick.f k s0_0 bt176.2 2).bind fun bt199=>(if 0≤bt199.1 then (if bt199.1<(y196.length:Int) then (some (wrap64 (1+t151),wrap64 (1+t153),rd y157 bt160.1,rd y196 bt199.1,wrap64 (1+bt171.1),bt199.2)) else (none)) else (none)))) else ((some (([0,6]:List Int):List Int)).bind fun y202=>((spec_l20Rd_pick.f k s0_0 bt176.2 2).bind fun bt205=>(if 0≤bt205.1 then (if bt205.1<(y202.length:Int) then (some (wrap64 (1+t151),wrap64 (1+t153),rd y157 bt160.1,rd y165 bt168.1,rd y202 bt205.1,bt205.2)) else (none)) else (none))))))))) else (some (wrap64 (1+t151),wrap64 (1+t153),rd y157 bt160.1,rd y165 bt168.1,wrap64 (1+bt171.1),bt174.2))))) else (none)) else (none))))) else (none)) else (none))))=some (r1,r2,r3,r4,r5,r6):=H
 have A5:=Aside0.mk Cl
 clear Cl
 obtain ⟨y157,hy157⟩:∃ y_:List Int,y_=(([wrap64 (1+t155),3,8]:List Int)):=⟨_,rfl⟩
 replace H:((spec_l20Rd_pick.f k s0_0 t156 3).bind fun bt160=>(if 0≤bt160.1 then (if bt160.1<(y157.length:Int) then ((spec_l20Rd_pick.f k s0_0 bt160.2 24).bind fun bt163=>((some (([24,wrap64 (1+bt163.1)]:List Int):List Int)).bind fun y165=>((spec_l20Rd_pick.f k s0_0 bt163.2 2).bind fun bt168=>(if 0≤bt168.1 then (if bt168.1<(y165.length:Int) then ((spec_l20Rd_pick.f k s0_0 bt168.2 5).bind fun bt171=>((spec_l20Rd_odd.f k s0_0 bt171.2 a1).bind fun bt174=>(if bt174.1=true then ((spec_l20Rd_pick.f k s0_0 bt174.2 5).bind fun bt176=>(if bt176.1=0 then ((some (([0,3]:List Int):List Int)).bind fun y178=>((spec_l20Rd_pick.f k s0_0 bt176.2 2).bind fun bt181=>(if 0≤bt181.1 then (if bt181.1<(y178.length:Int) then (some (rd y178 bt181.1,wrap64 (1+t153),rd y157 bt160.1,rd y165 bt168.1,wrap64 (1+bt171.1),bt181.2)) else (none)) else (none)))) else (if bt176.1=1 then ((some (([0,5]:List Int):List Int)).bind fun y184=>((spec_l20Rd_pick.f k s0_0 bt176.2 2).bind fun bt187=>(if 0≤bt187.1 then (if bt187.1<(y184.length:Int) then (some (wrap64 (1+t151),rd y184 bt187.1,rd y157 bt160.1,rd y165 bt168.1,wrap64 (1+bt171.1),bt187.2)) else (none)) else (none)))) else (if bt176.1=2 then ((some (([0,9]:List Int):List Int)).bind fun y190=>((spec_l20Rd_pick.f k s0_0 bt176.2 2).bind fun bt193=>(if 0≤bt193.1 then (if bt193.1<(y190.length:Int) then (some (wrap64 (1+t151),wrap64 (1+t153),rd y190 bt193.1,rd y165 bt168.1,wrap64 (1+bt171.1),bt193.2)) else (none)) else (none)))) else (if bt176.1=3 then ((some (([0,25]:List Int):List Int)).bind fun y196=>((spec_l20Rd_pick.f k s0_0 bt176.2 2).bind fun bt199=>(if 0≤bt199.1 then (if bt199.1<(y196.length:Int) then (some (wrap64 (1+t151),wrap64 (1+t153),rd y157 bt160.1,rd y196 bt199.1,wrap64 (1+bt171.1),bt199.2)) else (none)) else (none)))) else ((some (([0,6]:List Int):List Int)).bind fun y202=>((spec_l20Rd_pick.f k s0_0 bt176.2 2).bind fun bt205=>(if 0≤bt205.1 then (if bt205.1<(y202.length:Int) then (some (wrap64 (1+t151),wrap64 (1+t153),rd y157 bt160.1,rd y165 bt168.1,rd y202 bt205.1,bt205.2)) else (none)) else (none))))))))) else (some (wrap64 (1+t151),wrap64 (1+t153),rd y157 bt160.1,rd y165 bt168.1,wrap64 (1+bt171.1),bt174.2))))) else (none)) else (none))))) else (none)) else (none)))=some (r1,r2,r3,r4,r5,r6):=by first|(rw [hy157];with_reducible exact H)|(have H2_:=(Option.bind_some _ _).symm.trans H;rw [hy157];with_reducible exact H2_)|(have H2_:=(Option.bind_some _ _).symm.trans H;with_reducible exact H2_)|with_reducible exact H|(rw [hy157];exact H)|exact H
 have Ny157:=Aside0.mk hy157
 clear hy157
 replace H:=Option.bind_eq_some_iff.mp H
 obtain ⟨⟨t160,t161⟩,Cm,H⟩:=H
 replace H:(if 0≤t160 then (if t160<(y157.length:Int) then ((spec_l20Rd_pick.f k s0_0 t161 24).bind fun bt163=>((some (([24,wrap64 (1+bt163.1)]:List Int):List Int)).bind fun y165=>((spec_l20Rd_pick.f k s0_0 bt163.2 2).bind fun bt168=>(if 0≤bt168.1 then (if bt168.1<(y165.length:Int) then ((spec_l20Rd_pick.f k s0_0 bt168.2 5).bind fun bt171=>((spec_l20Rd_odd.f k s0_0 bt171.2 a1).bind fun bt174=>(if bt174.1=true then ((spec_l20Rd_pick.f k s0_0 bt174.2 5).bind fun bt176=>(if bt176.1=0 then ((some (([0,3]:List Int):List Int)).bind fun y178=>((spec_l20Rd_pick.f k s0_0 bt176.2 2).bind fun bt181=>(if 0≤bt181.1 then (if bt181.1<(y178.length:Int) then (some (rd y178 bt181.1,wrap64 (1+t153),rd y157 t160,rd y165 bt168.1,wrap64 (1+bt171.1),bt181.2)) else (none)) else (none)))) else (if bt176.1=1 then ((some (([0,5]:List Int):List Int)).bind fun y184=>((spec_l20Rd_pick.f k s0_0 bt176.2 2).bind fun bt187=>(if 0≤bt187.1 then (if bt187.1<(y184.length:Int) then (some (wrap64 (1+t151),rd y184 bt187.1,rd y157 t160,rd y165 bt168.1,wrap64 (1+bt171.1),bt187.2)) else (none)) else (none)))) else (if bt176.1=2 then ((some (([0,9]:List Int):List Int)).bind fun y190=>((spec_l20Rd_pick.f k s0_0 bt176.2 2).bind fun bt193=>(if 0≤bt193.1 then (if bt193.1<(y190.length:Int) then (some (wrap64 (1+t151),wrap64 (1+t153),rd y190 bt193.1,rd y165 bt168.1,wrap64 (1+bt171.1),bt193.2)) else (none)) else (none)))) else (if bt176.1=3 then ((some (([0,25]:List Int):List Int)).bind fun y196=>((spec_l20Rd_pick.f k s0_0 bt176.2 2).bind fun bt199=>(if 0≤bt199.1 then (if bt199.1<(y196.length:Int) then (some (wrap64 (1+t151),wrap64 (1+t153),rd y157 t160,rd y196 bt199.1,wrap64 (1+bt171.1),bt199.2)) else (none)) else (none)))) else ((some (([0,6]:List Int):List Int)).bind fun y202=>((spec_l20Rd_pick.f k s0_0 bt176.2 2).bind fun bt205=>(if 0≤bt205.1 then (if bt205.1<(y202.length:Int) then (some (wrap64 (1+t151),wrap64 (1+t153),rd y157 t160,rd y165 bt168.1,rd y202 bt205.1,bt205.2)) else (none)) else (none))))))))) else (some (wrap64 (1+t151),wrap64 (1+t153),rd y157 t160,rd y165 bt168.1,wrap64 (1+bt171.1),bt174.2))))) else (none)) else (none))))) else (none)) else (none))=some (r1,r2,r3,r4,r5,r6):=H
 have A6:=Aside0.mk Cm
 clear Cm
 by_cases c7:0≤t160
 rotate_left
 ·rw [if_neg c7] at H
  exact absurd H (by simp)
 rw [if_pos c7] at H
 have c7b0:decide (0≤t160)=true:=decide_eq_true c7
 clear c7
 by_cases c8:t160<(y157.length:Int)
 rotate_left
 ·rw [if_neg c8] at H
  exact absurd H (by simp)
 rw [if_pos c8] at H
 have c8b0:decide (t160<(y157.length:Int))=true:=decide_eq_true c8
 clear c8
 replace H:=Option.bind_eq_some_iff.mp H
 obtain ⟨⟨t163,t164⟩,Cn,H⟩:=H
 replace H:((some (([24,wrap64 (1+t163)]:List Int):List Int)).bind fun y165=>((spec_l20Rd_pick.f k s0_0 t164 2).bind fun bt168=>(if 0≤bt168.1 then (if bt168.1<(y165.length:Int) then ((spec_l20Rd_pick.f k s0_0 bt168.2 5).bind fun bt171=>((spec_l20Rd_odd.f k s0_0 bt171.2 a1).bind fun bt174=>(if bt174.1=true then ((spec_l20Rd_pick.f k s0_0 bt174.2 5).bind fun bt176=>(if bt176.1=0 then ((some (([0,3]:List Int):List Int)).bind fun y178=>((spec_l20Rd_pick.f k s0_0 bt176.2 2).bind fun bt181=>(if 0≤bt181.1 then (if bt181.1<(y178.length:Int) then (some (rd y178 bt181.1,wrap64 (1+t153),rd y157 t160,rd y165 bt168.1,wrap64 (1+bt171.1),bt181.2)) else (none)) else (none)))) else (if bt176.1=1 then ((some (([0,5]:List Int):List Int)).bind fun y184=>((spec_l20Rd_pick.f k s0_0 bt176.2 2).bind fun bt187=>(if 0≤bt187.1 then (if bt187.1<(y184.length:Int) then (some (wrap64 (1+t151),rd y184 bt187.1,rd y157 t160,rd y165 bt168.1,wrap64 (1+bt171.1),bt187.2)) else (none)) else (none)))) else (if bt176.1=2 then ((some (([0,9]:List Int):List Int)).bind fun y190=>((spec_l20Rd_pick.f k s0_0 bt176.2 2).bind fun bt193=>(if 0≤bt193.1 then (if bt193.1<(y190.length:Int) then (some (wrap64 (1+t151),wrap64 (1+t153),rd y190 bt193.1,rd y165 bt168.1,wrap64 (1+bt171.1),bt193.2)) else (none)) else (none)))) else (if bt176.1=3 then ((some (([0,25]:List Int):List Int)).bind fun y196=>((spec_l20Rd_pick.f k s0_0 bt176.2 2).bind fun bt199=>(if 0≤bt199.1 then (if bt199.1<(y196.length:Int) then (some (wrap64 (1+t151),wrap64 (1+t153),rd y157 t160,rd y196 bt199.1,wrap64 (1+bt171.1),bt199.2)) else (none)) else (none)))) else ((some (([0,6]:List Int):List Int)).bind fun y202=>((spec_l20Rd_pick.f k s0_0 bt176.2 2).bind fun bt205=>(if 0≤bt205.1 then (if bt205.1<(y202.length:Int) then (some (wrap64 (1+t151),wrap64 (1+t153),rd y157 t160,rd y165 bt168.1,rd y202 bt205.1,bt205.2)) else (none)) else (none))))))))) else (some (wrap64 (1+t151),wrap64 (1+t153),rd y157 t160,rd y165 bt168.1,wrap64 (1+bt171.1),bt174.2))))) else (none)) else (none))))=some (r1,r2,r3,r4,r5,r6):=H
 have A9:=Aside0.mk Cn
 clear Cn
 obtain ⟨y165,hy165⟩:∃ y_:List Int,y_=(([24,wrap64 (1+t163)]:List Int)):=⟨_,rfl⟩
 replace H:((spec_l20Rd_pick.f k s0_0 t164 2).bind fun bt168=>(if 0≤bt168.1 then (if bt168.1<(y165.length:Int) then ((spec_l20Rd_pick.f k s0_0 bt168.2 5).bind fun bt171=>((spec_l20Rd_odd.f k s0_0 bt171.2 a1).bind fun bt174=>(if bt174.1=true then ((spec_l20Rd_pick.f k s0_0 bt174.2 5).bind fun bt176=>(if bt176.1=0 then ((some (([0,3]:List Int):List Int)).bind fun y178=>((spec_l20Rd_pick.f k s0_0 bt176.2 2).bind fun bt181=>(if 0≤bt181.1 then (if bt181.1<(y178.length:Int) then (some (rd y178 bt181.1,wrap64 (1+t153),rd y157 t160,rd y165 bt168.1,wrap64 (1+bt171.1),bt181.2)) else (none)) else (none)))) else (if bt176.1=1 then ((some (([0,5]:List Int):List Int)).bind fun y184=>((spec_l20Rd_pick.f k s0_0 bt176.2 2).bind fun bt187=>(if 0≤bt187.1 then (if bt187.1<(y184.length:Int) then (some (wrap64 (1+t151),rd y184 bt187.1,rd y157 t160,rd y165 bt168.1,wrap64 (1+bt171.1),bt187.2)) else (none)) else (none)))) else (if bt176.1=2 then ((some (([0,9]:List Int):List Int)).bind fun y190=>((spec_l20Rd_pick.f k s0_0 bt176.2 2).bind fun bt193=>(if 0≤bt193.1 then (if bt193.1<(y190.length:Int) then (some (wrap64 (1+t151),wrap64 (1+t153),rd y190 bt193.1,rd y165 bt168.1,wrap64 (1+bt171.1),bt193.2)) else (none)) else (none)))) else (if bt176.1=3 then ((some (([0,25]:List Int):List Int)).bind fun y196=>((spec_l20Rd_pick.f k s0_0 bt176.2 2).bind fun bt199=>(if 0≤bt199.1 then (if bt199.1<(y196.length:Int) then (some (wrap64 (1+t151),wrap64 (1+t153),rd y157 t160,rd y196 bt199.1,wrap64 (1+bt171.1),bt199.2)) else (none)) else (none)))) else ((some (([0,6]:List Int):List Int)).bind fun y202=>((spec_l20Rd_pick.f k s0_0 bt176.2 2).bind fun bt205=>(if 0≤bt205.1 then (if bt205.1<(y202.length:Int) then (some (wrap64 (1+t151),wrap64 (1+t153),rd y157 t160,rd y165 bt168.1,rd y202 bt205.1,bt205.2)) else (none)) else (none))))))))) else (some (wrap64 (1+t151),wrap64 (1+t153),rd y157 t160,rd y165 bt168.1,wrap64 (1+bt171.1),bt174.2))))) else (none)) else (none)))=some (r1,r2,r3,r4,r5,r6):=by first|(rw [hy165];with_reducible exact H)|(have H2_:=(Option.bind_some _ _).symm.trans H;rw [hy165];with_reducible exact H2_)|(have H2_:=(Option.bind_some _ _).symm.trans H;with_reducible exact H2_)|with_reducible exact H|(rw [hy165];exact H)|exact H
 have Ny165:=Aside0.mk hy165
 clear hy165
 replace H:=Option.bind_eq_some_iff.mp H
 obtain ⟨⟨t168,t169⟩,Ca,H⟩:=H
 replace H:(if 0≤t168 then (if t168<(y165.length:Int) then ((spec_l20Rd_pick.f k s0_0 t169 5).bind fun bt171=>((spec_l20Rd_odd.f k s0_0 bt171.2 a1).bind fun bt174=>(if bt174.1=true then ((spec_l20Rd_pick.f k s0_0 bt174.2 5).bind fun bt176=>(if bt176.1=0 then ((some (([0,3]:List Int):List Int)).bind fun y178=>((spec_l20Rd_pick.f k s0_0 bt176.2 2).bind fun bt181=>(if 0≤bt181.1 then (if bt181.1<(y178.length:Int) then (some (rd y178 bt181.1,wrap64 (1+t153),rd y157 t160,rd y165 t168,wrap64 (1+bt171.1),bt181.2)) else (none)) else (none)))) else (if bt176.1=1 then ((some (([0,5]:List Int):List Int)).bind fun y184=>((spec_l20Rd_pick.f k s0_0 bt176.2 2).bind fun bt187=>(if 0≤bt187.1 then (if bt187.1<(y184.length:Int) then (some (wrap64 (1+t151),rd y184 bt187.1,rd y157 t160,rd y165 t168,wrap64 (1+bt171.1),bt187.2)) else (none)) else (none)))) else (if bt176.1=2 then ((some (([0,9]:List Int):List Int)).bind fun y190=>((spec_l20Rd_pick.f k s0_0 bt176.2 2).bind fun bt193=>(if 0≤bt193.1 then (if bt193.1<(y190.length:Int) then (some (wrap64 (1+t151),wrap64 (1+t153),rd y190 bt193.1,rd y165 t168,wrap64 (1+bt171.1),bt193.2)) else (none)) else (none)))) else (if bt176.1=3 then ((some (([0,25]:List Int):List Int)).bind fun y196=>((spec_l20Rd_pick.f k s0_0 bt176.2 2).bind fun bt199=>(if 0≤bt199.1 then (if bt199.1<(y196.length:Int) then (some (wrap64 (1+t151),wrap64 (1+t153),rd y157 t160,rd y196 bt199.1,wrap64 (1+bt171.1),bt199.2)) else (none)) else (none)))) else ((some (([0,6]:List Int):List Int)).bind fun y202=>((spec_l20Rd_pick.f k s0_0 bt176.2 2).bind fun bt205=>(if 0≤bt205.1 then (if bt205.1<(y202.length:Int) then (some (wrap64 (1+t151),wrap64 (1+t153),rd y157 t160,rd y165 t168,rd y202 bt205.1,bt205.2)) else (none)) else (none))))))))) else (some (wrap64 (1+t151),wrap64 (1+t153),rd y157 t160,rd y165 t168,wrap64 (1+bt171.1),bt174.2))))) else (none)) else (none))=some (r1,r2,r3,r4,r5,r6):=H
 have F5:=Aside0.mk Ca
 clear Ca
 by_cases c11:0≤t168
 rotate_left
 ·rw [if_neg c11] at H
  exact absurd H (by simp)
 rw [if_pos c11] at H
 have c11b0:decide (0≤t168)=true:=decide_eq_true c11
 clear c11
 by_cases c12:t168<(y165.length:Int)
 rotate_left
 ·rw [if_neg c12] at H
  exact absurd H (by simp)
 rw [if_pos c12] at H
 have c12b0:decide (t168<(y165.length:Int))=true:=decide_eq_true c12
 clear c12
 replace H:=Option.bind_eq_some_iff.mp H
 obtain ⟨⟨t171,t172⟩,Cb,H⟩:=H
 replace H:((spec_l20Rd_odd.f k s0_0 t172 a1).bind fun bt174=>(if bt174.1=true then ((spec_l20Rd_pick.f k s0_0 bt174.2 5).bind fun bt176=>(if bt176.1=0 then ((some (([0,3]:List Int):List Int)).bind fun y178=>((spec_l20Rd_pick.f k s0_0 bt176.2 2).bind fun bt181=>(if 0≤bt181.1 then (if bt181.1<(y178.length:Int) then (some (rd y178 bt181.1,wrap64 (1+t153),rd y157 t160,rd y165 t168,wrap64 (1+t171),bt181.2)) else (none)) else (none)))) else (if bt176.1=1 then ((some (([0,5]:List Int):List Int)).bind fun y184=>((spec_l20Rd_pick.f k s0_0 bt176.2 2).bind fun bt187=>(if 0≤bt187.1 then (if bt187.1<(y184.length:Int) then (some (wrap64 (1+t151),rd y184 bt187.1,rd y157 t160,rd y165 t168,wrap64 (1+t171),bt187.2)) else (none)) else (none)))) else (if bt176.1=2 then ((some (([0,9]:List Int):List Int)).bind fun y190=>((spec_l20Rd_pick.f k s0_0 bt176.2 2).bind fun bt193=>(if 0≤bt193.1 then (if bt193.1<(y190.length:Int) then (some (wrap64 (1+t151),wrap64 (1+t153),rd y190 bt193.1,rd y165 t168,wrap64 (1+t171),bt193.2)) else (none)) else (none)))) else (if bt176.1=3 then ((some (([0,25]:List Int):List Int)).bind fun y196=>((spec_l20Rd_pick.f k s0_0 bt176.2 2).bind fun bt199=>(if 0≤bt199.1 then (if bt199.1<(y196.length:Int) then (some (wrap64 (1+t151),wrap64 (1+t153),rd y157 t160,rd y196 bt199.1,wrap64 (1+t171),bt199.2)) else (none)) else (none)))) else ((some (([0,6]:List Int):List Int)).bind fun y202=>((spec_l20Rd_pick.f k s0_0 bt176.2 2).bind fun bt205=>(if 0≤bt205.1 then (if bt205.1<(y202.length:Int) then (some (wrap64 (1+t151),wrap64 (1+t153),rd y157 t160,rd y165 t168,rd y202 bt205.1,bt205.2)) else (none)) else (none))))))))) else (some (wrap64 (1+t151),wrap64 (1+t153),rd y157 t160,rd y165 t168,wrap64 (1+t171),bt174.2))))=some (r1,r2,r3,r4,r5,r6):=H
 have F6:=Aside0.mk Cb
 clear Cb
 replace H:=Option.bind_eq_some_iff.mp H
 obtain ⟨⟨t174,t175⟩,Cc,H⟩:=H
 replace H:(if t174=true then ((spec_l20Rd_pick.f k s0_0 t175 5).bind fun bt176=>(if bt176.1=0 then ((some (([0,3]:List Int):List Int)).bind fun y178=>((spec_l20Rd_pick.f k s0_0 bt176.2 2).bind fun bt181=>(if 0≤bt181.1 then (if bt181.1<(y178.length:Int) then (some (rd y178 bt181.1,wrap64 (1+t153),rd y157 t160,rd y165 t168,wrap64 (1+t171),bt181.2)) else (none)) else (none)))) else (if bt176.1=1 then ((some (([0,5]:List Int):List Int)).bind fun y184=>((spec_l20Rd_pick.f k s0_0 bt176.2 2).bind fun bt187=>(if 0≤bt187.1 then (if bt187.1<(y184.length:Int) then (some (wrap64 (1+t151),rd y184 bt187.1,rd y157 t160,rd y165 t168,wrap64 (1+t171),bt187.2)) else (none)) else (none)))) else (if bt176.1=2 then ((some (([0,9]:List Int):List Int)).bind fun y190=>((spec_l20Rd_pick.f k s0_0 bt176.2 2).bind fun bt193=>(if 0≤bt193.1 then (if bt193.1<(y190.length:Int) then (some (wrap64 (1+t151),wrap64 (1+t153),rd y190 bt193.1,rd y165 t168,wrap64 (1+t171),bt193.2)) else (none)) else (none)))) else (if bt176.1=3 then ((some (([0,25]:List Int):List Int)).bind fun y196=>((spec_l20Rd_pick.f k s0_0 bt176.2 2).bind fun bt199=>(if 0≤bt199.1 then (if bt199.1<(y196.length:Int) then (some (wrap64 (1+t151),wrap64 (1+t153),rd y157 t160,rd y196 bt199.1,wrap64 (1+t171),bt199.2)) else (none)) else (none)))) else ((some (([0,6]:List Int):List Int)).bind fun y202=>((spec_l20Rd_pick.f k s0_0 bt176.2 2).bind fun bt205=>(if 0≤bt205.1 then (if bt205.1<(y202.length:Int) then (some (wrap64 (1+t151),wrap64 (1+t153),rd y157 t160,rd y165 t168,rd y202 bt205.1,bt205.2)) else (none)) else (none))))))))) else (some (wrap64 (1+t151),wrap64 (1+t153),rd y157 t160,rd y165 t168,wrap64 (1+t171),t175)))=some (r1,r2,r3,r4,r5,r6):=H
 have B3:=Aside0.mk Cc
 clear Cc
 have HH:=Aside0.mk H
 clear H
 go_enter Try.func90,Try.ntmps90
 try go_wp2_with (first|((with_reducible refine gate_dst (N:=4) rfl ?_);refine box_event ?hg (N:=4) ?hd (cs:=#[.int .i64 0,.int .i64 0,.int .i64 0,.int .i64 0,.int .i64 0]) (t:=66) ?hr ?_;(case hd=>rfl);(case hg=>rfl);(case hr=>first|(go_simp;done)|(go_simp;rfl));intro gb150 hg Co hbox hb;have n0_:=Aside0.mk (IsS113.below (yu2 HI0.out) hb);have n1_:=Aside0.mk (KeepBut.trans (yu5 HK.out) (KeepBut.of_below hb g none) (.inl rfl));have n2_:=Aside0.mk (below_step (yu6 HB.out HI0.out) hb);have n3_:=Aside0.mk (hbox);have n4_:=Aside0.mk ((by rw [hg];exact (keep_size (w:=w) (g:=g) (row:=none) (yu5 HK.out)):w.heap.size≤gb150));have n5_:=Aside0.mk ((Nat.le_trans HW0.out (by rw [hg];exact (keep_size (w:=w) (g:=g) (row:=none) (yu5 HK.out)):w.heap.size≤gb150):w0.heap.size≤gb150));have n6_:=Aside0.mk ((by rw [hg];exact Nat.ne_of_lt (IsS113.lt (show IsS113 w0 _ g s0_0 s0_1 from by exact yu2 HI0.out)):g≠gb150));have n7_:=Aside0.mk ((by rw [hg];exact Nat.ne_of_gt (IsS113.lt (show IsS113 w0 _ g s0_0 s0_1 from by exact yu2 HI0.out)):gb150≠g));clear HI0;clear HK;clear HB;have HI0:=n0_;have HK:=n1_;have HB:=n2_;have Aa:=n3_;have Gz:=n4_;have G0:=n5_;have Bb:=n6_;have A8:=n7_;clear n0_ n1_ n2_ n3_ n4_ n5_ n6_ n7_;clear hb hbox hg))
 have pi162:(0≤(t160:Int))=True:=eq_true (of_decide_eq_true (by first|(with_reducible assumption)|assumption))
 have qi162:(t160<(y157.length:Int))=True:=eq_true (of_decide_eq_true (by first|(with_reducible assumption)|assumption))
 have pi170:(0≤(t168:Int))=True:=eq_true (of_decide_eq_true (by first|(with_reducible assumption)|assumption))
 have qi170:(t168<(y165.length:Int))=True:=eq_true (of_decide_eq_true (by first|(with_reducible assumption)|assumption))
 have n0_:=Aside0.mk (blk_drew Aa.out)
 have n1_:=Aside0.mk (IsS113.drew HI0.out)
 have n2_:=Aside0.mk (keep_drew HK.out)
 have n3_:=Aside0.mk (below_drew1 HB.out)
 clear Aa
 clear HI0
 clear HK
 clear HB
 have Aa:=n0_
 have HI0:=n1_
 have HK:=n2_
 have HB:=n3_
 clear n0_ n1_ n2_ n3_
 refine start_ (n:=28) (S:=fun w'=>True) (ds:=[]) #[false,false,false,false,false,false,false,false,false,false,false,false,false,false,false,false,false,false,false,false,false,false,false,false,false,false,false,false] (by kernel_rfl) rfl rfl trivial (fun hHeld=>?_);refine with_tabW spec_l20Cfg.tab1 spec_l20Cfg.bits1 (fun HT_ HW_=>?_)
 generalize Co.drew=Hd at Aa HI0 HK HB hHeld ⊢
 refine pure_ (i:=0) (N:=some 6) (v:=?_) (a':=?_) #[true,false,false,false,false,false,false,false,false,false,false,false,false,false,false,false,false,false,false,false,false,false,false,false,false,false,false,false] rfl rfl (any_of HT_.out (by kernel_rfl)) (fun _ _ _ h=>h) (Or.inl ⟨by rfl,?_⟩) ?_ ?_
 rotate_left
 ·intro w'
  go_simp
  with_reducible rfl
 rotate_left
 ·simp only [Act.put,List.setIfInBounds_toArray,List.set_cons_zero,List.set_cons_succ,i64_w,i32_w]
  rfl
 refine pure_ (i:=3) (N:=some 9) (v:=?_) (a':=?_) #[true,false,false,true,false,false,false,false,false,false,false,false,false,false,false,false,false,false,false,false,false,false,false,false,false,false,false,false] rfl rfl (any_of HT_.out (by kernel_rfl)) (fun _ _ _ h=>h) (Or.inl ⟨by rfl,?_⟩) ?_ ?_
 rotate_left
 ·intro w'
  go_simp
  with_reducible rfl
 rotate_left
 ·simp only [Act.put,List.setIfInBounds_toArray,List.set_cons_zero,List.set_cons_succ,i64_w,i32_w]
  rfl
 refine pure_ (i:=6) (N:=some 12) (v:=?_) (a':=?_) #[true,false,false,true,false,false,true,false,false,false,false,false,false,false,false,false,false,false,false,false,false,false,false,false,false,false,false,false] rfl rfl (any_of HT_.out (by kernel_rfl)) (fun _ _ _ h=>h) (Or.inl ⟨by rfl,?_⟩) ?_ ?_
 rotate_left
 ·intro w'
  go_simp
  with_reducible rfl
 rotate_left
 ·simp only [Act.put,List.setIfInBounds_toArray,List.set_cons_zero,List.set_cons_succ,i64_w,i32_w]
  rfl
 refine pure_ (i:=10) (N:=some 16) (v:=?_) (a':=?_) #[true,false,false,true,false,false,true,false,false,false,true,false,false,false,false,false,false,false,false,false,false,false,false,false,false,false,false,false] rfl rfl (any_of HT_.out (by kernel_rfl)) (fun _ _ _ h=>h) (Or.inl ⟨by rfl,?_⟩) ?_ ?_
 rotate_left
 ·intro w'
  go_simp
  with_reducible rfl
 rotate_left
 ·simp only [Act.put,List.setIfInBounds_toArray,List.set_cons_zero,List.set_cons_succ,i64_w,i32_w]
  rfl
 refine pure_ (i:=14) (N:=some 20) (v:=?_) (a':=?_) #[true,false,false,true,false,false,true,false,false,false,true,false,false,false,true,false,false,false,false,false,false,false,false,false,false,false,false,false] rfl rfl (any_of HT_.out (by kernel_rfl)) (fun _ _ _ h=>h) (Or.inl ⟨by rfl,?_⟩) ?_ ?_
 rotate_left
 ·intro w'
  go_simp
  with_reducible rfl
 rotate_left
 ·simp only [Act.put,List.setIfInBounds_toArray,List.set_cons_zero,List.set_cons_succ,i64_w,i32_w]
  rfl
 refine pure_ (i:=18) (N:=some 24) (v:=?_) (a':=?_) #[true,false,false,true,false,false,true,false,false,false,true,false,false,false,true,false,false,false,true,false,false,false,false,false,false,false,false,false] rfl rfl (any_of HT_.out (by kernel_rfl)) (fun _ _ _ h=>h) (Or.inl ⟨by rfl,?_⟩) ?_ ?_
 rotate_left
 ·intro w'
  go_simp
  with_reducible rfl
 rotate_left
 ·simp only [Act.put,List.setIfInBounds_toArray,List.set_cons_zero,List.set_cons_succ,i64_w,i32_w]
  rfl
 refine pure_ (i:=22) (N:=some 28) (v:=?_) (a':=?_) #[true,false,false,true,false,false,true,false,false,false,true,false,false,false,true,false,false,false,true,false,false,false,true,false,false,false,false,false] rfl rfl (any_of HT_.out (by kernel_rfl)) (fun _ _ _ h=>h) (Or.inl ⟨by rfl,?_⟩) ?_ ?_
 rotate_left
 ·intro w'
  go_simp
  with_reducible rfl
 rotate_left
 ·simp only [Act.put,List.setIfInBounds_toArray,List.set_cons_zero,List.set_cons_succ,i64_w,i32_w]
  rfl
 refine inv_at [1,2,4,5,7,8,9,11,12,13,15,16,17,19,20,21,23,24,25,26,27] (fun a0_ b a w'=>∃ (v158:Value) (adz_v158:Addr) (v166:Value) (adz_v166:Addr) (gb173:Nat) (m12_:Value) (m20_:Value) (m26_:Value),a=putSel a0_ b [(1,7,.int .i64 t151),(2,8,.int .i64 (wrap64 (1+t151))),(4,10,.int .i64 t153),(5,11,.int .i64 (wrap64 (1+t153))),(7,13,.int .i64 t155),(8,14,.int .i64 (wrap64 (1+t155))),(9,15,v158),(11,17,.int .i64 t160),(12,18,m12_),(13,19,.int .i64 (rd y157 t160)),(15,21,.int .i64 t163),(16,22,.int .i64 (wrap64 (1+t163))),(17,23,v166),(19,25,.int .i64 t168),(20,26,m20_),(21,27,.int .i64 (rd y165 t168)),(23,29,.int .i64 t171),(24,30,.int .i64 (wrap64 (1+t171))),(25,31,.agg #[.int .i64 (wrap64 (1+t151)),.int .i64 (wrap64 (1+t153)),.int .i64 (rd y157 t160),.int .i64 (rd y165 t168),.int .i64 (wrap64 (1+t171))]),(26,5,m26_)]∧(w'.heap[gb150]? =some (.cells #[.int .i64 0,.int .i64 0,.int .i64 0,.int .i64 0,.int .i64 0] 66 (0,0)))∧(b 1=false→IsS113 w0 w' g s0_0 s0_1)∧(KeepBut w w' g none)∧(Below w0.heap.size w0 w')∧(b 1=true→b 4=false→IsS113 w0 w' g s0_0 t152)∧(b 4=true→b 7=false→IsS113 w0 w' g s0_0 t154)∧(b 7=true→b 11=false→IsS113 w0 w' g s0_0 t156)∧(b 9=true→Kd.R (Kd.int .i64) 3 w' w.heap.size (fun _=>True) v158 y157)∧(b 9=true→∃ c_,(v158:Value)=.slice (some adz_v158) y157.length c_)∧(b 11=true→b 15=false→IsS113 w0 w' g s0_0 t161)∧(b 15=true→b 19=false→IsS113 w0 w' g s0_0 t164)∧(b 17=true→Kd.R (Kd.int .i64) 3 w' w.heap.size (fun _=>True) v166 y165)∧(b 17=true→∃ c_,(v166:Value)=.slice (some adz_v166) y165.length c_)∧(b 19=true→b 23=false→IsS113 w0 w' g s0_0 t169)∧(b 23=true→IsS113 w0 w' g s0_0 t172)∧(b 26=true→b 27=false→w'.heap[gb173]? =some (.cells #[.int .i64 0,.int .i64 0,.int .i64 0,.int .i64 0,.int .i64 0] 66 (0,0)))∧(b 26=true→w.heap.size≤gb173)∧(b 26=true→w0.heap.size≤gb173)∧(b 26=true→g≠gb173)∧(b 26=true→gb173≠g)∧(b 26=true→gb150≠gb173)∧(b 26=true→gb173≠gb150)∧(b 27=true→w'.heap[gb173]? =some (.cells #[.int .i64 (wrap64 (1+t151)),.int .i64 (wrap64 (1+t153)),.int .i64 (rd y157 t160),.int .i64 (rd y165 t168),.int .i64 (wrap64 (1+t171))] 66 (0,0)))∧(b 12=true→(m12_:Value)=.pointer (some (adz_v158.add (t160).toNat)))∧(b 20=true→(m20_:Value)=.pointer (some (adz_v166.add (t168).toNat)))∧(b 26=true→(m26_:Value)=.pointer (some ⟨gb173,0,none⟩))) HT_.out HW_.out (by kernel_rfl) (by kernel_rfl) ?_ ?_ ?_
 ·exact ⟨.bool false,⟨0,0,none⟩,.bool false,⟨0,0,none⟩,0,.bool false,.bool false,.bool false,by simp only [putSel,Bool.false_eq_true,if_false],Aa.out,fun _=>HI0.out,HK.out,HB.out,fun h_=>absurd h_ (by decide),fun h_=>absurd h_ (by decide),fun h_=>absurd h_ (by decide),fun h_=>absurd h_ (by decide),fun h_=>absurd h_ (by decide),fun h_=>absurd h_ (by decide),fun h_=>absurd h_ (by decide),fun h_=>absurd h_ (by decide),fun h_=>absurd h_ (by decide),fun h_=>absurd h_ (by decide),fun h_=>absurd h_ (by decide),fun h_=>absurd h_ (by decide),fun h_=>absurd h_ (by decide),fun h_=>absurd h_ (by decide),fun h_=>absurd h_ (by decide),fun h_=>absurd h_ (by decide),fun h_=>absurd h_ (by decide),fun h_=>absurd h_ (by decide),fun h_=>absurd h_ (by decide),fun h_=>absurd h_ (by decide),fun h_=>absurd h_ (by decide),fun h_=>absurd h_ (by decide)⟩
 ·skip
  clear Aa HB HI0 HK
  refine steps_cons ?_ ?_
  ·rintro b a w' ⟨v158,adz_v158,v166,adz_v166,gb173,m12_,m20_,m26_,ha,Al,Bd,A0,A1,A2,Az,Aw,Am,Af,At,Ao,Ap,Ag,An,Ak,As,Aq,Ar,Ah,Ae,Ac,Ad,Au,Ay,A7,Av⟩ hb_ hon hoff
   refine ⟨_,rfl,fun K hK=>?_⟩
   have e6:a.tmps[6]? =some (.pointer (some ⟨g,0,none⟩)):=by rw [ha];exact (putSel_off rfl).trans rfl
   replace ha:=Aside0.mk ha
   have Aa:=Aside0.mk Al
   have HI0:=Aside0.mk (Bd hb_)
   have HK:=Aside0.mk A0
   have HB:=Aside0.mk A1
   refine goes_ Try.func70 (by kernel_rfl) rfl #[.pointer (some ⟨g,0,none⟩),.int .i64 2] (by rfl) rfl rfl (by first|(simp only [List.map_toArray,List.map_cons,List.map_nil,Act.eval,Array.getD_eq_getD_getElem?,Option.getD_some,e6];done)|(simp only [List.map_toArray,List.map_cons,List.map_nil,Act.eval,Array.getD_eq_getD_getElem?,Option.getD_some,e6];rfl)) ?_
   with_reducible refine (spec_l20Rd_pick.calls k g s0_0 s0_1 2 t151 t152 w0 _ ?side1 ?side2 A3.out).mono ?_
   (case side1=>exact yu7 HI0.out)
   (case side2=>exact yu8 HB.out HI0.out)
   rintro e Bl ⟨rfl,hi,hb,hk⟩
   refine ⟨_,rfl,?_⟩
   have n0_:=Aside0.mk (KeepBut.blk hk (g':=gb150) (o:=.cells #[.int .i64 0,.int .i64 0,.int .i64 0,.int .i64 0,.int .i64 0] 66 (0,0)) (yv0 Aa.out) A8.out (by simp))
   have n1_:=Aside0.mk (KeepBut.trans (yu9 HK.out) hk (.inl rfl))
   have n2_:=Aside0.mk (hb)
   have n3_:=Aside0.mk (hi)
   have Be:=fun (h0_:b 26=true) (h1_:b 27=false)=>(show Bl.heap[gb173]? =some (.cells #[.int .i64 0,.int .i64 0,.int .i64 0,.int .i64 0,.int .i64 0] 66 (0,0)) from by first|exact (KeepBut.blk hk (g':=gb173) (o:=.cells #[.int .i64 0,.int .i64 0,.int .i64 0,.int .i64 0,.int .i64 0] 66 (0,0)) (by (with_reducible repeat (first|refine blk_drewN ?_ _|refine blk_drew ?_|refine blk_alloc ?_ _));exact (As h0_ h1_)) (Ae h0_) (by simp)))
   clear Aa
   clear HK
   clear HB
   clear HI0
   have Aa:=n0_
   have HK:=n1_
   have HB:=n2_
   have HI0:=n3_
   clear n0_ n1_ n2_ n3_
   (try clear hb)
   (try clear hb2)
   (try clear hk)
   (try clear hi)
   refine hK.out _ _ ⟨v158,adz_v158,v166,adz_v166,gb173,m12_,m20_,m26_,(by rw [ha.out];exact putSel_upk 0 hb_ rfl rfl rfl),(yv0 Aa.out),fun h0_=>absurd ((up_self b 1).symm.trans h0_) (by decide),(yu9 HK.out),(yu8 HB.out HI0.out),fun _ _=>(yu7 HI0.out),fun h0_ _=>nh (hoff 4 (by kernel_rfl)) h0_,fun h0_ _=>nh (hoff 7 (by kernel_rfl)) h0_,fun h0_=>nh (hoff 9 (by kernel_rfl)) h0_,fun h0_=>nh (hoff 9 (by kernel_rfl)) h0_,fun h0_ _=>nh (hoff 11 (by kernel_rfl)) h0_,fun h0_ _=>nh (hoff 15 (by kernel_rfl)) h0_,fun h0_=>nh (hoff 17 (by kernel_rfl)) h0_,fun h0_=>nh (hoff 17 (by kernel_rfl)) h0_,fun h0_ _=>nh (hoff 19 (by kernel_rfl)) h0_,fun h0_=>nh (hoff 23 (by kernel_rfl)) h0_,Be,Aq,Ar,Ah,Ae,Ac,Ad,fun h0_=>nh (hoff 27 (by kernel_rfl)) h0_,fun h0_=>nh (hoff 12 (by kernel_rfl)) h0_,fun h0_=>nh (hoff 20 (by kernel_rfl)) h0_,Av⟩
  refine steps_cons ?_ ?_
  ·rintro b a w' ⟨v158,adz_v158,v166,adz_v166,gb173,m12_,m20_,m26_,ha,Al,Bd,A0,A1,A2,Az,Aw,Am,Af,At,Ao,Ap,Ag,An,Ak,As,Aq,Ar,Ah,Ae,Ac,Ad,Au,Ay,A7,Av⟩ hb_ hon hoff
   refine ⟨_,rfl,fun K hK=>?_⟩
   have e7:a.tmps[7]? =some (.int .i64 t151):=by rw [ha];exact putSel_on (e:=(1,7,.int .i64 t151)) 0 rfl rfl (hon 1 (by kernel_rfl)) rfl
   replace ha:=Aside0.mk ha
   have Aa:=Aside0.mk Al
   have HK:=Aside0.mk A0
   have HB:=Aside0.mk A1
   refine value_ (w1:=w') (v:=.int .i64 (wrap64 (1+t151))) (by rfl) rfl ?_ ?_
   ·go_simp
    (try simp only [i64_w])
    try rfl
   refine hK.out _ _ ⟨v158,adz_v158,v166,adz_v166,gb173,m12_,m20_,m26_,(by rw [ha.out];exact putSel_upk 1 hb_ rfl rfl rfl),Al,fun h0_=>absurd ((hon 1 (by kernel_rfl)).symm.trans h0_) (by decide),A0,A1,A2,Az,Aw,Am,Af,At,Ao,Ap,Ag,An,Ak,As,Aq,Ar,Ah,Ae,Ac,Ad,fun h0_=>nh (hoff 27 (by kernel_rfl)) h0_,Ay,A7,Av⟩
  refine steps_cons ?_ ?_
  ·rintro b a w' ⟨v158,adz_v158,v166,adz_v166,gb173,m12_,m20_,m26_,ha,Al,Bd,A0,A1,A2,Az,Aw,Am,Af,At,Ao,Ap,Ag,An,Ak,As,Aq,Ar,Ah,Ae,Ac,Ad,Au,Ay,A7,Av⟩ hb_ hon hoff
   refine ⟨_,rfl,fun K hK=>?_⟩
   have e9:a.tmps[9]? =some (.pointer (some ⟨g,0,none⟩)):=by rw [ha];exact (putSel_off rfl).trans rfl
   replace ha:=Aside0.mk ha
   have Aa:=Aside0.mk Al
   have HK:=Aside0.mk A0
   have HB:=Aside0.mk A1
   have HI0:=Aside0.mk (A2 (hon 1 (by kernel_rfl)) hb_)
   refine goes_ Try.func70 (by kernel_rfl) rfl #[.pointer (some ⟨g,0,none⟩),.int .i64 4] (by rfl) rfl rfl (by first|(simp only [List.map_toArray,List.map_cons,List.map_nil,Act.eval,Array.getD_eq_getD_getElem?,Option.getD_some,e9];done)|(simp only [List.map_toArray,List.map_cons,List.map_nil,Act.eval,Array.getD_eq_getD_getElem?,Option.getD_some,e9];rfl)) ?_
   with_reducible refine (spec_l20Rd_pick.calls k g s0_0 t152 4 t153 t154 w0 _ ?side1 ?side2 A4.out).mono ?_
   (case side1=>exact yu7 HI0.out)
   (case side2=>exact yu8 HB.out HI0.out)
   rintro e Cp ⟨rfl,hi,hb,hk⟩
   refine ⟨_,rfl,?_⟩
   have n0_:=Aside0.mk (KeepBut.blk hk (g':=gb150) (o:=.cells #[.int .i64 0,.int .i64 0,.int .i64 0,.int .i64 0,.int .i64 0] 66 (0,0)) (yv0 Aa.out) A8.out (by simp))
   have n1_:=Aside0.mk (KeepBut.trans (yu9 HK.out) hk (.inl rfl))
   have n2_:=Aside0.mk (hb)
   have n3_:=Aside0.mk (hi)
   have Be:=fun (h0_:b 26=true) (h1_:b 27=false)=>(show Cp.heap[gb173]? =some (.cells #[.int .i64 0,.int .i64 0,.int .i64 0,.int .i64 0,.int .i64 0] 66 (0,0)) from by first|exact (KeepBut.blk hk (g':=gb173) (o:=.cells #[.int .i64 0,.int .i64 0,.int .i64 0,.int .i64 0,.int .i64 0] 66 (0,0)) (by (with_reducible repeat (first|refine blk_drewN ?_ _|refine blk_drew ?_|refine blk_alloc ?_ _));exact (As h0_ h1_)) (Ae h0_) (by simp)))
   clear Aa
   clear HK
   clear HB
   clear HI0
   have Aa:=n0_
   have HK:=n1_
   have HB:=n2_
   have HI0:=n3_
   clear n0_ n1_ n2_ n3_
   (try clear hb)
   (try clear hb2)
   (try clear hk)
   (try clear hi)
   refine hK.out _ _ ⟨v158,adz_v158,v166,adz_v166,gb173,m12_,m20_,m26_,(by rw [ha.out];exact putSel_upk 2 hb_ rfl rfl rfl),(yv0 Aa.out),fun h0_=>absurd ((hon 1 (by kernel_rfl)).symm.trans h0_) (by decide),(yu9 HK.out),(yu8 HB.out HI0.out),fun _ h1_=>absurd ((up_self b 4).symm.trans h1_) (by decide),fun _ _=>(yu7 HI0.out),fun h0_ _=>nh (hoff 7 (by kernel_rfl)) h0_,fun h0_=>nh (hoff 9 (by kernel_rfl)) h0_,fun h0_=>nh (hoff 9 (by kernel_rfl)) h0_,fun h0_ _=>nh (hoff 11 (by kernel_rfl)) h0_,fun h0_ _=>nh (hoff 15 (by kernel_rfl)) h0_,fun h0_=>nh (hoff 17 (by kernel_rfl)) h0_,fun h0_=>nh (hoff 17 (by kernel_rfl)) h0_,fun h0_ _=>nh (hoff 19 (by kernel_rfl)) h0_,fun h0_=>nh (hoff 23 (by kernel_rfl)) h0_,Be,Aq,Ar,Ah,Ae,Ac,Ad,fun h0_=>nh (hoff 27 (by kernel_rfl)) h0_,fun h0_=>nh (hoff 12 (by kernel_rfl)) h0_,fun h0_=>nh (hoff 20 (by kernel_rfl)) h0_,Av⟩
  refine steps_cons ?_ ?_
  ·rintro b a w' ⟨v158,adz_v158,v166,adz_v166,gb173,m12_,m20_,m26_,ha,Al,Bd,A0,A1,A2,Az,Aw,Am,Af,At,Ao,Ap,Ag,An,Ak,As,Aq,Ar,Ah,Ae,Ac,Ad,Au,Ay,A7,Av⟩ hb_ hon hoff
   refine ⟨_,rfl,fun K hK=>?_⟩
   have e10:a.tmps[10]? =some (.int .i64 t153):=by rw [ha];exact putSel_on (e:=(4,10,.int .i64 t153)) 2 rfl rfl (hon 4 (by kernel_rfl)) rfl
   replace ha:=Aside0.mk ha
   have Aa:=Aside0.mk Al
   have HK:=Aside0.mk A0
   have HB:=Aside0.mk A1
   refine value_ (w1:=w') (v:=.int .i64 (wrap64 (1+t153))) (by rfl) rfl ?_ ?_
   ·go_simp
    (try simp only [i64_w])
    try rfl
   refine hK.out _ _ ⟨v158,adz_v158,v166,adz_v166,gb173,m12_,m20_,m26_,(by rw [ha.out];exact putSel_upk 3 hb_ rfl rfl rfl),Al,fun h0_=>absurd ((hon 1 (by kernel_rfl)).symm.trans h0_) (by decide),A0,A1,fun _ h1_=>absurd ((hon 4 (by kernel_rfl)).symm.trans h1_) (by decide),Az,Aw,Am,Af,At,Ao,Ap,Ag,An,Ak,As,Aq,Ar,Ah,Ae,Ac,Ad,fun h0_=>nh (hoff 27 (by kernel_rfl)) h0_,Ay,A7,Av⟩
  refine steps_cons ?_ ?_
  ·rintro b a w' ⟨v158,adz_v158,v166,adz_v166,gb173,m12_,m20_,m26_,ha,Al,Bd,A0,A1,A2,Az,Aw,Am,Af,At,Ao,Ap,Ag,An,Ak,As,Aq,Ar,Ah,Ae,Ac,Ad,Au,Ay,A7,Av⟩ hb_ hon hoff
   refine ⟨_,rfl,fun K hK=>?_⟩
   have e12:a.tmps[12]? =some (.pointer (some ⟨g,0,none⟩)):=by rw [ha];exact (putSel_off rfl).trans rfl
   replace ha:=Aside0.mk ha
   have Aa:=Aside0.mk Al
   have HK:=Aside0.mk A0
   have HB:=Aside0.mk A1
   have HI0:=Aside0.mk (Az (hon 4 (by kernel_rfl)) hb_)
   refine goes_ Try.func70 (by kernel_rfl) rfl #[.pointer (some ⟨g,0,none⟩),.int .i64 8] (by rfl) rfl rfl (by first|(simp only [List.map_toArray,List.map_cons,List.map_nil,Act.eval,Array.getD_eq_getD_getElem?,Option.getD_some,e12];done)|(simp only [List.map_toArray,List.map_cons,List.map_nil,Act.eval,Array.getD_eq_getD_getElem?,Option.getD_some,e12];rfl)) ?_
   with_reducible refine (spec_l20Rd_pick.calls k g s0_0 t154 8 t155 t156 w0 _ ?side1 ?side2 A5.out).mono ?_
   (case side1=>exact yu7 HI0.out)
   (case side2=>exact yu8 HB.out HI0.out)
   rintro e Cq ⟨rfl,hi,hb,hk⟩
   refine ⟨_,rfl,?_⟩
   have n0_:=Aside0.mk (KeepBut.blk hk (g':=gb150) (o:=.cells #[.int .i64 0,.int .i64 0,.int .i64 0,.int .i64 0,.int .i64 0] 66 (0,0)) (yv0 Aa.out) A8.out (by simp))
   have n1_:=Aside0.mk (KeepBut.trans (yu9 HK.out) hk (.inl rfl))
   have n2_:=Aside0.mk (hb)
   have n3_:=Aside0.mk (hi)
   have Be:=fun (h0_:b 26=true) (h1_:b 27=false)=>(show Cq.heap[gb173]? =some (.cells #[.int .i64 0,.int .i64 0,.int .i64 0,.int .i64 0,.int .i64 0] 66 (0,0)) from by first|exact (KeepBut.blk hk (g':=gb173) (o:=.cells #[.int .i64 0,.int .i64 0,.int .i64 0,.int .i64 0,.int .i64 0] 66 (0,0)) (by (with_reducible repeat (first|refine blk_drewN ?_ _|refine blk_drew ?_|refine blk_alloc ?_ _));exact (As h0_ h1_)) (Ae h0_) (by simp)))
   clear Aa
   clear HK
   clear HB
   clear HI0
   have Aa:=n0_
   have HK:=n1_
   have HB:=n2_
   have HI0:=n3_
   clear n0_ n1_ n2_ n3_
   (try clear hb)
   (try clear hb2)
   (try clear hk)
   (try clear hi)
   refine hK.out _ _ ⟨v158,adz_v158,v166,adz_v166,gb173,m12_,m20_,m26_,(by rw [ha.out];exact putSel_upk 4 hb_ rfl rfl rfl),(yv0 Aa.out),fun h0_=>absurd ((hon 1 (by kernel_rfl)).symm.trans h0_) (by decide),(yu9 HK.out),(yu8 HB.out HI0.out),fun _ h1_=>absurd ((hon 4 (by kernel_rfl)).symm.trans h1_) (by decide),fun _ h1_=>absurd ((up_self b 7).symm.trans h1_) (by decide),fun _ _=>(yu7 HI0.out),fun h0_=>nh (hoff 9 (by kernel_rfl)) h0_,fun h0_=>nh (hoff 9 (by kernel_rfl)) h0_,fun h0_ _=>nh (hoff 11 (by kernel_rfl)) h0_,fun h0_ _=>nh (hoff 15 (by kernel_rfl)) h0_,fun h0_=>nh (hoff 17 (by kernel_rfl)) h0_,fun h0_=>nh (hoff 17 (by kernel_rfl)) h0_,fun h0_ _=>nh (hoff 19 (by kernel_rfl)) h0_,fun h0_=>nh (hoff 23 (by kernel_rfl)) h0_,Be,Aq,Ar,Ah,Ae,Ac,Ad,fun h0_=>nh (hoff 27 (by kernel_rfl)) h0_,fun h0_=>nh (hoff 12 (by kernel_rfl)) h0_,fun h0_=>nh (hoff 20 (by kernel_rfl)) h0_,Av⟩
  refine steps_cons ?_ ?_
  ·rintro b a w' ⟨v158,adz_v158,v166,adz_v166,gb173,m12_,m20_,m26_,ha,Al,Bd,A0,A1,A2,Az,Aw,Am,Af,At,Ao,Ap,Ag,An,Ak,As,Aq,Ar,Ah,Ae,Ac,Ad,Au,Ay,A7,Av⟩ hb_ hon hoff
   refine ⟨_,rfl,fun K hK=>?_⟩
   have e13:a.tmps[13]? =some (.int .i64 t155):=by rw [ha];exact putSel_on (e:=(7,13,.int .i64 t155)) 4 rfl rfl (hon 7 (by kernel_rfl)) rfl
   replace ha:=Aside0.mk ha
   have Aa:=Aside0.mk Al
   have HK:=Aside0.mk A0
   have HB:=Aside0.mk A1
   refine value_ (w1:=w') (v:=.int .i64 (wrap64 (1+t155))) (by rfl) rfl ?_ ?_
   ·go_simp
    (try simp only [i64_w])
    try rfl
   refine hK.out _ _ ⟨v158,adz_v158,v166,adz_v166,gb173,m12_,m20_,m26_,(by rw [ha.out];exact putSel_upk 5 hb_ rfl rfl rfl),Al,fun h0_=>absurd ((hon 1 (by kernel_rfl)).symm.trans h0_) (by decide),A0,A1,fun _ h1_=>absurd ((hon 4 (by kernel_rfl)).symm.trans h1_) (by decide),fun _ h1_=>absurd ((hon 7 (by kernel_rfl)).symm.trans h1_) (by decide),Aw,fun h0_=>nh (hoff 9 (by kernel_rfl)) h0_,fun h0_=>nh (hoff 9 (by kernel_rfl)) h0_,At,Ao,Ap,Ag,An,Ak,As,Aq,Ar,Ah,Ae,Ac,Ad,fun h0_=>nh (hoff 27 (by kernel_rfl)) h0_,fun h0_=>nh (hoff 12 (by kernel_rfl)) h0_,A7,Av⟩
  refine steps_cons ?_ ?_
  ·rintro b a w' ⟨v158,adz_v158,v166,adz_v166,gb173,m12_,m20_,m26_,ha,Al,Bd,A0,A1,A2,Az,Aw,Am,Af,At,Ao,Ap,Ag,An,Ak,As,Aq,Ar,Ah,Ae,Ac,Ad,Au,Ay,A7,Av⟩ hb_ hon hoff
   refine ⟨_,rfl,fun K hK=>?_⟩
   have e14:a.tmps[14]? =some (.int .i64 (wrap64 (1+t155))):=by rw [ha];exact putSel_on (e:=(8,14,.int .i64 (wrap64 (1+t155)))) 5 rfl rfl (hon 8 (by kernel_rfl)) rfl
   replace ha:=Aside0.mk ha
   have Aa:=Aside0.mk Al
   have HK:=Aside0.mk A0
   have HB:=Aside0.mk A1
   refine Kd.R_lit_step (Kd.int .i64) _ 3 ?hg (N:=15) ?hd (xs:=([wrap64 (1+t155),3,8]:List Int)) (inner:=[.int .i64 (wrap64 (1+t155)),.int .i64 3,.int .i64 8]) (ok:=fun _=>True) (okp:=fun _=>True) ?hr ?hp (fun _ hk=>hk) trivial (Below.refl _ _) (Nat.le_refl _) (by simp) ?_;(case hd=>rfl);(case hg=>rfl);(case hr=>first|(go_simp;done)|(go_simp;rfl));(case hp=>exact (Reps.one (show Kd.M (Kd.int .i64) _ _ _ (wrap64 (1+t155)) [.int .i64 (wrap64 (1+t155))] from rfl) (Reps.one (show Kd.M (Kd.int .i64) _ _ _ 3 [.int .i64 3] from rfl) (Reps.one (show Kd.M (Kd.int .i64) _ _ _ 8 [.int .i64 8] from rfl) (Reps.none _ _)))))
   intro v158 Bm ho218 hb hg_ hnew_
   clear hg_ hnew_
   (first|rw [← Ny157.out] at ho218|(simp only [Int.reduceToNat] at ho218;rw [← Ny157.out] at ho218))
   have n0_:=Aside0.mk (Kd.R_lower ho218 (keep_size (w:=w) (g:=g) (row:=none) (yu9 HK.out)))
   have n2_:=Aside0.mk (blk_below (g:=gb150) (o:=.cells #[.int .i64 0,.int .i64 0,.int .i64 0,.int .i64 0,.int .i64 0] 66 (0,0)) (yv0 Aa.out) hb)
   have n3_:=Aside0.mk (KeepBut.trans (yu9 HK.out) (KeepBut.of_below hb g none) (.inl rfl))
   have n4_:=Aside0.mk (below_step (yu10 HB.out) hb)
   have Bv:=fun (h0_:b 7=true) (h1_:b 11=false)=>(show IsS113 w0 Bm g s0_0 t156 from by first|exact (IsS113.below (by repeat (first|(with_reducible first|exact (Aw h0_ h1_)|apply IsS113.alloc|apply IsS113.drewN|apply IsS113.drew|apply IsS113.set_1|refine IsS113.far ?_ Bb.out _)|exact (Aw h0_ h1_))) hb))
   have Bs:=fun (h0_:b 11=true) (h1_:b 15=false)=>(show IsS113 w0 Bm g s0_0 t161 from by first|exact (IsS113.below (by repeat (first|(with_reducible first|exact (At h0_ h1_)|apply IsS113.alloc|apply IsS113.drewN|apply IsS113.drew|apply IsS113.set_1|refine IsS113.far ?_ Bb.out _)|exact (At h0_ h1_))) hb))
   have Bi:=fun (h0_:b 15=true) (h1_:b 19=false)=>(show IsS113 w0 Bm g s0_0 t164 from by first|exact (IsS113.below (by repeat (first|(with_reducible first|exact (Ao h0_ h1_)|apply IsS113.alloc|apply IsS113.drewN|apply IsS113.drew|apply IsS113.set_1|refine IsS113.far ?_ Bb.out _)|exact (Ao h0_ h1_))) hb))
   have Bh:=fun (h0_:b 17=true)=>(show Kd.R (Kd.int .i64) 3 Bm w.heap.size (fun _=>True) v166 y165 from by first|exact (Kd.R_elder' (mR (Ap h0_)) (Kd.R_base ho218) hb)|exact Kd.R_mono (Kd.R_elder' (mR (Ap h0_)) (Kd.R_base ho218) hb) (fun _ h_=>by first|trivial|exact h_|exact h_.1))
   have Bj:=fun (h0_:b 19=true) (h1_:b 23=false)=>(show IsS113 w0 Bm g s0_0 t169 from by first|exact (IsS113.below (by repeat (first|(with_reducible first|exact (An h0_ h1_)|apply IsS113.alloc|apply IsS113.drewN|apply IsS113.drew|apply IsS113.set_1|refine IsS113.far ?_ Bb.out _)|exact (An h0_ h1_))) hb))
   have Bk:=fun (h0_:b 23=true)=>(show IsS113 w0 Bm g s0_0 t172 from by first|exact (IsS113.below (by repeat (first|(with_reducible first|exact (Ak h0_)|apply IsS113.alloc|apply IsS113.drewN|apply IsS113.drew|apply IsS113.set_1|refine IsS113.far ?_ Bb.out _)|exact (Ak h0_))) hb))
   have Be:=fun (h0_:b 26=true) (h1_:b 27=false)=>(show Bm.heap[gb173]? =some (.cells #[.int .i64 0,.int .i64 0,.int .i64 0,.int .i64 0,.int .i64 0] 66 (0,0)) from by first|exact (blk_below (g:=gb173) (o:=.cells #[.int .i64 0,.int .i64 0,.int .i64 0,.int .i64 0,.int .i64 0] 66 (0,0)) (by (with_reducible repeat (first|refine blk_drewN ?_ _|refine blk_drew ?_|refine blk_alloc ?_ _));exact (As h0_ h1_)) hb))
   clear Aa
   clear HK
   clear HB
   have Ai:=n0_
   have Aa:=n2_
   have HK:=n3_
   have HB:=n4_
   clear n0_ n2_ n3_ n4_
   clear hb ho218
   obtain ⟨Ao219,co219,eo219⟩:=Kd.R_slice Ai.out
   subst eo219
   obtain ⟨ado219,fo219,_⟩:=Kd.at_int (Kd.R_reads' Ai.out).2.2 0 (by decide) (by rw [Ny157.out];simp)
   cases fo219
   refine hK.out _ _ ⟨.slice (some ado219) y157.length co219,ado219,v166,adz_v166,gb173,m12_,m20_,m26_,(by rw [ha.out];exact putSel_upk 6 hb_ rfl rfl rfl),(yv0 Aa.out),fun h0_=>absurd ((hon 1 (by kernel_rfl)).symm.trans h0_) (by decide),(yu9 HK.out),(yu10 HB.out),fun _ h1_=>absurd ((hon 4 (by kernel_rfl)).symm.trans h1_) (by decide),fun _ h1_=>absurd ((hon 7 (by kernel_rfl)).symm.trans h1_) (by decide),Bv,fun _=>(mR Ai.out),fun _=>⟨_,rfl⟩,Bs,Bi,Bh,Ag,Bj,Bk,Be,Aq,Ar,Ah,Ae,Ac,Ad,fun h0_=>nh (hoff 27 (by kernel_rfl)) h0_,fun h0_=>nh (hoff 12 (by kernel_rfl)) h0_,A7,Av⟩
  refine steps_cons ?_ ?_
  ·rintro b a w' ⟨v158,adz_v158,v166,adz_v166,gb173,m12_,m20_,m26_,ha,Al,Bd,A0,A1,A2,Az,Aw,Am,Af,At,Ao,Ap,Ag,An,Ak,As,Aq,Ar,Ah,Ae,Ac,Ad,Au,Ay,A7,Av⟩ hb_ hon hoff
   refine ⟨_,rfl,fun K hK=>?_⟩
   have e16:a.tmps[16]? =some (.pointer (some ⟨g,0,none⟩)):=by rw [ha];exact (putSel_off rfl).trans rfl
   replace ha:=Aside0.mk ha
   have Aa:=Aside0.mk Al
   have HK:=Aside0.mk A0
   have HB:=Aside0.mk A1
   have HI0:=Aside0.mk (Aw (hon 7 (by kernel_rfl)) hb_)
   refine goes_ Try.func70 (by kernel_rfl) rfl #[.pointer (some ⟨g,0,none⟩),.int .i64 3] (by rfl) rfl rfl (by first|(simp only [List.map_toArray,List.map_cons,List.map_nil,Act.eval,Array.getD_eq_getD_getElem?,Option.getD_some,e16];done)|(simp only [List.map_toArray,List.map_cons,List.map_nil,Act.eval,Array.getD_eq_getD_getElem?,Option.getD_some,e16];rfl)) ?_
   with_reducible refine (spec_l20Rd_pick.calls k g s0_0 t156 3 t160 t161 w0 _ ?side1 ?side2 A6.out).mono ?_
   (case side1=>exact yu7 HI0.out)
   (case side2=>exact yu8 HB.out HI0.out)
   rintro e Bm ⟨rfl,hi,hb,hk⟩
   refine ⟨_,rfl,?_⟩
   have n0_:=Aside0.mk (KeepBut.blk hk (g':=gb150) (o:=.cells #[.int .i64 0,.int .i64 0,.int .i64 0,.int .i64 0,.int .i64 0] 66 (0,0)) (yv0 Aa.out) A8.out (by simp))
   have n1_:=Aside0.mk (KeepBut.trans (yu9 HK.out) hk (.inl rfl))
   have n2_:=Aside0.mk (hb)
   have n3_:=Aside0.mk (hi)
   have Bf:=fun (h0_:b 9=true)=>(show Kd.R (Kd.int .i64) 3 Bm w.heap.size (fun _=>True) v158 y157 from by first|exact (Kd.R_mono (Kd.R_keep (IsS113.apart (show IsS113 w0 _ g s0_0 t156 from by exact yu7 HI0.out) (mR (Am h0_)) (by decide)) hk (fun _ h=>h.2)) (fun _ h=>h.1))|exact Kd.R_mono (Kd.R_mono (Kd.R_keep (IsS113.apart (show IsS113 w0 _ g s0_0 t156 from by exact yu7 HI0.out) (mR (Am h0_)) (by decide)) hk (fun _ h=>h.2)) (fun _ h=>h.1)) (fun _ h_=>by first|trivial|exact h_|exact h_.1))
   have Be:=fun (h0_:b 26=true) (h1_:b 27=false)=>(show Bm.heap[gb173]? =some (.cells #[.int .i64 0,.int .i64 0,.int .i64 0,.int .i64 0,.int .i64 0] 66 (0,0)) from by first|exact (KeepBut.blk hk (g':=gb173) (o:=.cells #[.int .i64 0,.int .i64 0,.int .i64 0,.int .i64 0,.int .i64 0] 66 (0,0)) (by (with_reducible repeat (first|refine blk_drewN ?_ _|refine blk_drew ?_|refine blk_alloc ?_ _));exact (As h0_ h1_)) (Ae h0_) (by simp)))
   clear Aa
   clear HK
   clear HB
   clear HI0
   have Aa:=n0_
   have HK:=n1_
   have HB:=n2_
   have HI0:=n3_
   clear n0_ n1_ n2_ n3_
   (try clear hb)
   (try clear hb2)
   (try clear hk)
   (try clear hi)
   refine hK.out _ _ ⟨v158,adz_v158,v166,adz_v166,gb173,m12_,m20_,m26_,(by rw [ha.out];exact putSel_upk 7 hb_ rfl rfl rfl),(yv0 Aa.out),fun h0_=>absurd ((hon 1 (by kernel_rfl)).symm.trans h0_) (by decide),(yu9 HK.out),(yu8 HB.out HI0.out),fun _ h1_=>absurd ((hon 4 (by kernel_rfl)).symm.trans h1_) (by decide),fun _ h1_=>absurd ((hon 7 (by kernel_rfl)).symm.trans h1_) (by decide),fun _ h1_=>absurd ((up_self b 11).symm.trans h1_) (by decide),Bf,Af,fun _ _=>(yu7 HI0.out),fun h0_ _=>nh (hoff 15 (by kernel_rfl)) h0_,fun h0_=>nh (hoff 17 (by kernel_rfl)) h0_,fun h0_=>nh (hoff 17 (by kernel_rfl)) h0_,fun h0_ _=>nh (hoff 19 (by kernel_rfl)) h0_,fun h0_=>nh (hoff 23 (by kernel_rfl)) h0_,Be,Aq,Ar,Ah,Ae,Ac,Ad,fun h0_=>nh (hoff 27 (by kernel_rfl)) h0_,fun h0_=>nh (hoff 12 (by kernel_rfl)) h0_,fun h0_=>nh (hoff 20 (by kernel_rfl)) h0_,Av⟩
  refine steps_cons ?_ ?_
  ·rintro b a w' ⟨v158,adz_v158,v166,adz_v166,gb173,m12_,m20_,m26_,ha,Al,Bd,A0,A1,A2,Az,Aw,Am,Af,At,Ao,Ap,Ag,An,Ak,As,Aq,Ar,Ah,Ae,Ac,Ad,Au,Ay,A7,Av⟩ hb_ hon hoff
   refine ⟨_,rfl,fun K hK=>?_⟩
   have e15:a.tmps[15]? =some (v158):=by rw [ha];exact putSel_on (e:=(9,15,v158)) 6 rfl rfl (hon 9 (by kernel_rfl)) rfl
   have e17:a.tmps[17]? =some (.int .i64 t160):=by rw [ha];exact putSel_on (e:=(11,17,.int .i64 t160)) 7 rfl rfl (hon 11 (by kernel_rfl)) rfl
   replace ha:=Aside0.mk ha
   have Aa:=Aside0.mk Al
   have HK:=Aside0.mk A0
   have HB:=Aside0.mk A1
   have Ai:=Aside0.mk (Am (hon 9 (by kernel_rfl)))
   have HA_HO159:=Aside0.mk (Af (hon 9 (by kernel_rfl)))
   obtain ⟨c_,hv_⟩:=HA_HO159.out
   rw [hv_] at e15
   refine value_ (w1:=w') (v:=.pointer (some (adz_v158.add (t160).toNat))) (by rfl) rfl ?_ ?_
   ·go_simp
    (try simp only [i64_w])
    try rfl
   refine hK.out _ _ ⟨v158,adz_v158,v166,adz_v166,gb173,(.pointer (some (adz_v158.add (t160).toNat))),m20_,m26_,(by rw [ha.out];exact putSel_upk 8 hb_ rfl rfl rfl),Al,fun h0_=>absurd ((hon 1 (by kernel_rfl)).symm.trans h0_) (by decide),A0,A1,fun _ h1_=>absurd ((hon 4 (by kernel_rfl)).symm.trans h1_) (by decide),fun _ h1_=>absurd ((hon 7 (by kernel_rfl)).symm.trans h1_) (by decide),fun _ h1_=>absurd ((hon 11 (by kernel_rfl)).symm.trans h1_) (by decide),Am,Af,At,Ao,Ap,Ag,An,Ak,As,Aq,Ar,Ah,Ae,Ac,Ad,fun h0_=>nh (hoff 27 (by kernel_rfl)) h0_,fun _=>rfl,A7,Av⟩
  refine steps_cons ?_ ?_
  ·rintro b a w' ⟨v158,adz_v158,v166,adz_v166,gb173,m12_,m20_,m26_,ha,Al,Bd,A0,A1,A2,Az,Aw,Am,Af,At,Ao,Ap,Ag,An,Ak,As,Aq,Ar,Ah,Ae,Ac,Ad,Au,Ay,A7,Av⟩ hb_ hon hoff
   refine ⟨_,rfl,fun K hK=>?_⟩
   have e18:a.tmps[18]? =some (m12_):=by rw [ha];exact putSel_on (e:=(12,18,m12_)) 8 rfl rfl (hon 12 (by kernel_rfl)) rfl
   rw [Ay (hon 12 (by kernel_rfl))] at e18
   replace ha:=Aside0.mk ha
   have Aa:=Aside0.mk Al
   have HK:=Aside0.mk A0
   have HB:=Aside0.mk A1
   have Ai:=Aside0.mk (Am (hon 9 (by kernel_rfl)))
   have HA_HO159:=Aside0.mk (Af (hon 9 (by kernel_rfl)))
   obtain ⟨c_,hv_⟩:=HA_HO159.out
   have hF_:=Ai.out
   rw [hv_] at hF_
   obtain ⟨ad_,ea_,hx_⟩:=Kd.at_int (Kd.R_reads' hF_).2.2 t160 (of_eq_true pi162) (of_eq_true qi162)
   cases ea_
   refine value_ (w1:=w') (v:=.int .i64 (rd y157 t160)) (by rfl) rfl ?_ ?_
   ·go_simp
    (try simp only [i64_w])
    try rfl
   refine hK.out _ _ ⟨v158,adz_v158,v166,adz_v166,gb173,m12_,m20_,m26_,(by rw [ha.out];exact putSel_upk 9 hb_ rfl rfl rfl),Al,fun h0_=>absurd ((hon 1 (by kernel_rfl)).symm.trans h0_) (by decide),A0,A1,fun _ h1_=>absurd ((hon 4 (by kernel_rfl)).symm.trans h1_) (by decide),fun _ h1_=>absurd ((hon 7 (by kernel_rfl)).symm.trans h1_) (by decide),fun _ h1_=>absurd ((hon 11 (by kernel_rfl)).symm.trans h1_) (by decide),Am,Af,At,Ao,Ap,Ag,An,Ak,As,Aq,Ar,Ah,Ae,Ac,Ad,fun h0_=>nh (hoff 27 (by kernel_rfl)) h0_,Ay,A7,Av⟩
  refine steps_cons ?_ ?_
  ·rintro b a w' ⟨v158,adz_v158,v166,adz_v166,gb173,m12_,m20_,m26_,ha,Al,Bd,A0,A1,A2,Az,Aw,Am,Af,At,Ao,Ap,Ag,An,Ak,As,Aq,Ar,Ah,Ae,Ac,Ad,Au,Ay,A7,Av⟩ hb_ hon hoff
   refine ⟨_,rfl,fun K hK=>?_⟩
   have e20:a.tmps[20]? =some (.pointer (some ⟨g,0,none⟩)):=by rw [ha];exact (putSel_off rfl).trans rfl
   replace ha:=Aside0.mk ha
   have Aa:=Aside0.mk Al
   have HK:=Aside0.mk A0
   have HB:=Aside0.mk A1
   have HI0:=Aside0.mk (At (hon 11 (by kernel_rfl)) hb_)
   refine goes_ Try.func70 (by kernel_rfl) rfl #[.pointer (some ⟨g,0,none⟩),.int .i64 24] (by rfl) rfl rfl (by first|(simp only [List.map_toArray,List.map_cons,List.map_nil,Act.eval,Array.getD_eq_getD_getElem?,Option.getD_some,e20];done)|(simp only [List.map_toArray,List.map_cons,List.map_nil,Act.eval,Array.getD_eq_getD_getElem?,Option.getD_some,e20];rfl)) ?_
   with_reducible refine (spec_l20Rd_pick.calls k g s0_0 t161 24 t163 t164 w0 _ ?side1 ?side2 A9.out).mono ?_
   (case side1=>exact yu7 HI0.out)
   (case side2=>exact yu8 HB.out HI0.out)
   rintro e Cd ⟨rfl,hi,hb,hk⟩
   refine ⟨_,rfl,?_⟩
   have n0_:=Aside0.mk (KeepBut.blk hk (g':=gb150) (o:=.cells #[.int .i64 0,.int .i64 0,.int .i64 0,.int .i64 0,.int .i64 0] 66 (0,0)) (yv0 Aa.out) A8.out (by simp))
   have n1_:=Aside0.mk (KeepBut.trans (yu9 HK.out) hk (.inl rfl))
   have n2_:=Aside0.mk (hb)
   have n3_:=Aside0.mk (hi)
   have Bf:=fun (h0_:b 9=true)=>(show Kd.R (Kd.int .i64) 3 Cd w.heap.size (fun _=>True) v158 y157 from by first|exact (Kd.R_mono (Kd.R_keep (IsS113.apart (show IsS113 w0 _ g s0_0 t161 from by exact yu7 HI0.out) (mR (Am h0_)) (by decide)) hk (fun _ h=>h.2)) (fun _ h=>h.1))|exact Kd.R_mono (Kd.R_mono (Kd.R_keep (IsS113.apart (show IsS113 w0 _ g s0_0 t161 from by exact yu7 HI0.out) (mR (Am h0_)) (by decide)) hk (fun _ h=>h.2)) (fun _ h=>h.1)) (fun _ h_=>by first|trivial|exact h_|exact h_.1))
   have Be:=fun (h0_:b 26=true) (h1_:b 27=false)=>(show Cd.heap[gb173]? =some (.cells #[.int .i64 0,.int .i64 0,.int .i64 0,.int .i64 0,.int .i64 0] 66 (0,0)) from by first|exact (KeepBut.blk hk (g':=gb173) (o:=.cells #[.int .i64 0,.int .i64 0,.int .i64 0,.int .i64 0,.int .i64 0] 66 (0,0)) (by (with_reducible repeat (first|refine blk_drewN ?_ _|refine blk_drew ?_|refine blk_alloc ?_ _));exact (As h0_ h1_)) (Ae h0_) (by simp)))
   clear Aa
   clear HK
   clear HB
   clear HI0
   have Aa:=n0_
   have HK:=n1_
   have HB:=n2_
   have HI0:=n3_
   clear n0_ n1_ n2_ n3_
   (try clear hb)
   (try clear hb2)
   (try clear hk)
   (try clear hi)
   refine hK.out _ _ ⟨v158,adz_v158,v166,adz_v166,gb173,m12_,m20_,m26_,(by rw [ha.out];exact putSel_upk 10 hb_ rfl rfl rfl),(yv0 Aa.out),fun h0_=>absurd ((hon 1 (by kernel_rfl)).symm.trans h0_) (by decide),(yu9 HK.out),(yu8 HB.out HI0.out),fun _ h1_=>absurd ((hon 4 (by kernel_rfl)).symm.trans h1_) (by decide),fun _ h1_=>absurd ((hon 7 (by kernel_rfl)).symm.trans h1_) (by decide),fun _ h1_=>absurd ((hon 11 (by kernel_rfl)).symm.trans h1_) (by decide),Bf,Af,fun _ h1_=>absurd ((up_self b 15).symm.trans h1_) (by decide),fun _ _=>(yu7 HI0.out),fun h0_=>nh (hoff 17 (by kernel_rfl)) h0_,fun h0_=>nh (hoff 17 (by kernel_rfl)) h0_,fun h0_ _=>nh (hoff 19 (by kernel_rfl)) h0_,fun h0_=>nh (hoff 23 (by kernel_rfl)) h0_,Be,Aq,Ar,Ah,Ae,Ac,Ad,fun h0_=>nh (hoff 27 (by kernel_rfl)) h0_,Ay,fun h0_=>nh (hoff 20 (by kernel_rfl)) h0_,Av⟩
  refine steps_cons ?_ ?_
  ·rintro b a w' ⟨v158,adz_v158,v166,adz_v166,gb173,m12_,m20_,m26_,ha,Al,Bd,A0,A1,A2,Az,Aw,Am,Af,At,Ao,Ap,Ag,An,Ak,As,Aq,Ar,Ah,Ae,Ac,Ad,Au,Ay,A7,Av⟩ hb_ hon hoff
   refine ⟨_,rfl,fun K hK=>?_⟩
   have e21:a.tmps[21]? =some (.int .i64 t163):=by rw [ha];exact putSel_on (e:=(15,21,.int .i64 t163)) 10 rfl rfl (hon 15 (by kernel_rfl)) rfl
   replace ha:=Aside0.mk ha
   have Aa:=Aside0.mk Al
   have HK:=Aside0.mk A0
   have HB:=Aside0.mk A1
   refine value_ (w1:=w') (v:=.int .i64 (wrap64 (1+t163))) (by rfl) rfl ?_ ?_
   ·go_simp
    (try simp only [i64_w])
    try rfl
   refine hK.out _ _ ⟨v158,adz_v158,v166,adz_v166,gb173,m12_,m20_,m26_,(by rw [ha.out];exact putSel_upk 11 hb_ rfl rfl rfl),Al,fun h0_=>absurd ((hon 1 (by kernel_rfl)).symm.trans h0_) (by decide),A0,A1,fun _ h1_=>absurd ((hon 4 (by kernel_rfl)).symm.trans h1_) (by decide),fun _ h1_=>absurd ((hon 7 (by kernel_rfl)).symm.trans h1_) (by decide),fun _ h1_=>absurd ((hon 11 (by kernel_rfl)).symm.trans h1_) (by decide),Am,Af,fun _ h1_=>absurd ((hon 15 (by kernel_rfl)).symm.trans h1_) (by decide),Ao,fun h0_=>nh (hoff 17 (by kernel_rfl)) h0_,fun h0_=>nh (hoff 17 (by kernel_rfl)) h0_,An,Ak,As,Aq,Ar,Ah,Ae,Ac,Ad,fun h0_=>nh (hoff 27 (by kernel_rfl)) h0_,Ay,fun h0_=>nh (hoff 20 (by kernel_rfl)) h0_,Av⟩
  refine steps_cons ?_ ?_
  ·rintro b a w' ⟨v158,adz_v158,v166,adz_v166,gb173,m12_,m20_,m26_,ha,Al,Bd,A0,A1,A2,Az,Aw,Am,Af,At,Ao,Ap,Ag,An,Ak,As,Aq,Ar,Ah,Ae,Ac,Ad,Au,Ay,A7,Av⟩ hb_ hon hoff
   refine ⟨_,rfl,fun K hK=>?_⟩
   have e22:a.tmps[22]? =some (.int .i64 (wrap64 (1+t163))):=by rw [ha];exact putSel_on (e:=(16,22,.int .i64 (wrap64 (1+t163)))) 11 rfl rfl (hon 16 (by kernel_rfl)) rfl
   replace ha:=Aside0.mk ha
   have Aa:=Aside0.mk Al
   have HK:=Aside0.mk A0
   have HB:=Aside0.mk A1
   refine Kd.R_lit_step (Kd.int .i64) _ 3 ?hg (N:=23) ?hd (xs:=([24,wrap64 (1+t163)]:List Int)) (inner:=[.int .i64 24,.int .i64 (wrap64 (1+t163))]) (ok:=fun _=>True) (okp:=fun _=>True) ?hr ?hp (fun _ hk=>hk) trivial (Below.refl _ _) (Nat.le_refl _) (by simp) ?_;(case hd=>rfl);(case hg=>rfl);(case hr=>first|(go_simp;done)|(go_simp;rfl));(case hp=>exact (Reps.one (show Kd.M (Kd.int .i64) _ _ _ 24 [.int .i64 24] from rfl) (Reps.one (show Kd.M (Kd.int .i64) _ _ _ (wrap64 (1+t163)) [.int .i64 (wrap64 (1+t163))] from rfl) (Reps.none _ _))))
   intro v166 Br ho220 hb hg_ hnew_
   clear hg_ hnew_
   (first|rw [← Ny165.out] at ho220|(simp only [Int.reduceToNat] at ho220;rw [← Ny165.out] at ho220))
   have n0_:=Aside0.mk (Kd.R_lower ho220 (keep_size (w:=w) (g:=g) (row:=none) (yu9 HK.out)))
   have n2_:=Aside0.mk (blk_below (g:=gb150) (o:=.cells #[.int .i64 0,.int .i64 0,.int .i64 0,.int .i64 0,.int .i64 0] 66 (0,0)) (yv0 Aa.out) hb)
   have n3_:=Aside0.mk (KeepBut.trans (yu9 HK.out) (KeepBut.of_below hb g none) (.inl rfl))
   have n4_:=Aside0.mk (below_step (yu10 HB.out) hb)
   have Bf:=fun (h0_:b 9=true)=>(show Kd.R (Kd.int .i64) 3 Br w.heap.size (fun _=>True) v158 y157 from by first|exact (Kd.R_elder' (mR (Am h0_)) (Kd.R_base ho220) hb)|exact Kd.R_mono (Kd.R_elder' (mR (Am h0_)) (Kd.R_base ho220) hb) (fun _ h_=>by first|trivial|exact h_|exact h_.1))
   have Bi:=fun (h0_:b 15=true) (h1_:b 19=false)=>(show IsS113 w0 Br g s0_0 t164 from by first|exact (IsS113.below (by repeat (first|(with_reducible first|exact (Ao h0_ h1_)|apply IsS113.alloc|apply IsS113.drewN|apply IsS113.drew|apply IsS113.set_1|refine IsS113.far ?_ Bb.out _)|exact (Ao h0_ h1_))) hb))
   have Bj:=fun (h0_:b 19=true) (h1_:b 23=false)=>(show IsS113 w0 Br g s0_0 t169 from by first|exact (IsS113.below (by repeat (first|(with_reducible first|exact (An h0_ h1_)|apply IsS113.alloc|apply IsS113.drewN|apply IsS113.drew|apply IsS113.set_1|refine IsS113.far ?_ Bb.out _)|exact (An h0_ h1_))) hb))
   have Bk:=fun (h0_:b 23=true)=>(show IsS113 w0 Br g s0_0 t172 from by first|exact (IsS113.below (by repeat (first|(with_reducible first|exact (Ak h0_)|apply IsS113.alloc|apply IsS113.drewN|apply IsS113.drew|apply IsS113.set_1|refine IsS113.far ?_ Bb.out _)|exact (Ak h0_))) hb))
   have Be:=fun (h0_:b 26=true) (h1_:b 27=false)=>(show Br.heap[gb173]? =some (.cells #[.int .i64 0,.int .i64 0,.int .i64 0,.int .i64 0,.int .i64 0] 66 (0,0)) from by first|exact (blk_below (g:=gb173) (o:=.cells #[.int .i64 0,.int .i64 0,.int .i64 0,.int .i64 0,.int .i64 0] 66 (0,0)) (by (with_reducible repeat (first|refine blk_drewN ?_ _|refine blk_drew ?_|refine blk_alloc ?_ _));exact (As h0_ h1_)) hb))
   clear Aa
   clear HK
   clear HB
   have Aj:=n0_
   have Aa:=n2_
   have HK:=n3_
   have HB:=n4_
   clear n0_ n2_ n3_ n4_
   clear hb ho220
   obtain ⟨Ao221,co221,eo221⟩:=Kd.R_slice Aj.out
   subst eo221
   obtain ⟨ado221,fo221,_⟩:=Kd.at_int (Kd.R_reads' Aj.out).2.2 0 (by decide) (by rw [Ny165.out];simp)
   cases fo221
   refine hK.out _ _ ⟨v158,adz_v158,.slice (some ado221) y165.length co221,ado221,gb173,m12_,m20_,m26_,(by rw [ha.out];exact putSel_upk 12 hb_ rfl rfl rfl),(yv0 Aa.out),fun h0_=>absurd ((hon 1 (by kernel_rfl)).symm.trans h0_) (by decide),(yu9 HK.out),(yu10 HB.out),fun _ h1_=>absurd ((hon 4 (by kernel_rfl)).symm.trans h1_) (by decide),fun _ h1_=>absurd ((hon 7 (by kernel_rfl)).symm.trans h1_) (by decide),fun _ h1_=>absurd ((hon 11 (by kernel_rfl)).symm.trans h1_) (by decide),Bf,Af,fun _ h1_=>absurd ((hon 15 (by kernel_rfl)).symm.trans h1_) (by decide),Bi,fun _=>(mR Aj.out),fun _=>⟨_,rfl⟩,Bj,Bk,Be,Aq,Ar,Ah,Ae,Ac,Ad,fun h0_=>nh (hoff 27 (by kernel_rfl)) h0_,Ay,fun h0_=>nh (hoff 20 (by kernel_rfl)) h0_,Av⟩
  refine steps_cons ?_ ?_
  ·rintro b a w' ⟨v158,adz_v158,v166,adz_v166,gb173,m12_,m20_,m26_,ha,Al,Bd,A0,A1,A2,Az,Aw,Am,Af,At,Ao,Ap,Ag,An,Ak,As,Aq,Ar,Ah,Ae,Ac,Ad,Au,Ay,A7,Av⟩ hb_ hon hoff
   refine ⟨_,rfl,fun K hK=>?_⟩
   have e24:a.tmps[24]? =some (.pointer (some ⟨g,0,none⟩)):=by rw [ha];exact (putSel_off rfl).trans rfl
   replace ha:=Aside0.mk ha
   have Aa:=Aside0.mk Al
   have HK:=Aside0.mk A0
   have HB:=Aside0.mk A1
   have HI0:=Aside0.mk (Ao (hon 15 (by kernel_rfl)) hb_)
   refine goes_ Try.func70 (by kernel_rfl) rfl #[.pointer (some ⟨g,0,none⟩),.int .i64 2] (by rfl) rfl rfl (by first|(simp only [List.map_toArray,List.map_cons,List.map_nil,Act.eval,Array.getD_eq_getD_getElem?,Option.getD_some,e24];done)|(simp only [List.map_toArray,List.map_cons,List.map_nil,Act.eval,Array.getD_eq_getD_getElem?,Option.getD_some,e24];rfl)) ?_
   with_reducible refine (spec_l20Rd_pick.calls k g s0_0 t164 2 t168 t169 w0 _ ?side1 ?side2 F5.out).mono ?_
   (case side1=>exact yu7 HI0.out)
   (case side2=>exact yu8 HB.out HI0.out)
   rintro e Br ⟨rfl,hi,hb,hk⟩
   refine ⟨_,rfl,?_⟩
   have n0_:=Aside0.mk (KeepBut.blk hk (g':=gb150) (o:=.cells #[.int .i64 0,.int .i64 0,.int .i64 0,.int .i64 0,.int .i64 0] 66 (0,0)) (yv0 Aa.out) A8.out (by simp))
   have n1_:=Aside0.mk (KeepBut.trans (yu9 HK.out) hk (.inl rfl))
   have n2_:=Aside0.mk (hb)
   have n3_:=Aside0.mk (hi)
   have Bf:=fun (h0_:b 9=true)=>(show Kd.R (Kd.int .i64) 3 Br w.heap.size (fun _=>True) v158 y157 from by first|exact (Kd.R_mono (Kd.R_keep (IsS113.apart (show IsS113 w0 _ g s0_0 t164 from by exact yu7 HI0.out) (mR (Am h0_)) (by decide)) hk (fun _ h=>h.2)) (fun _ h=>h.1))|exact Kd.R_mono (Kd.R_mono (Kd.R_keep (IsS113.apart (show IsS113 w0 _ g s0_0 t164 from by exact yu7 HI0.out) (mR (Am h0_)) (by decide)) hk (fun _ h=>h.2)) (fun _ h=>h.1)) (fun _ h_=>by first|trivial|exact h_|exact h_.1))
   have Bh:=fun (h0_:b 17=true)=>(show Kd.R (Kd.int .i64) 3 Br w.heap.size (fun _=>True) v166 y165 from by first|exact (Kd.R_mono (Kd.R_keep (IsS113.apart (show IsS113 w0 _ g s0_0 t164 from by exact yu7 HI0.out) (mR (Ap h0_)) (by decide)) hk (fun _ h=>h.2)) (fun _ h=>h.1))|exact Kd.R_mono (Kd.R_mono (Kd.R_keep (IsS113.apart (show IsS113 w0 _ g s0_0 t164 from by exact yu7 HI0.out) (mR (Ap h0_)) (by decide)) hk (fun _ h=>h.2)) (fun _ h=>h.1)) (fun _ h_=>by first|trivial|exact h_|exact h_.1))
   have Be:=fun (h0_:b 26=true) (h1_:b 27=false)=>(show Br.heap[gb173]? =some (.cells #[.int .i64 0,.int .i64 0,.int .i64 0,.int .i64 0,.int .i64 0] 66 (0,0)) from by first|exact (KeepBut.blk hk (g':=gb173) (o:=.cells #[.int .i64 0,.int .i64 0,.int .i64 0,.int .i64 0,.int .i64 0] 66 (0,0)) (by (with_reducible repeat (first|refine blk_drewN ?_ _|refine blk_drew ?_|refine blk_alloc ?_ _));exact (As h0_ h1_)) (Ae h0_) (by simp)))
   clear Aa
   clear HK
   clear HB
   clear HI0
   have Aa:=n0_
   have HK:=n1_
   have HB:=n2_
   have HI0:=n3_
   clear n0_ n1_ n2_ n3_
   (try clear hb)
   (try clear hb2)
   (try clear hk)
   (try clear hi)
   refine hK.out _ _ ⟨v158,adz_v158,v166,adz_v166,gb173,m12_,m20_,m26_,(by rw [ha.out];exact putSel_upk 13 hb_ rfl rfl rfl),(yv0 Aa.out),fun h0_=>absurd ((hon 1 (by kernel_rfl)).symm.trans h0_) (by decide),(yu9 HK.out),(yu8 HB.out HI0.out),fun _ h1_=>absurd ((hon 4 (by kernel_rfl)).symm.trans h1_) (by decide),fun _ h1_=>absurd ((hon 7 (by kernel_rfl)).symm.trans h1_) (by decide),fun _ h1_=>absurd ((hon 11 (by kernel_rfl)).symm.trans h1_) (by decide),Bf,Af,fun _ h1_=>absurd ((hon 15 (by kernel_rfl)).symm.trans h1_) (by decide),fun _ h1_=>absurd ((up_self b 19).symm.trans h1_) (by decide),Bh,Ag,fun _ _=>(yu7 HI0.out),fun h0_=>nh (hoff 23 (by kernel_rfl)) h0_,Be,Aq,Ar,Ah,Ae,Ac,Ad,fun h0_=>nh (hoff 27 (by kernel_rfl)) h0_,Ay,fun h0_=>nh (hoff 20 (by kernel_rfl)) h0_,Av⟩
  refine steps_cons ?_ ?_
  ·rintro b a w' ⟨v158,adz_v158,v166,adz_v166,gb173,m12_,m20_,m26_,ha,Al,Bd,A0,A1,A2,Az,Aw,Am,Af,At,Ao,Ap,Ag,An,Ak,As,Aq,Ar,Ah,Ae,Ac,Ad,Au,Ay,A7,Av⟩ hb_ hon hoff
   refine ⟨_,rfl,fun K hK=>?_⟩
   have e23:a.tmps[23]? =some (v166):=by rw [ha];exact putSel_on (e:=(17,23,v166)) 12 rfl rfl (hon 17 (by kernel_rfl)) rfl
   have e25:a.tmps[25]? =some (.int .i64 t168):=by rw [ha];exact putSel_on (e:=(19,25,.int .i64 t168)) 13 rfl rfl (hon 19 (by kernel_rfl)) rfl
   replace ha:=Aside0.mk ha
   have Aa:=Aside0.mk Al
   have HK:=Aside0.mk A0
   have HB:=Aside0.mk A1
   have Aj:=Aside0.mk (Ap (hon 17 (by kernel_rfl)))
   have HA_HO167:=Aside0.mk (Ag (hon 17 (by kernel_rfl)))
   obtain ⟨c_,hv_⟩:=HA_HO167.out
   rw [hv_] at e23
   refine value_ (w1:=w') (v:=.pointer (some (adz_v166.add (t168).toNat))) (by rfl) rfl ?_ ?_
   ·go_simp
    (try simp only [i64_w])
    try rfl
   refine hK.out _ _ ⟨v158,adz_v158,v166,adz_v166,gb173,m12_,(.pointer (some (adz_v166.add (t168).toNat))),m26_,(by rw [ha.out];exact putSel_upk 14 hb_ rfl rfl rfl),Al,fun h0_=>absurd ((hon 1 (by kernel_rfl)).symm.trans h0_) (by decide),A0,A1,fun _ h1_=>absurd ((hon 4 (by kernel_rfl)).symm.trans h1_) (by decide),fun _ h1_=>absurd ((hon 7 (by kernel_rfl)).symm.trans h1_) (by decide),fun _ h1_=>absurd ((hon 11 (by kernel_rfl)).symm.trans h1_) (by decide),Am,Af,fun _ h1_=>absurd ((hon 15 (by kernel_rfl)).symm.trans h1_) (by decide),fun _ h1_=>absurd ((hon 19 (by kernel_rfl)).symm.trans h1_) (by decide),Ap,Ag,An,Ak,As,Aq,Ar,Ah,Ae,Ac,Ad,fun h0_=>nh (hoff 27 (by kernel_rfl)) h0_,Ay,fun _=>rfl,Av⟩
  refine steps_cons ?_ ?_
  ·rintro b a w' ⟨v158,adz_v158,v166,adz_v166,gb173,m12_,m20_,m26_,ha,Al,Bd,A0,A1,A2,Az,Aw,Am,Af,At,Ao,Ap,Ag,An,Ak,As,Aq,Ar,Ah,Ae,Ac,Ad,Au,Ay,A7,Av⟩ hb_ hon hoff
   refine ⟨_,rfl,fun K hK=>?_⟩
   have e26:a.tmps[26]? =some (m20_):=by rw [ha];exact putSel_on (e:=(20,26,m20_)) 14 rfl rfl (hon 20 (by kernel_rfl)) rfl
   rw [A7 (hon 20 (by kernel_rfl))] at e26
   replace ha:=Aside0.mk ha
   have Aa:=Aside0.mk Al
   have HK:=Aside0.mk A0
   have HB:=Aside0.mk A1
   have Aj:=Aside0.mk (Ap (hon 17 (by kernel_rfl)))
   have HA_HO167:=Aside0.mk (Ag (hon 17 (by kernel_rfl)))
   obtain ⟨c_,hv_⟩:=HA_HO167.out
   have hF_:=Aj.out
   rw [hv_] at hF_
   obtain ⟨ad_,ea_,hx_⟩:=Kd.at_int (Kd.R_reads' hF_).2.2 t168 (of_eq_true pi170) (of_eq_true qi170)
   cases ea_
   refine value_ (w1:=w') (v:=.int .i64 (rd y165 t168)) (by rfl) rfl ?_ ?_
   ·go_simp
    (try simp only [i64_w])
    try rfl
   refine hK.out _ _ ⟨v158,adz_v158,v166,adz_v166,gb173,m12_,m20_,m26_,(by rw [ha.out];exact putSel_upk 15 hb_ rfl rfl rfl),Al,fun h0_=>absurd ((hon 1 (by kernel_rfl)).symm.trans h0_) (by decide),A0,A1,fun _ h1_=>absurd ((hon 4 (by kernel_rfl)).symm.trans h1_) (by decide),fun _ h1_=>absurd ((hon 7 (by kernel_rfl)).symm.trans h1_) (by decide),fun _ h1_=>absurd ((hon 11 (by kernel_rfl)).symm.trans h1_) (by decide),Am,Af,fun _ h1_=>absurd ((hon 15 (by kernel_rfl)).symm.trans h1_) (by decide),fun _ h1_=>absurd ((hon 19 (by kernel_rfl)).symm.trans h1_) (by decide),Ap,Ag,An,Ak,As,Aq,Ar,Ah,Ae,Ac,Ad,fun h0_=>nh (hoff 27 (by kernel_rfl)) h0_,Ay,A7,Av⟩
  refine steps_cons ?_ ?_
  ·rintro b a w' ⟨v158,adz_v158,v166,adz_v166,gb173,m12_,m20_,m26_,ha,Al,Bd,A0,A1,A2,Az,Aw,Am,Af,At,Ao,Ap,Ag,An,Ak,As,Aq,Ar,Ah,Ae,Ac,Ad,Au,Ay,A7,Av⟩ hb_ hon hoff
   refine ⟨_,rfl,fun K hK=>?_⟩
   have e28:a.tmps[28]? =some (.pointer (some ⟨g,0,none⟩)):=by rw [ha];exact (putSel_off rfl).trans rfl
   replace ha:=Aside0.mk ha
   have Aa:=Aside0.mk Al
   have HK:=Aside0.mk A0
   have HB:=Aside0.mk A1
   have HI0:=Aside0.mk (An (hon 19 (by kernel_rfl)) hb_)
   refine goes_ Try.func70 (by kernel_rfl) rfl #[.pointer (some ⟨g,0,none⟩),.int .i64 5] (by rfl) rfl rfl (by first|(simp only [List.map_toArray,List.map_cons,List.map_nil,Act.eval,Array.getD_eq_getD_getElem?,Option.getD_some,e28];done)|(simp only [List.map_toArray,List.map_cons,List.map_nil,Act.eval,Array.getD_eq_getD_getElem?,Option.getD_some,e28];rfl)) ?_
   with_reducible refine (spec_l20Rd_pick.calls k g s0_0 t169 5 t171 t172 w0 _ ?side1 ?side2 F6.out).mono ?_
   (case side1=>exact yu7 HI0.out)
   (case side2=>exact yu8 HB.out HI0.out)
   rintro e B5 ⟨rfl,hi,hb,hk⟩
   refine ⟨_,rfl,?_⟩
   have n0_:=Aside0.mk (KeepBut.blk hk (g':=gb150) (o:=.cells #[.int .i64 0,.int .i64 0,.int .i64 0,.int .i64 0,.int .i64 0] 66 (0,0)) (yv0 Aa.out) A8.out (by simp))
   have n1_:=Aside0.mk (KeepBut.trans (yu9 HK.out) hk (.inl rfl))
   have n2_:=Aside0.mk (hb)
   have n3_:=Aside0.mk (hi)
   have Bf:=fun (h0_:b 9=true)=>(show Kd.R (Kd.int .i64) 3 B5 w.heap.size (fun _=>True) v158 y157 from by first|exact (Kd.R_mono (Kd.R_keep (IsS113.apart (show IsS113 w0 _ g s0_0 t169 from by exact yu7 HI0.out) (mR (Am h0_)) (by decide)) hk (fun _ h=>h.2)) (fun _ h=>h.1))|exact Kd.R_mono (Kd.R_mono (Kd.R_keep (IsS113.apart (show IsS113 w0 _ g s0_0 t169 from by exact yu7 HI0.out) (mR (Am h0_)) (by decide)) hk (fun _ h=>h.2)) (fun _ h=>h.1)) (fun _ h_=>by first|trivial|exact h_|exact h_.1))
   have Bh:=fun (h0_:b 17=true)=>(show Kd.R (Kd.int .i64) 3 B5 w.heap.size (fun _=>True) v166 y165 from by first|exact (Kd.R_mono (Kd.R_keep (IsS113.apart (show IsS113 w0 _ g s0_0 t169 from by exact yu7 HI0.out) (mR (Ap h0_)) (by decide)) hk (fun _ h=>h.2)) (fun _ h=>h.1))|exact Kd.R_mono (Kd.R_mono (Kd.R_keep (IsS113.apart (show IsS113 w0 _ g s0_0 t169 from by exact yu7 HI0.out) (mR (Ap h0_)) (by decide)) hk (fun _ h=>h.2)) (fun _ h=>h.1)) (fun _ h_=>by first|trivial|exact h_|exact h_.1))
   have Be:=fun (h0_:b 26=true) (h1_:b 27=false)=>(show B5.heap[gb173]? =some (.cells #[.int .i64 0,.int .i64 0,.int .i64 0,.int .i64 0,.int .i64 0] 66 (0,0)) from by first|exact (KeepBut.blk hk (g':=gb173) (o:=.cells #[.int .i64 0,.int .i64 0,.int .i64 0,.int .i64 0,.int .i64 0] 66 (0,0)) (by (with_reducible repeat (first|refine blk_drewN ?_ _|refine blk_drew ?_|refine blk_alloc ?_ _));exact (As h0_ h1_)) (Ae h0_) (by simp)))
   clear Aa
   clear HK
   clear HB
   clear HI0
   have Aa:=n0_
   have HK:=n1_
   have HB:=n2_
   have HI0:=n3_
   clear n0_ n1_ n2_ n3_
   (try clear hb)
   (try clear hb2)
   (try clear hk)
   (try clear hi)
   refine hK.out _ _ ⟨v158,adz_v158,v166,adz_v166,gb173,m12_,m20_,m26_,(by rw [ha.out];exact putSel_upk 16 hb_ rfl rfl rfl),(yv0 Aa.out),fun h0_=>absurd ((hon 1 (by kernel_rfl)).symm.trans h0_) (by decide),(yu9 HK.out),(yu8 HB.out HI0.out),fun _ h1_=>absurd ((hon 4 (by kernel_rfl)).symm.trans h1_) (by decide),fun _ h1_=>absurd ((hon 7 (by kernel_rfl)).symm.trans h1_) (by decide),fun _ h1_=>absurd ((hon 11 (by kernel_rfl)).symm.trans h1_) (by decide),Bf,Af,fun _ h1_=>absurd ((hon 15 (by kernel_rfl)).symm.trans h1_) (by decide),fun _ h1_=>absurd ((hon 19 (by kernel_rfl)).symm.trans h1_) (by decide),Bh,Ag,fun _ h1_=>absurd ((up_self b 23).symm.trans h1_) (by decide),fun _=>(yu7 HI0.out),Be,Aq,Ar,Ah,Ae,Ac,Ad,fun h0_=>nh (hoff 27 (by kernel_rfl)) h0_,Ay,A7,Av⟩
  refine steps_cons ?_ ?_
  ·rintro b a w' ⟨v158,adz_v158,v166,adz_v166,gb173,m12_,m20_,m26_,ha,Al,Bd,A0,A1,A2,Az,Aw,Am,Af,At,Ao,Ap,Ag,An,Ak,As,Aq,Ar,Ah,Ae,Ac,Ad,Au,Ay,A7,Av⟩ hb_ hon hoff
   refine ⟨_,rfl,fun K hK=>?_⟩
   have e29:a.tmps[29]? =some (.int .i64 t171):=by rw [ha];exact putSel_on (e:=(23,29,.int .i64 t171)) 16 rfl rfl (hon 23 (by kernel_rfl)) rfl
   replace ha:=Aside0.mk ha
   have Aa:=Aside0.mk Al
   have HK:=Aside0.mk A0
   have HB:=Aside0.mk A1
   have HI0:=Aside0.mk (Ak (hon 23 (by kernel_rfl)))
   refine value_ (w1:=w') (v:=.int .i64 (wrap64 (1+t171))) (by rfl) rfl ?_ ?_
   ·go_simp
    (try simp only [i64_w])
    try rfl
   refine hK.out _ _ ⟨v158,adz_v158,v166,adz_v166,gb173,m12_,m20_,m26_,(by rw [ha.out];exact putSel_upk 17 hb_ rfl rfl rfl),Al,fun h0_=>absurd ((hon 1 (by kernel_rfl)).symm.trans h0_) (by decide),A0,A1,fun _ h1_=>absurd ((hon 4 (by kernel_rfl)).symm.trans h1_) (by decide),fun _ h1_=>absurd ((hon 7 (by kernel_rfl)).symm.trans h1_) (by decide),fun _ h1_=>absurd ((hon 11 (by kernel_rfl)).symm.trans h1_) (by decide),Am,Af,fun _ h1_=>absurd ((hon 15 (by kernel_rfl)).symm.trans h1_) (by decide),fun _ h1_=>absurd ((hon 19 (by kernel_rfl)).symm.trans h1_) (by decide),Ap,Ag,fun _ h1_=>absurd ((hon 23 (by kernel_rfl)).symm.trans h1_) (by decide),Ak,As,Aq,Ar,Ah,Ae,Ac,Ad,fun h0_=>nh (hoff 27 (by kernel_rfl)) h0_,Ay,A7,Av⟩
  refine steps_cons ?_ ?_
  ·rintro b a w' ⟨v158,adz_v158,v166,adz_v166,gb173,m12_,m20_,m26_,ha,Al,Bd,A0,A1,A2,Az,Aw,Am,Af,At,Ao,Ap,Ag,An,Ak,As,Aq,Ar,Ah,Ae,Ac,Ad,Au,Ay,A7,Av⟩ hb_ hon hoff
   refine ⟨_,rfl,fun K hK=>?_⟩
   have e8:a.tmps[8]? =some (.int .i64 (wrap64 (1+t151))):=by rw [ha];exact putSel_on (e:=(2,8,.int .i64 (wrap64 (1+t151)))) 1 rfl rfl (hon 2 (by kernel_rfl)) rfl
   have e11:a.tmps[11]? =some (.int .i64 (wrap64 (1+t153))):=by rw [ha];exact putSel_on (e:=(5,11,.int .i64 (wrap64 (1+t153)))) 3 rfl rfl (hon 5 (by kernel_rfl)) rfl
   have e19:a.tmps[19]? =some (.int .i64 (rd y157 t160)):=by rw [ha];exact putSel_on (e:=(13,19,.int .i64 (rd y157 t160))) 9 rfl rfl (hon 13 (by kernel_rfl)) rfl
   have e27:a.tmps[27]? =some (.int .i64 (rd y165 t168)):=by rw [ha];exact putSel_on (e:=(21,27,.int .i64 (rd y165 t168))) 15 rfl rfl (hon 21 (by kernel_rfl)) rfl
   have e30:a.tmps[30]? =some (.int .i64 (wrap64 (1+t171))):=by rw [ha];exact putSel_on (e:=(24,30,.int .i64 (wrap64 (1+t171)))) 17 rfl rfl (hon 24 (by kernel_rfl)) rfl
   replace ha:=Aside0.mk ha
   have Aa:=Aside0.mk Al
   have HK:=Aside0.mk A0
   have HB:=Aside0.mk A1
   have Ai:=Aside0.mk (Am (hon 9 (by kernel_rfl)))
   have HA_HO159:=Aside0.mk (Af (hon 9 (by kernel_rfl)))
   have Aj:=Aside0.mk (Ap (hon 17 (by kernel_rfl)))
   have HA_HO167:=Aside0.mk (Ag (hon 17 (by kernel_rfl)))
   have HI0:=Aside0.mk (Ak (hon 23 (by kernel_rfl)))
   refine value_ (w1:=w') (v:=.agg #[.int .i64 (wrap64 (1+t151)),.int .i64 (wrap64 (1+t153)),.int .i64 (rd y157 t160),.int .i64 (rd y165 t168),.int .i64 (wrap64 (1+t171))]) (by rfl) rfl ?_ ?_
   ·go_simp
    (try simp only [i64_w])
    try rfl
   refine hK.out _ _ ⟨v158,adz_v158,v166,adz_v166,gb173,m12_,m20_,m26_,(by rw [ha.out];exact putSel_upk 18 hb_ rfl rfl rfl),Al,fun h0_=>absurd ((hon 1 (by kernel_rfl)).symm.trans h0_) (by decide),A0,A1,fun _ h1_=>absurd ((hon 4 (by kernel_rfl)).symm.trans h1_) (by decide),fun _ h1_=>absurd ((hon 7 (by kernel_rfl)).symm.trans h1_) (by decide),fun _ h1_=>absurd ((hon 11 (by kernel_rfl)).symm.trans h1_) (by decide),Am,Af,fun _ h1_=>absurd ((hon 15 (by kernel_rfl)).symm.trans h1_) (by decide),fun _ h1_=>absurd ((hon 19 (by kernel_rfl)).symm.trans h1_) (by decide),Ap,Ag,fun _ h1_=>absurd ((hon 23 (by kernel_rfl)).symm.trans h1_) (by decide),Ak,As,Aq,Ar,Ah,Ae,Ac,Ad,fun h0_=>nh (hoff 27 (by kernel_rfl)) h0_,Ay,A7,Av⟩
  refine steps_cons ?_ ?_
  ·rintro b a w' ⟨v158,adz_v158,v166,adz_v166,gb173,m12_,m20_,m26_,ha,Al,Bd,A0,A1,A2,Az,Aw,Am,Af,At,Ao,Ap,Ag,An,Ak,As,Aq,Ar,Ah,Ae,Ac,Ad,Au,Ay,A7,Av⟩ hb_ hon hoff
   refine ⟨_,rfl,fun K hK=>?_⟩
   replace ha:=Aside0.mk ha
   have Aa:=Aside0.mk Al
   have HK:=Aside0.mk A0
   have HB:=Aside0.mk A1
   refine box_step ?hg (N:=5) ?hd (cs:=#[.int .i64 0,.int .i64 0,.int .i64 0,.int .i64 0,.int .i64 0]) (t:=66) ?hr ?_;(case hd=>rfl);(case hg=>rfl);(case hr=>first|(go_simp;done)|(go_simp;rfl))
   intro gb173 hg Bl hbox hb
   have n1_:=Aside0.mk (blk_below (g:=gb150) (o:=.cells #[.int .i64 0,.int .i64 0,.int .i64 0,.int .i64 0,.int .i64 0] 66 (0,0)) (yv0 Aa.out) hb)
   have n2_:=Aside0.mk (KeepBut.trans (yu9 HK.out) (KeepBut.of_below hb g none) (.inl rfl))
   have n3_:=Aside0.mk (below_step (yu10 HB.out) hb)
   have n4_:=Aside0.mk (hbox)
   have n5_:=Aside0.mk ((by rw [hg];exact (keep_size (w:=w) (g:=g) (row:=none) (yu9 HK.out)):w.heap.size≤gb173))
   have n6_:=Aside0.mk ((Nat.le_trans HW0.out (by rw [hg];exact (keep_size (w:=w) (g:=g) (row:=none) (yu9 HK.out)):w.heap.size≤gb173):w0.heap.size≤gb173))
   have n7_:=Aside0.mk ((by rw [hg];exact Nat.ne_of_lt (blk_lt (g:=gb150) (o:=.cells #[.int .i64 0,.int .i64 0,.int .i64 0,.int .i64 0,.int .i64 0] 66 (0,0)) (yv0 Aa.out)):gb150≠gb173))
   have n8_:=Aside0.mk ((by rw [hg];exact Nat.ne_of_gt (blk_lt (g:=gb150) (o:=.cells #[.int .i64 0,.int .i64 0,.int .i64 0,.int .i64 0,.int .i64 0] 66 (0,0)) (yv0 Aa.out)):gb173≠gb150))
   have n9_:=Aside0.mk ((by rw [hg];exact Nat.ne_of_lt (Nat.lt_of_lt_of_le HGL.out (keep_size (w:=w) (g:=g) (row:=none) (yu5 HK.out))):g≠gb173))
   have n10_:=Aside0.mk ((by rw [hg];exact Nat.ne_of_gt (Nat.lt_of_lt_of_le HGL.out (keep_size (w:=w) (g:=g) (row:=none) (yu5 HK.out))):gb173≠g))
   have Ci:=fun (h0_:b 1=false)=>(show IsS113 w0 Bl g s0_0 s0_1 from by first|exact (IsS113.below (by repeat (first|(with_reducible first|exact (Bd h0_)|apply IsS113.alloc|apply IsS113.drewN|apply IsS113.drew|apply IsS113.set_1|refine IsS113.far ?_ Bb.out _)|exact (Bd h0_))) hb))
   have B6:=fun (h0_:b 1=true) (h1_:b 4=false)=>(show IsS113 w0 Bl g s0_0 t152 from by first|exact (IsS113.below (by repeat (first|(with_reducible first|exact (A2 h0_ h1_)|apply IsS113.alloc|apply IsS113.drewN|apply IsS113.drew|apply IsS113.set_1|refine IsS113.far ?_ Bb.out _)|exact (A2 h0_ h1_))) hb))
   have B7:=fun (h0_:b 4=true) (h1_:b 7=false)=>(show IsS113 w0 Bl g s0_0 t154 from by first|exact (IsS113.below (by repeat (first|(with_reducible first|exact (Az h0_ h1_)|apply IsS113.alloc|apply IsS113.drewN|apply IsS113.drew|apply IsS113.set_1|refine IsS113.far ?_ Bb.out _)|exact (Az h0_ h1_))) hb))
   have Bv:=fun (h0_:b 7=true) (h1_:b 11=false)=>(show IsS113 w0 Bl g s0_0 t156 from by first|exact (IsS113.below (by repeat (first|(with_reducible first|exact (Aw h0_ h1_)|apply IsS113.alloc|apply IsS113.drewN|apply IsS113.drew|apply IsS113.set_1|refine IsS113.far ?_ Bb.out _)|exact (Aw h0_ h1_))) hb))
   have Bf:=fun (h0_:b 9=true)=>(show Kd.R (Kd.int .i64) 3 Bl w.heap.size (fun _=>True) v158 y157 from by first|exact (Kd.R_below (mR (Am h0_)) hb)|exact Kd.R_mono (Kd.R_below (mR (Am h0_)) hb) (fun _ h_=>by first|trivial|exact h_|exact h_.1))
   have Bs:=fun (h0_:b 11=true) (h1_:b 15=false)=>(show IsS113 w0 Bl g s0_0 t161 from by first|exact (IsS113.below (by repeat (first|(with_reducible first|exact (At h0_ h1_)|apply IsS113.alloc|apply IsS113.drewN|apply IsS113.drew|apply IsS113.set_1|refine IsS113.far ?_ Bb.out _)|exact (At h0_ h1_))) hb))
   have Bi:=fun (h0_:b 15=true) (h1_:b 19=false)=>(show IsS113 w0 Bl g s0_0 t164 from by first|exact (IsS113.below (by repeat (first|(with_reducible first|exact (Ao h0_ h1_)|apply IsS113.alloc|apply IsS113.drewN|apply IsS113.drew|apply IsS113.set_1|refine IsS113.far ?_ Bb.out _)|exact (Ao h0_ h1_))) hb))
   have Bh:=fun (h0_:b 17=true)=>(show Kd.R (Kd.int .i64) 3 Bl w.heap.size (fun _=>True) v166 y165 from by first|exact (Kd.R_below (mR (Ap h0_)) hb)|exact Kd.R_mono (Kd.R_below (mR (Ap h0_)) hb) (fun _ h_=>by first|trivial|exact h_|exact h_.1))
   have Bj:=fun (h0_:b 19=true) (h1_:b 23=false)=>(show IsS113 w0 Bl g s0_0 t169 from by first|exact (IsS113.below (by repeat (first|(with_reducible first|exact (An h0_ h1_)|apply IsS113.alloc|apply IsS113.drewN|apply IsS113.drew|apply IsS113.set_1|refine IsS113.far ?_ Bb.out _)|exact (An h0_ h1_))) hb))
   have Bk:=fun (h0_:b 23=true)=>(show IsS113 w0 Bl g s0_0 t172 from by first|exact (IsS113.below (by repeat (first|(with_reducible first|exact (Ak h0_)|apply IsS113.alloc|apply IsS113.drewN|apply IsS113.drew|apply IsS113.set_1|refine IsS113.far ?_ Bb.out _)|exact (Ak h0_))) hb))
   clear Aa
   clear HK
   clear HB
   have Aa:=n1_
   have HK:=n2_
   have HB:=n3_
   have Ab:=n4_
   have B1:=n5_
   have B2:=n6_
   have Ax:=n7_
   have Bc:=n8_
   have Bg:=n9_
   have Ba:=n10_
   clear n1_ n2_ n3_ n4_ n5_ n6_ n7_ n8_ n9_ n10_
   clear hb hbox hg
   refine hK.out _ _ ⟨v158,adz_v158,v166,adz_v166,gb173,m12_,m20_,(.pointer (some ⟨gb173,0,none⟩)),(by rw [ha.out];exact putSel_upk 19 hb_ rfl rfl rfl),(yv0 Aa.out),Ci,(yu9 HK.out),(yu10 HB.out),B6,B7,Bv,Bf,Af,Bs,Bi,Bh,Ag,Bj,Bk,fun _ _=>(yv0 Ab.out),fun _=>B1.out,fun _=>B2.out,fun _=>Bg.out,fun _=>Ba.out,fun _=>Ax.out,fun _=>Bc.out,fun h0_=>nh (hoff 27 (by kernel_rfl)) h0_,Ay,A7,fun _=>rfl⟩
  refine steps_cons ?_ ?_
  ·rintro b a w' ⟨v158,adz_v158,v166,adz_v166,gb173,m12_,m20_,m26_,ha,Al,Bd,A0,A1,A2,Az,Aw,Am,Af,At,Ao,Ap,Ag,An,Ak,As,Aq,Ar,Ah,Ae,Ac,Ad,Au,Ay,A7,Av⟩ hb_ hon hoff
   refine ⟨_,rfl,fun K hK=>?_⟩
   have e5:a.tmps[5]? =some (m26_):=by rw [ha];exact putSel_on (e:=(26,5,m26_)) 19 rfl rfl (hon 26 (by kernel_rfl)) rfl
   rw [Av (hon 26 (by kernel_rfl))] at e5
   have e31:a.tmps[31]? =some (.agg #[.int .i64 (wrap64 (1+t151)),.int .i64 (wrap64 (1+t153)),.int .i64 (rd y157 t160),.int .i64 (rd y165 t168),.int .i64 (wrap64 (1+t171))]):=by rw [ha];exact putSel_on (e:=(25,31,.agg #[.int .i64 (wrap64 (1+t151)),.int .i64 (wrap64 (1+t153)),.int .i64 (rd y157 t160),.int .i64 (rd y165 t168),.int .i64 (wrap64 (1+t171))])) 18 rfl rfl (hon 25 (by kernel_rfl)) rfl
   replace ha:=Aside0.mk ha
   have Aa:=Aside0.mk Al
   have HK:=Aside0.mk A0
   have HB:=Aside0.mk A1
   have Ai:=Aside0.mk (Am (hon 9 (by kernel_rfl)))
   have HA_HO159:=Aside0.mk (Af (hon 9 (by kernel_rfl)))
   have Aj:=Aside0.mk (Ap (hon 17 (by kernel_rfl)))
   have HA_HO167:=Aside0.mk (Ag (hon 17 (by kernel_rfl)))
   have HI0:=Aside0.mk (Ak (hon 23 (by kernel_rfl)))
   have Ab:=Aside0.mk (As (hon 26 (by kernel_rfl)) hb_)
   have B1:=Aside0.mk (Aq (hon 26 (by kernel_rfl)))
   have B2:=Aside0.mk (Ar (hon 26 (by kernel_rfl)))
   have Bg:=Aside0.mk (Ah (hon 26 (by kernel_rfl)))
   have Ba:=Aside0.mk (Ae (hon 26 (by kernel_rfl)))
   have Ax:=Aside0.mk (Ac (hon 26 (by kernel_rfl)))
   have Bc:=Aside0.mk (Ad (hon 26 (by kernel_rfl)))
   obtain ⟨co228,eo228⟩:=HA_HO159.out
   clear HA_HO159
   subst eo228
   obtain ⟨co229,eo229⟩:=HA_HO167.out
   clear HA_HO167
   subst eo229
   have hs230:w'.cell? ⟨gb173,0,none⟩=some (.int .i64 0):=(blk_cell Ab.out 0).trans rfl
   have hfs230:=blk_frozen Ab.out 0
   have hns230_0:=Ax.out
   have hms230_0:=Bc.out
   have hs231:w'.cell? ⟨gb173,1,none⟩=some (.int .i64 0):=(blk_cell Ab.out 1).trans rfl
   have hfs231:=blk_frozen Ab.out 1
   have hns231_0:=Ax.out
   have hms231_0:=Bc.out
   have hs232:w'.cell? ⟨gb173,2,none⟩=some (.int .i64 0):=(blk_cell Ab.out 2).trans rfl
   have hfs232:=blk_frozen Ab.out 2
   have hns232_0:=Ax.out
   have hms232_0:=Bc.out
   have hs233:w'.cell? ⟨gb173,3,none⟩=some (.int .i64 0):=(blk_cell Ab.out 3).trans rfl
   have hfs233:=blk_frozen Ab.out 3
   have hns233_0:=Ax.out
   have hms233_0:=Bc.out
   have hs234:w'.cell? ⟨gb173,4,none⟩=some (.int .i64 0):=(blk_cell Ab.out 4).trans rfl
   have hfs234:=blk_frozen Ab.out 4
   have hns234_0:=Ax.out
   have hms234_0:=Bc.out
   refine skip_ (w1:=?_) (by rfl) rfl ?_ ?_
   rotate_left
   ·go_simp
    rfl
   refine hK.out _ _ ⟨.slice (some adz_v158) y157.length co228,adz_v158,.slice (some adz_v166) y165.length co229,adz_v166,gb173,m12_,m20_,m26_,(by rw [ha.out];exact putSel_none (v:=undef) rfl),(yv1 Ax.out Ax.out Ax.out Ax.out Ax.out Aa.out),fun h0_=>absurd ((hon 1 (by kernel_rfl)).symm.trans h0_) (by decide),(yu9 HK.out),(yu8 HB.out HI0.out),fun _ h1_=>absurd ((hon 4 (by kernel_rfl)).symm.trans h1_) (by decide),fun _ h1_=>absurd ((hon 7 (by kernel_rfl)).symm.trans h1_) (by decide),fun _ h1_=>absurd ((hon 11 (by kernel_rfl)).symm.trans h1_) (by decide),fun _=>(by (with_reducible repeat (first|apply Kd.R_alloc|apply Kd.R_drewN|apply Kd.R_drew));exact Kd.R_mono (Kd.R_far (p:=⟨gb173,4,none⟩) (Kd.R_far (p:=⟨gb173,3,none⟩) (Kd.R_far (p:=⟨gb173,2,none⟩) (Kd.R_far (p:=⟨gb173,1,none⟩) (Kd.R_far (p:=⟨gb173,0,none⟩) (Kd.R_types Ai.out Ab.out (by decide)) (fun _ hk=>hk.2) (.int .i64 (wrap64 (1+t151)))) (fun _ hk=>hk.2) (.int .i64 (wrap64 (1+t153)))) (fun _ hk=>hk.2) (.int .i64 (rd y157 t160))) (fun _ hk=>hk.2) (.int .i64 (rd y165 t168))) (fun _ hk=>hk.2) (.int .i64 (wrap64 (1+t171)))) (fun _ hk=>hk.1)),fun _=>⟨_,rfl⟩,fun _ h1_=>absurd ((hon 15 (by kernel_rfl)).symm.trans h1_) (by decide),fun _ h1_=>absurd ((hon 19 (by kernel_rfl)).symm.trans h1_) (by decide),fun _=>(by (with_reducible repeat (first|apply Kd.R_alloc|apply Kd.R_drewN|apply Kd.R_drew));exact Kd.R_mono (Kd.R_far (p:=⟨gb173,4,none⟩) (Kd.R_far (p:=⟨gb173,3,none⟩) (Kd.R_far (p:=⟨gb173,2,none⟩) (Kd.R_far (p:=⟨gb173,1,none⟩) (Kd.R_far (p:=⟨gb173,0,none⟩) (Kd.R_types Aj.out Ab.out (by decide)) (fun _ hk=>hk.2) (.int .i64 (wrap64 (1+t151)))) (fun _ hk=>hk.2) (.int .i64 (wrap64 (1+t153)))) (fun _ hk=>hk.2) (.int .i64 (rd y157 t160))) (fun _ hk=>hk.2) (.int .i64 (rd y165 t168))) (fun _ hk=>hk.2) (.int .i64 (wrap64 (1+t171)))) (fun _ hk=>hk.1)),fun _=>⟨_,rfl⟩,fun _ h1_=>absurd ((hon 23 (by kernel_rfl)).symm.trans h1_) (by decide),fun _=>(yu7 HI0.out),fun _ h1_=>absurd ((up_self b 27).symm.trans h1_) (by decide),fun _=>B1.out,fun _=>B2.out,fun _=>Bg.out,fun _=>Ba.out,fun _=>Ax.out,fun _=>Bc.out,fun _=>(by (with_reducible repeat (first|refine blk_drewN ?_ _|refine blk_drew ?_|refine blk_alloc ?_ _));refine blk_put (cs:=#[.int .i64 (wrap64 (1+t151)),.int .i64 (wrap64 (1+t153)),.int .i64 (rd y157 t160),.int .i64 (rd y165 t168),.int .i64 0]) ?_ 4 _ rfl;(with_reducible repeat (first|refine blk_drewN ?_ _|refine blk_drew ?_|refine blk_alloc ?_ _));refine blk_put (cs:=#[.int .i64 (wrap64 (1+t151)),.int .i64 (wrap64 (1+t153)),.int .i64 (rd y157 t160),.int .i64 0,.int .i64 0]) ?_ 3 _ rfl;(with_reducible repeat (first|refine blk_drewN ?_ _|refine blk_drew ?_|refine blk_alloc ?_ _));refine blk_put (cs:=#[.int .i64 (wrap64 (1+t151)),.int .i64 (wrap64 (1+t153)),.int .i64 0,.int .i64 0,.int .i64 0]) ?_ 2 _ rfl;(with_reducible repeat (first|refine blk_drewN ?_ _|refine blk_drew ?_|refine blk_alloc ?_ _));refine blk_put (cs:=#[.int .i64 (wrap64 (1+t151)),.int .i64 0,.int .i64 0,.int .i64 0,.int .i64 0]) ?_ 1 _ rfl;(with_reducible repeat (first|refine blk_drewN ?_ _|refine blk_drew ?_|refine blk_alloc ?_ _));refine blk_put (cs:=#[.int .i64 0,.int .i64 0,.int .i64 0,.int .i64 0,.int .i64 0]) ?_ 0 _ rfl;(with_reducible repeat (first|refine blk_drewN ?_ _|refine blk_drew ?_|refine blk_alloc ?_ _));exact Ab.out),Ay,A7,Av⟩
  exact steps_nil
 rintro b a He hall ⟨v158,adz_v158,v166,adz_v166,gb173,m12_,m20_,m26_,ha,Al,Bd,A0,A1,A2,Az,Aw,Am,Af,At,Ao,Ap,Ag,An,Ak,As,Aq,Ar,Ah,Ae,Ac,Ad,Au,Ay,A7,Av⟩
 clear Aa HB HI0 HK
 have hb1_:=hall 1 (by kernel_rfl)
 have hb2_:=hall 2 (by kernel_rfl)
 have hb4_:=hall 4 (by kernel_rfl)
 have hb5_:=hall 5 (by kernel_rfl)
 have hb7_:=hall 7 (by kernel_rfl)
 have hb8_:=hall 8 (by kernel_rfl)
 have hb9_:=hall 9 (by kernel_rfl)
 have hb11_:=hall 11 (by kernel_rfl)
 have hb12_:=hall 12 (by kernel_rfl)
 have hb13_:=hall 13 (by kernel_rfl)
 have hb15_:=hall 15 (by kernel_rfl)
 have hb16_:=hall 16 (by kernel_rfl)
 have hb17_:=hall 17 (by kernel_rfl)
 have hb19_:=hall 19 (by kernel_rfl)
 have hb20_:=hall 20 (by kernel_rfl)
 have hb21_:=hall 21 (by kernel_rfl)
 have hb23_:=hall 23 (by kernel_rfl)
 have hb24_:=hall 24 (by kernel_rfl)
 have hb25_:=hall 25 (by kernel_rfl)
 have hb26_:=hall 26 (by kernel_rfl)
 have hb27_:=hall 27 (by kernel_rfl)
 subst ha
 obtain rfl:=Ay hb12_
 obtain rfl:=A7 hb20_
 obtain rfl:=Av hb26_
 simp only [putSel,hb1_,hb2_,hb4_,hb5_,hb7_,hb8_,hb9_,hb11_,hb12_,hb13_,hb15_,hb16_,hb17_,hb19_,hb20_,hb21_,hb23_,hb24_,hb25_,hb26_,hb27_,if_true,Act.put,List.setIfInBounds_toArray,List.set_cons_zero,List.set_cons_succ]
 have Aa:=Aside0.mk Al
 clear Al
 clear Bd
 have HK:=Aside0.mk A0
 clear A0
 have HB:=Aside0.mk A1
 clear A1
 clear A2
 clear Az
 clear Aw
 have Ai:=Aside0.mk (Am hb9_)
 clear Am
 have HA_HO159:=Aside0.mk (Af hb9_)
 clear Af
 clear At
 clear Ao
 have Aj:=Aside0.mk (Ap hb17_)
 clear Ap
 have HA_HO167:=Aside0.mk (Ag hb17_)
 clear Ag
 clear An
 have HI0:=Aside0.mk (Ak hb23_)
 clear Ak
 clear As
 have B1:=Aside0.mk (Aq hb26_)
 clear Aq
 have B2:=Aside0.mk (Ar hb26_)
 clear Ar
 have Bg:=Aside0.mk (Ah hb26_)
 clear Ah
 have Ba:=Aside0.mk (Ae hb26_)
 clear Ae
 have Ax:=Aside0.mk (Ac hb26_)
 clear Ac
 have Bc:=Aside0.mk (Ad hb26_)
 clear Ad
 have Ab:=Aside0.mk (Au hb27_)
 clear Au
 clear hall hb1_ hb2_ hb4_ hb5_ hb7_ hb8_ hb9_ hb11_ hb12_ hb13_ hb15_ hb16_ hb17_ hb19_ hb20_ hb21_ hb23_ hb24_ hb25_ hb26_ hb27_
 obtain ⟨co233,eo233⟩:=HA_HO159.out
 clear HA_HO159
 subst eo233
 obtain ⟨co234,eo234⟩:=HA_HO167.out
 clear HA_HO167
 subst eo234
 have H:=HH.out
 clear HH
 by_cases c15:t174=true
 rotate_left
 ·replace c15:=Bool.eq_false_iff.mpr c15
  subst c15
  have H1:(some (wrap64 (1+t151),wrap64 (1+t153),rd y157 t160,rd y165 t168,wrap64 (1+t171),t175))=some (r1,r2,r3,r4,r5,r6):=by rw [if_neg (show ¬ (false=true) by decide)] at H;exact H
  clear H
  have H:=H1
  clear H1
  simp only [Option.some.injEq,Prod.mk.injEq] at H
  obtain ⟨rfl,rfl,rfl,rfl,rfl,rfl⟩:=H
  try go_wp2_with (first|((with_reducible refine gate_callee (f:=98) rfl ?_);refine goesL_ (some 34) rfl rfl Try.func98 (by kernel_rfl) rfl #[.pointer (some ⟨g,0,none⟩),.int .i64 a1] rfl am ?_;(with_reducible refine (spec_l20Rd_odd.calls k g s0_0 t172 a1 false t175 w0 _ ?side1 ?side2 B3.out).mono ?_);(case side1=>exact yu7 HI0.out);(case side2=>exact yu8 HB.out HI0.out);rintro e Bn ⟨rfl,hi,hb,hk⟩;refine ⟨_,rfl,?_⟩;have n0_:=Aside0.mk (KeepBut.blk hk (g':=gb150) (o:=.cells #[.int .i64 0,.int .i64 0,.int .i64 0,.int .i64 0,.int .i64 0] 66 (0,0)) (yv0 Aa.out) A8.out (by simp));have n1_:=Aside0.mk (Kd.R_mono (Kd.R_keep (IsS113.apart (show IsS113 w0 _ g s0_0 t172 from by exact yu7 HI0.out) (mR Ai.out) (by decide)) hk (fun _ h=>h.2)) (fun _ h=>h.1));have n2_:=Aside0.mk (Kd.R_mono (Kd.R_keep (IsS113.apart (show IsS113 w0 _ g s0_0 t172 from by exact yu7 HI0.out) (mR Aj.out) (by decide)) hk (fun _ h=>h.2)) (fun _ h=>h.1));have n3_:=Aside0.mk (KeepBut.blk hk (g':=gb173) (o:=.cells #[.int .i64 (wrap64 (1+t151)),.int .i64 (wrap64 (1+t153)),.int .i64 (rd y157 t160),.int .i64 (rd y165 t168),.int .i64 (wrap64 (1+t171))] 66 (0,0)) (yv0 Ab.out) Ba.out (by simp));have n4_:=Aside0.mk (KeepBut.trans (yu9 HK.out) hk (.inl rfl));have n5_:=Aside0.mk (hb);have n6_:=Aside0.mk (hi);clear Aa;clear Ai;clear Aj;clear Ab;clear HK;clear HB;clear HI0;have Aa:=n0_;have Ai:=n1_;have Aj:=n2_;have Ab:=n3_;have HK:=n4_;have HB:=n5_;have HI0:=n6_;clear n0_ n1_ n2_ n3_ n4_ n5_ n6_;(try clear hb);(try clear hb2);(try clear hk);(try clear hi);have F7:=Bc.out;have F8:=Ax.out;have F9:=Ba.out;have Ga:=Bg.out;have Cr:Bn.cell? ⟨gb173,0,none⟩=some (.int .i64 (wrap64 (1+t151))):=(blk_cell Ab.out 0).trans rfl;have Cs:Bn.cell? ⟨gb173,1,none⟩=some (.int .i64 (wrap64 (1+t153))):=(blk_cell Ab.out 1).trans rfl;have Ct:Bn.cell? ⟨gb173,2,none⟩=some (.int .i64 (rd y157 t160)):=(blk_cell Ab.out 2).trans rfl;have Cu:Bn.cell? ⟨gb173,3,none⟩=some (.int .i64 (rd y165 t168)):=(blk_cell Ab.out 3).trans rfl;have Cv:Bn.cell? ⟨gb173,4,none⟩=some (.int .i64 (wrap64 (1+t171))):=(blk_cell Ab.out 4).trans rfl;have Cw:=blk_frozen Ab.out 0;have Cx:=blk_frozen Ab.out 1;have Cy:=blk_frozen Ab.out 2;have Cz:=blk_frozen Ab.out 3;have C0:=blk_frozen Ab.out 4;have Gb:=A8.out;have Gc:=Bb.out;have C1:Bn.cell? ⟨gb150,0,none⟩=some (.int .i64 0):=(blk_cell Aa.out 0).trans rfl;have C2:Bn.cell? ⟨gb150,1,none⟩=some (.int .i64 0):=(blk_cell Aa.out 1).trans rfl;have C3:Bn.cell? ⟨gb150,2,none⟩=some (.int .i64 0):=(blk_cell Aa.out 2).trans rfl;have C4:Bn.cell? ⟨gb150,3,none⟩=some (.int .i64 0):=(blk_cell Aa.out 3).trans rfl;have C5:Bn.cell? ⟨gb150,4,none⟩=some (.int .i64 0):=(blk_cell Aa.out 4).trans rfl;have C6:=blk_frozen Aa.out 0;have C7:=blk_frozen Aa.out 1;have C8:=blk_frozen Aa.out 2;have C9:=blk_frozen Aa.out 3;have Da:=blk_frozen Aa.out 4))
  refine bodyPost_ret (results_cell_row rfl _ _ gb150 66 #[.int .i64 (wrap64 (1+t151)),.int .i64 (wrap64 (1+t153)),.int .i64 (rd y157 t160),.int .i64 (rd y165 t168),.int .i64 (wrap64 (1+t171))] (0,0) _ rfl (by (with_reducible repeat (first|refine blk_drewN ?_ _|refine blk_drew ?_|refine blk_alloc ?_ _));refine blk_put (cs:=#[.int .i64 (wrap64 (1+t151)),.int .i64 (wrap64 (1+t153)),.int .i64 (rd y157 t160),.int .i64 (rd y165 t168),.int .i64 0]) ?_ 4 _ rfl;(with_reducible repeat (first|refine blk_drewN ?_ _|refine blk_drew ?_|refine blk_alloc ?_ _));refine blk_put (cs:=#[.int .i64 (wrap64 (1+t151)),.int .i64 (wrap64 (1+t153)),.int .i64 (rd y157 t160),.int .i64 0,.int .i64 0]) ?_ 3 _ rfl;(with_reducible repeat (first|refine blk_drewN ?_ _|refine blk_drew ?_|refine blk_alloc ?_ _));refine blk_put (cs:=#[.int .i64 (wrap64 (1+t151)),.int .i64 (wrap64 (1+t153)),.int .i64 0,.int .i64 0,.int .i64 0]) ?_ 2 _ rfl;(with_reducible repeat (first|refine blk_drewN ?_ _|refine blk_drew ?_|refine blk_alloc ?_ _));refine blk_put (cs:=#[.int .i64 (wrap64 (1+t151)),.int .i64 0,.int .i64 0,.int .i64 0,.int .i64 0]) ?_ 1 _ rfl;(with_reducible repeat (first|refine blk_drewN ?_ _|refine blk_drew ?_|refine blk_alloc ?_ _));refine blk_put (cs:=#[.int .i64 0,.int .i64 0,.int .i64 0,.int .i64 0,.int .i64 0]) ?_ 0 _ rfl;(with_reducible repeat (first|refine blk_drewN ?_ _|refine blk_drew ?_|refine blk_alloc ?_ _));exact Aa.out) Try.underlying66 rfl (by kernel_rfl)) rfl ?_
  exact ⟨by first|rfl|(simp [errW_none,errW_some] <;> rfl)|(simp [*,errW_none,errW_some] <;> rfl),by exact yu7 HI0.out,by exact yu8 HB.out HI0.out,by exact yu9 HK.out⟩
 subst c15
 have H1:((spec_l20Rd_pick.f k s0_0 t175 5).bind fun bt176=>(if bt176.1=0 then ((some (([0,3]:List Int):List Int)).bind fun y178=>((spec_l20Rd_pick.f k s0_0 bt176.2 2).bind fun bt181=>(if 0≤bt181.1 then (if bt181.1<(y178.length:Int) then (some (rd y178 bt181.1,wrap64 (1+t153),rd y157 t160,rd y165 t168,wrap64 (1+t171),bt181.2)) else (none)) else (none)))) else (if bt176.1=1 then ((some (([0,5]:List Int):List Int)).bind fun y184=>((spec_l20Rd_pick.f k s0_0 bt176.2 2).bind fun bt187=>(if 0≤bt187.1 then (if bt187.1<(y184.length:Int) then (some (wrap64 (1+t151),rd y184 bt187.1,rd y157 t160,rd y165 t168,wrap64 (1+t171),bt187.2)) else (none)) else (none)))) else (if bt176.1=2 then ((some (([0,9]:List Int):List Int)).bind fun y190=>((spec_l20Rd_pick.f k s0_0 bt176.2 2).bind fun bt193=>(if 0≤bt193.1 then (if bt193.1<(y190.length:Int) then (some (wrap64 (1+t151),wrap64 (1+t153),rd y190 bt193.1,rd y165 t168,wrap64 (1+t171),bt193.2)) else (none)) else (none)))) else (if bt176.1=3 then ((some (([0,25]:List Int):List Int)).bind fun y196=>((spec_l20Rd_pick.f k s0_0 bt176.2 2).bind fun bt199=>(if 0≤bt199.1 then (if bt199.1<(y196.length:Int) then (some (wrap64 (1+t151),wrap64 (1+t153),rd y157 t160,rd y196 bt199.1,wrap64 (1+t171),bt199.2)) else (none)) else (none)))) else ((some (([0,6]:List Int):List Int)).bind fun y202=>((spec_l20Rd_pick.f k s0_0 bt176.2 2).bind fun bt205=>(if 0≤bt205.1 then (if bt205.1<(y202.length:Int) then (some (wrap64 (1+t151),wrap64 (1+t153),rd y157 t160,rd y165 t168,rd y202 bt205.1,bt205.2)) else (none)) else (none)))))))))=some (r1,r2,r3,r4,r5,r6):=by rw [if_pos rfl] at H;exact H
 clear H
 have H:=H1
 clear H1
 replace H:=Option.bind_eq_some_iff.mp H
 obtain ⟨⟨t176,t177⟩,Ce,H⟩:=H
 replace H:(if t176=0 then ((some (([0,3]:List Int):List Int)).bind fun y178=>((spec_l20Rd_pick.f k s0_0 t177 2).bind fun bt181=>(if 0≤bt181.1 then (if bt181.1<(y178.length:Int) then (some (rd y178 bt181.1,wrap64 (1+t153),rd y157 t160,rd y165 t168,wrap64 (1+t171),bt181.2)) else (none)) else (none)))) else (if t176=1 then ((some (([0,5]:List Int):List Int)).bind fun y184=>((spec_l20Rd_pick.f k s0_0 t177 2).bind fun bt187=>(if 0≤bt187.1 then (if bt187.1<(y184.length:Int) then (some (wrap64 (1+t151),rd y184 bt187.1,rd y157 t160,rd y165 t168,wrap64 (1+t171),bt187.2)) else (none)) else (none)))) else (if t176=2 then ((some (([0,9]:List Int):List Int)).bind fun y190=>((spec_l20Rd_pick.f k s0_0 t177 2).bind fun bt193=>(if 0≤bt193.1 then (if bt193.1<(y190.length:Int) then (some (wrap64 (1+t151),wrap64 (1+t153),rd y190 bt193.1,rd y165 t168,wrap64 (1+t171),bt193.2)) else (none)) else (none)))) else (if t176=3 then ((some (([0,25]:List Int):List Int)).bind fun y196=>((spec_l20Rd_pick.f k s0_0 t177 2).bind fun bt199=>(if 0≤bt199.1 then (if bt199.1<(y196.length:Int) then (some (wrap64 (1+t151),wrap64 (1+t153),rd y157 t160,rd y196 bt199.1,wrap64 (1+t171),bt199.2)) else (none)) else (none)))) else ((some (([0,6]:List Int):List Int)).bind fun y202=>((spec_l20Rd_pick.f k s0_0 t177 2).bind fun bt205=>(if 0≤bt205.1 then (if bt205.1<(y202.length:Int) then (some (wrap64 (1+t151),wrap64 (1+t153),rd y157 t160,rd y165 t168,rd y202 bt205.1,bt205.2)) else (none)) else (none))))))))=some (r1,r2,r3,r4,r5,r6):=H
 have B4:=Aside0.mk Ce
 clear Ce
 by_cases c17:t176=0
 ·rw [if_pos c17] at H
  have c17b0:(t176 == 0)=true:=beq_iff_eq.mpr c17
  have c17b1:(t176 != 0)=false:=bne_eq_false_iff_eq.mpr c17
  clear c17
  obtain ⟨y178,hy178⟩:∃ y_:List Int,y_=(([0,3]:List Int)):=⟨_,rfl⟩
  replace H:((spec_l20Rd_pick.f k s0_0 t177 2).bind fun bt181=>(if 0≤bt181.1 then (if bt181.1<(y178.length:Int) then (some (rd y178 bt181.1,wrap64 (1+t153),rd y157 t160,rd y165 t168,wrap64 (1+t171),bt181.2)) else (none)) else (none)))=some (r1,r2,r3,r4,r5,r6):=by first|(rw [hy178];with_reducible exact H)|(have H2_:=(Option.bind_some _ _).symm.trans H;rw [hy178];with_reducible exact H2_)|(have H2_:=(Option.bind_some _ _).symm.trans H;with_reducible exact H2_)|with_reducible exact H|(rw [hy178];exact H)|exact H
  have Ny178:=Aside0.mk hy178
  clear hy178
  replace H:=Option.bind_eq_some_iff.mp H
  obtain ⟨⟨t181,t182⟩,Cf,H⟩:=H
  replace H:(if 0≤t181 then (if t181<(y178.length:Int) then (some (rd y178 t181,wrap64 (1+t153),rd y157 t160,rd y165 t168,wrap64 (1+t171),t182)) else (none)) else (none))=some (r1,r2,r3,r4,r5,r6):=H
  have Gd:=Aside0.mk Cf
  clear Cf
  by_cases c19:0≤t181
  rotate_left
  ·rw [if_neg c19] at H
   exact absurd H (by simp)
  rw [if_pos c19] at H
  have c19b0:decide (0≤t181)=true:=decide_eq_true c19
  clear c19
  by_cases c20:t181<(y178.length:Int)
  rotate_left
  ·rw [if_neg c20] at H
   exact absurd H (by simp)
  rw [if_pos c20] at H
  have c20b0:decide (t181<(y178.length:Int))=true:=decide_eq_true c20
  clear c20
  simp only [Option.some.injEq,Prod.mk.injEq] at H
  obtain ⟨rfl,rfl,rfl,rfl,rfl,rfl⟩:=H
  try go_wp2_with (first|((with_reducible refine gate_callee (f:=98) rfl ?_);refine goesL_ (some 34) rfl rfl Try.func98 (by kernel_rfl) rfl #[.pointer (some ⟨g,0,none⟩),.int .i64 a1] rfl am ?_;(with_reducible refine (spec_l20Rd_odd.calls k g s0_0 t172 a1 true t175 w0 _ ?side1 ?side2 B3.out).mono ?_);(case side1=>exact yu7 HI0.out);(case side2=>exact yu8 HB.out HI0.out);rintro e Ho ⟨rfl,hi,hb,hk⟩;refine ⟨_,rfl,?_⟩;have n0_:=Aside0.mk (KeepBut.blk hk (g':=gb150) (o:=.cells #[.int .i64 0,.int .i64 0,.int .i64 0,.int .i64 0,.int .i64 0] 66 (0,0)) (yv0 Aa.out) A8.out (by simp));have n1_:=Aside0.mk (Kd.R_mono (Kd.R_keep (IsS113.apart (show IsS113 w0 _ g s0_0 t172 from by exact yu7 HI0.out) (mR Ai.out) (by decide)) hk (fun _ h=>h.2)) (fun _ h=>h.1));have n2_:=Aside0.mk (Kd.R_mono (Kd.R_keep (IsS113.apart (show IsS113 w0 _ g s0_0 t172 from by exact yu7 HI0.out) (mR Aj.out) (by decide)) hk (fun _ h=>h.2)) (fun _ h=>h.1));have n3_:=Aside0.mk (KeepBut.blk hk (g':=gb173) (o:=.cells #[.int .i64 (wrap64 (1+t151)),.int .i64 (wrap64 (1+t153)),.int .i64 (rd y157 t160),.int .i64 (rd y165 t168),.int .i64 (wrap64 (1+t171))] 66 (0,0)) (yv0 Ab.out) Ba.out (by simp));have n4_:=Aside0.mk (KeepBut.trans (yu9 HK.out) hk (.inl rfl));have n5_:=Aside0.mk (hb);have n6_:=Aside0.mk (hi);clear Aa;clear Ai;clear Aj;clear Ab;clear HK;clear HB;clear HI0;have Aa:=n0_;have Ai:=n1_;have Aj:=n2_;have Ab:=n3_;have HK:=n4_;have HB:=n5_;have HI0:=n6_;clear n0_ n1_ n2_ n3_ n4_ n5_ n6_;(try clear hb);(try clear hb2);(try clear hk);(try clear hi))|((with_reducible refine gate_callee (f:=70) rfl ?_);refine goesL_ (some 36) rfl rfl Try.func70 (by kernel_rfl) rfl #[.pointer (some ⟨g,0,none⟩),.int .i64 5] rfl am ?_;(with_reducible refine (spec_l20Rd_pick.calls k g s0_0 t175 5 t176 t177 w0 _ ?side1 ?side2 B4.out).mono ?_);(case side1=>exact yu7 HI0.out);(case side2=>exact yu8 HB.out HI0.out);rintro e Hp ⟨rfl,hi,hb,hk⟩;refine ⟨_,rfl,?_⟩;have n0_:=Aside0.mk (KeepBut.blk hk (g':=gb150) (o:=.cells #[.int .i64 0,.int .i64 0,.int .i64 0,.int .i64 0,.int .i64 0] 66 (0,0)) (yv0 Aa.out) A8.out (by simp));have n1_:=Aside0.mk (Kd.R_mono (Kd.R_keep (IsS113.apart (show IsS113 w0 _ g s0_0 t175 from by exact yu7 HI0.out) (mR Ai.out) (by decide)) hk (fun _ h=>h.2)) (fun _ h=>h.1));have n2_:=Aside0.mk (Kd.R_mono (Kd.R_keep (IsS113.apart (show IsS113 w0 _ g s0_0 t175 from by exact yu7 HI0.out) (mR Aj.out) (by decide)) hk (fun _ h=>h.2)) (fun _ h=>h.1));have n3_:=Aside0.mk (KeepBut.blk hk (g':=gb173) (o:=.cells #[.int .i64 (wrap64 (1+t151)),.int .i64 (wrap64 (1+t153)),.int .i64 (rd y157 t160),.int .i64 (rd y165 t168),.int .i64 (wrap64 (1+t171))] 66 (0,0)) (yv0 Ab.out) Ba.out (by simp));have n4_:=Aside0.mk (KeepBut.trans (yu9 HK.out) hk (.inl rfl));have n5_:=Aside0.mk (hb);have n6_:=Aside0.mk (hi);clear Aa;clear Ai;clear Aj;clear Ab;clear HK;clear HB;clear HI0;have Aa:=n0_;have Ai:=n1_;have Aj:=n2_;have Ab:=n3_;have HK:=n4_;have HB:=n5_;have HI0:=n6_;clear n0_ n1_ n2_ n3_ n4_ n5_ n6_;(try clear hb);(try clear hb2);(try clear hk);(try clear hi))|((with_reducible refine gate_dst (N:=45) rfl ?_);refine Kd.R_lit (Kd.int .i64) _ 3 ?hg (N:=45) ?hd (xs:=([0,3]:List Int)) (inner:=[.int .i64 0,.int .i64 3]) (ok:=fun _=>True) (okp:=fun _=>True) ?hr ?hp (fun _ hk=>hk) trivial (Below.refl _ _) (Nat.le_refl _) (by simp) ?_;(case hd=>rfl);(case hg=>rfl);(case hr=>first|(go_simp;done)|(go_simp;rfl));(case hp=>exact (Reps.one (show Kd.M (Kd.int .i64) _ _ _ 0 [.int .i64 0] from rfl) (Reps.one (show Kd.M (Kd.int .i64) _ _ _ 3 [.int .i64 3] from rfl) (Reps.none _ _))));intro v179 Hq ho48 hb hg_ hnew_;clear hg_ hnew_;(first|rw [← Ny178.out] at ho48|(simp only [Int.reduceToNat] at ho48;rw [← Ny178.out] at ho48));have n0_:=Aside0.mk (Kd.R_elder' (mR Ai.out) (Kd.R_base ho48) hb);have n1_:=Aside0.mk (Kd.R_elder' (mR Aj.out) (Kd.R_base ho48) hb);have n2_:=Aside0.mk (Kd.R_lower (Kd.R_new' (Kd.R_new' ho48 (Kd.R_lt (mR Ai.out))) (Kd.R_lt (mR Aj.out))) (keep_size (w:=w) (g:=g) (row:=none) (yu9 HK.out)));have n3_:=Aside0.mk (IsS113.below (yu7 HI0.out) hb);have n4_:=Aside0.mk (blk_below (g:=gb150) (o:=.cells #[.int .i64 0,.int .i64 0,.int .i64 0,.int .i64 0,.int .i64 0] 66 (0,0)) (yv0 Aa.out) hb);have n5_:=Aside0.mk (blk_below (g:=gb173) (o:=.cells #[.int .i64 (wrap64 (1+t151)),.int .i64 (wrap64 (1+t153)),.int .i64 (rd y157 t160),.int .i64 (rd y165 t168),.int .i64 (wrap64 (1+t171))] 66 (0,0)) (yv0 Ab.out) hb);have n6_:=Aside0.mk (KeepBut.trans (yu9 HK.out) (KeepBut.of_below hb g none) (.inl rfl));have n7_:=Aside0.mk (below_step (yu8 HB.out HI0.out) hb);clear Ai;clear Aj;clear HI0;clear Aa;clear Ab;clear HK;clear HB;have Ai:=n0_;have Aj:=n1_;have Bw:=n2_;have HI0:=n3_;have Aa:=n4_;have Ab:=n5_;have HK:=n6_;have HB:=n7_;clear n0_ n1_ n2_ n3_ n4_ n5_ n6_ n7_;clear hb ho48)|((with_reducible refine gate_callee (f:=70) rfl ?_);refine goesL_ (some 47) rfl rfl Try.func70 (by kernel_rfl) rfl #[.pointer (some ⟨g,0,none⟩),.int .i64 2] rfl am ?_;(with_reducible refine (spec_l20Rd_pick.calls k g s0_0 t177 2 t181 t182 w0 _ ?side1 ?side2 Gd.out).mono ?_);(case side1=>exact yu7 HI0.out);(case side2=>exact yu8 HB.out HI0.out);rintro e Bt ⟨rfl,hi,hb,hk⟩;refine ⟨_,rfl,?_⟩;have n0_:=Aside0.mk (KeepBut.blk hk (g':=gb150) (o:=.cells #[.int .i64 0,.int .i64 0,.int .i64 0,.int .i64 0,.int .i64 0] 66 (0,0)) (yv0 Aa.out) A8.out (by simp));have n1_:=Aside0.mk (Kd.R_mono (Kd.R_keep (IsS113.apart (show IsS113 w0 _ g s0_0 t177 from by exact yu7 HI0.out) (mR Ai.out) (by decide)) hk (fun _ h=>h.2)) (fun _ h=>h.1));have n2_:=Aside0.mk (Kd.R_mono (Kd.R_keep (IsS113.apart (show IsS113 w0 _ g s0_0 t177 from by exact yu7 HI0.out) (mR Aj.out) (by decide)) hk (fun _ h=>h.2)) (fun _ h=>h.1));have n3_:=Aside0.mk (KeepBut.blk hk (g':=gb173) (o:=.cells #[.int .i64 (wrap64 (1+t151)),.int .i64 (wrap64 (1+t153)),.int .i64 (rd y157 t160),.int .i64 (rd y165 t168),.int .i64 (wrap64 (1+t171))] 66 (0,0)) (yv0 Ab.out) Ba.out (by simp));have n4_:=Aside0.mk (Kd.R_mono (Kd.R_keep (IsS113.apart (show IsS113 w0 _ g s0_0 t177 from by exact yu7 HI0.out) (mR Bw.out) (by decide)) hk (fun _ h=>h.2)) (fun _ h=>h.1));have n5_:=Aside0.mk (KeepBut.trans (yu9 HK.out) hk (.inl rfl));have n6_:=Aside0.mk (hb);have n7_:=Aside0.mk (hi);clear Aa;clear Ai;clear Aj;clear Ab;clear Bw;clear HK;clear HB;clear HI0;have Aa:=n0_;have Ai:=n1_;have Aj:=n2_;have Ab:=n3_;have Bw:=n4_;have HK:=n5_;have HB:=n6_;have HI0:=n7_;clear n0_ n1_ n2_ n3_ n4_ n5_ n6_ n7_;(try clear hb);(try clear hb2);(try clear hk);(try clear hi);obtain ⟨Ao50,co50,eo50⟩:=Kd.R_slice Bw.out;subst eo50;have p183:0≤(t181:Int):=of_decide_eq_true (by first|(with_reducible assumption)|assumption);have q183:t181<(y178.length:Int):=of_decide_eq_true (by first|(with_reducible assumption)|assumption);obtain ⟨ad183,e183,hx183_0⟩:=Kd.at_int (Kd.R_reads' Bw.out).2.2 t181 p183 q183;cases e183;replace p183:=eq_true p183;replace q183:=eq_true q183;have G1:=Bc.out;have G2:=Ax.out;have G3:=Ba.out;have G4:=Bg.out;have E1:Bt.cell? ⟨gb173,0,none⟩=some (.int .i64 (wrap64 (1+t151))):=(blk_cell Ab.out 0).trans rfl;have E2:Bt.cell? ⟨gb173,1,none⟩=some (.int .i64 (wrap64 (1+t153))):=(blk_cell Ab.out 1).trans rfl;have E3:Bt.cell? ⟨gb173,2,none⟩=some (.int .i64 (rd y157 t160)):=(blk_cell Ab.out 2).trans rfl;have E4:Bt.cell? ⟨gb173,3,none⟩=some (.int .i64 (rd y165 t168)):=(blk_cell Ab.out 3).trans rfl;have E5:Bt.cell? ⟨gb173,4,none⟩=some (.int .i64 (wrap64 (1+t171))):=(blk_cell Ab.out 4).trans rfl;have E6:=blk_frozen Ab.out 0;have E7:=blk_frozen Ab.out 1;have E8:=blk_frozen Ab.out 2;have E9:=blk_frozen Ab.out 3;have Fa:=blk_frozen Ab.out 4;have G5:=A8.out;have G6:=Bb.out;have Fb:Bt.cell? ⟨gb150,0,none⟩=some (.int .i64 0):=(blk_cell Aa.out 0).trans rfl;have Fc:Bt.cell? ⟨gb150,1,none⟩=some (.int .i64 0):=(blk_cell Aa.out 1).trans rfl;have Fd:Bt.cell? ⟨gb150,2,none⟩=some (.int .i64 0):=(blk_cell Aa.out 2).trans rfl;have Fe:Bt.cell? ⟨gb150,3,none⟩=some (.int .i64 0):=(blk_cell Aa.out 3).trans rfl;have Ff:Bt.cell? ⟨gb150,4,none⟩=some (.int .i64 0):=(blk_cell Aa.out 4).trans rfl;have Fg:=blk_frozen Aa.out 0;have Fh:=blk_frozen Aa.out 1;have Fi:=blk_frozen Aa.out 2;have Fj:=blk_frozen Aa.out 3;have Fk:=blk_frozen Aa.out 4))
  refine bodyPost_ret (results_cell_row rfl _ _ gb150 66 #[.int .i64 (rd y178 t181),.int .i64 (wrap64 (1+t153)),.int .i64 (rd y157 t160),.int .i64 (rd y165 t168),.int .i64 (wrap64 (1+t171))] (0,0) _ rfl (by (with_reducible repeat (first|refine blk_drewN ?_ _|refine blk_drew ?_|refine blk_alloc ?_ _));refine blk_put (cs:=#[.int .i64 (rd y178 t181),.int .i64 (wrap64 (1+t153)),.int .i64 (rd y157 t160),.int .i64 (rd y165 t168),.int .i64 0]) ?_ 4 _ rfl;(with_reducible repeat (first|refine blk_drewN ?_ _|refine blk_drew ?_|refine blk_alloc ?_ _));refine blk_put (cs:=#[.int .i64 (rd y178 t181),.int .i64 (wrap64 (1+t153)),.int .i64 (rd y157 t160),.int .i64 0,.int .i64 0]) ?_ 3 _ rfl;(with_reducible repeat (first|refine blk_drewN ?_ _|refine blk_drew ?_|refine blk_alloc ?_ _));refine blk_put (cs:=#[.int .i64 (rd y178 t181),.int .i64 (wrap64 (1+t153)),.int .i64 0,.int .i64 0,.int .i64 0]) ?_ 2 _ rfl;(with_reducible repeat (first|refine blk_drewN ?_ _|refine blk_drew ?_|refine blk_alloc ?_ _));refine blk_put (cs:=#[.int .i64 (rd y178 t181),.int .i64 0,.int .i64 0,.int .i64 0,.int .i64 0]) ?_ 1 _ rfl;(with_reducible repeat (first|refine blk_drewN ?_ _|refine blk_drew ?_|refine blk_alloc ?_ _));refine blk_put (cs:=#[.int .i64 0,.int .i64 0,.int .i64 0,.int .i64 0,.int .i64 0]) ?_ 0 _ rfl;(with_reducible repeat (first|refine blk_drewN ?_ _|refine blk_drew ?_|refine blk_alloc ?_ _));refine blk_far ?_ Ax.out _;(with_reducible repeat (first|refine blk_drewN ?_ _|refine blk_drew ?_|refine blk_alloc ?_ _));exact Aa.out) Try.underlying66 rfl (by kernel_rfl)) rfl ?_
  exact ⟨by first|rfl|(simp [errW_none,errW_some] <;> rfl)|(simp [*,errW_none,errW_some] <;> rfl),by exact yu7 HI0.out,by exact yu8 HB.out HI0.out,by exact yu9 HK.out⟩
 rw [if_neg c17] at H
 have c17b0:(t176 == 0)=false:=beq_eq_false_iff_ne.mpr c17
 have c17b1:(t176 != 0)=true:=bne_iff_ne.mpr c17
 by_cases c56:t176=1
 ·rw [if_pos c56] at H
  have c56b0:(t176 == 1)=true:=beq_iff_eq.mpr c56
  have c56b1:(t176 != 1)=false:=bne_eq_false_iff_eq.mpr c56
  clear c56
  obtain ⟨y184,hy184⟩:∃ y_:List Int,y_=(([0,5]:List Int)):=⟨_,rfl⟩
  replace H:((spec_l20Rd_pick.f k s0_0 t177 2).bind fun bt187=>(if 0≤bt187.1 then (if bt187.1<(y184.length:Int) then (some (wrap64 (1+t151),rd y184 bt187.1,rd y157 t160,rd y165 t168,wrap64 (1+t171),bt187.2)) else (none)) else (none)))=some (r1,r2,r3,r4,r5,r6):=by first|(rw [hy184];with_reducible exact H)|(have H2_:=(Option.bind_some _ _).symm.trans H;rw [hy184];with_reducible exact H2_)|(have H2_:=(Option.bind_some _ _).symm.trans H;with_reducible exact H2_)|with_reducible exact H|(rw [hy184];exact H)|exact H
  have Ny184:=Aside0.mk hy184
  clear hy184
  replace H:=Option.bind_eq_some_iff.mp H
  obtain ⟨⟨t187,t188⟩,Cg,H⟩:=H
  replace H:(if 0≤t187 then (if t187<(y184.length:Int) then (some (wrap64 (1+t151),rd y184 t187,rd y157 t160,rd y165 t168,wrap64 (1+t171),t188)) else (none)) else (none))=some (r1,r2,r3,r4,r5,r6):=H
  have Ge:=Aside0.mk Cg
  clear Cg
  by_cases c58:0≤t187
  rotate_left
  ·rw [if_neg c58] at H
   exact absurd H (by simp)
  rw [if_pos c58] at H
  have c58b0:decide (0≤t187)=true:=decide_eq_true c58
  clear c58
  by_cases c59:t187<(y184.length:Int)
  rotate_left
  ·rw [if_neg c59] at H
   exact absurd H (by simp)
  rw [if_pos c59] at H
  have c59b0:decide (t187<(y184.length:Int))=true:=decide_eq_true c59
  clear c59
  simp only [Option.some.injEq,Prod.mk.injEq] at H
  obtain ⟨rfl,rfl,rfl,rfl,rfl,rfl⟩:=H
  try go_wp2_with (first|((with_reducible refine gate_callee (f:=98) rfl ?_);refine goesL_ (some 34) rfl rfl Try.func98 (by kernel_rfl) rfl #[.pointer (some ⟨g,0,none⟩),.int .i64 a1] rfl am ?_;(with_reducible refine (spec_l20Rd_odd.calls k g s0_0 t172 a1 true t175 w0 _ ?side1 ?side2 B3.out).mono ?_);(case side1=>exact yu7 HI0.out);(case side2=>exact yu8 HB.out HI0.out);rintro e Hr ⟨rfl,hi,hb,hk⟩;refine ⟨_,rfl,?_⟩;have n0_:=Aside0.mk (KeepBut.blk hk (g':=gb150) (o:=.cells #[.int .i64 0,.int .i64 0,.int .i64 0,.int .i64 0,.int .i64 0] 66 (0,0)) (yv0 Aa.out) A8.out (by simp));have n1_:=Aside0.mk (Kd.R_mono (Kd.R_keep (IsS113.apart (show IsS113 w0 _ g s0_0 t172 from by exact yu7 HI0.out) (mR Ai.out) (by decide)) hk (fun _ h=>h.2)) (fun _ h=>h.1));have n2_:=Aside0.mk (Kd.R_mono (Kd.R_keep (IsS113.apart (show IsS113 w0 _ g s0_0 t172 from by exact yu7 HI0.out) (mR Aj.out) (by decide)) hk (fun _ h=>h.2)) (fun _ h=>h.1));have n3_:=Aside0.mk (KeepBut.blk hk (g':=gb173) (o:=.cells #[.int .i64 (wrap64 (1+t151)),.int .i64 (wrap64 (1+t153)),.int .i64 (rd y157 t160),.int .i64 (rd y165 t168),.int .i64 (wrap64 (1+t171))] 66 (0,0)) (yv0 Ab.out) Ba.out (by simp));have n4_:=Aside0.mk (KeepBut.trans (yu9 HK.out) hk (.inl rfl));have n5_:=Aside0.mk (hb);have n6_:=Aside0.mk (hi);clear Aa;clear Ai;clear Aj;clear Ab;clear HK;clear HB;clear HI0;have Aa:=n0_;have Ai:=n1_;have Aj:=n2_;have Ab:=n3_;have HK:=n4_;have HB:=n5_;have HI0:=n6_;clear n0_ n1_ n2_ n3_ n4_ n5_ n6_;(try clear hb);(try clear hb2);(try clear hk);(try clear hi))|((with_reducible refine gate_callee (f:=70) rfl ?_);refine goesL_ (some 36) rfl rfl Try.func70 (by kernel_rfl) rfl #[.pointer (some ⟨g,0,none⟩),.int .i64 5] rfl am ?_;(with_reducible refine (spec_l20Rd_pick.calls k g s0_0 t175 5 t176 t177 w0 _ ?side1 ?side2 B4.out).mono ?_);(case side1=>exact yu7 HI0.out);(case side2=>exact yu8 HB.out HI0.out);rintro e Hs ⟨rfl,hi,hb,hk⟩;refine ⟨_,rfl,?_⟩;have n0_:=Aside0.mk (KeepBut.blk hk (g':=gb150) (o:=.cells #[.int .i64 0,.int .i64 0,.int .i64 0,.int .i64 0,.int .i64 0] 66 (0,0)) (yv0 Aa.out) A8.out (by simp));have n1_:=Aside0.mk (Kd.R_mono (Kd.R_keep (IsS113.apart (show IsS113 w0 _ g s0_0 t175 from by exact yu7 HI0.out) (mR Ai.out) (by decide)) hk (fun _ h=>h.2)) (fun _ h=>h.1));have n2_:=Aside0.mk (Kd.R_mono (Kd.R_keep (IsS113.apart (show IsS113 w0 _ g s0_0 t175 from by exact yu7 HI0.out) (mR Aj.out) (by decide)) hk (fun _ h=>h.2)) (fun _ h=>h.1));have n3_:=Aside0.mk (KeepBut.blk hk (g':=gb173) (o:=.cells #[.int .i64 (wrap64 (1+t151)),.int .i64 (wrap64 (1+t153)),.int .i64 (rd y157 t160),.int .i64 (rd y165 t168),.int .i64 (wrap64 (1+t171))] 66 (0,0)) (yv0 Ab.out) Ba.out (by simp));have n4_:=Aside0.mk (KeepBut.trans (yu9 HK.out) hk (.inl rfl));have n5_:=Aside0.mk (hb);have n6_:=Aside0.mk (hi);clear Aa;clear Ai;clear Aj;clear Ab;clear HK;clear HB;clear HI0;have Aa:=n0_;have Ai:=n1_;have Aj:=n2_;have Ab:=n3_;have HK:=n4_;have HB:=n5_;have HI0:=n6_;clear n0_ n1_ n2_ n3_ n4_ n5_ n6_;(try clear hb);(try clear hb2);(try clear hk);(try clear hi))|((with_reducible refine gate_dst (N:=53) rfl ?_);refine Kd.R_lit (Kd.int .i64) _ 3 ?hg (N:=53) ?hd (xs:=([0,5]:List Int)) (inner:=[.int .i64 0,.int .i64 5]) (ok:=fun _=>True) (okp:=fun _=>True) ?hr ?hp (fun _ hk=>hk) trivial (Below.refl _ _) (Nat.le_refl _) (by simp) ?_;(case hd=>rfl);(case hg=>rfl);(case hr=>first|(go_simp;done)|(go_simp;rfl));(case hp=>exact (Reps.one (show Kd.M (Kd.int .i64) _ _ _ 0 [.int .i64 0] from rfl) (Reps.one (show Kd.M (Kd.int .i64) _ _ _ 5 [.int .i64 5] from rfl) (Reps.none _ _))));intro v185 Ht ho87 hb hg_ hnew_;clear hg_ hnew_;(first|rw [← Ny184.out] at ho87|(simp only [Int.reduceToNat] at ho87;rw [← Ny184.out] at ho87));have n0_:=Aside0.mk (Kd.R_elder' (mR Ai.out) (Kd.R_base ho87) hb);have n1_:=Aside0.mk (Kd.R_elder' (mR Aj.out) (Kd.R_base ho87) hb);have n2_:=Aside0.mk (Kd.R_lower (Kd.R_new' (Kd.R_new' ho87 (Kd.R_lt (mR Ai.out))) (Kd.R_lt (mR Aj.out))) (keep_size (w:=w) (g:=g) (row:=none) (yu9 HK.out)));have n3_:=Aside0.mk (IsS113.below (yu7 HI0.out) hb);have n4_:=Aside0.mk (blk_below (g:=gb150) (o:=.cells #[.int .i64 0,.int .i64 0,.int .i64 0,.int .i64 0,.int .i64 0] 66 (0,0)) (yv0 Aa.out) hb);have n5_:=Aside0.mk (blk_below (g:=gb173) (o:=.cells #[.int .i64 (wrap64 (1+t151)),.int .i64 (wrap64 (1+t153)),.int .i64 (rd y157 t160),.int .i64 (rd y165 t168),.int .i64 (wrap64 (1+t171))] 66 (0,0)) (yv0 Ab.out) hb);have n6_:=Aside0.mk (KeepBut.trans (yu9 HK.out) (KeepBut.of_below hb g none) (.inl rfl));have n7_:=Aside0.mk (below_step (yu8 HB.out HI0.out) hb);clear Ai;clear Aj;clear HI0;clear Aa;clear Ab;clear HK;clear HB;have Ai:=n0_;have Aj:=n1_;have Bx:=n2_;have HI0:=n3_;have Aa:=n4_;have Ab:=n5_;have HK:=n6_;have HB:=n7_;clear n0_ n1_ n2_ n3_ n4_ n5_ n6_ n7_;clear hb ho87)|((with_reducible refine gate_callee (f:=70) rfl ?_);refine goesL_ (some 55) rfl rfl Try.func70 (by kernel_rfl) rfl #[.pointer (some ⟨g,0,none⟩),.int .i64 2] rfl am ?_;(with_reducible refine (spec_l20Rd_pick.calls k g s0_0 t177 2 t187 t188 w0 _ ?side1 ?side2 Ge.out).mono ?_);(case side1=>exact yu7 HI0.out);(case side2=>exact yu8 HB.out HI0.out);rintro e Bu ⟨rfl,hi,hb,hk⟩;refine ⟨_,rfl,?_⟩;have n0_:=Aside0.mk (KeepBut.blk hk (g':=gb150) (o:=.cells #[.int .i64 0,.int .i64 0,.int .i64 0,.int .i64 0,.int .i64 0] 66 (0,0)) (yv0 Aa.out) A8.out (by simp));have n1_:=Aside0.mk (Kd.R_mono (Kd.R_keep (IsS113.apart (show IsS113 w0 _ g s0_0 t177 from by exact yu7 HI0.out) (mR Ai.out) (by decide)) hk (fun _ h=>h.2)) (fun _ h=>h.1));have n2_:=Aside0.mk (Kd.R_mono (Kd.R_keep (IsS113.apart (show IsS113 w0 _ g s0_0 t177 from by exact yu7 HI0.out) (mR Aj.out) (by decide)) hk (fun _ h=>h.2)) (fun _ h=>h.1));have n3_:=Aside0.mk (KeepBut.blk hk (g':=gb173) (o:=.cells #[.int .i64 (wrap64 (1+t151)),.int .i64 (wrap64 (1+t153)),.int .i64 (rd y157 t160),.int .i64 (rd y165 t168),.int .i64 (wrap64 (1+t171))] 66 (0,0)) (yv0 Ab.out) Ba.out (by simp));have n4_:=Aside0.mk (Kd.R_mono (Kd.R_keep (IsS113.apart (show IsS113 w0 _ g s0_0 t177 from by exact yu7 HI0.out) (mR Bx.out) (by decide)) hk (fun _ h=>h.2)) (fun _ h=>h.1));have n5_:=Aside0.mk (KeepBut.trans (yu9 HK.out) hk (.inl rfl));have n6_:=Aside0.mk (hb);have n7_:=Aside0.mk (hi);clear Aa;clear Ai;clear Aj;clear Ab;clear Bx;clear HK;clear HB;clear HI0;have Aa:=n0_;have Ai:=n1_;have Aj:=n2_;have Ab:=n3_;have Bx:=n4_;have HK:=n5_;have HB:=n6_;have HI0:=n7_;clear n0_ n1_ n2_ n3_ n4_ n5_ n6_ n7_;(try clear hb);(try clear hb2);(try clear hk);(try clear hi);obtain ⟨Ao89,co89,eo89⟩:=Kd.R_slice Bx.out;subst eo89;have p189:0≤(t187:Int):=of_decide_eq_true (by first|(with_reducible assumption)|assumption);have q189:t187<(y184.length:Int):=of_decide_eq_true (by first|(with_reducible assumption)|assumption);obtain ⟨ad189,e189,hx189_0⟩:=Kd.at_int (Kd.R_reads' Bx.out).2.2 t187 p189 q189;cases e189;replace p189:=eq_true p189;replace q189:=eq_true q189;have G7:=Bc.out;have G8:=Ax.out;have G9:=Ba.out;have Ha:=Bg.out;have Fl:Bu.cell? ⟨gb173,0,none⟩=some (.int .i64 (wrap64 (1+t151))):=(blk_cell Ab.out 0).trans rfl;have Fm:Bu.cell? ⟨gb173,1,none⟩=some (.int .i64 (wrap64 (1+t153))):=(blk_cell Ab.out 1).trans rfl;have Fn:Bu.cell? ⟨gb173,2,none⟩=some (.int .i64 (rd y157 t160)):=(blk_cell Ab.out 2).trans rfl;have Fo:Bu.cell? ⟨gb173,3,none⟩=some (.int .i64 (rd y165 t168)):=(blk_cell Ab.out 3).trans rfl;have Fp:Bu.cell? ⟨gb173,4,none⟩=some (.int .i64 (wrap64 (1+t171))):=(blk_cell Ab.out 4).trans rfl;have Fq:=blk_frozen Ab.out 0;have Fr:=blk_frozen Ab.out 1;have Fs:=blk_frozen Ab.out 2;have Ft:=blk_frozen Ab.out 3;have Fu:=blk_frozen Ab.out 4;have Hb:=A8.out;have Hc:=Bb.out;have Fv:Bu.cell? ⟨gb150,0,none⟩=some (.int .i64 0):=(blk_cell Aa.out 0).trans rfl;have Fw:Bu.cell? ⟨gb150,1,none⟩=some (.int .i64 0):=(blk_cell Aa.out 1).trans rfl;have Fx:Bu.cell? ⟨gb150,2,none⟩=some (.int .i64 0):=(blk_cell Aa.out 2).trans rfl;have Fy:Bu.cell? ⟨gb150,3,none⟩=some (.int .i64 0):=(blk_cell Aa.out 3).trans rfl;have Fz:Bu.cell? ⟨gb150,4,none⟩=some (.int .i64 0):=(blk_cell Aa.out 4).trans rfl;have F0:=blk_frozen Aa.out 0;have F1:=blk_frozen Aa.out 1;have F2:=blk_frozen Aa.out 2;have F3:=blk_frozen Aa.out 3;have F4:=blk_frozen Aa.out 4))
  refine bodyPost_ret (results_cell_row rfl _ _ gb150 66 #[.int .i64 (wrap64 (1+t151)),.int .i64 (rd y184 t187),.int .i64 (rd y157 t160),.int .i64 (rd y165 t168),.int .i64 (wrap64 (1+t171))] (0,0) _ rfl (by (with_reducible repeat (first|refine blk_drewN ?_ _|refine blk_drew ?_|refine blk_alloc ?_ _));refine blk_put (cs:=#[.int .i64 (wrap64 (1+t151)),.int .i64 (rd y184 t187),.int .i64 (rd y157 t160),.int .i64 (rd y165 t168),.int .i64 0]) ?_ 4 _ rfl;(with_reducible repeat (first|refine blk_drewN ?_ _|refine blk_drew ?_|refine blk_alloc ?_ _));refine blk_put (cs:=#[.int .i64 (wrap64 (1+t151)),.int .i64 (rd y184 t187),.int .i64 (rd y157 t160),.int .i64 0,.int .i64 0]) ?_ 3 _ rfl;(with_reducible repeat (first|refine blk_drewN ?_ _|refine blk_drew ?_|refine blk_alloc ?_ _));refine blk_put (cs:=#[.int .i64 (wrap64 (1+t151)),.int .i64 (rd y184 t187),.int .i64 0,.int .i64 0,.int .i64 0]) ?_ 2 _ rfl;(with_reducible repeat (first|refine blk_drewN ?_ _|refine blk_drew ?_|refine blk_alloc ?_ _));refine blk_put (cs:=#[.int .i64 (wrap64 (1+t151)),.int .i64 0,.int .i64 0,.int .i64 0,.int .i64 0]) ?_ 1 _ rfl;(with_reducible repeat (first|refine blk_drewN ?_ _|refine blk_drew ?_|refine blk_alloc ?_ _));refine blk_put (cs:=#[.int .i64 0,.int .i64 0,.int .i64 0,.int .i64 0,.int .i64 0]) ?_ 0 _ rfl;(with_reducible repeat (first|refine blk_drewN ?_ _|refine blk_drew ?_|refine blk_alloc ?_ _));refine blk_far ?_ Ax.out _;(with_reducible repeat (first|refine blk_drewN ?_ _|refine blk_drew ?_|refine blk_alloc ?_ _));exact Aa.out) Try.underlying66 rfl (by kernel_rfl)) rfl ?_
  exact ⟨by first|rfl|(simp [errW_none,errW_some] <;> rfl)|(simp [*,errW_none,errW_some] <;> rfl),by exact yu7 HI0.out,by exact yu8 HB.out HI0.out,by exact yu9 HK.out⟩
 rw [if_neg c56] at H
 have c56b0:(t176 == 1)=false:=beq_eq_false_iff_ne.mpr c56
 have c56b1:(t176 != 1)=true:=bne_iff_ne.mpr c56
 by_cases c95:t176=2
 ·rw [if_pos c95] at H
  have c95b0:(t176 == 2)=true:=beq_iff_eq.mpr c95
  have c95b1:(t176 != 2)=false:=bne_eq_false_iff_eq.mpr c95
  clear c95
  obtain ⟨y190,hy190⟩:∃ y_:List Int,y_=(([0,9]:List Int)):=⟨_,rfl⟩
  replace H:((spec_l20Rd_pick.f k s0_0 t177 2).bind fun bt193=>(if 0≤bt193.1 then (if bt193.1<(y190.length:Int) then (some (wrap64 (1+t151),wrap64 (1+t153),rd y190 bt193.1,rd y165 t168,wrap64 (1+t171),bt193.2)) else (none)) else (none)))=some (r1,r2,r3,r4,r5,r6):=by first|(rw [hy190];with_reducible exact H)|(have H2_:=(Option.bind_some _ _).symm.trans H;rw [hy190];with_reducible exact H2_)|(have H2_:=(Option.bind_some _ _).symm.trans H;with_reducible exact H2_)|with_reducible exact H|(rw [hy190];exact H)|exact H
  have Ny190:=Aside0.mk hy190
  clear hy190
  replace H:=Option.bind_eq_some_iff.mp H
  obtain ⟨⟨t193,t194⟩,Ch,H⟩:=H
  replace H:(if 0≤t193 then (if t193<(y190.length:Int) then (some (wrap64 (1+t151),wrap64 (1+t153),rd y190 t193,rd y165 t168,wrap64 (1+t171),t194)) else (none)) else (none))=some (r1,r2,r3,r4,r5,r6):=H
  have Gf:=Aside0.mk Ch
  clear Ch
  by_cases c97:0≤t193
  rotate_left
  ·rw [if_neg c97] at H
   exact absurd H (by simp)
  rw [if_pos c97] at H
  have c97b0:decide (0≤t193)=true:=decide_eq_true c97
  clear c97
  by_cases c98:t193<(y190.length:Int)
  rotate_left
  ·rw [if_neg c98] at H
   exact absurd H (by simp)
  rw [if_pos c98] at H
  have c98b0:decide (t193<(y190.length:Int))=true:=decide_eq_true c98
  clear c98
  simp only [Option.some.injEq,Prod.mk.injEq] at H
  obtain ⟨rfl,rfl,rfl,rfl,rfl,rfl⟩:=H
  try go_wp2_with (first|((with_reducible refine gate_callee (f:=98) rfl ?_);refine goesL_ (some 34) rfl rfl Try.func98 (by kernel_rfl) rfl #[.pointer (some ⟨g,0,none⟩),.int .i64 a1] rfl am ?_;(with_reducible refine (spec_l20Rd_odd.calls k g s0_0 t172 a1 true t175 w0 _ ?side1 ?side2 B3.out).mono ?_);(case side1=>exact yu7 HI0.out);(case side2=>exact yu8 HB.out HI0.out);rintro e Hf ⟨rfl,hi,hb,hk⟩;refine ⟨_,rfl,?_⟩;have n0_:=Aside0.mk (KeepBut.blk hk (g':=gb150) (o:=.cells #[.int .i64 0,.int .i64 0,.int .i64 0,.int .i64 0,.int .i64 0] 66 (0,0)) (yv0 Aa.out) A8.out (by simp));have n1_:=Aside0.mk (Kd.R_mono (Kd.R_keep (IsS113.apart (show IsS113 w0 _ g s0_0 t172 from by exact yu7 HI0.out) (mR Ai.out) (by decide)) hk (fun _ h=>h.2)) (fun _ h=>h.1));have n2_:=Aside0.mk (Kd.R_mono (Kd.R_keep (IsS113.apart (show IsS113 w0 _ g s0_0 t172 from by exact yu7 HI0.out) (mR Aj.out) (by decide)) hk (fun _ h=>h.2)) (fun _ h=>h.1));have n3_:=Aside0.mk (KeepBut.blk hk (g':=gb173) (o:=.cells #[.int .i64 (wrap64 (1+t151)),.int .i64 (wrap64 (1+t153)),.int .i64 (rd y157 t160),.int .i64 (rd y165 t168),.int .i64 (wrap64 (1+t171))] 66 (0,0)) (yv0 Ab.out) Ba.out (by simp));have n4_:=Aside0.mk (KeepBut.trans (yu9 HK.out) hk (.inl rfl));have n5_:=Aside0.mk (hb);have n6_:=Aside0.mk (hi);clear Aa;clear Ai;clear Aj;clear Ab;clear HK;clear HB;clear HI0;have Aa:=n0_;have Ai:=n1_;have Aj:=n2_;have Ab:=n3_;have HK:=n4_;have HB:=n5_;have HI0:=n6_;clear n0_ n1_ n2_ n3_ n4_ n5_ n6_;(try clear hb);(try clear hb2);(try clear hk);(try clear hi))|((with_reducible refine gate_callee (f:=70) rfl ?_);refine goesL_ (some 36) rfl rfl Try.func70 (by kernel_rfl) rfl #[.pointer (some ⟨g,0,none⟩),.int .i64 5] rfl am ?_;(with_reducible refine (spec_l20Rd_pick.calls k g s0_0 t175 5 t176 t177 w0 _ ?side1 ?side2 B4.out).mono ?_);(case side1=>exact yu7 HI0.out);(case side2=>exact yu8 HB.out HI0.out);rintro e Hg ⟨rfl,hi,hb,hk⟩;refine ⟨_,rfl,?_⟩;have n0_:=Aside0.mk (KeepBut.blk hk (g':=gb150) (o:=.cells #[.int .i64 0,.int .i64 0,.int .i64 0,.int .i64 0,.int .i64 0] 66 (0,0)) (yv0 Aa.out) A8.out (by simp));have n1_:=Aside0.mk (Kd.R_mono (Kd.R_keep (IsS113.apart (show IsS113 w0 _ g s0_0 t175 from by exact yu7 HI0.out) (mR Ai.out) (by decide)) hk (fun _ h=>h.2)) (fun _ h=>h.1));have n2_:=Aside0.mk (Kd.R_mono (Kd.R_keep (IsS113.apart (show IsS113 w0 _ g s0_0 t175 from by exact yu7 HI0.out) (mR Aj.out) (by decide)) hk (fun _ h=>h.2)) (fun _ h=>h.1));have n3_:=Aside0.mk (KeepBut.blk hk (g':=gb173) (o:=.cells #[.int .i64 (wrap64 (1+t151)),.int .i64 (wrap64 (1+t153)),.int .i64 (rd y157 t160),.int .i64 (rd y165 t168),.int .i64 (wrap64 (1+t171))] 66 (0,0)) (yv0 Ab.out) Ba.out (by simp));have n4_:=Aside0.mk (KeepBut.trans (yu9 HK.out) hk (.inl rfl));have n5_:=Aside0.mk (hb);have n6_:=Aside0.mk (hi);clear Aa;clear Ai;clear Aj;clear Ab;clear HK;clear HB;clear HI0;have Aa:=n0_;have Ai:=n1_;have Aj:=n2_;have Ab:=n3_;have HK:=n4_;have HB:=n5_;have HI0:=n6_;clear n0_ n1_ n2_ n3_ n4_ n5_ n6_;(try clear hb);(try clear hb2);(try clear hk);(try clear hi))|((with_reducible refine gate_dst (N:=61) rfl ?_);refine Kd.R_lit (Kd.int .i64) _ 3 ?hg (N:=61) ?hd (xs:=([0,9]:List Int)) (inner:=[.int .i64 0,.int .i64 9]) (ok:=fun _=>True) (okp:=fun _=>True) ?hr ?hp (fun _ hk=>hk) trivial (Below.refl _ _) (Nat.le_refl _) (by simp) ?_;(case hd=>rfl);(case hg=>rfl);(case hr=>first|(go_simp;done)|(go_simp;rfl));(case hp=>exact (Reps.one (show Kd.M (Kd.int .i64) _ _ _ 0 [.int .i64 0] from rfl) (Reps.one (show Kd.M (Kd.int .i64) _ _ _ 9 [.int .i64 9] from rfl) (Reps.none _ _))));intro v191 Hh ho126 hb hg_ hnew_;clear hg_ hnew_;(first|rw [← Ny190.out] at ho126|(simp only [Int.reduceToNat] at ho126;rw [← Ny190.out] at ho126));have n0_:=Aside0.mk (Kd.R_elder' (mR Ai.out) (Kd.R_base ho126) hb);have n1_:=Aside0.mk (Kd.R_elder' (mR Aj.out) (Kd.R_base ho126) hb);have n2_:=Aside0.mk (Kd.R_lower (Kd.R_new' (Kd.R_new' ho126 (Kd.R_lt (mR Ai.out))) (Kd.R_lt (mR Aj.out))) (keep_size (w:=w) (g:=g) (row:=none) (yu9 HK.out)));have n3_:=Aside0.mk (IsS113.below (yu7 HI0.out) hb);have n4_:=Aside0.mk (blk_below (g:=gb150) (o:=.cells #[.int .i64 0,.int .i64 0,.int .i64 0,.int .i64 0,.int .i64 0] 66 (0,0)) (yv0 Aa.out) hb);have n5_:=Aside0.mk (blk_below (g:=gb173) (o:=.cells #[.int .i64 (wrap64 (1+t151)),.int .i64 (wrap64 (1+t153)),.int .i64 (rd y157 t160),.int .i64 (rd y165 t168),.int .i64 (wrap64 (1+t171))] 66 (0,0)) (yv0 Ab.out) hb);have n6_:=Aside0.mk (KeepBut.trans (yu9 HK.out) (KeepBut.of_below hb g none) (.inl rfl));have n7_:=Aside0.mk (below_step (yu8 HB.out HI0.out) hb);clear Ai;clear Aj;clear HI0;clear Aa;clear Ab;clear HK;clear HB;have Ai:=n0_;have Aj:=n1_;have By:=n2_;have HI0:=n3_;have Aa:=n4_;have Ab:=n5_;have HK:=n6_;have HB:=n7_;clear n0_ n1_ n2_ n3_ n4_ n5_ n6_ n7_;clear hb ho126)|((with_reducible refine gate_callee (f:=70) rfl ?_);refine goesL_ (some 63) rfl rfl Try.func70 (by kernel_rfl) rfl #[.pointer (some ⟨g,0,none⟩),.int .i64 2] rfl am ?_;(with_reducible refine (spec_l20Rd_pick.calls k g s0_0 t177 2 t193 t194 w0 _ ?side1 ?side2 Gf.out).mono ?_);(case side1=>exact yu7 HI0.out);(case side2=>exact yu8 HB.out HI0.out);rintro e Bo ⟨rfl,hi,hb,hk⟩;refine ⟨_,rfl,?_⟩;have n0_:=Aside0.mk (KeepBut.blk hk (g':=gb150) (o:=.cells #[.int .i64 0,.int .i64 0,.int .i64 0,.int .i64 0,.int .i64 0] 66 (0,0)) (yv0 Aa.out) A8.out (by simp));have n1_:=Aside0.mk (Kd.R_mono (Kd.R_keep (IsS113.apart (show IsS113 w0 _ g s0_0 t177 from by exact yu7 HI0.out) (mR Ai.out) (by decide)) hk (fun _ h=>h.2)) (fun _ h=>h.1));have n2_:=Aside0.mk (Kd.R_mono (Kd.R_keep (IsS113.apart (show IsS113 w0 _ g s0_0 t177 from by exact yu7 HI0.out) (mR Aj.out) (by decide)) hk (fun _ h=>h.2)) (fun _ h=>h.1));have n3_:=Aside0.mk (KeepBut.blk hk (g':=gb173) (o:=.cells #[.int .i64 (wrap64 (1+t151)),.int .i64 (wrap64 (1+t153)),.int .i64 (rd y157 t160),.int .i64 (rd y165 t168),.int .i64 (wrap64 (1+t171))] 66 (0,0)) (yv0 Ab.out) Ba.out (by simp));have n4_:=Aside0.mk (Kd.R_mono (Kd.R_keep (IsS113.apart (show IsS113 w0 _ g s0_0 t177 from by exact yu7 HI0.out) (mR By.out) (by decide)) hk (fun _ h=>h.2)) (fun _ h=>h.1));have n5_:=Aside0.mk (KeepBut.trans (yu9 HK.out) hk (.inl rfl));have n6_:=Aside0.mk (hb);have n7_:=Aside0.mk (hi);clear Aa;clear Ai;clear Aj;clear Ab;clear By;clear HK;clear HB;clear HI0;have Aa:=n0_;have Ai:=n1_;have Aj:=n2_;have Ab:=n3_;have By:=n4_;have HK:=n5_;have HB:=n6_;have HI0:=n7_;clear n0_ n1_ n2_ n3_ n4_ n5_ n6_ n7_;(try clear hb);(try clear hb2);(try clear hk);(try clear hi);obtain ⟨Ao128,co128,eo128⟩:=Kd.R_slice By.out;subst eo128;have p195:0≤(t193:Int):=of_decide_eq_true (by first|(with_reducible assumption)|assumption);have q195:t193<(y190.length:Int):=of_decide_eq_true (by first|(with_reducible assumption)|assumption);obtain ⟨ad195,e195,hx195_0⟩:=Kd.at_int (Kd.R_reads' By.out).2.2 t193 p195 q195;cases e195;replace p195:=eq_true p195;replace q195:=eq_true q195;have Gg:=Bc.out;have Gh:=Ax.out;have Gi:=Ba.out;have Gj:=Bg.out;have Db:Bo.cell? ⟨gb173,0,none⟩=some (.int .i64 (wrap64 (1+t151))):=(blk_cell Ab.out 0).trans rfl;have Dc:Bo.cell? ⟨gb173,1,none⟩=some (.int .i64 (wrap64 (1+t153))):=(blk_cell Ab.out 1).trans rfl;have Dd:Bo.cell? ⟨gb173,2,none⟩=some (.int .i64 (rd y157 t160)):=(blk_cell Ab.out 2).trans rfl;have De:Bo.cell? ⟨gb173,3,none⟩=some (.int .i64 (rd y165 t168)):=(blk_cell Ab.out 3).trans rfl;have Df:Bo.cell? ⟨gb173,4,none⟩=some (.int .i64 (wrap64 (1+t171))):=(blk_cell Ab.out 4).trans rfl;have Dg:=blk_frozen Ab.out 0;have Dh:=blk_frozen Ab.out 1;have Di:=blk_frozen Ab.out 2;have Dj:=blk_frozen Ab.out 3;have Dk:=blk_frozen Ab.out 4;have Gk:=A8.out;have Gl:=Bb.out;have Dl:Bo.cell? ⟨gb150,0,none⟩=some (.int .i64 0):=(blk_cell Aa.out 0).trans rfl;have Dm:Bo.cell? ⟨gb150,1,none⟩=some (.int .i64 0):=(blk_cell Aa.out 1).trans rfl;have Dn:Bo.cell? ⟨gb150,2,none⟩=some (.int .i64 0):=(blk_cell Aa.out 2).trans rfl;have Do:Bo.cell? ⟨gb150,3,none⟩=some (.int .i64 0):=(blk_cell Aa.out 3).trans rfl;have Dp:Bo.cell? ⟨gb150,4,none⟩=some (.int .i64 0):=(blk_cell Aa.out 4).trans rfl;have Dq:=blk_frozen Aa.out 0;have Dr:=blk_frozen Aa.out 1;have Ds:=blk_frozen Aa.out 2;have Dt:=blk_frozen Aa.out 3;have Du:=blk_frozen Aa.out 4))
  refine bodyPost_ret (results_cell_row rfl _ _ gb150 66 #[.int .i64 (wrap64 (1+t151)),.int .i64 (wrap64 (1+t153)),.int .i64 (rd y190 t193),.int .i64 (rd y165 t168),.int .i64 (wrap64 (1+t171))] (0,0) _ rfl (by (with_reducible repeat (first|refine blk_drewN ?_ _|refine blk_drew ?_|refine blk_alloc ?_ _));refine blk_put (cs:=#[.int .i64 (wrap64 (1+t151)),.int .i64 (wrap64 (1+t153)),.int .i64 (rd y190 t193),.int .i64 (rd y165 t168),.int .i64 0]) ?_ 4 _ rfl;(with_reducible repeat (first|refine blk_drewN ?_ _|refine blk_drew ?_|refine blk_alloc ?_ _));refine blk_put (cs:=#[.int .i64 (wrap64 (1+t151)),.int .i64 (wrap64 (1+t153)),.int .i64 (rd y190 t193),.int .i64 0,.int .i64 0]) ?_ 3 _ rfl;(with_reducible repeat (first|refine blk_drewN ?_ _|refine blk_drew ?_|refine blk_alloc ?_ _));refine blk_put (cs:=#[.int .i64 (wrap64 (1+t151)),.int .i64 (wrap64 (1+t153)),.int .i64 0,.int .i64 0,.int .i64 0]) ?_ 2 _ rfl;(with_reducible repeat (first|refine blk_drewN ?_ _|refine blk_drew ?_|refine blk_alloc ?_ _));refine blk_put (cs:=#[.int .i64 (wrap64 (1+t151)),.int .i64 0,.int .i64 0,.int .i64 0,.int .i64 0]) ?_ 1 _ rfl;(with_reducible repeat (first|refine blk_drewN ?_ _|refine blk_drew ?_|refine blk_alloc ?_ _));refine blk_put (cs:=#[.int .i64 0,.int .i64 0,.int .i64 0,.int .i64 0,.int .i64 0]) ?_ 0 _ rfl;(with_reducible repeat (first|refine blk_drewN ?_ _|refine blk_drew ?_|refine blk_alloc ?_ _));refine blk_far ?_ Ax.out _;(with_reducible repeat (first|refine blk_drewN ?_ _|refine blk_drew ?_|refine blk_alloc ?_ _));exact Aa.out) Try.underlying66 rfl (by kernel_rfl)) rfl ?_
  exact ⟨by first|rfl|(simp [errW_none,errW_some] <;> rfl)|(simp [*,errW_none,errW_some] <;> rfl),by exact yu7 HI0.out,by exact yu8 HB.out HI0.out,by exact yu9 HK.out⟩
 rw [if_neg c95] at H
 have c95b0:(t176 == 2)=false:=beq_eq_false_iff_ne.mpr c95
 have c95b1:(t176 != 2)=true:=bne_iff_ne.mpr c95
 by_cases c134:t176=3
 rotate_left
 ·rw [if_neg c134] at H
  have c134b0:(t176 == 3)=false:=beq_eq_false_iff_ne.mpr c134
  have c134b1:(t176 != 3)=true:=bne_iff_ne.mpr c134
  obtain ⟨y202,hy202⟩:∃ y_:List Int,y_=(([0,6]:List Int)):=⟨_,rfl⟩
  replace H:((spec_l20Rd_pick.f k s0_0 t177 2).bind fun bt205=>(if 0≤bt205.1 then (if bt205.1<(y202.length:Int) then (some (wrap64 (1+t151),wrap64 (1+t153),rd y157 t160,rd y165 t168,rd y202 bt205.1,bt205.2)) else (none)) else (none)))=some (r1,r2,r3,r4,r5,r6):=by first|(rw [hy202];with_reducible exact H)|(have H2_:=(Option.bind_some _ _).symm.trans H;rw [hy202];with_reducible exact H2_)|(have H2_:=(Option.bind_some _ _).symm.trans H;with_reducible exact H2_)|with_reducible exact H|(rw [hy202];exact H)|exact H
  have Ny202:=Aside0.mk hy202
  clear hy202
  replace H:=Option.bind_eq_some_iff.mp H
  obtain ⟨⟨t205,t206⟩,B8,H⟩:=H
  replace H:(if 0≤t205 then (if t205<(y202.length:Int) then (some (wrap64 (1+t151),wrap64 (1+t153),rd y157 t160,rd y165 t168,rd y202 t205,t206)) else (none)) else (none))=some (r1,r2,r3,r4,r5,r6):=H
  have Dv:=Aside0.mk B8
  clear B8
  by_cases c174:0≤t205
  rotate_left
  ·rw [if_neg c174] at H
   exact absurd H (by simp)
  rw [if_pos c174] at H
  have c174b0:decide (0≤t205)=true:=decide_eq_true c174
  clear c174
  by_cases c175:t205<(y202.length:Int)
  rotate_left
  ·rw [if_neg c175] at H
   exact absurd H (by simp)
  rw [if_pos c175] at H
  have c175b0:decide (t205<(y202.length:Int))=true:=decide_eq_true c175
  clear c175
  simp only [Option.some.injEq,Prod.mk.injEq] at H
  obtain ⟨rfl,rfl,rfl,rfl,rfl,rfl⟩:=H
  try go_wp2_with (first|((with_reducible refine gate_callee (f:=98) rfl ?_);refine goesL_ (some 34) rfl rfl Try.func98 (by kernel_rfl) rfl #[.pointer (some ⟨g,0,none⟩),.int .i64 a1] rfl am ?_;(with_reducible refine (spec_l20Rd_odd.calls k g s0_0 t172 a1 true t175 w0 _ ?side1 ?side2 B3.out).mono ?_);(case side1=>exact yu7 HI0.out);(case side2=>exact yu8 HB.out HI0.out);rintro e Hi ⟨rfl,hi,hb,hk⟩;refine ⟨_,rfl,?_⟩;have n0_:=Aside0.mk (KeepBut.blk hk (g':=gb150) (o:=.cells #[.int .i64 0,.int .i64 0,.int .i64 0,.int .i64 0,.int .i64 0] 66 (0,0)) (yv0 Aa.out) A8.out (by simp));have n1_:=Aside0.mk (Kd.R_mono (Kd.R_keep (IsS113.apart (show IsS113 w0 _ g s0_0 t172 from by exact yu7 HI0.out) (mR Ai.out) (by decide)) hk (fun _ h=>h.2)) (fun _ h=>h.1));have n2_:=Aside0.mk (Kd.R_mono (Kd.R_keep (IsS113.apart (show IsS113 w0 _ g s0_0 t172 from by exact yu7 HI0.out) (mR Aj.out) (by decide)) hk (fun _ h=>h.2)) (fun _ h=>h.1));have n3_:=Aside0.mk (KeepBut.blk hk (g':=gb173) (o:=.cells #[.int .i64 (wrap64 (1+t151)),.int .i64 (wrap64 (1+t153)),.int .i64 (rd y157 t160),.int .i64 (rd y165 t168),.int .i64 (wrap64 (1+t171))] 66 (0,0)) (yv0 Ab.out) Ba.out (by simp));have n4_:=Aside0.mk (KeepBut.trans (yu9 HK.out) hk (.inl rfl));have n5_:=Aside0.mk (hb);have n6_:=Aside0.mk (hi);clear Aa;clear Ai;clear Aj;clear Ab;clear HK;clear HB;clear HI0;have Aa:=n0_;have Ai:=n1_;have Aj:=n2_;have Ab:=n3_;have HK:=n4_;have HB:=n5_;have HI0:=n6_;clear n0_ n1_ n2_ n3_ n4_ n5_ n6_;(try clear hb);(try clear hb2);(try clear hk);(try clear hi))|((with_reducible refine gate_callee (f:=70) rfl ?_);refine goesL_ (some 36) rfl rfl Try.func70 (by kernel_rfl) rfl #[.pointer (some ⟨g,0,none⟩),.int .i64 5] rfl am ?_;(with_reducible refine (spec_l20Rd_pick.calls k g s0_0 t175 5 t176 t177 w0 _ ?side1 ?side2 B4.out).mono ?_);(case side1=>exact yu7 HI0.out);(case side2=>exact yu8 HB.out HI0.out);rintro e Hj ⟨rfl,hi,hb,hk⟩;refine ⟨_,rfl,?_⟩;have n0_:=Aside0.mk (KeepBut.blk hk (g':=gb150) (o:=.cells #[.int .i64 0,.int .i64 0,.int .i64 0,.int .i64 0,.int .i64 0] 66 (0,0)) (yv0 Aa.out) A8.out (by simp));have n1_:=Aside0.mk (Kd.R_mono (Kd.R_keep (IsS113.apart (show IsS113 w0 _ g s0_0 t175 from by exact yu7 HI0.out) (mR Ai.out) (by decide)) hk (fun _ h=>h.2)) (fun _ h=>h.1));have n2_:=Aside0.mk (Kd.R_mono (Kd.R_keep (IsS113.apart (show IsS113 w0 _ g s0_0 t175 from by exact yu7 HI0.out) (mR Aj.out) (by decide)) hk (fun _ h=>h.2)) (fun _ h=>h.1));have n3_:=Aside0.mk (KeepBut.blk hk (g':=gb173) (o:=.cells #[.int .i64 (wrap64 (1+t151)),.int .i64 (wrap64 (1+t153)),.int .i64 (rd y157 t160),.int .i64 (rd y165 t168),.int .i64 (wrap64 (1+t171))] 66 (0,0)) (yv0 Ab.out) Ba.out (by simp));have n4_:=Aside0.mk (KeepBut.trans (yu9 HK.out) hk (.inl rfl));have n5_:=Aside0.mk (hb);have n6_:=Aside0.mk (hi);clear Aa;clear Ai;clear Aj;clear Ab;clear HK;clear HB;clear HI0;have Aa:=n0_;have Ai:=n1_;have Aj:=n2_;have Ab:=n3_;have HK:=n4_;have HB:=n5_;have HI0:=n6_;clear n0_ n1_ n2_ n3_ n4_ n5_ n6_;(try clear hb);(try clear hb2);(try clear hk);(try clear hi))|((with_reducible refine gate_dst (N:=37) rfl ?_);refine Kd.R_lit (Kd.int .i64) _ 3 ?hg (N:=37) ?hd (xs:=([0,6]:List Int)) (inner:=[.int .i64 0,.int .i64 6]) (ok:=fun _=>True) (okp:=fun _=>True) ?hr ?hp (fun _ hk=>hk) trivial (Below.refl _ _) (Nat.le_refl _) (by simp) ?_;(case hd=>rfl);(case hg=>rfl);(case hr=>first|(go_simp;done)|(go_simp;rfl));(case hp=>exact (Reps.one (show Kd.M (Kd.int .i64) _ _ _ 0 [.int .i64 0] from rfl) (Reps.one (show Kd.M (Kd.int .i64) _ _ _ 6 [.int .i64 6] from rfl) (Reps.none _ _))));intro v203 Hk ho203 hb hg_ hnew_;clear hg_ hnew_;(first|rw [← Ny202.out] at ho203|(simp only [Int.reduceToNat] at ho203;rw [← Ny202.out] at ho203));have n0_:=Aside0.mk (Kd.R_elder' (mR Ai.out) (Kd.R_base ho203) hb);have n1_:=Aside0.mk (Kd.R_elder' (mR Aj.out) (Kd.R_base ho203) hb);have n2_:=Aside0.mk (Kd.R_lower (Kd.R_new' (Kd.R_new' ho203 (Kd.R_lt (mR Ai.out))) (Kd.R_lt (mR Aj.out))) (keep_size (w:=w) (g:=g) (row:=none) (yu9 HK.out)));have n3_:=Aside0.mk (IsS113.below (yu7 HI0.out) hb);have n4_:=Aside0.mk (blk_below (g:=gb150) (o:=.cells #[.int .i64 0,.int .i64 0,.int .i64 0,.int .i64 0,.int .i64 0] 66 (0,0)) (yv0 Aa.out) hb);have n5_:=Aside0.mk (blk_below (g:=gb173) (o:=.cells #[.int .i64 (wrap64 (1+t151)),.int .i64 (wrap64 (1+t153)),.int .i64 (rd y157 t160),.int .i64 (rd y165 t168),.int .i64 (wrap64 (1+t171))] 66 (0,0)) (yv0 Ab.out) hb);have n6_:=Aside0.mk (KeepBut.trans (yu9 HK.out) (KeepBut.of_below hb g none) (.inl rfl));have n7_:=Aside0.mk (below_step (yu8 HB.out HI0.out) hb);clear Ai;clear Aj;clear HI0;clear Aa;clear Ab;clear HK;clear HB;have Ai:=n0_;have Aj:=n1_;have Bz:=n2_;have HI0:=n3_;have Aa:=n4_;have Ab:=n5_;have HK:=n6_;have HB:=n7_;clear n0_ n1_ n2_ n3_ n4_ n5_ n6_ n7_;clear hb ho203)|((with_reducible refine gate_callee (f:=70) rfl ?_);refine goesL_ (some 39) rfl rfl Try.func70 (by kernel_rfl) rfl #[.pointer (some ⟨g,0,none⟩),.int .i64 2] rfl am ?_;(with_reducible refine (spec_l20Rd_pick.calls k g s0_0 t177 2 t205 t206 w0 _ ?side1 ?side2 Dv.out).mono ?_);(case side1=>exact yu7 HI0.out);(case side2=>exact yu8 HB.out HI0.out);rintro e Bp ⟨rfl,hi,hb,hk⟩;refine ⟨_,rfl,?_⟩;have n0_:=Aside0.mk (KeepBut.blk hk (g':=gb150) (o:=.cells #[.int .i64 0,.int .i64 0,.int .i64 0,.int .i64 0,.int .i64 0] 66 (0,0)) (yv0 Aa.out) A8.out (by simp));have n1_:=Aside0.mk (Kd.R_mono (Kd.R_keep (IsS113.apart (show IsS113 w0 _ g s0_0 t177 from by exact yu7 HI0.out) (mR Ai.out) (by decide)) hk (fun _ h=>h.2)) (fun _ h=>h.1));have n2_:=Aside0.mk (Kd.R_mono (Kd.R_keep (IsS113.apart (show IsS113 w0 _ g s0_0 t177 from by exact yu7 HI0.out) (mR Aj.out) (by decide)) hk (fun _ h=>h.2)) (fun _ h=>h.1));have n3_:=Aside0.mk (KeepBut.blk hk (g':=gb173) (o:=.cells #[.int .i64 (wrap64 (1+t151)),.int .i64 (wrap64 (1+t153)),.int .i64 (rd y157 t160),.int .i64 (rd y165 t168),.int .i64 (wrap64 (1+t171))] 66 (0,0)) (yv0 Ab.out) Ba.out (by simp));have n4_:=Aside0.mk (Kd.R_mono (Kd.R_keep (IsS113.apart (show IsS113 w0 _ g s0_0 t177 from by exact yu7 HI0.out) (mR Bz.out) (by decide)) hk (fun _ h=>h.2)) (fun _ h=>h.1));have n5_:=Aside0.mk (KeepBut.trans (yu9 HK.out) hk (.inl rfl));have n6_:=Aside0.mk (hb);have n7_:=Aside0.mk (hi);clear Aa;clear Ai;clear Aj;clear Ab;clear Bz;clear HK;clear HB;clear HI0;have Aa:=n0_;have Ai:=n1_;have Aj:=n2_;have Ab:=n3_;have Bz:=n4_;have HK:=n5_;have HB:=n6_;have HI0:=n7_;clear n0_ n1_ n2_ n3_ n4_ n5_ n6_ n7_;(try clear hb);(try clear hb2);(try clear hk);(try clear hi);obtain ⟨Ao205,co205,eo205⟩:=Kd.R_slice Bz.out;subst eo205;have p207:0≤(t205:Int):=of_decide_eq_true (by first|(with_reducible assumption)|assumption);have q207:t205<(y202.length:Int):=of_decide_eq_true (by first|(with_reducible assumption)|assumption);obtain ⟨ad207,e207,hx207_0⟩:=Kd.at_int (Kd.R_reads' Bz.out).2.2 t205 p207 q207;cases e207;replace p207:=eq_true p207;replace q207:=eq_true q207;have Gm:=Bc.out;have Gn:=Ax.out;have Gp:=Ba.out;have Gq:=Bg.out;have Dw:Bp.cell? ⟨gb173,0,none⟩=some (.int .i64 (wrap64 (1+t151))):=(blk_cell Ab.out 0).trans rfl;have Dx:Bp.cell? ⟨gb173,1,none⟩=some (.int .i64 (wrap64 (1+t153))):=(blk_cell Ab.out 1).trans rfl;have Dy:Bp.cell? ⟨gb173,2,none⟩=some (.int .i64 (rd y157 t160)):=(blk_cell Ab.out 2).trans rfl;have Dz:Bp.cell? ⟨gb173,3,none⟩=some (.int .i64 (rd y165 t168)):=(blk_cell Ab.out 3).trans rfl;have D0:Bp.cell? ⟨gb173,4,none⟩=some (.int .i64 (wrap64 (1+t171))):=(blk_cell Ab.out 4).trans rfl;have D1:=blk_frozen Ab.out 0;have D2:=blk_frozen Ab.out 1;have D3:=blk_frozen Ab.out 2;have D4:=blk_frozen Ab.out 3;have D5:=blk_frozen Ab.out 4;have Gr:=A8.out;have Gs:=Bb.out;have D6:Bp.cell? ⟨gb150,0,none⟩=some (.int .i64 0):=(blk_cell Aa.out 0).trans rfl;have D7:Bp.cell? ⟨gb150,1,none⟩=some (.int .i64 0):=(blk_cell Aa.out 1).trans rfl;have D8:Bp.cell? ⟨gb150,2,none⟩=some (.int .i64 0):=(blk_cell Aa.out 2).trans rfl;have D9:Bp.cell? ⟨gb150,3,none⟩=some (.int .i64 0):=(blk_cell Aa.out 3).trans rfl;have Ea:Bp.cell? ⟨gb150,4,none⟩=some (.int .i64 0):=(blk_cell Aa.out 4).trans rfl;have Eb:=blk_frozen Aa.out 0;have Ec:=blk_frozen Aa.out 1;have Ed:=blk_frozen Aa.out 2;have Ee:=blk_frozen Aa.out 3;have Ef:=blk_frozen Aa.out 4))
  refine bodyPost_ret (results_cell_row rfl _ _ gb150 66 #[.int .i64 (wrap64 (1+t151)),.int .i64 (wrap64 (1+t153)),.int .i64 (rd y157 t160),.int .i64 (rd y165 t168),.int .i64 (rd y202 t205)] (0,0) _ rfl (by (with_reducible repeat (first|refine blk_drewN ?_ _|refine blk_drew ?_|refine blk_alloc ?_ _));refine blk_put (cs:=#[.int .i64 (wrap64 (1+t151)),.int .i64 (wrap64 (1+t153)),.int .i64 (rd y157 t160),.int .i64 (rd y165 t168),.int .i64 0]) ?_ 4 _ rfl;(with_reducible repeat (first|refine blk_drewN ?_ _|refine blk_drew ?_|refine blk_alloc ?_ _));refine blk_put (cs:=#[.int .i64 (wrap64 (1+t151)),.int .i64 (wrap64 (1+t153)),.int .i64 (rd y157 t160),.int .i64 0,.int .i64 0]) ?_ 3 _ rfl;(with_reducible repeat (first|refine blk_drewN ?_ _|refine blk_drew ?_|refine blk_alloc ?_ _));refine blk_put (cs:=#[.int .i64 (wrap64 (1+t151)),.int .i64 (wrap64 (1+t153)),.int .i64 0,.int .i64 0,.int .i64 0]) ?_ 2 _ rfl;(with_reducible repeat (first|refine blk_drewN ?_ _|refine blk_drew ?_|refine blk_alloc ?_ _));refine blk_put (cs:=#[.int .i64 (wrap64 (1+t151)),.int .i64 0,.int .i64 0,.int .i64 0,.int .i64 0]) ?_ 1 _ rfl;(with_reducible repeat (first|refine blk_drewN ?_ _|refine blk_drew ?_|refine blk_alloc ?_ _));refine blk_put (cs:=#[.int .i64 0,.int .i64 0,.int .i64 0,.int .i64 0,.int .i64 0]) ?_ 0 _ rfl;(with_reducible repeat (first|refine blk_drewN ?_ _|refine blk_drew ?_|refine blk_alloc ?_ _));refine blk_far ?_ Ax.out _;(with_reducible repeat (first|refine blk_drewN ?_ _|refine blk_drew ?_|refine blk_alloc ?_ _));exact Aa.out) Try.underlying66 rfl (by kernel_rfl)) rfl ?_
  exact ⟨by first|rfl|(simp [errW_none,errW_some] <;> rfl)|(simp [*,errW_none,errW_some] <;> rfl),by exact yu7 HI0.out,by exact yu8 HB.out HI0.out,by exact yu9 HK.out⟩
 rw [if_pos c134] at H
 have c134b0:(t176 == 3)=true:=beq_iff_eq.mpr c134
 have c134b1:(t176 != 3)=false:=bne_eq_false_iff_eq.mpr c134
 clear c134
 obtain ⟨y196,hy196⟩:∃ y_:List Int,y_=(([0,25]:List Int)):=⟨_,rfl⟩
 replace H:((spec_l20Rd_pick.f k s0_0 t177 2).bind fun bt199=>(if 0≤bt199.1 then (if bt199.1<(y196.length:Int) then (some (wrap64 (1+t151),wrap64 (1+t153),rd y157 t160,rd y196 bt199.1,wrap64 (1+t171),bt199.2)) else (none)) else (none)))=some (r1,r2,r3,r4,r5,r6):=by first|(rw [hy196];with_reducible exact H)|(have H2_:=(Option.bind_some _ _).symm.trans H;rw [hy196];with_reducible exact H2_)|(have H2_:=(Option.bind_some _ _).symm.trans H;with_reducible exact H2_)|with_reducible exact H|(rw [hy196];exact H)|exact H
 have Ny196:=Aside0.mk hy196
 clear hy196
 replace H:=Option.bind_eq_some_iff.mp H
 obtain ⟨⟨t199,t200⟩,B9,H⟩:=H
 replace H:(if 0≤t199 then (if t199<(y196.length:Int) then (some (wrap64 (1+t151),wrap64 (1+t153),rd y157 t160,rd y196 t199,wrap64 (1+t171),t200)) else (none)) else (none))=some (r1,r2,r3,r4,r5,r6):=H
 have Eg:=Aside0.mk B9
 clear B9
 by_cases c136:0≤t199
 rotate_left
 ·rw [if_neg c136] at H
  exact absurd H (by simp)
 rw [if_pos c136] at H
 have c136b0:decide (0≤t199)=true:=decide_eq_true c136
 clear c136
 by_cases c137:t199<(y196.length:Int)
 rotate_left
 ·rw [if_neg c137] at H
  exact absurd H (by simp)
 rw [if_pos c137] at H
 have c137b0:decide (t199<(y196.length:Int))=true:=decide_eq_true c137
 clear c137
 simp only [Option.some.injEq,Prod.mk.injEq] at H
 obtain ⟨rfl,rfl,rfl,rfl,rfl,rfl⟩:=H
 try go_wp2_with (first|((with_reducible refine gate_callee (f:=98) rfl ?_);refine goesL_ (some 34) rfl rfl Try.func98 (by kernel_rfl) rfl #[.pointer (some ⟨g,0,none⟩),.int .i64 a1] rfl am ?_;(with_reducible refine (spec_l20Rd_odd.calls k g s0_0 t172 a1 true t175 w0 _ ?side1 ?side2 B3.out).mono ?_);(case side1=>exact yu7 HI0.out);(case side2=>exact yu8 HB.out HI0.out);rintro e Hl ⟨rfl,hi,hb,hk⟩;refine ⟨_,rfl,?_⟩;have n0_:=Aside0.mk (KeepBut.blk hk (g':=gb150) (o:=.cells #[.int .i64 0,.int .i64 0,.int .i64 0,.int .i64 0,.int .i64 0] 66 (0,0)) (yv0 Aa.out) A8.out (by simp));have n1_:=Aside0.mk (Kd.R_mono (Kd.R_keep (IsS113.apart (show IsS113 w0 _ g s0_0 t172 from by exact yu7 HI0.out) (mR Ai.out) (by decide)) hk (fun _ h=>h.2)) (fun _ h=>h.1));have n2_:=Aside0.mk (Kd.R_mono (Kd.R_keep (IsS113.apart (show IsS113 w0 _ g s0_0 t172 from by exact yu7 HI0.out) (mR Aj.out) (by decide)) hk (fun _ h=>h.2)) (fun _ h=>h.1));have n3_:=Aside0.mk (KeepBut.blk hk (g':=gb173) (o:=.cells #[.int .i64 (wrap64 (1+t151)),.int .i64 (wrap64 (1+t153)),.int .i64 (rd y157 t160),.int .i64 (rd y165 t168),.int .i64 (wrap64 (1+t171))] 66 (0,0)) (yv0 Ab.out) Ba.out (by simp));have n4_:=Aside0.mk (KeepBut.trans (yu9 HK.out) hk (.inl rfl));have n5_:=Aside0.mk (hb);have n6_:=Aside0.mk (hi);clear Aa;clear Ai;clear Aj;clear Ab;clear HK;clear HB;clear HI0;have Aa:=n0_;have Ai:=n1_;have Aj:=n2_;have Ab:=n3_;have HK:=n4_;have HB:=n5_;have HI0:=n6_;clear n0_ n1_ n2_ n3_ n4_ n5_ n6_;(try clear hb);(try clear hb2);(try clear hk);(try clear hi))|((with_reducible refine gate_callee (f:=70) rfl ?_);refine goesL_ (some 36) rfl rfl Try.func70 (by kernel_rfl) rfl #[.pointer (some ⟨g,0,none⟩),.int .i64 5] rfl am ?_;(with_reducible refine (spec_l20Rd_pick.calls k g s0_0 t175 5 t176 t177 w0 _ ?side1 ?side2 B4.out).mono ?_);(case side1=>exact yu7 HI0.out);(case side2=>exact yu8 HB.out HI0.out);rintro e Hm ⟨rfl,hi,hb,hk⟩;refine ⟨_,rfl,?_⟩;have n0_:=Aside0.mk (KeepBut.blk hk (g':=gb150) (o:=.cells #[.int .i64 0,.int .i64 0,.int .i64 0,.int .i64 0,.int .i64 0] 66 (0,0)) (yv0 Aa.out) A8.out (by simp));have n1_:=Aside0.mk (Kd.R_mono (Kd.R_keep (IsS113.apart (show IsS113 w0 _ g s0_0 t175 from by exact yu7 HI0.out) (mR Ai.out) (by decide)) hk (fun _ h=>h.2)) (fun _ h=>h.1));have n2_:=Aside0.mk (Kd.R_mono (Kd.R_keep (IsS113.apart (show IsS113 w0 _ g s0_0 t175 from by exact yu7 HI0.out) (mR Aj.out) (by decide)) hk (fun _ h=>h.2)) (fun _ h=>h.1));have n3_:=Aside0.mk (KeepBut.blk hk (g':=gb173) (o:=.cells #[.int .i64 (wrap64 (1+t151)),.int .i64 (wrap64 (1+t153)),.int .i64 (rd y157 t160),.int .i64 (rd y165 t168),.int .i64 (wrap64 (1+t171))] 66 (0,0)) (yv0 Ab.out) Ba.out (by simp));have n4_:=Aside0.mk (KeepBut.trans (yu9 HK.out) hk (.inl rfl));have n5_:=Aside0.mk (hb);have n6_:=Aside0.mk (hi);clear Aa;clear Ai;clear Aj;clear Ab;clear HK;clear HB;clear HI0;have Aa:=n0_;have Ai:=n1_;have Aj:=n2_;have Ab:=n3_;have HK:=n4_;have HB:=n5_;have HI0:=n6_;clear n0_ n1_ n2_ n3_ n4_ n5_ n6_;(try clear hb);(try clear hb2);(try clear hk);(try clear hi))|((with_reducible refine gate_dst (N:=69) rfl ?_);refine Kd.R_lit (Kd.int .i64) _ 3 ?hg (N:=69) ?hd (xs:=([0,25]:List Int)) (inner:=[.int .i64 0,.int .i64 25]) (ok:=fun _=>True) (okp:=fun _=>True) ?hr ?hp (fun _ hk=>hk) trivial (Below.refl _ _) (Nat.le_refl _) (by simp) ?_;(case hd=>rfl);(case hg=>rfl);(case hr=>first|(go_simp;done)|(go_simp;rfl));(case hp=>exact (Reps.one (show Kd.M (Kd.int .i64) _ _ _ 0 [.int .i64 0] from rfl) (Reps.one (show Kd.M (Kd.int .i64) _ _ _ 25 [.int .i64 25] from rfl) (Reps.none _ _))));intro v197 Hn ho165 hb hg_ hnew_;clear hg_ hnew_;(first|rw [← Ny196.out] at ho165|(simp only [Int.reduceToNat] at ho165;rw [← Ny196.out] at ho165));have n0_:=Aside0.mk (Kd.R_elder' (mR Ai.out) (Kd.R_base ho165) hb);have n1_:=Aside0.mk (Kd.R_elder' (mR Aj.out) (Kd.R_base ho165) hb);have n2_:=Aside0.mk (Kd.R_lower (Kd.R_new' (Kd.R_new' ho165 (Kd.R_lt (mR Ai.out))) (Kd.R_lt (mR Aj.out))) (keep_size (w:=w) (g:=g) (row:=none) (yu9 HK.out)));have n3_:=Aside0.mk (IsS113.below (yu7 HI0.out) hb);have n4_:=Aside0.mk (blk_below (g:=gb150) (o:=.cells #[.int .i64 0,.int .i64 0,.int .i64 0,.int .i64 0,.int .i64 0] 66 (0,0)) (yv0 Aa.out) hb);have n5_:=Aside0.mk (blk_below (g:=gb173) (o:=.cells #[.int .i64 (wrap64 (1+t151)),.int .i64 (wrap64 (1+t153)),.int .i64 (rd y157 t160),.int .i64 (rd y165 t168),.int .i64 (wrap64 (1+t171))] 66 (0,0)) (yv0 Ab.out) hb);have n6_:=Aside0.mk (KeepBut.trans (yu9 HK.out) (KeepBut.of_below hb g none) (.inl rfl));have n7_:=Aside0.mk (below_step (yu8 HB.out HI0.out) hb);clear Ai;clear Aj;clear HI0;clear Aa;clear Ab;clear HK;clear HB;have Ai:=n0_;have Aj:=n1_;have B0:=n2_;have HI0:=n3_;have Aa:=n4_;have Ab:=n5_;have HK:=n6_;have HB:=n7_;clear n0_ n1_ n2_ n3_ n4_ n5_ n6_ n7_;clear hb ho165)|((with_reducible refine gate_callee (f:=70) rfl ?_);refine goesL_ (some 71) rfl rfl Try.func70 (by kernel_rfl) rfl #[.pointer (some ⟨g,0,none⟩),.int .i64 2] rfl am ?_;(with_reducible refine (spec_l20Rd_pick.calls k g s0_0 t177 2 t199 t200 w0 _ ?side1 ?side2 Eg.out).mono ?_);(case side1=>exact yu7 HI0.out);(case side2=>exact yu8 HB.out HI0.out);rintro e Bq ⟨rfl,hi,hb,hk⟩;refine ⟨_,rfl,?_⟩;have n0_:=Aside0.mk (KeepBut.blk hk (g':=gb150) (o:=.cells #[.int .i64 0,.int .i64 0,.int .i64 0,.int .i64 0,.int .i64 0] 66 (0,0)) (yv0 Aa.out) A8.out (by simp));have n1_:=Aside0.mk (Kd.R_mono (Kd.R_keep (IsS113.apart (show IsS113 w0 _ g s0_0 t177 from by exact yu7 HI0.out) (mR Ai.out) (by decide)) hk (fun _ h=>h.2)) (fun _ h=>h.1));have n2_:=Aside0.mk (Kd.R_mono (Kd.R_keep (IsS113.apart (show IsS113 w0 _ g s0_0 t177 from by exact yu7 HI0.out) (mR Aj.out) (by decide)) hk (fun _ h=>h.2)) (fun _ h=>h.1));have n3_:=Aside0.mk (KeepBut.blk hk (g':=gb173) (o:=.cells #[.int .i64 (wrap64 (1+t151)),.int .i64 (wrap64 (1+t153)),.int .i64 (rd y157 t160),.int .i64 (rd y165 t168),.int .i64 (wrap64 (1+t171))] 66 (0,0)) (yv0 Ab.out) Ba.out (by simp));have n4_:=Aside0.mk (Kd.R_mono (Kd.R_keep (IsS113.apart (show IsS113 w0 _ g s0_0 t177 from by exact yu7 HI0.out) (mR B0.out) (by decide)) hk (fun _ h=>h.2)) (fun _ h=>h.1));have n5_:=Aside0.mk (KeepBut.trans (yu9 HK.out) hk (.inl rfl));have n6_:=Aside0.mk (hb);have n7_:=Aside0.mk (hi);clear Aa;clear Ai;clear Aj;clear Ab;clear B0;clear HK;clear HB;clear HI0;have Aa:=n0_;have Ai:=n1_;have Aj:=n2_;have Ab:=n3_;have B0:=n4_;have HK:=n5_;have HB:=n6_;have HI0:=n7_;clear n0_ n1_ n2_ n3_ n4_ n5_ n6_ n7_;(try clear hb);(try clear hb2);(try clear hk);(try clear hi);obtain ⟨Ao167,co167,eo167⟩:=Kd.R_slice B0.out;subst eo167;have p201:0≤(t199:Int):=of_decide_eq_true (by first|(with_reducible assumption)|assumption);have q201:t199<(y196.length:Int):=of_decide_eq_true (by first|(with_reducible assumption)|assumption);obtain ⟨ad201,e201,hx201_0⟩:=Kd.at_int (Kd.R_reads' B0.out).2.2 t199 p201 q201;cases e201;replace p201:=eq_true p201;replace q201:=eq_true q201;have Gt:=Bc.out;have Gu:=Ax.out;have Gv:=Ba.out;have Gw:=Bg.out;have Eh:Bq.cell? ⟨gb173,0,none⟩=some (.int .i64 (wrap64 (1+t151))):=(blk_cell Ab.out 0).trans rfl;have Ei:Bq.cell? ⟨gb173,1,none⟩=some (.int .i64 (wrap64 (1+t153))):=(blk_cell Ab.out 1).trans rfl;have Ej:Bq.cell? ⟨gb173,2,none⟩=some (.int .i64 (rd y157 t160)):=(blk_cell Ab.out 2).trans rfl;have Ek:Bq.cell? ⟨gb173,3,none⟩=some (.int .i64 (rd y165 t168)):=(blk_cell Ab.out 3).trans rfl;have El:Bq.cell? ⟨gb173,4,none⟩=some (.int .i64 (wrap64 (1+t171))):=(blk_cell Ab.out 4).trans rfl;have Em:=blk_frozen Ab.out 0;have En:=blk_frozen Ab.out 1;have Eo:=blk_frozen Ab.out 2;have Ep:=blk_frozen Ab.out 3;have Eq:=blk_frozen Ab.out 4;have Gx:=A8.out;have Gy:=Bb.out;have Er:Bq.cell? ⟨gb150,0,none⟩=some (.int .i64 0):=(blk_cell Aa.out 0).trans rfl;have Es:Bq.cell? ⟨gb150,1,none⟩=some (.int .i64 0):=(blk_cell Aa.out 1).trans rfl;have Et:Bq.cell? ⟨gb150,2,none⟩=some (.int .i64 0):=(blk_cell Aa.out 2).trans rfl;have Eu:Bq.cell? ⟨gb150,3,none⟩=some (.int .i64 0):=(blk_cell Aa.out 3).trans rfl;have Ev:Bq.cell? ⟨gb150,4,none⟩=some (.int .i64 0):=(blk_cell Aa.out 4).trans rfl;have Ew:=blk_frozen Aa.out 0;have Ex:=blk_frozen Aa.out 1;have Ey:=blk_frozen Aa.out 2;have Ez:=blk_frozen Aa.out 3;have E0:=blk_frozen Aa.out 4))
 refine bodyPost_ret (results_cell_row rfl _ _ gb150 66 #[.int .i64 (wrap64 (1+t151)),.int .i64 (wrap64 (1+t153)),.int .i64 (rd y157 t160),.int .i64 (rd y196 t199),.int .i64 (wrap64 (1+t171))] (0,0) _ rfl (by (with_reducible repeat (first|refine blk_drewN ?_ _|refine blk_drew ?_|refine blk_alloc ?_ _));refine blk_put (cs:=#[.int .i64 (wrap64 (1+t151)),.int .i64 (wrap64 (1+t153)),.int .i64 (rd y157 t160),.int .i64 (rd y196 t199),.int .i64 0]) ?_ 4 _ rfl;(with_reducible repeat (first|refine blk_drewN ?_ _|refine blk_drew ?_|refine blk_alloc ?_ _));refine blk_put (cs:=#[.int .i64 (wrap64 (1+t151)),.int .i64 (wrap64 (1+t153)),.int .i64 (rd y157 t160),.int .i64 0,.int .i64 0]) ?_ 3 _ rfl;(with_reducible repeat (first|refine blk_drewN ?_ _|refine blk_drew ?_|refine blk_alloc ?_ _));refine blk_put (cs:=#[.int .i64 (wrap64 (1+t151)),.int .i64 (wrap64 (1+t153)),.int .i64 0,.int .i64 0,.int .i64 0]) ?_ 2 _ rfl;(with_reducible repeat (first|refine blk_drewN ?_ _|refine blk_drew ?_|refine blk_alloc ?_ _));refine blk_put (cs:=#[.int .i64 (wrap64 (1+t151)),.int .i64 0,.int .i64 0,.int .i64 0,.int .i64 0]) ?_ 1 _ rfl;(with_reducible repeat (first|refine blk_drewN ?_ _|refine blk_drew ?_|refine blk_alloc ?_ _));refine blk_put (cs:=#[.int .i64 0,.int .i64 0,.int .i64 0,.int .i64 0,.int .i64 0]) ?_ 0 _ rfl;(with_reducible repeat (first|refine blk_drewN ?_ _|refine blk_drew ?_|refine blk_alloc ?_ _));refine blk_far ?_ Ax.out _;(with_reducible repeat (first|refine blk_drewN ?_ _|refine blk_drew ?_|refine blk_alloc ?_ _));exact Aa.out) Try.underlying66 rfl (by kernel_rfl)) rfl ?_
 exact ⟨by first|rfl|(simp [errW_none,errW_some] <;> rfl)|(simp [*,errW_none,errW_some] <;> rfl),by exact yu7 HI0.out,by exact yu8 HB.out HI0.out,by exact yu9 HK.out⟩

end Go.Proofs.Yteknaofnageihaa.QFnCrdTxOk
