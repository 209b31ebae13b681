/- What the functions compute is what the evaluator says; their contracts. -/
import Derived.Test.YtlpeoedbginanaaGreatF
import Derived.Test.YtlpeoedbginanaaGreatProg
import Derived.Test.YtlpeoedbginanaaGreatJ
import Derived.Test.YtlpeoedbginanaaGreatBL
namespace Vg.Tryz
open Go Vg Go.Proofs
set_option linter.unusedVariables false
def TT : List (Nat × TI) := [(3, ⟨(.int .i64), [], 0⟩), (4, ⟨.bool, [], 0⟩), (5, ⟨(.int .u8), [], 0⟩), (9, ⟨.str, [], 0⟩), (22, ⟨(.sl .str), [], 9⟩), (24, ⟨tConf, [3, 3, 3, 3, 3, 22], 0⟩), (25, ⟨(.sl tPart), [], 151⟩), (26, ⟨(.sl tSub), [], 154⟩), (27, ⟨(.sl tAlarm), [], 65⟩), (28, ⟨(.sl tGroup), [], 157⟩), (29, ⟨(.sl tTimer), [], 176⟩), (30, ⟨(.sl tBatch), [], 160⟩), (31, ⟨(.sl tTask), [], 163⟩), (32, ⟨(.sl tDeed), [], 166⟩), (34, ⟨tWorld, [24, 3, 3, 25, 26, 27, 3, 28, 3, 29, 30, 27, 31, 32], 0⟩), (37, ⟨tConf, [3, 3, 3, 3, 3, 22], 0⟩), (38, ⟨(.sl tPart), [], 118⟩), (39, ⟨(.sl tSub), [], 107⟩), (40, ⟨(.sl tAlarm), [], 69⟩), (41, ⟨(.sl tGroup), [], 171⟩), (42, ⟨(.sl tTimer), [], 174⟩), (43, ⟨(.sl tBatch), [], 178⟩), (44, ⟨(.sl tTask), [], 115⟩), (45, ⟨(.sl tDeed), [], 109⟩), (47, ⟨tWorld, [37, 3, 3, 38, 39, 40, 3, 41, 3, 42, 43, 40, 44, 45], 0⟩), (56, ⟨(.sl tLabel), [], 135⟩), (59, ⟨(.sl tLabel), [], 137⟩), (65, ⟨tAlarm, [56, 3, 3, 9], 0⟩), (69, ⟨tAlarm, [59, 3, 3, 9], 0⟩), (107, ⟨tSub, [40, 4], 0⟩), (109, ⟨tDeed, [3, 3, 69, 59, 3, 3, 3, 40, 3, 3, 3, 3], 0⟩), (113, ⟨(.sl (.int .i64)), [], 3⟩), (115, ⟨tTask, [3, 3, 69, 59, 3, 113, 40, 3, 3], 0⟩), (116, ⟨(.sl tChain), [], 260⟩), (118, ⟨tPart, [3, 3, 116], 0⟩), (135, ⟨tLabel, [9, 9], 0⟩), (137, ⟨tLabel, [9, 9], 0⟩), (149, ⟨(.sl tChain), [], 282⟩), (151, ⟨tPart, [3, 3, 149], 0⟩), (154, ⟨tSub, [27, 4], 0⟩), (157, ⟨tGroup, [3, 56, 3, 3, 27], 0⟩), (160, ⟨tBatch, [3, 56, 3, 27], 0⟩), (163, ⟨tTask, [3, 3, 65, 56, 3, 113, 27, 3, 3], 0⟩), (166, ⟨tDeed, [3, 3, 65, 56, 3, 3, 3, 27, 3, 3, 3, 3], 0⟩), (171, ⟨tGroup, [3, 59, 3, 3, 40], 0⟩), (174, ⟨tTimer, [3, 3], 0⟩), (176, ⟨tTimer, [3, 3], 0⟩), (178, ⟨tBatch, [3, 59, 3, 40], 0⟩), (260, ⟨tChain, [3, 40], 0⟩), (265, ⟨(.int .u64), [], 0⟩), (282, ⟨tChain, [3, 27], 0⟩), (308, ⟨(.int .u32), [], 0⟩)]
theorem TTok : TT.all (fun p => tyB Tryz.prog p.1 p.2) = true := by kernel_rfl
theorem mixed : Tryz.prog.follows .mixedOrders = true := by kernel_rfl
abbrev ps_laws_szStringS : List PK := [.val (.sl .str) .shr, .val (.int .i64) .leaf]
abbrev rs_laws_szStringS : List RK := [.val (.int .i64) .leaf]
def c_laws_szStringS (k : Nat) : Con := ⟨ps_laws_szStringS, rs_laws_szStringS, F_laws_szStringS k⟩
def la_laws_szStringS : Nat → Option Ann := fun | 5 => some ⟨[(0, .val (.sl .str) (.sl (.sha [1]))), (1, .val (.int .i64) .leaf), (5, .val (.int .i64) .leaf)], 3⟩ | _ => none
def ja_laws_szStringS : Nat → Option Ann := fun _ => none
def cs_laws_szStringS (k : Nat) : List (FuncId × Con) := []
set_option maxRecDepth 1000000 in
theorem e_laws_szStringS (k : Nat) (x) : evFn2 (mkCx TT (cs_laws_szStringS k) la_laws_szStringS ja_laws_szStringS k) ps_laws_szStringS rs_laws_szStringS Tryz.f144 x = F_laws_szStringS k x := by kernel_rfl
set_option maxRecDepth 1000000 in
theorem m_laws_szStringS (k : Nat) : Meets Tryz.prog 144 (c_laws_szStringS k) := meets_ev TTok mixed (cts := cs_laws_szStringS k) trivial Tryz.func144 (by kernel_rfl) (by kernel_rfl) (e_laws_szStringS k)
abbrev ps_laws_szConf : List PK := [.val tConf (.pair .leaf (.pair .leaf (.pair .leaf (.pair .leaf (.pair .leaf .shr))))), .val (.int .i64) .leaf]
abbrev rs_laws_szConf : List RK := [.val (.int .i64) .leaf]
def c_laws_szConf (k : Nat) : Con := ⟨ps_laws_szConf, rs_laws_szConf, F_laws_szConf k⟩
def la_laws_szConf : Nat → Option Ann := fun _ => none
def ja_laws_szConf : Nat → Option Ann := fun _ => none
def cs_laws_szConf (k : Nat) : List (FuncId × Con) := [(144, c_laws_szStringS k)]
set_option maxRecDepth 1000000 in
theorem e_laws_szConf (k : Nat) (x) : evFn2 (mkCx TT (cs_laws_szConf k) la_laws_szConf ja_laws_szConf k) ps_laws_szConf rs_laws_szConf Tryz.f52 x = F_laws_szConf k x := by kernel_rfl
set_option maxRecDepth 1000000 in
theorem m_laws_szConf (k : Nat) : Meets Tryz.prog 52 (c_laws_szConf k) := meets_ev TTok mixed (cts := cs_laws_szConf k) ⟨m_laws_szStringS k, trivial⟩ Tryz.func52 (by kernel_rfl) (by kernel_rfl) (e_laws_szConf k)
abbrev ps_laws_szLabel : List PK := [.val tLabel (.pair .leaf .leaf), .val (.int .i64) .leaf]
abbrev rs_laws_szLabel : List RK := [.val (.int .i64) .leaf]
def c_laws_szLabel (k : Nat) : Con := ⟨ps_laws_szLabel, rs_laws_szLabel, F_laws_szLabel k⟩
def la_laws_szLabel : Nat → Option Ann := fun _ => none
def ja_laws_szLabel : Nat → Option Ann := fun _ => none
def cs_laws_szLabel (k : Nat) : List (FuncId × Con) := []
set_option maxRecDepth 1000000 in
theorem e_laws_szLabel (k : Nat) (x) : evFn2 (mkCx TT (cs_laws_szLabel k) la_laws_szLabel ja_laws_szLabel k) ps_laws_szLabel rs_laws_szLabel Tryz.f126 x = F_laws_szLabel k x := by kernel_rfl
set_option maxRecDepth 1000000 in
theorem m_laws_szLabel (k : Nat) : Meets Tryz.prog 126 (c_laws_szLabel k) := meets_ev TTok mixed (cts := cs_laws_szLabel k) trivial Tryz.func126 (by kernel_rfl) (by kernel_rfl) (e_laws_szLabel k)
abbrev ps_laws_szLabelS : List PK := [.val (.sl tLabel) .shr, .val (.int .i64) .leaf]
abbrev rs_laws_szLabelS : List RK := [.val (.int .i64) .leaf]
def c_laws_szLabelS (k : Nat) : Con := ⟨ps_laws_szLabelS, rs_laws_szLabelS, F_laws_szLabelS k⟩
def la_laws_szLabelS : Nat → Option Ann := fun | 5 => some ⟨[(0, .val (.sl tLabel) (.sl (.sha [1]))), (1, .val (.int .i64) .leaf), (5, .val (.int .i64) .leaf)], 3⟩ | _ => none
def ja_laws_szLabelS : Nat → Option Ann := fun _ => none
def cs_laws_szLabelS (k : Nat) : List (FuncId × Con) := [(126, c_laws_szLabel k)]
set_option maxRecDepth 1000000 in
theorem e_laws_szLabelS (k : Nat) (x) : evFn2 (mkCx TT (cs_laws_szLabelS k) la_laws_szLabelS ja_laws_szLabelS k) ps_laws_szLabelS rs_laws_szLabelS Tryz.f30 x = F_laws_szLabelS k x := by kernel_rfl
set_option maxRecDepth 1000000 in
theorem m_laws_szLabelS (k : Nat) : Meets Tryz.prog 30 (c_laws_szLabelS k) := meets_ev TTok mixed (cts := cs_laws_szLabelS k) ⟨m_laws_szLabel k, trivial⟩ Tryz.func30 (by kernel_rfl) (by kernel_rfl) (e_laws_szLabelS k)
abbrev ps_laws_szAlarm : List PK := [.val tAlarm (.pair .shr (.pair .leaf (.pair .leaf .leaf))), .val (.int .i64) .leaf]
abbrev rs_laws_szAlarm : List RK := [.val (.int .i64) .leaf]
def c_laws_szAlarm (k : Nat) : Con := ⟨ps_laws_szAlarm, rs_laws_szAlarm, F_laws_szAlarm k⟩
def la_laws_szAlarm : Nat → Option Ann := fun _ => none
def ja_laws_szAlarm : Nat → Option Ann := fun _ => none
def cs_laws_szAlarm (k : Nat) : List (FuncId × Con) := [(30, c_laws_szLabelS k)]
set_option maxRecDepth 1000000 in
theorem e_laws_szAlarm (k : Nat) (x) : evFn2 (mkCx TT (cs_laws_szAlarm k) la_laws_szAlarm ja_laws_szAlarm k) ps_laws_szAlarm rs_laws_szAlarm Tryz.f36 x = F_laws_szAlarm k x := by kernel_rfl
set_option maxRecDepth 1000000 in
theorem m_laws_szAlarm (k : Nat) : Meets Tryz.prog 36 (c_laws_szAlarm k) := meets_ev TTok mixed (cts := cs_laws_szAlarm k) ⟨m_laws_szLabelS k, trivial⟩ Tryz.func36 (by kernel_rfl) (by kernel_rfl) (e_laws_szAlarm k)
abbrev ps_laws_szAlarmS : List PK := [.val (.sl tAlarm) .shr, .val (.int .i64) .leaf]
abbrev rs_laws_szAlarmS : List RK := [.val (.int .i64) .leaf]
def c_laws_szAlarmS (k : Nat) : Con := ⟨ps_laws_szAlarmS, rs_laws_szAlarmS, F_laws_szAlarmS k⟩
def la_laws_szAlarmS : Nat → Option Ann := fun | 5 => some ⟨[(0, .val (.sl tAlarm) (.sl (.sha [1]))), (1, .val (.int .i64) .leaf), (5, .val (.int .i64) .leaf)], 3⟩ | _ => none
def ja_laws_szAlarmS : Nat → Option Ann := fun _ => none
def cs_laws_szAlarmS (k : Nat) : List (FuncId × Con) := [(36, c_laws_szAlarm k)]
set_option maxRecDepth 1000000 in
theorem e_laws_szAlarmS (k : Nat) (x) : evFn2 (mkCx TT (cs_laws_szAlarmS k) la_laws_szAlarmS ja_laws_szAlarmS k) ps_laws_szAlarmS rs_laws_szAlarmS Tryz.f55 x = F_laws_szAlarmS k x := by kernel_rfl
set_option maxRecDepth 1000000 in
theorem m_laws_szAlarmS (k : Nat) : Meets Tryz.prog 55 (c_laws_szAlarmS k) := meets_ev TTok mixed (cts := cs_laws_szAlarmS k) ⟨m_laws_szAlarm k, trivial⟩ Tryz.func55 (by kernel_rfl) (by kernel_rfl) (e_laws_szAlarmS k)
abbrev ps_laws_szChain : List PK := [.val tChain (.pair .leaf .shr), .val (.int .i64) .leaf]
abbrev rs_laws_szChain : List RK := [.val (.int .i64) .leaf]
def c_laws_szChain (k : Nat) : Con := ⟨ps_laws_szChain, rs_laws_szChain, F_laws_szChain k⟩
def la_laws_szChain : Nat → Option Ann := fun _ => none
def ja_laws_szChain : Nat → Option Ann := fun _ => none
def cs_laws_szChain (k : Nat) : List (FuncId × Con) := [(55, c_laws_szAlarmS k)]
set_option maxRecDepth 1000000 in
theorem e_laws_szChain (k : Nat) (x) : evFn2 (mkCx TT (cs_laws_szChain k) la_laws_szChain ja_laws_szChain k) ps_laws_szChain rs_laws_szChain Tryz.f342 x = F_laws_szChain k x := by kernel_rfl
set_option maxRecDepth 1000000 in
theorem m_laws_szChain (k : Nat) : Meets Tryz.prog 342 (c_laws_szChain k) := meets_ev TTok mixed (cts := cs_laws_szChain k) ⟨m_laws_szAlarmS k, trivial⟩ Tryz.func342 (by kernel_rfl) (by kernel_rfl) (e_laws_szChain k)
abbrev ps_laws_szChainS : List PK := [.val (.sl tChain) .shr, .val (.int .i64) .leaf]
abbrev rs_laws_szChainS : List RK := [.val (.int .i64) .leaf]
def c_laws_szChainS (k : Nat) : Con := ⟨ps_laws_szChainS, rs_laws_szChainS, F_laws_szChainS k⟩
def la_laws_szChainS : Nat → Option Ann := fun | 5 => some ⟨[(0, .val (.sl tChain) (.sl (.sha [1]))), (1, .val (.int .i64) .leaf), (5, .val (.int .i64) .leaf)], 3⟩ | _ => none
def ja_laws_szChainS : Nat → Option Ann := fun _ => none
def cs_laws_szChainS (k : Nat) : List (FuncId × Con) := [(342, c_laws_szChain k)]
set_option maxRecDepth 1000000 in
theorem e_laws_szChainS (k : Nat) (x) : evFn2 (mkCx TT (cs_laws_szChainS k) la_laws_szChainS ja_laws_szChainS k) ps_laws_szChainS rs_laws_szChainS Tryz.f270 x = F_laws_szChainS k x := by kernel_rfl
set_option maxRecDepth 1000000 in
theorem m_laws_szChainS (k : Nat) : Meets Tryz.prog 270 (c_laws_szChainS k) := meets_ev TTok mixed (cts := cs_laws_szChainS k) ⟨m_laws_szChain k, trivial⟩ Tryz.func270 (by kernel_rfl) (by kernel_rfl) (e_laws_szChainS k)
abbrev ps_laws_szPart : List PK := [.val tPart (.pair .leaf (.pair .leaf .shr)), .val (.int .i64) .leaf]
abbrev rs_laws_szPart : List RK := [.val (.int .i64) .leaf]
def c_laws_szPart (k : Nat) : Con := ⟨ps_laws_szPart, rs_laws_szPart, F_laws_szPart k⟩
def la_laws_szPart : Nat → Option Ann := fun _ => none
def ja_laws_szPart : Nat → Option Ann := fun _ => none
def cs_laws_szPart (k : Nat) : List (FuncId × Con) := [(270, c_laws_szChainS k)]
set_option maxRecDepth 1000000 in
theorem e_laws_szPart (k : Nat) (x) : evFn2 (mkCx TT (cs_laws_szPart k) la_laws_szPart ja_laws_szPart k) ps_laws_szPart rs_laws_szPart Tryz.f145 x = F_laws_szPart k x := by kernel_rfl
set_option maxRecDepth 1000000 in
theorem m_laws_szPart (k : Nat) : Meets Tryz.prog 145 (c_laws_szPart k) := meets_ev TTok mixed (cts := cs_laws_szPart k) ⟨m_laws_szChainS k, trivial⟩ Tryz.func145 (by kernel_rfl) (by kernel_rfl) (e_laws_szPart k)
abbrev ps_laws_szPartS : List PK := [.val (.sl tPart) .shr, .val (.int .i64) .leaf]
abbrev rs_laws_szPartS : List RK := [.val (.int .i64) .leaf]
def c_laws_szPartS (k : Nat) : Con := ⟨ps_laws_szPartS, rs_laws_szPartS, F_laws_szPartS k⟩
def la_laws_szPartS : Nat → Option Ann := fun | 5 => some ⟨[(0, .val (.sl tPart) (.sl (.sha [1]))), (1, .val (.int .i64) .leaf), (5, .val (.int .i64) .leaf)], 3⟩ | _ => none
def ja_laws_szPartS : Nat → Option Ann := fun _ => none
def cs_laws_szPartS (k : Nat) : List (FuncId × Con) := [(145, c_laws_szPart k)]
set_option maxRecDepth 1000000 in
theorem e_laws_szPartS (k : Nat) (x) : evFn2 (mkCx TT (cs_laws_szPartS k) la_laws_szPartS ja_laws_szPartS k) ps_laws_szPartS rs_laws_szPartS Tryz.f53 x = F_laws_szPartS k x := by kernel_rfl
set_option maxRecDepth 1000000 in
theorem m_laws_szPartS (k : Nat) : Meets Tryz.prog 53 (c_laws_szPartS k) := meets_ev TTok mixed (cts := cs_laws_szPartS k) ⟨m_laws_szPart k, trivial⟩ Tryz.func53 (by kernel_rfl) (by kernel_rfl) (e_laws_szPartS k)
abbrev ps_laws_szSub : List PK := [.val tSub (.pair .shr .leaf), .val (.int .i64) .leaf]
abbrev rs_laws_szSub : List RK := [.val (.int .i64) .leaf]
def c_laws_szSub (k : Nat) : Con := ⟨ps_laws_szSub, rs_laws_szSub, F_laws_szSub k⟩
def la_laws_szSub : Nat → Option Ann := fun _ => none
def ja_laws_szSub : Nat → Option Ann := fun _ => none
def cs_laws_szSub (k : Nat) : List (FuncId × Con) := [(55, c_laws_szAlarmS k)]
set_option maxRecDepth 1000000 in
theorem e_laws_szSub (k : Nat) (x) : evFn2 (mkCx TT (cs_laws_szSub k) la_laws_szSub ja_laws_szSub k) ps_laws_szSub rs_laws_szSub Tryz.f146 x = F_laws_szSub k x := by kernel_rfl
set_option maxRecDepth 1000000 in
theorem m_laws_szSub (k : Nat) : Meets Tryz.prog 146 (c_laws_szSub k) := meets_ev TTok mixed (cts := cs_laws_szSub k) ⟨m_laws_szAlarmS k, trivial⟩ Tryz.func146 (by kernel_rfl) (by kernel_rfl) (e_laws_szSub k)
abbrev ps_laws_szSubS : List PK := [.val (.sl tSub) .shr, .val (.int .i64) .leaf]
abbrev rs_laws_szSubS : List RK := [.val (.int .i64) .leaf]
def c_laws_szSubS (k : Nat) : Con := ⟨ps_laws_szSubS, rs_laws_szSubS, F_laws_szSubS k⟩
def la_laws_szSubS : Nat → Option Ann := fun | 5 => some ⟨[(0, .val (.sl tSub) (.sl (.sha [1]))), (1, .val (.int .i64) .leaf), (5, .val (.int .i64) .leaf)], 3⟩ | _ => none
def ja_laws_szSubS : Nat → Option Ann := fun _ => none
def cs_laws_szSubS (k : Nat) : List (FuncId × Con) := [(146, c_laws_szSub k)]
set_option maxRecDepth 1000000 in
theorem e_laws_szSubS (k : Nat) (x) : evFn2 (mkCx TT (cs_laws_szSubS k) la_laws_szSubS ja_laws_szSubS k) ps_laws_szSubS rs_laws_szSubS Tryz.f54 x = F_laws_szSubS k x := by kernel_rfl
set_option maxRecDepth 1000000 in
theorem m_laws_szSubS (k : Nat) : Meets Tryz.prog 54 (c_laws_szSubS k) := meets_ev TTok mixed (cts := cs_laws_szSubS k) ⟨m_laws_szSub k, trivial⟩ Tryz.func54 (by kernel_rfl) (by kernel_rfl) (e_laws_szSubS k)
abbrev ps_laws_szGroup : List PK := [.val tGroup (.pair .leaf (.pair .shr (.pair .leaf (.pair .leaf .shr)))), .val (.int .i64) .leaf]
abbrev rs_laws_szGroup : List RK := [.val (.int .i64) .leaf]
def c_laws_szGroup (k : Nat) : Con := ⟨ps_laws_szGroup, rs_laws_szGroup, F_laws_szGroup k⟩
def la_laws_szGroup : Nat → Option Ann := fun _ => none
def ja_laws_szGroup : Nat → Option Ann := fun _ => none
def cs_laws_szGroup (k : Nat) : List (FuncId × Con) := [(30, c_laws_szLabelS k), (55, c_laws_szAlarmS k)]
set_option maxRecDepth 1000000 in
theorem e_laws_szGroup (k : Nat) (x) : evFn2 (mkCx TT (cs_laws_szGroup k) la_laws_szGroup ja_laws_szGroup k) ps_laws_szGroup rs_laws_szGroup Tryz.f147 x = F_laws_szGroup k x := by kernel_rfl
set_option maxRecDepth 1000000 in
theorem m_laws_szGroup (k : Nat) : Meets Tryz.prog 147 (c_laws_szGroup k) := meets_ev TTok mixed (cts := cs_laws_szGroup k) ⟨m_laws_szLabelS k, m_laws_szAlarmS k, trivial⟩ Tryz.func147 (by kernel_rfl) (by kernel_rfl) (e_laws_szGroup k)
abbrev ps_laws_szGroupS : List PK := [.val (.sl tGroup) .shr, .val (.int .i64) .leaf]
abbrev rs_laws_szGroupS : List RK := [.val (.int .i64) .leaf]
def c_laws_szGroupS (k : Nat) : Con := ⟨ps_laws_szGroupS, rs_laws_szGroupS, F_laws_szGroupS k⟩
def la_laws_szGroupS : Nat → Option Ann := fun | 5 => some ⟨[(0, .val (.sl tGroup) (.sl (.sha [1]))), (1, .val (.int .i64) .leaf), (5, .val (.int .i64) .leaf)], 3⟩ | _ => none
def ja_laws_szGroupS : Nat → Option Ann := fun _ => none
def cs_laws_szGroupS (k : Nat) : List (FuncId × Con) := [(147, c_laws_szGroup k)]
set_option maxRecDepth 1000000 in
theorem e_laws_szGroupS (k : Nat) (x) : evFn2 (mkCx TT (cs_laws_szGroupS k) la_laws_szGroupS ja_laws_szGroupS k) ps_laws_szGroupS rs_laws_szGroupS Tryz.f56 x = F_laws_szGroupS k x := by kernel_rfl
set_option maxRecDepth 1000000 in
theorem m_laws_szGroupS (k : Nat) : Meets Tryz.prog 56 (c_laws_szGroupS k) := meets_ev TTok mixed (cts := cs_laws_szGroupS k) ⟨m_laws_szGroup k, trivial⟩ Tryz.func56 (by kernel_rfl) (by kernel_rfl) (e_laws_szGroupS k)
abbrev ps_laws_szTimerS : List PK := [.val (.sl tTimer) .shr, .val (.int .i64) .leaf]
abbrev rs_laws_szTimerS : List RK := [.val (.int .i64) .leaf]
def c_laws_szTimerS (k : Nat) : Con := ⟨ps_laws_szTimerS, rs_laws_szTimerS, F_laws_szTimerS k⟩
def la_laws_szTimerS : Nat → Option Ann := fun _ => none
def ja_laws_szTimerS : Nat → Option Ann := fun _ => none
def cs_laws_szTimerS (k : Nat) : List (FuncId × Con) := []
set_option maxRecDepth 1000000 in
theorem e_laws_szTimerS (k : Nat) (x) : evFn2 (mkCx TT (cs_laws_szTimerS k) la_laws_szTimerS ja_laws_szTimerS k) ps_laws_szTimerS rs_laws_szTimerS Tryz.f57 x = F_laws_szTimerS k x := by kernel_rfl
set_option maxRecDepth 1000000 in
theorem m_laws_szTimerS (k : Nat) : Meets Tryz.prog 57 (c_laws_szTimerS k) := meets_ev TTok mixed (cts := cs_laws_szTimerS k) trivial Tryz.func57 (by kernel_rfl) (by kernel_rfl) (e_laws_szTimerS k)
abbrev ps_laws_szBatch : List PK := [.val tBatch (.pair .leaf (.pair .shr (.pair .leaf .shr))), .val (.int .i64) .leaf]
abbrev rs_laws_szBatch : List RK := [.val (.int .i64) .leaf]
def c_laws_szBatch (k : Nat) : Con := ⟨ps_laws_szBatch, rs_laws_szBatch, F_laws_szBatch k⟩
def la_laws_szBatch : Nat → Option Ann := fun _ => none
def ja_laws_szBatch : Nat → Option Ann := fun _ => none
def cs_laws_szBatch (k : Nat) : List (FuncId × Con) := [(30, c_laws_szLabelS k), (55, c_laws_szAlarmS k)]
set_option maxRecDepth 1000000 in
theorem e_laws_szBatch (k : Nat) (x) : evFn2 (mkCx TT (cs_laws_szBatch k) la_laws_szBatch ja_laws_szBatch k) ps_laws_szBatch rs_laws_szBatch Tryz.f148 x = F_laws_szBatch k x := by kernel_rfl
set_option maxRecDepth 1000000 in
theorem m_laws_szBatch (k : Nat) : Meets Tryz.prog 148 (c_laws_szBatch k) := meets_ev TTok mixed (cts := cs_laws_szBatch k) ⟨m_laws_szLabelS k, m_laws_szAlarmS k, trivial⟩ Tryz.func148 (by kernel_rfl) (by kernel_rfl) (e_laws_szBatch k)
abbrev ps_laws_szBatchS : List PK := [.val (.sl tBatch) .shr, .val (.int .i64) .leaf]
abbrev rs_laws_szBatchS : List RK := [.val (.int .i64) .leaf]
def c_laws_szBatchS (k : Nat) : Con := ⟨ps_laws_szBatchS, rs_laws_szBatchS, F_laws_szBatchS k⟩
def la_laws_szBatchS : Nat → Option Ann := fun | 5 => some ⟨[(0, .val (.sl tBatch) (.sl (.sha [1]))), (1, .val (.int .i64) .leaf), (5, .val (.int .i64) .leaf)], 3⟩ | _ => none
def ja_laws_szBatchS : Nat → Option Ann := fun _ => none
def cs_laws_szBatchS (k : Nat) : List (FuncId × Con) := [(148, c_laws_szBatch k)]
set_option maxRecDepth 1000000 in
theorem e_laws_szBatchS (k : Nat) (x) : evFn2 (mkCx TT (cs_laws_szBatchS k) la_laws_szBatchS ja_laws_szBatchS k) ps_laws_szBatchS rs_laws_szBatchS Tryz.f58 x = F_laws_szBatchS k x := by kernel_rfl
set_option maxRecDepth 1000000 in
theorem m_laws_szBatchS (k : Nat) : Meets Tryz.prog 58 (c_laws_szBatchS k) := meets_ev TTok mixed (cts := cs_laws_szBatchS k) ⟨m_laws_szBatch k, trivial⟩ Tryz.func58 (by kernel_rfl) (by kernel_rfl) (e_laws_szBatchS k)
abbrev ps_laws_szIntS : List PK := [.val (.sl (.int .i64)) .shr, .val (.int .i64) .leaf]
abbrev rs_laws_szIntS : List RK := [.val (.int .i64) .leaf]
def c_laws_szIntS (k : Nat) : Con := ⟨ps_laws_szIntS, rs_laws_szIntS, F_laws_szIntS k⟩
def la_laws_szIntS : Nat → Option Ann := fun _ => none
def ja_laws_szIntS : Nat → Option Ann := fun _ => none
def cs_laws_szIntS (k : Nat) : List (FuncId × Con) := []
set_option maxRecDepth 1000000 in
theorem e_laws_szIntS (k : Nat) (x) : evFn2 (mkCx TT (cs_laws_szIntS k) la_laws_szIntS ja_laws_szIntS k) ps_laws_szIntS rs_laws_szIntS Tryz.f271 x = F_laws_szIntS k x := by kernel_rfl
set_option maxRecDepth 1000000 in
theorem m_laws_szIntS (k : Nat) : Meets Tryz.prog 271 (c_laws_szIntS k) := meets_ev TTok mixed (cts := cs_laws_szIntS k) trivial Tryz.func271 (by kernel_rfl) (by kernel_rfl) (e_laws_szIntS k)
abbrev ps_laws_szTask : List PK := [.val tTask (.pair .leaf (.pair .leaf (.pair (.pair .shr (.pair .leaf (.pair .leaf .leaf))) (.pair .shr (.pair .leaf (.pair .shr (.pair .shr (.pair .leaf .leaf)))))))), .val (.int .i64) .leaf]
abbrev rs_laws_szTask : List RK := [.val (.int .i64) .leaf]
def c_laws_szTask (k : Nat) : Con := ⟨ps_laws_szTask, rs_laws_szTask, F_laws_szTask k⟩
def la_laws_szTask : Nat → Option Ann := fun _ => none
def ja_laws_szTask : Nat → Option Ann := fun _ => none
def cs_laws_szTask (k : Nat) : List (FuncId × Con) := [(36, c_laws_szAlarm k), (30, c_laws_szLabelS k), (271, c_laws_szIntS k), (55, c_laws_szAlarmS k)]
set_option maxRecDepth 1000000 in
theorem e_laws_szTask (k : Nat) (x) : evFn2 (mkCx TT (cs_laws_szTask k) la_laws_szTask ja_laws_szTask k) ps_laws_szTask rs_laws_szTask Tryz.f149 x = F_laws_szTask k x := by kernel_rfl
set_option maxRecDepth 1000000 in
theorem m_laws_szTask (k : Nat) : Meets Tryz.prog 149 (c_laws_szTask k) := meets_ev TTok mixed (cts := cs_laws_szTask k) ⟨m_laws_szAlarm k, m_laws_szLabelS k, m_laws_szIntS k, m_laws_szAlarmS k, trivial⟩ Tryz.func149 (by kernel_rfl) (by kernel_rfl) (e_laws_szTask k)
abbrev ps_laws_szTaskS : List PK := [.val (.sl tTask) .shr, .val (.int .i64) .leaf]
abbrev rs_laws_szTaskS : List RK := [.val (.int .i64) .leaf]
def c_laws_szTaskS (k : Nat) : Con := ⟨ps_laws_szTaskS, rs_laws_szTaskS, F_laws_szTaskS k⟩
def la_laws_szTaskS : Nat → Option Ann := fun | 5 => some ⟨[(0, .val (.sl tTask) (.sl (.sha [1]))), (1, .val (.int .i64) .leaf), (5, .val (.int .i64) .leaf)], 3⟩ | _ => none
def ja_laws_szTaskS : Nat → Option Ann := fun _ => none
def cs_laws_szTaskS (k : Nat) : List (FuncId × Con) := [(149, c_laws_szTask k)]
set_option maxRecDepth 1000000 in
theorem e_laws_szTaskS (k : Nat) (x) : evFn2 (mkCx TT (cs_laws_szTaskS k) la_laws_szTaskS ja_laws_szTaskS k) ps_laws_szTaskS rs_laws_szTaskS Tryz.f59 x = F_laws_szTaskS k x := by kernel_rfl
set_option maxRecDepth 1000000 in
theorem m_laws_szTaskS (k : Nat) : Meets Tryz.prog 59 (c_laws_szTaskS k) := meets_ev TTok mixed (cts := cs_laws_szTaskS k) ⟨m_laws_szTask k, trivial⟩ Tryz.func59 (by kernel_rfl) (by kernel_rfl) (e_laws_szTaskS k)
abbrev ps_laws_szDeed : List PK := [.val tDeed (.pair .leaf (.pair .leaf (.pair (.pair .shr (.pair .leaf (.pair .leaf .leaf))) (.pair .shr (.pair .leaf (.pair .leaf (.pair .leaf (.pair .shr (.pair .leaf (.pair .leaf (.pair .leaf .leaf))))))))))), .val (.int .i64) .leaf]
abbrev rs_laws_szDeed : List RK := [.val (.int .i64) .leaf]
def c_laws_szDeed (k : Nat) : Con := ⟨ps_laws_szDeed, rs_laws_szDeed, F_laws_szDeed k⟩
def la_laws_szDeed : Nat → Option Ann := fun _ => none
def ja_laws_szDeed : Nat → Option Ann := fun _ => none
def cs_laws_szDeed (k : Nat) : List (FuncId × Con) := [(36, c_laws_szAlarm k), (30, c_laws_szLabelS k), (55, c_laws_szAlarmS k)]
set_option maxRecDepth 1000000 in
theorem e_laws_szDeed (k : Nat) (x) : evFn2 (mkCx TT (cs_laws_szDeed k) la_laws_szDeed ja_laws_szDeed k) ps_laws_szDeed rs_laws_szDeed Tryz.f150 x = F_laws_szDeed k x := by kernel_rfl
set_option maxRecDepth 1000000 in
theorem m_laws_szDeed (k : Nat) : Meets Tryz.prog 150 (c_laws_szDeed k) := meets_ev TTok mixed (cts := cs_laws_szDeed k) ⟨m_laws_szAlarm k, m_laws_szLabelS k, m_laws_szAlarmS k, trivial⟩ Tryz.func150 (by kernel_rfl) (by kernel_rfl) (e_laws_szDeed k)
abbrev ps_laws_szDeedS : List PK := [.val (.sl tDeed) .shr, .val (.int .i64) .leaf]
abbrev rs_laws_szDeedS : List RK := [.val (.int .i64) .leaf]
def c_laws_szDeedS (k : Nat) : Con := ⟨ps_laws_szDeedS, rs_laws_szDeedS, F_laws_szDeedS k⟩
def la_laws_szDeedS : Nat → Option Ann := fun | 5 => some ⟨[(0, .val (.sl tDeed) (.sl (.sha [1]))), (1, .val (.int .i64) .leaf), (5, .val (.int .i64) .leaf)], 3⟩ | _ => none
def ja_laws_szDeedS : Nat → Option Ann := fun _ => none
def cs_laws_szDeedS (k : Nat) : List (FuncId × Con) := [(150, c_laws_szDeed k)]
set_option maxRecDepth 1000000 in
theorem e_laws_szDeedS (k : Nat) (x) : evFn2 (mkCx TT (cs_laws_szDeedS k) la_laws_szDeedS ja_laws_szDeedS k) ps_laws_szDeedS rs_laws_szDeedS Tryz.f60 x = F_laws_szDeedS k x := by kernel_rfl
set_option maxRecDepth 1000000 in
theorem m_laws_szDeedS (k : Nat) : Meets Tryz.prog 60 (c_laws_szDeedS k) := meets_ev TTok mixed (cts := cs_laws_szDeedS k) ⟨m_laws_szDeed k, trivial⟩ Tryz.func60 (by kernel_rfl) (by kernel_rfl) (e_laws_szDeedS k)
abbrev ps_laws_szWorld : List PK := [.val tWorld (.pair (.pair .leaf (.pair .leaf (.pair .leaf (.pair .leaf (.pair .leaf .shr))))) (.pair .leaf (.pair .leaf (.pair .shr (.pair .shr (.pair .shr (.pair .leaf (.pair .shr (.pair .leaf (.pair .shr (.pair .shr (.pair .shr (.pair .shr .shr))))))))))))), .val (.int .i64) .leaf]
abbrev rs_laws_szWorld : List RK := [.val (.int .i64) .leaf]
def c_laws_szWorld (k : Nat) : Con := ⟨ps_laws_szWorld, rs_laws_szWorld, F_laws_szWorld k⟩
def la_laws_szWorld : Nat → Option Ann := fun _ => none
def ja_laws_szWorld : Nat → Option Ann := fun _ => none
def cs_laws_szWorld (k : Nat) : List (FuncId × Con) := [(52, c_laws_szConf k), (53, c_laws_szPartS k), (54, c_laws_szSubS k), (55, c_laws_szAlarmS k), (56, c_laws_szGroupS k), (57, c_laws_szTimerS k), (58, c_laws_szBatchS k), (59, c_laws_szTaskS k), (60, c_laws_szDeedS k)]
set_option maxRecDepth 1000000 in
theorem e_laws_szWorld (k : Nat) (x) : evFn2 (mkCx TT (cs_laws_szWorld k) la_laws_szWorld ja_laws_szWorld k) ps_laws_szWorld rs_laws_szWorld Tryz.f15 x = F_laws_szWorld k x := by kernel_rfl
set_option maxRecDepth 1000000 in
theorem m_laws_szWorld (k : Nat) : Meets Tryz.prog 15 (c_laws_szWorld k) := meets_ev TTok mixed (cts := cs_laws_szWorld k) ⟨m_laws_szConf k, m_laws_szPartS k, m_laws_szSubS k, m_laws_szAlarmS k, m_laws_szGroupS k, m_laws_szTimerS k, m_laws_szBatchS k, m_laws_szTaskS k, m_laws_szDeedS k, trivial⟩ Tryz.func15 (by kernel_rfl) (by kernel_rfl) (e_laws_szWorld k)
abbrev ps_laws_toStringS : List PK := [.val (.sl .str) .shr]
abbrev rs_laws_toStringS : List RK := [.val (.sl .str) .own]
def c_laws_toStringS (k : Nat) : Con := ⟨ps_laws_toStringS, rs_laws_toStringS, F_laws_toStringS k⟩
def la_laws_toStringS : Nat → Option Ann := fun | 3 => some ⟨[(0, .val (.sl .str) (.sl (.sha [1]))), (3, .val (.sl .str) (.sl (.row 3 [3] true))), (4, .val (.int .i64) .leaf)], 4⟩ | _ => none
def ja_laws_toStringS : Nat → Option Ann := fun _ => none
def cs_laws_toStringS (k : Nat) : List (FuncId × Con) := []
set_option maxRecDepth 1000000 in
theorem e_laws_toStringS (k : Nat) (x) : evFn2 (mkCx TT (cs_laws_toStringS k) la_laws_toStringS ja_laws_toStringS k) ps_laws_toStringS rs_laws_toStringS Tryz.f152 x = F_laws_toStringS k x := by kernel_rfl
set_option maxRecDepth 1000000 in
theorem m_laws_toStringS (k : Nat) : Meets Tryz.prog 152 (c_laws_toStringS k) := meets_ev TTok mixed (cts := cs_laws_toStringS k) trivial Tryz.func152 (by kernel_rfl) (by kernel_rfl) (e_laws_toStringS k)
abbrev ps_laws_toConf : List PK := [.val tConf (.pair .leaf (.pair .leaf (.pair .leaf (.pair .leaf (.pair .leaf .shr)))))]
abbrev rs_laws_toConf : List RK := [.val tConf (.pair .leaf (.pair .leaf (.pair .leaf (.pair .leaf (.pair .leaf .own)))))]
def c_laws_toConf (k : Nat) : Con := ⟨ps_laws_toConf, rs_laws_toConf, F_laws_toConf k⟩
def la_laws_toConf : Nat → Option Ann := fun _ => none
def ja_laws_toConf : Nat → Option Ann := fun _ => none
def cs_laws_toConf (k : Nat) : List (FuncId × Con) := [(152, c_laws_toStringS k)]
set_option maxRecDepth 1000000 in
theorem e_laws_toConf (k : Nat) (x) : evFn2 (mkCx TT (cs_laws_toConf k) la_laws_toConf ja_laws_toConf k) ps_laws_toConf rs_laws_toConf Tryz.f62 x = F_laws_toConf k x := by kernel_rfl
set_option maxRecDepth 1000000 in
theorem m_laws_toConf (k : Nat) : Meets Tryz.prog 62 (c_laws_toConf k) := meets_ev TTok mixed (cts := cs_laws_toConf k) ⟨m_laws_toStringS k, trivial⟩ Tryz.func62 (by kernel_rfl) (by kernel_rfl) (e_laws_toConf k)
end Vg.Tryz
