/- What the functions compute is what the evaluator says; their contracts. -/
import Derived.Test.YtoenkpiimjnmdaaF
import Derived.Test.YtoenkpiimjnmdaaProg
namespace Vg.Try
open Go Vg Go.Proofs
set_option linter.unusedVariables false
def TT : List (Nat × TI) := [(3, ⟨(.int .i64), [], 0⟩), (4, ⟨.bool, [], 0⟩), (5, ⟨(.int .u8), [], 0⟩), (9, ⟨.str, [], 0⟩), (22, ⟨(.sl tLabel), [], 118⟩), (23, ⟨(.sl tAlarm), [], 121⟩), (25, ⟨tGroup, [3, 22, 3, 3, 23], 0⟩), (27, ⟨(.sl tLabel), [], 122⟩), (28, ⟨(.sl tAlarm), [], 80⟩), (30, ⟨tGroup, [3, 27, 3, 3, 28], 0⟩), (32, ⟨tBatch, [3, 27, 3, 28], 0⟩), (41, ⟨(.sl tGroup), [], 25⟩), (43, ⟨(.sl tGroup), [], 30⟩), (50, ⟨(.sl .str), [], 9⟩), (52, ⟨tConf, [3, 3, 3, 3, 3, 50], 0⟩), (54, ⟨tConf, [3, 3, 3, 3, 3, 50], 0⟩), (55, ⟨(.sl tSub), [], 97⟩), (57, ⟨tModel, [54, 28, 55, 28, 43, 3], 0⟩), (65, ⟨(.sl tPart), [], 133⟩), (66, ⟨(.sl tTimer), [], 137⟩), (67, ⟨(.sl tBatch), [], 32⟩), (68, ⟨(.sl tTask), [], 105⟩), (69, ⟨(.sl tDeed), [], 141⟩), (71, ⟨tWorld, [54, 3, 3, 65, 55, 28, 3, 43, 3, 66, 67, 28, 68, 69], 0⟩), (80, ⟨tAlarm, [27, 3, 3, 9], 0⟩), (97, ⟨tSub, [28, 4], 0⟩), (103, ⟨(.sl (.int .i64)), [], 3⟩), (105, ⟨tTask, [3, 3, 80, 27, 3, 103, 28, 3, 3], 0⟩), (118, ⟨tLabel, [9, 9], 0⟩), (121, ⟨tAlarm, [22, 3, 3, 9], 0⟩), (122, ⟨tLabel, [9, 9], 0⟩), (131, ⟨(.sl tChain), [], 149⟩), (133, ⟨tPart, [3, 3, 131], 0⟩), (137, ⟨tTimer, [3, 3], 0⟩), (141, ⟨tDeed, [3, 3, 80, 27, 3, 3, 3, 28, 3, 3, 3, 3], 0⟩), (144, ⟨(.sl (.int .u8)), [], 5⟩), (149, ⟨tChain, [3, 28], 0⟩)]
theorem TTok : TT.all (fun p => tyB Try.prog p.1 p.2) = true := by kernel_rfl
theorem mixed : Try.prog.follows .mixedOrders = true := by kernel_rfl
abbrev ps_laws_szLabel : List PK := [.val tLabel (.pair .leaf .leaf), .val (.int .i64) .leaf]
abbrev rs_laws_szLabel : List RK := [.val (.int .i64) .leaf]
def c_laws_szLabel (k : Nat) : Con := ⟨ps_laws_szLabel, rs_laws_szLabel, F_laws_szLabel k⟩
def la_laws_szLabel : Nat → Option Ann := fun _ => none
def ja_laws_szLabel : Nat → Option Ann := fun _ => none
def cs_laws_szLabel (k : Nat) : List (FuncId × Con) := []
set_option maxRecDepth 1000000 in
theorem e_laws_szLabel (k : Nat) (x) : evFn2 (mkCx TT (cs_laws_szLabel k) la_laws_szLabel ja_laws_szLabel k) ps_laws_szLabel rs_laws_szLabel Try.f89 x = F_laws_szLabel k x := by kernel_rfl
set_option maxRecDepth 1000000 in
theorem m_laws_szLabel (k : Nat) : Meets Try.prog 89 (c_laws_szLabel k) := meets_ev TTok mixed (cts := cs_laws_szLabel k) trivial Try.func89 (by kernel_rfl) (by kernel_rfl) (e_laws_szLabel k)
abbrev ps_laws_szLabelS : List PK := [.val (.sl tLabel) .shr, .val (.int .i64) .leaf]
abbrev rs_laws_szLabelS : List RK := [.val (.int .i64) .leaf]
def c_laws_szLabelS (k : Nat) : Con := ⟨ps_laws_szLabelS, rs_laws_szLabelS, F_laws_szLabelS k⟩
def la_laws_szLabelS : Nat → Option Ann := fun | 5 => some ⟨[(0, .val (.sl tLabel) (.sl (.sha [1]))), (1, .val (.int .i64) .leaf), (5, .val (.int .i64) .leaf)], 3⟩ | _ => none
def ja_laws_szLabelS : Nat → Option Ann := fun _ => none
def cs_laws_szLabelS (k : Nat) : List (FuncId × Con) := [(89, c_laws_szLabel k)]
set_option maxRecDepth 1000000 in
theorem e_laws_szLabelS (k : Nat) (x) : evFn2 (mkCx TT (cs_laws_szLabelS k) la_laws_szLabelS ja_laws_szLabelS k) ps_laws_szLabelS rs_laws_szLabelS Try.f38 x = F_laws_szLabelS k x := by kernel_rfl
set_option maxRecDepth 1000000 in
theorem m_laws_szLabelS (k : Nat) : Meets Try.prog 38 (c_laws_szLabelS k) := meets_ev TTok mixed (cts := cs_laws_szLabelS k) ⟨m_laws_szLabel k, trivial⟩ Try.func38 (by kernel_rfl) (by kernel_rfl) (e_laws_szLabelS k)
abbrev ps_laws_szAlarm : List PK := [.val tAlarm (.pair .shr (.pair .leaf (.pair .leaf .leaf))), .val (.int .i64) .leaf]
abbrev rs_laws_szAlarm : List RK := [.val (.int .i64) .leaf]
def c_laws_szAlarm (k : Nat) : Con := ⟨ps_laws_szAlarm, rs_laws_szAlarm, F_laws_szAlarm k⟩
def la_laws_szAlarm : Nat → Option Ann := fun _ => none
def ja_laws_szAlarm : Nat → Option Ann := fun _ => none
def cs_laws_szAlarm (k : Nat) : List (FuncId × Con) := [(38, c_laws_szLabelS k)]
set_option maxRecDepth 1000000 in
theorem e_laws_szAlarm (k : Nat) (x) : evFn2 (mkCx TT (cs_laws_szAlarm k) la_laws_szAlarm ja_laws_szAlarm k) ps_laws_szAlarm rs_laws_szAlarm Try.f90 x = F_laws_szAlarm k x := by kernel_rfl
set_option maxRecDepth 1000000 in
theorem m_laws_szAlarm (k : Nat) : Meets Try.prog 90 (c_laws_szAlarm k) := meets_ev TTok mixed (cts := cs_laws_szAlarm k) ⟨m_laws_szLabelS k, trivial⟩ Try.func90 (by kernel_rfl) (by kernel_rfl) (e_laws_szAlarm k)
abbrev ps_laws_szAlarmS : List PK := [.val (.sl tAlarm) .shr, .val (.int .i64) .leaf]
abbrev rs_laws_szAlarmS : List RK := [.val (.int .i64) .leaf]
def c_laws_szAlarmS (k : Nat) : Con := ⟨ps_laws_szAlarmS, rs_laws_szAlarmS, F_laws_szAlarmS k⟩
def la_laws_szAlarmS : Nat → Option Ann := fun | 5 => some ⟨[(0, .val (.sl tAlarm) (.sl (.sha [1]))), (1, .val (.int .i64) .leaf), (5, .val (.int .i64) .leaf)], 3⟩ | _ => none
def ja_laws_szAlarmS : Nat → Option Ann := fun _ => none
def cs_laws_szAlarmS (k : Nat) : List (FuncId × Con) := [(90, c_laws_szAlarm k)]
set_option maxRecDepth 1000000 in
theorem e_laws_szAlarmS (k : Nat) (x) : evFn2 (mkCx TT (cs_laws_szAlarmS k) la_laws_szAlarmS ja_laws_szAlarmS k) ps_laws_szAlarmS rs_laws_szAlarmS Try.f39 x = F_laws_szAlarmS k x := by kernel_rfl
set_option maxRecDepth 1000000 in
theorem m_laws_szAlarmS (k : Nat) : Meets Try.prog 39 (c_laws_szAlarmS k) := meets_ev TTok mixed (cts := cs_laws_szAlarmS k) ⟨m_laws_szAlarm k, trivial⟩ Try.func39 (by kernel_rfl) (by kernel_rfl) (e_laws_szAlarmS k)
abbrev ps_laws_szGroup : List PK := [.val tGroup (.pair .leaf (.pair .shr (.pair .leaf (.pair .leaf .shr)))), .val (.int .i64) .leaf]
abbrev rs_laws_szGroup : List RK := [.val (.int .i64) .leaf]
def c_laws_szGroup (k : Nat) : Con := ⟨ps_laws_szGroup, rs_laws_szGroup, F_laws_szGroup k⟩
def la_laws_szGroup : Nat → Option Ann := fun _ => none
def ja_laws_szGroup : Nat → Option Ann := fun _ => none
def cs_laws_szGroup (k : Nat) : List (FuncId × Con) := [(38, c_laws_szLabelS k), (39, c_laws_szAlarmS k)]
set_option maxRecDepth 1000000 in
theorem e_laws_szGroup (k : Nat) (x) : evFn2 (mkCx TT (cs_laws_szGroup k) la_laws_szGroup ja_laws_szGroup k) ps_laws_szGroup rs_laws_szGroup Try.f7 x = F_laws_szGroup k x := by kernel_rfl
set_option maxRecDepth 1000000 in
theorem m_laws_szGroup (k : Nat) : Meets Try.prog 7 (c_laws_szGroup k) := meets_ev TTok mixed (cts := cs_laws_szGroup k) ⟨m_laws_szLabelS k, m_laws_szAlarmS k, trivial⟩ Try.func7 (by kernel_rfl) (by kernel_rfl) (e_laws_szGroup k)
abbrev ps_laws_toLabel : List PK := [.val tLabel (.pair .leaf .leaf)]
abbrev rs_laws_toLabel : List RK := [.val tLabel (.pair .leaf .leaf)]
def c_laws_toLabel (k : Nat) : Con := ⟨ps_laws_toLabel, rs_laws_toLabel, F_laws_toLabel k⟩
def la_laws_toLabel : Nat → Option Ann := fun _ => none
def ja_laws_toLabel : Nat → Option Ann := fun _ => none
def cs_laws_toLabel (k : Nat) : List (FuncId × Con) := []
set_option maxRecDepth 1000000 in
theorem e_laws_toLabel (k : Nat) (x) : evFn2 (mkCx TT (cs_laws_toLabel k) la_laws_toLabel ja_laws_toLabel k) ps_laws_toLabel rs_laws_toLabel Try.f92 x = F_laws_toLabel k x := by kernel_rfl
set_option maxRecDepth 1000000 in
theorem m_laws_toLabel (k : Nat) : Meets Try.prog 92 (c_laws_toLabel k) := meets_ev TTok mixed (cts := cs_laws_toLabel k) trivial Try.func92 (by kernel_rfl) (by kernel_rfl) (e_laws_toLabel k)
abbrev ps_laws_toLabelS : List PK := [.val (.sl tLabel) .shr]
abbrev rs_laws_toLabelS : List RK := [.val (.sl tLabel) .own]
def c_laws_toLabelS (k : Nat) : Con := ⟨ps_laws_toLabelS, rs_laws_toLabelS, F_laws_toLabelS k⟩
def la_laws_toLabelS : Nat → Option Ann := fun | 3 => some ⟨[(0, .val (.sl tLabel) (.sl (.sha [1]))), (3, .val (.sl tLabel) (.sl (.row 3 [3] true))), (4, .val (.int .i64) .leaf)], 4⟩ | _ => none
def ja_laws_toLabelS : Nat → Option Ann := fun _ => none
def cs_laws_toLabelS (k : Nat) : List (FuncId × Con) := [(92, c_laws_toLabel k)]
set_option maxRecDepth 1000000 in
theorem e_laws_toLabelS (k : Nat) (x) : evFn2 (mkCx TT (cs_laws_toLabelS k) la_laws_toLabelS ja_laws_toLabelS k) ps_laws_toLabelS rs_laws_toLabelS Try.f44 x = F_laws_toLabelS k x := by kernel_rfl
set_option maxRecDepth 1000000 in
theorem m_laws_toLabelS (k : Nat) : Meets Try.prog 44 (c_laws_toLabelS k) := meets_ev TTok mixed (cts := cs_laws_toLabelS k) ⟨m_laws_toLabel k, trivial⟩ Try.func44 (by kernel_rfl) (by kernel_rfl) (e_laws_toLabelS k)
abbrev ps_laws_toAlarm : List PK := [.val tAlarm (.pair .shr (.pair .leaf (.pair .leaf .leaf)))]
abbrev rs_laws_toAlarm : List RK := [.val tAlarm (.pair .own (.pair .leaf (.pair .leaf .leaf)))]
def c_laws_toAlarm (k : Nat) : Con := ⟨ps_laws_toAlarm, rs_laws_toAlarm, F_laws_toAlarm k⟩
def la_laws_toAlarm : Nat → Option Ann := fun _ => none
def ja_laws_toAlarm : Nat → Option Ann := fun _ => none
def cs_laws_toAlarm (k : Nat) : List (FuncId × Con) := [(44, c_laws_toLabelS k)]
set_option maxRecDepth 1000000 in
theorem e_laws_toAlarm (k : Nat) (x) : evFn2 (mkCx TT (cs_laws_toAlarm k) la_laws_toAlarm ja_laws_toAlarm k) ps_laws_toAlarm rs_laws_toAlarm Try.f93 x = F_laws_toAlarm k x := by kernel_rfl
set_option maxRecDepth 1000000 in
theorem m_laws_toAlarm (k : Nat) : Meets Try.prog 93 (c_laws_toAlarm k) := meets_ev TTok mixed (cts := cs_laws_toAlarm k) ⟨m_laws_toLabelS k, trivial⟩ Try.func93 (by kernel_rfl) (by kernel_rfl) (e_laws_toAlarm k)
abbrev ps_laws_toAlarmS : List PK := [.val (.sl tAlarm) .shr]
abbrev rs_laws_toAlarmS : List RK := [.val (.sl tAlarm) .own]
def c_laws_toAlarmS (k : Nat) : Con := ⟨ps_laws_toAlarmS, rs_laws_toAlarmS, F_laws_toAlarmS k⟩
def la_laws_toAlarmS : Nat → Option Ann := fun | 3 => some ⟨[(0, .val (.sl tAlarm) (.sl (.sha [1]))), (3, .val (.sl tAlarm) (.sl (.row 3 [3] true))), (4, .val (.int .i64) .leaf)], 4⟩ | _ => none
def ja_laws_toAlarmS : Nat → Option Ann := fun _ => none
def cs_laws_toAlarmS (k : Nat) : List (FuncId × Con) := [(93, c_laws_toAlarm k)]
set_option maxRecDepth 1000000 in
theorem e_laws_toAlarmS (k : Nat) (x) : evFn2 (mkCx TT (cs_laws_toAlarmS k) la_laws_toAlarmS ja_laws_toAlarmS k) ps_laws_toAlarmS rs_laws_toAlarmS Try.f45 x = F_laws_toAlarmS k x := by kernel_rfl
set_option maxRecDepth 1000000 in
theorem m_laws_toAlarmS (k : Nat) : Meets Try.prog 45 (c_laws_toAlarmS k) := meets_ev TTok mixed (cts := cs_laws_toAlarmS k) ⟨m_laws_toAlarm k, trivial⟩ Try.func45 (by kernel_rfl) (by kernel_rfl) (e_laws_toAlarmS k)
abbrev ps_laws_toGroup : List PK := [.val tGroup (.pair .leaf (.pair .shr (.pair .leaf (.pair .leaf .shr))))]
abbrev rs_laws_toGroup : List RK := [.val tGroup (.pair .leaf (.pair .own (.pair .leaf (.pair .leaf .own))))]
def c_laws_toGroup (k : Nat) : Con := ⟨ps_laws_toGroup, rs_laws_toGroup, F_laws_toGroup k⟩
def la_laws_toGroup : Nat → Option Ann := fun _ => none
def ja_laws_toGroup : Nat → Option Ann := fun _ => none
def cs_laws_toGroup (k : Nat) : List (FuncId × Con) := [(44, c_laws_toLabelS k), (45, c_laws_toAlarmS k)]
set_option maxRecDepth 1000000 in
theorem e_laws_toGroup (k : Nat) (x) : evFn2 (mkCx TT (cs_laws_toGroup k) la_laws_toGroup ja_laws_toGroup k) ps_laws_toGroup rs_laws_toGroup Try.f9 x = F_laws_toGroup k x := by kernel_rfl
set_option maxRecDepth 1000000 in
theorem m_laws_toGroup (k : Nat) : Meets Try.prog 9 (c_laws_toGroup k) := meets_ev TTok mixed (cts := cs_laws_toGroup k) ⟨m_laws_toLabelS k, m_laws_toAlarmS k, trivial⟩ Try.func9 (by kernel_rfl) (by kernel_rfl) (e_laws_toGroup k)
abbrev ps_spec_l4Copy : List PK := [.val tAlarm (.pair .shr (.pair .leaf (.pair .leaf .leaf)))]
abbrev rs_spec_l4Copy : List RK := [.val tAlarm (.pair .own (.pair .leaf (.pair .leaf .leaf)))]
def c_spec_l4Copy (k : Nat) : Con := ⟨ps_spec_l4Copy, rs_spec_l4Copy, F_spec_l4Copy k⟩
def la_spec_l4Copy : Nat → Option Ann := fun _ => none
def ja_spec_l4Copy : Nat → Option Ann := fun _ => none
def cs_spec_l4Copy (k : Nat) : List (FuncId × Con) := []
set_option maxRecDepth 1000000 in
theorem e_spec_l4Copy (k : Nat) (x) : evFn2 (mkCx TT (cs_spec_l4Copy k) la_spec_l4Copy ja_spec_l4Copy k) ps_spec_l4Copy rs_spec_l4Copy Try.f42 x = F_spec_l4Copy k x := by kernel_rfl
set_option maxRecDepth 1000000 in
theorem m_spec_l4Copy (k : Nat) : Meets Try.prog 42 (c_spec_l4Copy k) := meets_ev TTok mixed (cts := cs_spec_l4Copy k) trivial Try.func42 (by kernel_rfl) (by kernel_rfl) (e_spec_l4Copy k)
abbrev ps_spec_l4All : List PK := [.val (.sl tAlarm) .shr]
abbrev rs_spec_l4All : List RK := [.val (.sl tAlarm) .own]
def c_spec_l4All (k : Nat) : Con := ⟨ps_spec_l4All, rs_spec_l4All, F_spec_l4All k⟩
def la_spec_l4All : Nat → Option Ann := fun | 3 => some ⟨[(0, .val (.sl tAlarm) (.sl (.sha [1]))), (3, .val (.sl tAlarm) (.sl (.row 3 [3] true))), (4, .val (.int .i64) .leaf)], 4⟩ | _ => none
def ja_spec_l4All : Nat → Option Ann := fun _ => none
def cs_spec_l4All (k : Nat) : List (FuncId × Con) := [(42, c_spec_l4Copy k)]
set_option maxRecDepth 1000000 in
theorem e_spec_l4All (k : Nat) (x) : evFn2 (mkCx TT (cs_spec_l4All k) la_spec_l4All ja_spec_l4All k) ps_spec_l4All rs_spec_l4All Try.f91 x = F_spec_l4All k x := by kernel_rfl
set_option maxRecDepth 1000000 in
theorem m_spec_l4All (k : Nat) : Meets Try.prog 91 (c_spec_l4All k) := meets_ev TTok mixed (cts := cs_spec_l4All k) ⟨m_spec_l4Copy k, trivial⟩ Try.func91 (by kernel_rfl) (by kernel_rfl) (e_spec_l4All k)
abbrev ps_spec_l11Copy : List PK := [.val tGroup (.pair .leaf (.pair .shr (.pair .leaf (.pair .leaf .shr))))]
abbrev rs_spec_l11Copy : List RK := [.val tGroup (.pair .leaf (.pair .own (.pair .leaf (.pair .leaf .own))))]
def c_spec_l11Copy (k : Nat) : Con := ⟨ps_spec_l11Copy, rs_spec_l11Copy, F_spec_l11Copy k⟩
def la_spec_l11Copy : Nat → Option Ann := fun _ => none
def ja_spec_l11Copy : Nat → Option Ann := fun _ => none
def cs_spec_l11Copy (k : Nat) : List (FuncId × Con) := [(91, c_spec_l4All k)]
set_option maxRecDepth 1000000 in
theorem e_spec_l11Copy (k : Nat) (x) : evFn2 (mkCx TT (cs_spec_l11Copy k) la_spec_l11Copy ja_spec_l11Copy k) ps_spec_l11Copy rs_spec_l11Copy Try.f40 x = F_spec_l11Copy k x := by kernel_rfl
set_option maxRecDepth 1000000 in
theorem m_spec_l11Copy (k : Nat) : Meets Try.prog 40 (c_spec_l11Copy k) := meets_ev TTok mixed (cts := cs_spec_l11Copy k) ⟨m_spec_l4All k, trivial⟩ Try.func40 (by kernel_rfl) (by kernel_rfl) (e_spec_l11Copy k)
abbrev ps_spec_Over : List PK := [.val tAlarm (.pair .shr (.pair .leaf (.pair .leaf .leaf))), .val (.int .i64) .leaf]
abbrev rs_spec_Over : List RK := [.val .bool .leaf]
def c_spec_Over (k : Nat) : Con := ⟨ps_spec_Over, rs_spec_Over, F_spec_Over k⟩
def la_spec_Over : Nat → Option Ann := fun _ => none
def ja_spec_Over : Nat → Option Ann := fun _ => none
def cs_spec_Over (k : Nat) : List (FuncId × Con) := []
set_option maxRecDepth 1000000 in
theorem e_spec_Over (k : Nat) (x) : evFn2 (mkCx TT (cs_spec_Over k) la_spec_Over ja_spec_Over k) ps_spec_Over rs_spec_Over Try.f41 x = F_spec_Over k x := by kernel_rfl
set_option maxRecDepth 1000000 in
theorem m_spec_Over (k : Nat) : Meets Try.prog 41 (c_spec_Over k) := meets_ev TTok mixed (cts := cs_spec_Over k) trivial Try.func41 (by kernel_rfl) (by kernel_rfl) (e_spec_Over k)
abbrev ps_spec_l11Batch : List PK := [.val tBatch (.pair .leaf (.pair .shr (.pair .leaf .shr)))]
abbrev rs_spec_l11Batch : List RK := [.val tBatch (.pair .leaf (.pair .own (.pair .leaf .own)))]
def c_spec_l11Batch (k : Nat) : Con := ⟨ps_spec_l11Batch, rs_spec_l11Batch, F_spec_l11Batch k⟩
def la_spec_l11Batch : Nat → Option Ann := fun _ => none
def ja_spec_l11Batch : Nat → Option Ann := fun _ => none
def cs_spec_l11Batch (k : Nat) : List (FuncId × Con) := [(91, c_spec_l4All k)]
set_option maxRecDepth 1000000 in
theorem e_spec_l11Batch (k : Nat) (x) : evFn2 (mkCx TT (cs_spec_l11Batch k) la_spec_l11Batch ja_spec_l11Batch k) ps_spec_l11Batch rs_spec_l11Batch Try.f43 x = F_spec_l11Batch k x := by kernel_rfl
set_option maxRecDepth 1000000 in
theorem m_spec_l11Batch (k : Nat) : Meets Try.prog 43 (c_spec_l11Batch k) := meets_ev TTok mixed (cts := cs_spec_l11Batch k) ⟨m_spec_l4All k, trivial⟩ Try.func43 (by kernel_rfl) (by kernel_rfl) (e_spec_l11Batch k)
abbrev ps_spec_Flush : List PK := [.val tGroup (.pair .leaf (.pair .shr (.pair .leaf (.pair .leaf .shr)))), .val (.int .i64) .leaf]
abbrev rs_spec_Flush : List RK := [.val tGroup (.pair .leaf (.pair .own (.pair .leaf (.pair .leaf .own)))), .val tBatch (.pair .leaf (.pair .own (.pair .leaf .own)))]
def c_spec_Flush (k : Nat) : Con := ⟨ps_spec_Flush, rs_spec_Flush, F_spec_Flush k⟩
def la_spec_Flush : Nat → Option Ann := fun | 5 => some ⟨[(1, .val (.int .i64) .leaf), (2, .box 3 tGroup (.pair .leaf (.pair (.sl (.sha [1])) (.pair .leaf (.pair .leaf (.sl (.sha [1]))))))), (4, .box 4 tGroup (.pair .leaf (.pair (.sl (.sha [])) (.pair .leaf (.pair .leaf (.sl (.sha []))))))), (5, .box 5 tBatch (.pair .leaf (.pair (.sl (.sha [])) (.pair .leaf (.sl (.sha [])))))), (6, .box 6 tGroup (.pair .leaf (.pair (.sl (.row 7 [7] true)) (.pair .leaf (.pair .leaf (.sl (.row 8 [8] true))))))), (7, .val (.int .i64) .leaf)], 9⟩ | _ => none
def ja_spec_Flush : Nat → Option Ann := fun | 10 => some ⟨[(1, .val (.int .i64) .leaf), (2, .box 3 tGroup (.pair .leaf (.pair (.sl (.sha [1])) (.pair .leaf (.pair .leaf (.sl (.sha [1]))))))), (4, .box 4 tGroup (.pair .leaf (.pair (.sl (.sha [])) (.pair .leaf (.pair .leaf (.sl (.sha []))))))), (5, .box 5 tBatch (.pair .leaf (.pair (.sl (.sha [])) (.pair .leaf (.sl (.sha [])))))), (6, .box 6 tGroup (.pair .leaf (.pair (.sl (.row 7 [7] true)) (.pair .leaf (.pair .leaf (.sl (.row 8 [8] true)))))))], 9⟩ | _ => none
def cs_spec_Flush (k : Nat) : List (FuncId × Con) := [(40, c_spec_l11Copy k), (41, c_spec_Over k), (42, c_spec_l4Copy k), (43, c_spec_l11Batch k)]
set_option maxRecDepth 1000000 in
theorem e_spec_Flush (k : Nat) (x) : evFn2 (mkCx TT (cs_spec_Flush k) la_spec_Flush ja_spec_Flush k) ps_spec_Flush rs_spec_Flush Try.f8 x = F_spec_Flush k x := by kernel_rfl
set_option maxRecDepth 1000000 in
theorem m_spec_Flush (k : Nat) : Meets Try.prog 8 (c_spec_Flush k) := meets_ev TTok mixed (cts := cs_spec_Flush k) ⟨m_spec_l11Copy k, m_spec_Over k, m_spec_l4Copy k, m_spec_l11Batch k, trivial⟩ Try.func8 (by kernel_rfl) (by kernel_rfl) (e_spec_Flush k)
abbrev ps_impl_copySet : List PK := [.val (.sl tLabel) .shr]
abbrev rs_impl_copySet : List RK := [.val (.sl tLabel) .own]
def c_impl_copySet (k : Nat) : Con := ⟨ps_impl_copySet, rs_impl_copySet, F_impl_copySet k⟩
def la_impl_copySet : Nat → Option Ann := fun _ => none
def ja_impl_copySet : Nat → Option Ann := fun _ => none
def cs_impl_copySet (k : Nat) : List (FuncId × Con) := []
set_option maxRecDepth 1000000 in
theorem e_impl_copySet (k : Nat) (x) : evFn2 (mkCx TT (cs_impl_copySet k) la_impl_copySet ja_impl_copySet k) ps_impl_copySet rs_impl_copySet Try.f48 x = F_impl_copySet k x := by kernel_rfl
set_option maxRecDepth 1000000 in
theorem m_impl_copySet (k : Nat) : Meets Try.prog 48 (c_impl_copySet k) := meets_ev TTok mixed (cts := cs_impl_copySet k) trivial Try.func48 (by kernel_rfl) (by kernel_rfl) (e_impl_copySet k)
abbrev ps_impl_copyAlarm : List PK := [.val tAlarm (.pair .shr (.pair .leaf (.pair .leaf .leaf)))]
abbrev rs_impl_copyAlarm : List RK := [.val tAlarm (.pair .own (.pair .leaf (.pair .leaf .leaf)))]
def c_impl_copyAlarm (k : Nat) : Con := ⟨ps_impl_copyAlarm, rs_impl_copyAlarm, F_impl_copyAlarm k⟩
def la_impl_copyAlarm : Nat → Option Ann := fun _ => none
def ja_impl_copyAlarm : Nat → Option Ann := fun _ => none
def cs_impl_copyAlarm (k : Nat) : List (FuncId × Con) := [(48, c_impl_copySet k)]
set_option maxRecDepth 1000000 in
theorem e_impl_copyAlarm (k : Nat) (x) : evFn2 (mkCx TT (cs_impl_copyAlarm k) la_impl_copyAlarm ja_impl_copyAlarm k) ps_impl_copyAlarm rs_impl_copyAlarm Try.f95 x = F_impl_copyAlarm k x := by kernel_rfl
set_option maxRecDepth 1000000 in
theorem m_impl_copyAlarm (k : Nat) : Meets Try.prog 95 (c_impl_copyAlarm k) := meets_ev TTok mixed (cts := cs_impl_copyAlarm k) ⟨m_impl_copySet k, trivial⟩ Try.func95 (by kernel_rfl) (by kernel_rfl) (e_impl_copyAlarm k)
abbrev ps_impl_copyAlarms : List PK := [.val (.sl tAlarm) .shr]
abbrev rs_impl_copyAlarms : List RK := [.val (.sl tAlarm) .own]
def c_impl_copyAlarms (k : Nat) : Con := ⟨ps_impl_copyAlarms, rs_impl_copyAlarms, F_impl_copyAlarms k⟩
def la_impl_copyAlarms : Nat → Option Ann := fun | 3 => some ⟨[(3, .val (.sl tAlarm) (.sl (.row 3 [3] true))), (6, .val (.sl tAlarm) (.sl (.sha [1]))), (7, .val (.int .i64) .leaf), (8, .val (.int .i64) .leaf)], 4⟩ | _ => none
def ja_impl_copyAlarms : Nat → Option Ann := fun _ => none
def cs_impl_copyAlarms (k : Nat) : List (FuncId × Con) := [(95, c_impl_copyAlarm k)]
set_option maxRecDepth 1000000 in
theorem e_impl_copyAlarms (k : Nat) (x) : evFn2 (mkCx TT (cs_impl_copyAlarms k) la_impl_copyAlarms ja_impl_copyAlarms k) ps_impl_copyAlarms rs_impl_copyAlarms Try.f49 x = F_impl_copyAlarms k x := by kernel_rfl
set_option maxRecDepth 1000000 in
theorem m_impl_copyAlarms (k : Nat) : Meets Try.prog 49 (c_impl_copyAlarms k) := meets_ev TTok mixed (cts := cs_impl_copyAlarms k) ⟨m_impl_copyAlarm k, trivial⟩ Try.func49 (by kernel_rfl) (by kernel_rfl) (e_impl_copyAlarms k)
abbrev ps_impl_copyGroup : List PK := [.val tGroup (.pair .leaf (.pair .shr (.pair .leaf (.pair .leaf .shr))))]
abbrev rs_impl_copyGroup : List RK := [.val tGroup (.pair .leaf (.pair .own (.pair .leaf (.pair .leaf .own))))]
def c_impl_copyGroup (k : Nat) : Con := ⟨ps_impl_copyGroup, rs_impl_copyGroup, F_impl_copyGroup k⟩
def la_impl_copyGroup : Nat → Option Ann := fun _ => none
def ja_impl_copyGroup : Nat → Option Ann := fun _ => none
def cs_impl_copyGroup (k : Nat) : List (FuncId × Con) := [(48, c_impl_copySet k), (49, c_impl_copyAlarms k)]
set_option maxRecDepth 1000000 in
theorem e_impl_copyGroup (k : Nat) (x) : evFn2 (mkCx TT (cs_impl_copyGroup k) la_impl_copyGroup ja_impl_copyGroup k) ps_impl_copyGroup rs_impl_copyGroup Try.f46 x = F_impl_copyGroup k x := by kernel_rfl
set_option maxRecDepth 1000000 in
theorem m_impl_copyGroup (k : Nat) : Meets Try.prog 46 (c_impl_copyGroup k) := meets_ev TTok mixed (cts := cs_impl_copyGroup k) ⟨m_impl_copySet k, m_impl_copyAlarms k, trivial⟩ Try.func46 (by kernel_rfl) (by kernel_rfl) (e_impl_copyGroup k)
abbrev ps_impl_Over : List PK := [.val tAlarm (.pair .shr (.pair .leaf (.pair .leaf .leaf))), .val (.int .i64) .leaf]
abbrev rs_impl_Over : List RK := [.val .bool .leaf]
def c_impl_Over (k : Nat) : Con := ⟨ps_impl_Over, rs_impl_Over, F_impl_Over k⟩
def la_impl_Over : Nat → Option Ann := fun _ => none
def ja_impl_Over : Nat → Option Ann := fun _ => none
def cs_impl_Over (k : Nat) : List (FuncId × Con) := []
set_option maxRecDepth 1000000 in
theorem e_impl_Over (k : Nat) (x) : evFn2 (mkCx TT (cs_impl_Over k) la_impl_Over ja_impl_Over k) ps_impl_Over rs_impl_Over Try.f94 x = F_impl_Over k x := by kernel_rfl
set_option maxRecDepth 1000000 in
theorem m_impl_Over (k : Nat) : Meets Try.prog 94 (c_impl_Over k) := meets_ev TTok mixed (cts := cs_impl_Over k) trivial Try.func94 (by kernel_rfl) (by kernel_rfl) (e_impl_Over k)
abbrev ps_impl_Swept : List PK := [.val (.sl tAlarm) .shr, .val (.int .i64) .leaf]
abbrev rs_impl_Swept : List RK := [.val (.sl tAlarm) .own]
def c_impl_Swept (k : Nat) : Con := ⟨ps_impl_Swept, rs_impl_Swept, F_impl_Swept k⟩
def la_impl_Swept : Nat → Option Ann := fun | 3 => some ⟨[(1, .val (.int .i64) .leaf), (5, .val (.sl tAlarm) (.sl (.row 3 [3] true))), (8, .val (.sl tAlarm) (.sl (.sha [1]))), (9, .val (.int .i64) .leaf), (10, .val (.int .i64) .leaf)], 4⟩ | _ => none
def ja_impl_Swept : Nat → Option Ann := fun _ => none
def cs_impl_Swept (k : Nat) : List (FuncId × Con) := [(94, c_impl_Over k), (95, c_impl_copyAlarm k)]
set_option maxRecDepth 1000000 in
theorem e_impl_Swept (k : Nat) (x) : evFn2 (mkCx TT (cs_impl_Swept k) la_impl_Swept ja_impl_Swept k) ps_impl_Swept rs_impl_Swept Try.f47 x = F_impl_Swept k x := by kernel_rfl
set_option maxRecDepth 1000000 in
theorem m_impl_Swept (k : Nat) : Meets Try.prog 47 (c_impl_Swept k) := meets_ev TTok mixed (cts := cs_impl_Swept k) ⟨m_impl_Over k, m_impl_copyAlarm k, trivial⟩ Try.func47 (by kernel_rfl) (by kernel_rfl) (e_impl_Swept k)
abbrev ps_impl_Flush : List PK := [.val tGroup (.pair .leaf (.pair .shr (.pair .leaf (.pair .leaf .shr)))), .val (.int .i64) .leaf]
abbrev rs_impl_Flush : List RK := [.val tGroup (.pair .leaf (.pair .own (.pair .leaf (.pair .leaf .own)))), .val tBatch (.pair .leaf (.pair .own (.pair .leaf .own)))]
def c_impl_Flush (k : Nat) : Con := ⟨ps_impl_Flush, rs_impl_Flush, F_impl_Flush k⟩
def la_impl_Flush : Nat → Option Ann := fun _ => none
def ja_impl_Flush : Nat → Option Ann := fun _ => none
def cs_impl_Flush (k : Nat) : List (FuncId × Con) := [(46, c_impl_copyGroup k), (47, c_impl_Swept k), (48, c_impl_copySet k), (49, c_impl_copyAlarms k)]
set_option maxRecDepth 1000000 in
theorem e_impl_Flush (k : Nat) (x) : evFn2 (mkCx TT (cs_impl_Flush k) la_impl_Flush ja_impl_Flush k) ps_impl_Flush rs_impl_Flush Try.f10 x = F_impl_Flush k x := by kernel_rfl
set_option maxRecDepth 1000000 in
theorem m_impl_Flush (k : Nat) : Meets Try.prog 10 (c_impl_Flush k) := meets_ev TTok mixed (cts := cs_impl_Flush k) ⟨m_impl_copyGroup k, m_impl_Swept k, m_impl_copySet k, m_impl_copyAlarms k, trivial⟩ Try.func10 (by kernel_rfl) (by kernel_rfl) (e_impl_Flush k)
abbrev ps_laws_eqLabel : List PK := [.val tLabel (.pair .leaf .leaf), .val tLabel (.pair .leaf .leaf)]
abbrev rs_laws_eqLabel : List RK := [.val .bool .leaf]
def c_laws_eqLabel (k : Nat) : Con := ⟨ps_laws_eqLabel, rs_laws_eqLabel, F_laws_eqLabel k⟩
def la_laws_eqLabel : Nat → Option Ann := fun _ => none
def ja_laws_eqLabel : Nat → Option Ann := fun _ => none
def cs_laws_eqLabel (k : Nat) : List (FuncId × Con) := []
set_option maxRecDepth 1000000 in
theorem e_laws_eqLabel (k : Nat) (x) : evFn2 (mkCx TT (cs_laws_eqLabel k) la_laws_eqLabel ja_laws_eqLabel k) ps_laws_eqLabel rs_laws_eqLabel Try.f96 x = F_laws_eqLabel k x := by kernel_rfl
set_option maxRecDepth 1000000 in
theorem m_laws_eqLabel (k : Nat) : Meets Try.prog 96 (c_laws_eqLabel k) := meets_ev TTok mixed (cts := cs_laws_eqLabel k) trivial Try.func96 (by kernel_rfl) (by kernel_rfl) (e_laws_eqLabel k)
abbrev ps_laws_eqLabelS : List PK := [.val (.sl tLabel) .shr, .val (.sl tLabel) .shr]
abbrev rs_laws_eqLabelS : List RK := [.val .bool .leaf]
def c_laws_eqLabelS (k : Nat) : Con := ⟨ps_laws_eqLabelS, rs_laws_eqLabelS, F_laws_eqLabelS k⟩
def la_laws_eqLabelS : Nat → Option Ann := fun | 4 => some ⟨[(0, .val (.sl tLabel) (.sl (.sha [1]))), (1, .val (.sl tLabel) (.sl (.sha [1]))), (5, .val (.int .i64) .leaf)], 3⟩ | _ => none
def ja_laws_eqLabelS : Nat → Option Ann := fun _ => none
def cs_laws_eqLabelS (k : Nat) : List (FuncId × Con) := [(96, c_laws_eqLabel k)]
set_option maxRecDepth 1000000 in
theorem e_laws_eqLabelS (k : Nat) (x) : evFn2 (mkCx TT (cs_laws_eqLabelS k) la_laws_eqLabelS ja_laws_eqLabelS k) ps_laws_eqLabelS rs_laws_eqLabelS Try.f50 x = F_laws_eqLabelS k x := by kernel_rfl
set_option maxRecDepth 1000000 in
theorem m_laws_eqLabelS (k : Nat) : Meets Try.prog 50 (c_laws_eqLabelS k) := meets_ev TTok mixed (cts := cs_laws_eqLabelS k) ⟨m_laws_eqLabel k, trivial⟩ Try.func50 (by kernel_rfl) (by kernel_rfl) (e_laws_eqLabelS k)
end Vg.Try
