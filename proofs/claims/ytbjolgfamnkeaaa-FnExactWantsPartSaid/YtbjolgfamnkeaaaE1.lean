/- What the functions compute is what the evaluator says; their contracts. -/
import Derived.Test.YtbjolgfamnkeaaaF
import Derived.Test.YtbjolgfamnkeaaaProg
import Derived.Test.YtbjolgfamnkeaaaJ
namespace Vg.Try
open Go Vg Go.Proofs
set_option linter.unusedVariables false
def TT : List (Nat × TI) := [(3, ⟨(.int .i64), [], 0⟩), (4, ⟨.bool, [], 0⟩), (5, ⟨(.int .u8), [], 0⟩), (9, ⟨.str, [], 0⟩), (22, ⟨(.sl tLabel), [], 133⟩), (24, ⟨tAlarm, [22, 3, 3, 9], 0⟩), (25, ⟨(.sl (.int .i64)), [], 3⟩), (26, ⟨(.sl tAlarm), [], 24⟩), (28, ⟨tTask, [3, 3, 24, 22, 3, 25, 26, 3, 3], 0⟩), (31, ⟨(.sl tLabel), [], 137⟩), (33, ⟨tAlarm, [31, 3, 3, 9], 0⟩), (34, ⟨(.sl tAlarm), [], 33⟩), (36, ⟨tTask, [3, 3, 33, 31, 3, 25, 34, 3, 3], 0⟩), (40, ⟨(.sl .str), [], 9⟩), (42, ⟨tConf, [3, 3, 3, 3, 3, 40], 0⟩), (43, ⟨(.sl tSub), [], 143⟩), (44, ⟨(.sl tGroup), [], 146⟩), (46, ⟨tModel, [42, 26, 43, 26, 44, 3], 0⟩), (49, ⟨tConf, [3, 3, 3, 3, 3, 40], 0⟩), (50, ⟨(.sl tSub), [], 103⟩), (51, ⟨(.sl tGroup), [], 105⟩), (53, ⟨tModel, [49, 34, 50, 34, 51, 3], 0⟩), (57, ⟨(.sl tPart), [], 161⟩), (58, ⟨(.sl tTimer), [], 173⟩), (59, ⟨(.sl tBatch), [], 164⟩), (60, ⟨(.sl tTask), [], 28⟩), (61, ⟨(.sl tDeed), [], 167⟩), (63, ⟨tWorld, [42, 3, 3, 57, 43, 26, 3, 44, 3, 58, 59, 26, 60, 61], 0⟩), (66, ⟨(.sl tPart), [], 170⟩), (67, ⟨(.sl tTimer), [], 119⟩), (68, ⟨(.sl tBatch), [], 175⟩), (69, ⟨(.sl tTask), [], 36⟩), (70, ⟨(.sl tDeed), [], 178⟩), (72, ⟨tWorld, [49, 3, 3, 66, 50, 34, 3, 51, 3, 67, 68, 34, 69, 70], 0⟩), (103, ⟨tSub, [34, 4], 0⟩), (105, ⟨tGroup, [3, 31, 3, 3, 34], 0⟩), (119, ⟨tTimer, [3, 3], 0⟩), (133, ⟨tLabel, [9, 9], 0⟩), (136, ⟨(.int .u64), [], 0⟩), (137, ⟨tLabel, [9, 9], 0⟩), (143, ⟨tSub, [26, 4], 0⟩), (146, ⟨tGroup, [3, 22, 3, 3, 26], 0⟩), (159, ⟨(.sl tChain), [], 197⟩), (161, ⟨tPart, [3, 3, 159], 0⟩), (164, ⟨tBatch, [3, 22, 3, 26], 0⟩), (167, ⟨tDeed, [3, 3, 24, 22, 3, 3, 3, 26, 3, 3, 3, 3], 0⟩), (168, ⟨(.sl tChain), [], 199⟩), (170, ⟨tPart, [3, 3, 168], 0⟩), (173, ⟨tTimer, [3, 3], 0⟩), (175, ⟨tBatch, [3, 31, 3, 34], 0⟩), (178, ⟨tDeed, [3, 3, 33, 31, 3, 3, 3, 34, 3, 3, 3, 3], 0⟩), (192, ⟨(.int .u32), [], 0⟩), (197, ⟨tChain, [3, 26], 0⟩), (199, ⟨tChain, [3, 34], 0⟩)]
theorem TTok : TT.all (fun p => tyB Try.prog p.1 p.2) = true := by kernel_rfl
theorem mixed : Try.prog.follows .mixedOrders = true := by kernel_rfl
abbrev ps_laws_szLabel : List PK := [.val tLabel (.pair .leaf .leaf), .val (.int .i64) .leaf]
abbrev rs_laws_szLabel : List RK := [.val (.int .i64) .leaf]
def c_laws_szLabel (k : Nat) : Con := ⟨ps_laws_szLabel, rs_laws_szLabel, F_laws_szLabel k⟩
def la_laws_szLabel : Nat → Option Ann := fun _ => none
def ja_laws_szLabel : Nat → Option Ann := fun _ => none
def cs_laws_szLabel (k : Nat) : List (FuncId × Con) := []
set_option maxRecDepth 1000000 in
theorem e_laws_szLabel (k : Nat) (x) : evFn2 (mkCx TT (cs_laws_szLabel k) la_laws_szLabel ja_laws_szLabel k) ps_laws_szLabel rs_laws_szLabel Try.f80 x = F_laws_szLabel k x := by kernel_rfl
set_option maxRecDepth 1000000 in
theorem m_laws_szLabel (k : Nat) : Meets Try.prog 80 (c_laws_szLabel k) := meets_ev TTok mixed (cts := cs_laws_szLabel k) trivial Try.func80 (by kernel_rfl) (by kernel_rfl) (e_laws_szLabel k)
abbrev ps_laws_szLabelS : List PK := [.val (.sl tLabel) .shr, .val (.int .i64) .leaf]
abbrev rs_laws_szLabelS : List RK := [.val (.int .i64) .leaf]
def c_laws_szLabelS (k : Nat) : Con := ⟨ps_laws_szLabelS, rs_laws_szLabelS, F_laws_szLabelS k⟩
def la_laws_szLabelS : Nat → Option Ann := fun | 5 => some ⟨[(0, .val (.sl tLabel) (.sl (.sha [1]))), (1, .val (.int .i64) .leaf), (5, .val (.int .i64) .leaf)], 3⟩ | _ => none
def ja_laws_szLabelS : Nat → Option Ann := fun _ => none
def cs_laws_szLabelS (k : Nat) : List (FuncId × Con) := [(80, c_laws_szLabel k)]
set_option maxRecDepth 1000000 in
theorem e_laws_szLabelS (k : Nat) (x) : evFn2 (mkCx TT (cs_laws_szLabelS k) la_laws_szLabelS ja_laws_szLabelS k) ps_laws_szLabelS rs_laws_szLabelS Try.f28 x = F_laws_szLabelS k x := by kernel_rfl
set_option maxRecDepth 1000000 in
theorem m_laws_szLabelS (k : Nat) : Meets Try.prog 28 (c_laws_szLabelS k) := meets_ev TTok mixed (cts := cs_laws_szLabelS k) ⟨m_laws_szLabel k, trivial⟩ Try.func28 (by kernel_rfl) (by kernel_rfl) (e_laws_szLabelS k)
abbrev ps_laws_szAlarm : List PK := [.val tAlarm (.pair .shr (.pair .leaf (.pair .leaf .leaf))), .val (.int .i64) .leaf]
abbrev rs_laws_szAlarm : List RK := [.val (.int .i64) .leaf]
def c_laws_szAlarm (k : Nat) : Con := ⟨ps_laws_szAlarm, rs_laws_szAlarm, F_laws_szAlarm k⟩
def la_laws_szAlarm : Nat → Option Ann := fun _ => none
def ja_laws_szAlarm : Nat → Option Ann := fun _ => none
def cs_laws_szAlarm (k : Nat) : List (FuncId × Con) := [(28, c_laws_szLabelS k)]
set_option maxRecDepth 1000000 in
theorem e_laws_szAlarm (k : Nat) (x) : evFn2 (mkCx TT (cs_laws_szAlarm k) la_laws_szAlarm ja_laws_szAlarm k) ps_laws_szAlarm rs_laws_szAlarm Try.f27 x = F_laws_szAlarm k x := by kernel_rfl
set_option maxRecDepth 1000000 in
theorem m_laws_szAlarm (k : Nat) : Meets Try.prog 27 (c_laws_szAlarm k) := meets_ev TTok mixed (cts := cs_laws_szAlarm k) ⟨m_laws_szLabelS k, trivial⟩ Try.func27 (by kernel_rfl) (by kernel_rfl) (e_laws_szAlarm k)
abbrev ps_laws_szIntS : List PK := [.val (.sl (.int .i64)) .shr, .val (.int .i64) .leaf]
abbrev rs_laws_szIntS : List RK := [.val (.int .i64) .leaf]
def c_laws_szIntS (k : Nat) : Con := ⟨ps_laws_szIntS, rs_laws_szIntS, F_laws_szIntS k⟩
def la_laws_szIntS : Nat → Option Ann := fun _ => none
def ja_laws_szIntS : Nat → Option Ann := fun _ => none
def cs_laws_szIntS (k : Nat) : List (FuncId × Con) := []
set_option maxRecDepth 1000000 in
theorem e_laws_szIntS (k : Nat) (x) : evFn2 (mkCx TT (cs_laws_szIntS k) la_laws_szIntS ja_laws_szIntS k) ps_laws_szIntS rs_laws_szIntS Try.f29 x = F_laws_szIntS k x := by kernel_rfl
set_option maxRecDepth 1000000 in
theorem m_laws_szIntS (k : Nat) : Meets Try.prog 29 (c_laws_szIntS k) := meets_ev TTok mixed (cts := cs_laws_szIntS k) trivial Try.func29 (by kernel_rfl) (by kernel_rfl) (e_laws_szIntS k)
abbrev ps_laws_szAlarmS : List PK := [.val (.sl tAlarm) .shr, .val (.int .i64) .leaf]
abbrev rs_laws_szAlarmS : List RK := [.val (.int .i64) .leaf]
def c_laws_szAlarmS (k : Nat) : Con := ⟨ps_laws_szAlarmS, rs_laws_szAlarmS, F_laws_szAlarmS k⟩
def la_laws_szAlarmS : Nat → Option Ann := fun | 5 => some ⟨[(0, .val (.sl tAlarm) (.sl (.sha [1]))), (1, .val (.int .i64) .leaf), (5, .val (.int .i64) .leaf)], 3⟩ | _ => none
def ja_laws_szAlarmS : Nat → Option Ann := fun _ => none
def cs_laws_szAlarmS (k : Nat) : List (FuncId × Con) := [(27, c_laws_szAlarm k)]
set_option maxRecDepth 1000000 in
theorem e_laws_szAlarmS (k : Nat) (x) : evFn2 (mkCx TT (cs_laws_szAlarmS k) la_laws_szAlarmS ja_laws_szAlarmS k) ps_laws_szAlarmS rs_laws_szAlarmS Try.f30 x = F_laws_szAlarmS k x := by kernel_rfl
set_option maxRecDepth 1000000 in
theorem m_laws_szAlarmS (k : Nat) : Meets Try.prog 30 (c_laws_szAlarmS k) := meets_ev TTok mixed (cts := cs_laws_szAlarmS k) ⟨m_laws_szAlarm k, trivial⟩ Try.func30 (by kernel_rfl) (by kernel_rfl) (e_laws_szAlarmS k)
abbrev ps_laws_szTask : List PK := [.val tTask (.pair .leaf (.pair .leaf (.pair (.pair .shr (.pair .leaf (.pair .leaf .leaf))) (.pair .shr (.pair .leaf (.pair .shr (.pair .shr (.pair .leaf .leaf)))))))), .val (.int .i64) .leaf]
abbrev rs_laws_szTask : List RK := [.val (.int .i64) .leaf]
def c_laws_szTask (k : Nat) : Con := ⟨ps_laws_szTask, rs_laws_szTask, F_laws_szTask k⟩
def la_laws_szTask : Nat → Option Ann := fun _ => none
def ja_laws_szTask : Nat → Option Ann := fun _ => none
def cs_laws_szTask (k : Nat) : List (FuncId × Con) := [(27, c_laws_szAlarm k), (28, c_laws_szLabelS k), (29, c_laws_szIntS k), (30, c_laws_szAlarmS k)]
set_option maxRecDepth 1000000 in
theorem e_laws_szTask (k : Nat) (x) : evFn2 (mkCx TT (cs_laws_szTask k) la_laws_szTask ja_laws_szTask k) ps_laws_szTask rs_laws_szTask Try.f8 x = F_laws_szTask k x := by kernel_rfl
set_option maxRecDepth 1000000 in
theorem m_laws_szTask (k : Nat) : Meets Try.prog 8 (c_laws_szTask k) := meets_ev TTok mixed (cts := cs_laws_szTask k) ⟨m_laws_szAlarm k, m_laws_szLabelS k, m_laws_szIntS k, m_laws_szAlarmS k, trivial⟩ Try.func8 (by kernel_rfl) (by kernel_rfl) (e_laws_szTask k)
abbrev ps_laws_toLabel : List PK := [.val tLabel (.pair .leaf .leaf)]
abbrev rs_laws_toLabel : List RK := [.val tLabel (.pair .leaf .leaf)]
def c_laws_toLabel (k : Nat) : Con := ⟨ps_laws_toLabel, rs_laws_toLabel, F_laws_toLabel k⟩
def la_laws_toLabel : Nat → Option Ann := fun _ => none
def ja_laws_toLabel : Nat → Option Ann := fun _ => none
def cs_laws_toLabel (k : Nat) : List (FuncId × Con) := []
set_option maxRecDepth 1000000 in
theorem e_laws_toLabel (k : Nat) (x) : evFn2 (mkCx TT (cs_laws_toLabel k) la_laws_toLabel ja_laws_toLabel k) ps_laws_toLabel rs_laws_toLabel Try.f83 x = F_laws_toLabel k x := by kernel_rfl
set_option maxRecDepth 1000000 in
theorem m_laws_toLabel (k : Nat) : Meets Try.prog 83 (c_laws_toLabel k) := meets_ev TTok mixed (cts := cs_laws_toLabel k) trivial Try.func83 (by kernel_rfl) (by kernel_rfl) (e_laws_toLabel k)
abbrev ps_laws_toLabelS : List PK := [.val (.sl tLabel) .shr]
abbrev rs_laws_toLabelS : List RK := [.val (.sl tLabel) .own]
def c_laws_toLabelS (k : Nat) : Con := ⟨ps_laws_toLabelS, rs_laws_toLabelS, F_laws_toLabelS k⟩
def la_laws_toLabelS : Nat → Option Ann := fun | 3 => some ⟨[(0, .val (.sl tLabel) (.sl (.sha [1]))), (3, .val (.sl tLabel) (.sl (.row 3 [3] true))), (4, .val (.int .i64) .leaf)], 4⟩ | _ => none
def ja_laws_toLabelS : Nat → Option Ann := fun _ => none
def cs_laws_toLabelS (k : Nat) : List (FuncId × Con) := [(83, c_laws_toLabel k)]
set_option maxRecDepth 1000000 in
theorem e_laws_toLabelS (k : Nat) (x) : evFn2 (mkCx TT (cs_laws_toLabelS k) la_laws_toLabelS ja_laws_toLabelS k) ps_laws_toLabelS rs_laws_toLabelS Try.f34 x = F_laws_toLabelS k x := by kernel_rfl
set_option maxRecDepth 1000000 in
theorem m_laws_toLabelS (k : Nat) : Meets Try.prog 34 (c_laws_toLabelS k) := meets_ev TTok mixed (cts := cs_laws_toLabelS k) ⟨m_laws_toLabel k, trivial⟩ Try.func34 (by kernel_rfl) (by kernel_rfl) (e_laws_toLabelS k)
abbrev ps_laws_toAlarm : List PK := [.val tAlarm (.pair .shr (.pair .leaf (.pair .leaf .leaf)))]
abbrev rs_laws_toAlarm : List RK := [.val tAlarm (.pair .own (.pair .leaf (.pair .leaf .leaf)))]
def c_laws_toAlarm (k : Nat) : Con := ⟨ps_laws_toAlarm, rs_laws_toAlarm, F_laws_toAlarm k⟩
def la_laws_toAlarm : Nat → Option Ann := fun _ => none
def ja_laws_toAlarm : Nat → Option Ann := fun _ => none
def cs_laws_toAlarm (k : Nat) : List (FuncId × Con) := [(34, c_laws_toLabelS k)]
set_option maxRecDepth 1000000 in
theorem e_laws_toAlarm (k : Nat) (x) : evFn2 (mkCx TT (cs_laws_toAlarm k) la_laws_toAlarm ja_laws_toAlarm k) ps_laws_toAlarm rs_laws_toAlarm Try.f33 x = F_laws_toAlarm k x := by kernel_rfl
set_option maxRecDepth 1000000 in
theorem m_laws_toAlarm (k : Nat) : Meets Try.prog 33 (c_laws_toAlarm k) := meets_ev TTok mixed (cts := cs_laws_toAlarm k) ⟨m_laws_toLabelS k, trivial⟩ Try.func33 (by kernel_rfl) (by kernel_rfl) (e_laws_toAlarm k)
abbrev ps_laws_toIntS : List PK := [.val (.sl (.int .i64)) .shr]
abbrev rs_laws_toIntS : List RK := [.val (.sl (.int .i64)) .own]
def c_laws_toIntS (k : Nat) : Con := ⟨ps_laws_toIntS, rs_laws_toIntS, F_laws_toIntS k⟩
def la_laws_toIntS : Nat → Option Ann := fun | 3 => some ⟨[(0, .val (.sl (.int .i64)) (.sl (.sha [1]))), (3, .val (.sl (.int .i64)) (.sl (.row 3 [3] true))), (4, .val (.int .i64) .leaf)], 4⟩ | _ => none
def ja_laws_toIntS : Nat → Option Ann := fun _ => none
def cs_laws_toIntS (k : Nat) : List (FuncId × Con) := []
set_option maxRecDepth 1000000 in
theorem e_laws_toIntS (k : Nat) (x) : evFn2 (mkCx TT (cs_laws_toIntS k) la_laws_toIntS ja_laws_toIntS k) ps_laws_toIntS rs_laws_toIntS Try.f35 x = F_laws_toIntS k x := by kernel_rfl
set_option maxRecDepth 1000000 in
theorem m_laws_toIntS (k : Nat) : Meets Try.prog 35 (c_laws_toIntS k) := meets_ev TTok mixed (cts := cs_laws_toIntS k) trivial Try.func35 (by kernel_rfl) (by kernel_rfl) (e_laws_toIntS k)
abbrev ps_laws_toAlarmS : List PK := [.val (.sl tAlarm) .shr]
abbrev rs_laws_toAlarmS : List RK := [.val (.sl tAlarm) .own]
def c_laws_toAlarmS (k : Nat) : Con := ⟨ps_laws_toAlarmS, rs_laws_toAlarmS, F_laws_toAlarmS k⟩
def la_laws_toAlarmS : Nat → Option Ann := fun | 3 => some ⟨[(0, .val (.sl tAlarm) (.sl (.sha [1]))), (3, .val (.sl tAlarm) (.sl (.row 3 [3] true))), (4, .val (.int .i64) .leaf)], 4⟩ | _ => none
def ja_laws_toAlarmS : Nat → Option Ann := fun _ => none
def cs_laws_toAlarmS (k : Nat) : List (FuncId × Con) := [(33, c_laws_toAlarm k)]
set_option maxRecDepth 1000000 in
theorem e_laws_toAlarmS (k : Nat) (x) : evFn2 (mkCx TT (cs_laws_toAlarmS k) la_laws_toAlarmS ja_laws_toAlarmS k) ps_laws_toAlarmS rs_laws_toAlarmS Try.f36 x = F_laws_toAlarmS k x := by kernel_rfl
set_option maxRecDepth 1000000 in
theorem m_laws_toAlarmS (k : Nat) : Meets Try.prog 36 (c_laws_toAlarmS k) := meets_ev TTok mixed (cts := cs_laws_toAlarmS k) ⟨m_laws_toAlarm k, trivial⟩ Try.func36 (by kernel_rfl) (by kernel_rfl) (e_laws_toAlarmS k)
abbrev ps_laws_toTask : List PK := [.val tTask (.pair .leaf (.pair .leaf (.pair (.pair .shr (.pair .leaf (.pair .leaf .leaf))) (.pair .shr (.pair .leaf (.pair .shr (.pair .shr (.pair .leaf .leaf))))))))]
abbrev rs_laws_toTask : List RK := [.val tTask (.pair .leaf (.pair .leaf (.pair (.pair .own (.pair .leaf (.pair .leaf .leaf))) (.pair .own (.pair .leaf (.pair .own (.pair .own (.pair .leaf .leaf))))))))]
def c_laws_toTask (k : Nat) : Con := ⟨ps_laws_toTask, rs_laws_toTask, F_laws_toTask k⟩
def la_laws_toTask : Nat → Option Ann := fun _ => none
def ja_laws_toTask : Nat → Option Ann := fun _ => none
def cs_laws_toTask (k : Nat) : List (FuncId × Con) := [(33, c_laws_toAlarm k), (34, c_laws_toLabelS k), (35, c_laws_toIntS k), (36, c_laws_toAlarmS k)]
set_option maxRecDepth 1000000 in
theorem e_laws_toTask (k : Nat) (x) : evFn2 (mkCx TT (cs_laws_toTask k) la_laws_toTask ja_laws_toTask k) ps_laws_toTask rs_laws_toTask Try.f10 x = F_laws_toTask k x := by kernel_rfl
set_option maxRecDepth 1000000 in
theorem m_laws_toTask (k : Nat) : Meets Try.prog 10 (c_laws_toTask k) := meets_ev TTok mixed (cts := cs_laws_toTask k) ⟨m_laws_toAlarm k, m_laws_toLabelS k, m_laws_toIntS k, m_laws_toAlarmS k, trivial⟩ Try.func10 (by kernel_rfl) (by kernel_rfl) (e_laws_toTask k)
abbrev ps_spec_l1In : List PK := [.val (.int .i64) .leaf, .val (.int .i64) .leaf, .val (.int .i64) .leaf]
abbrev rs_spec_l1In : List RK := [.val .bool .leaf]
def c_spec_l1In (k : Nat) : Con := ⟨ps_spec_l1In, rs_spec_l1In, F_spec_l1In k⟩
def la_spec_l1In : Nat → Option Ann := fun _ => none
def ja_spec_l1In : Nat → Option Ann := fun _ => none
def cs_spec_l1In (k : Nat) : List (FuncId × Con) := []
set_option maxRecDepth 1000000 in
theorem e_spec_l1In (k : Nat) (x) : evFn2 (mkCx TT (cs_spec_l1In k) la_spec_l1In ja_spec_l1In k) ps_spec_l1In rs_spec_l1In Try.f78 x = F_spec_l1In k x := by kernel_rfl
set_option maxRecDepth 1000000 in
theorem m_spec_l1In (k : Nat) : Meets Try.prog 78 (c_spec_l1In k) := meets_ev TTok mixed (cts := cs_spec_l1In k) trivial Try.func78 (by kernel_rfl) (by kernel_rfl) (e_spec_l1In k)
abbrev ps_spec_NameOk : List PK := [.val .str .leaf]
abbrev rs_spec_NameOk : List RK := [.val .bool .leaf]
def c_spec_NameOk (k : Nat) : Con := ⟨ps_spec_NameOk, rs_spec_NameOk, F_spec_NameOk k⟩
def la_spec_NameOk : Nat → Option Ann := fun | 2 => some ⟨[(0, .val .str .leaf), (3, .val (.int .i64) .leaf)], 3⟩ | _ => none
def ja_spec_NameOk : Nat → Option Ann := fun | 6 => some ⟨[(0, .val .str .leaf)], 3⟩ | _ => none
def cs_spec_NameOk (k : Nat) : List (FuncId × Con) := [(78, c_spec_l1In k)]
set_option maxRecDepth 1000000 in
theorem e_spec_NameOk (k : Nat) (x) : evFn2 (mkCx TT (cs_spec_NameOk k) la_spec_NameOk ja_spec_NameOk k) ps_spec_NameOk rs_spec_NameOk Try.f120 x = F_spec_NameOk k x := by kernel_rfl
set_option maxRecDepth 1000000 in
theorem m_spec_NameOk (k : Nat) : Meets Try.prog 120 (c_spec_NameOk k) := meets_ev TTok mixed (cts := cs_spec_NameOk k) ⟨m_spec_l1In k, trivial⟩ Try.func120 (by kernel_rfl) (by kernel_rfl) (e_spec_NameOk k)
abbrev ps_spec_PlainOk : List PK := [.val .str .leaf]
abbrev rs_spec_PlainOk : List RK := [.val .bool .leaf]
def c_spec_PlainOk (k : Nat) : Con := ⟨ps_spec_PlainOk, rs_spec_PlainOk, F_spec_PlainOk k⟩
def la_spec_PlainOk : Nat → Option Ann := fun | 2 => some ⟨[(0, .val .str .leaf), (3, .val (.int .i64) .leaf)], 3⟩ | _ => none
def ja_spec_PlainOk : Nat → Option Ann := fun | 6 => some ⟨[(0, .val .str .leaf)], 3⟩ | _ => none
def cs_spec_PlainOk (k : Nat) : List (FuncId × Con) := []
set_option maxRecDepth 1000000 in
theorem e_spec_PlainOk (k : Nat) (x) : evFn2 (mkCx TT (cs_spec_PlainOk k) la_spec_PlainOk ja_spec_PlainOk k) ps_spec_PlainOk rs_spec_PlainOk Try.f122 x = F_spec_PlainOk k x := by kernel_rfl
set_option maxRecDepth 1000000 in
theorem m_spec_PlainOk (k : Nat) : Meets Try.prog 122 (c_spec_PlainOk k) := meets_ev TTok mixed (cts := cs_spec_PlainOk k) trivial Try.func122 (by kernel_rfl) (by kernel_rfl) (e_spec_PlainOk k)
abbrev ps_spec_LabelOk : List PK := [.val tLabel (.pair .leaf .leaf)]
abbrev rs_spec_LabelOk : List RK := [.val .bool .leaf]
def c_spec_LabelOk (k : Nat) : Con := ⟨ps_spec_LabelOk, rs_spec_LabelOk, F_spec_LabelOk k⟩
def la_spec_LabelOk : Nat → Option Ann := fun _ => none
def ja_spec_LabelOk : Nat → Option Ann := fun _ => none
def cs_spec_LabelOk (k : Nat) : List (FuncId × Con) := [(120, c_spec_NameOk k), (122, c_spec_PlainOk k)]
set_option maxRecDepth 1000000 in
theorem e_spec_LabelOk (k : Nat) (x) : evFn2 (mkCx TT (cs_spec_LabelOk k) la_spec_LabelOk ja_spec_LabelOk k) ps_spec_LabelOk rs_spec_LabelOk Try.f133 x = F_spec_LabelOk k x := by kernel_rfl
set_option maxRecDepth 1000000 in
theorem m_spec_LabelOk (k : Nat) : Meets Try.prog 133 (c_spec_LabelOk k) := meets_ev TTok mixed (cts := cs_spec_LabelOk k) ⟨m_spec_NameOk k, m_spec_PlainOk k, trivial⟩ Try.func133 (by kernel_rfl) (by kernel_rfl) (e_spec_LabelOk k)
abbrev ps_spec_Less : List PK := [.val .str .leaf, .val .str .leaf]
abbrev rs_spec_Less : List RK := [.val .bool .leaf]
def c_spec_Less (k : Nat) : Con := ⟨ps_spec_Less, rs_spec_Less, F_spec_Less k⟩
def la_spec_Less : Nat → Option Ann := fun _ => none
def ja_spec_Less : Nat → Option Ann := fun _ => none
def cs_spec_Less (k : Nat) : List (FuncId × Con) := []
set_option maxRecDepth 1000000 in
theorem e_spec_Less (k : Nat) (x) : evFn2 (mkCx TT (cs_spec_Less k) la_spec_Less ja_spec_Less k) ps_spec_Less rs_spec_Less Try.f94 x = F_spec_Less k x := by kernel_rfl
set_option maxRecDepth 1000000 in
theorem m_spec_Less (k : Nat) : Meets Try.prog 94 (c_spec_Less k) := meets_ev TTok mixed (cts := cs_spec_Less k) trivial Try.func94 (by kernel_rfl) (by kernel_rfl) (e_spec_Less k)
abbrev ps_spec_SetOk : List PK := [.val (.sl tLabel) .shr]
abbrev rs_spec_SetOk : List RK := [.val .bool .leaf]
def c_spec_SetOk (k : Nat) : Con := ⟨ps_spec_SetOk, rs_spec_SetOk, F_spec_SetOk k⟩
def la_spec_SetOk : Nat → Option Ann := fun | 2 => some ⟨[(0, .val (.sl tLabel) (.sl (.sha [1]))), (3, .val (.int .i64) .leaf)], 3⟩ | _ => none
def ja_spec_SetOk : Nat → Option Ann := fun | 6 => some ⟨[(0, .val (.sl tLabel) (.sl (.sha [1])))], 3⟩ | _ => none
def cs_spec_SetOk (k : Nat) : List (FuncId × Con) := [(133, c_spec_LabelOk k), (94, c_spec_Less k)]
set_option maxRecDepth 1000000 in
theorem e_spec_SetOk (k : Nat) (x) : evFn2 (mkCx TT (cs_spec_SetOk k) la_spec_SetOk ja_spec_SetOk k) ps_spec_SetOk rs_spec_SetOk Try.f117 x = F_spec_SetOk k x := by kernel_rfl
set_option maxRecDepth 1000000 in
theorem m_spec_SetOk (k : Nat) : Meets Try.prog 117 (c_spec_SetOk k) := meets_ev TTok mixed (cts := cs_spec_SetOk k) ⟨m_spec_LabelOk k, m_spec_Less k, trivial⟩ Try.func117 (by kernel_rfl) (by kernel_rfl) (e_spec_SetOk k)
abbrev ps_spec_SetText : List PK := [.val (.sl tLabel) .shr]
abbrev rs_spec_SetText : List RK := [.val .str .leaf]
def c_spec_SetText (k : Nat) : Con := ⟨ps_spec_SetText, rs_spec_SetText, F_spec_SetText k⟩
def la_spec_SetText : Nat → Option Ann := fun | 5 => some ⟨[(0, .val (.sl tLabel) (.sl (.sha [1]))), (3, .val .str .leaf), (4, .val (.int .i64) .leaf)], 3⟩ | _ => none
def ja_spec_SetText : Nat → Option Ann := fun | 9 => some ⟨[(0, .val (.sl tLabel) (.sl (.sha [1]))), (3, .val .str .leaf), (4, .val (.int .i64) .leaf)], 3⟩ | 10 => some ⟨[(3, .val .str .leaf)], 3⟩ | _ => none
def cs_spec_SetText (k : Nat) : List (FuncId × Con) := [(117, c_spec_SetOk k)]
set_option maxRecDepth 1000000 in
theorem e_spec_SetText (k : Nat) (x) : evFn2 (mkCx TT (cs_spec_SetText k) la_spec_SetText ja_spec_SetText k) ps_spec_SetText rs_spec_SetText Try.f82 x = F_spec_SetText k x := by kernel_rfl
set_option maxRecDepth 1000000 in
theorem m_spec_SetText (k : Nat) : Meets Try.prog 82 (c_spec_SetText k) := meets_ev TTok mixed (cts := cs_spec_SetText k) ⟨m_spec_SetOk k, trivial⟩ Try.func82 (by kernel_rfl) (by kernel_rfl) (e_spec_SetText k)
abbrev ps_spec_Sum : List PK := [.val .str .leaf]
abbrev rs_spec_Sum : List RK := [.val (.int .i64) .leaf]
def c_spec_Sum (k : Nat) : Con := ⟨ps_spec_Sum, rs_spec_Sum, F_spec_Sum k⟩
def la_spec_Sum : Nat → Option Ann := fun | 3 => some ⟨[(0, .val .str .leaf), (3, .val (.int .i64) .leaf), (4, .val (.int .i64) .leaf)], 3⟩ | _ => none
def ja_spec_Sum : Nat → Option Ann := fun _ => none
def cs_spec_Sum (k : Nat) : List (FuncId × Con) := []
set_option maxRecDepth 1000000 in
theorem e_spec_Sum (k : Nat) (x) : evFn2 (mkCx TT (cs_spec_Sum k) la_spec_Sum ja_spec_Sum k) ps_spec_Sum rs_spec_Sum Try.f81 x = F_spec_Sum k x := by kernel_rfl
set_option maxRecDepth 1000000 in
theorem m_spec_Sum (k : Nat) : Meets Try.prog 81 (c_spec_Sum k) := meets_ev TTok mixed (cts := cs_spec_Sum k) trivial Try.func81 (by kernel_rfl) (by kernel_rfl) (e_spec_Sum k)
abbrev ps_spec_Finger : List PK := [.val (.sl tLabel) .shr]
abbrev rs_spec_Finger : List RK := [.val (.int .i64) .leaf]
def c_spec_Finger (k : Nat) : Con := ⟨ps_spec_Finger, rs_spec_Finger, F_spec_Finger k⟩
def la_spec_Finger : Nat → Option Ann := fun _ => none
def ja_spec_Finger : Nat → Option Ann := fun _ => none
def cs_spec_Finger (k : Nat) : List (FuncId × Con) := [(82, c_spec_SetText k), (81, c_spec_Sum k)]
set_option maxRecDepth 1000000 in
theorem e_spec_Finger (k : Nat) (x) : evFn2 (mkCx TT (cs_spec_Finger k) la_spec_Finger ja_spec_Finger k) ps_spec_Finger rs_spec_Finger Try.f32 x = F_spec_Finger k x := by kernel_rfl
set_option maxRecDepth 1000000 in
theorem m_spec_Finger (k : Nat) : Meets Try.prog 32 (c_spec_Finger k) := meets_ev TTok mixed (cts := cs_spec_Finger k) ⟨m_spec_SetText k, m_spec_Sum k, trivial⟩ Try.func32 (by kernel_rfl) (by kernel_rfl) (e_spec_Finger k)
abbrev ps_spec_PartOf : List PK := [.val (.int .i64) .leaf, .val (.int .i64) .leaf]
abbrev rs_spec_PartOf : List RK := [.val (.int .i64) .leaf]
def c_spec_PartOf (k : Nat) : Con := ⟨ps_spec_PartOf, rs_spec_PartOf, F_spec_PartOf k⟩
def la_spec_PartOf : Nat → Option Ann := fun _ => none
def ja_spec_PartOf : Nat → Option Ann := fun _ => none
def cs_spec_PartOf (k : Nat) : List (FuncId × Con) := []
set_option maxRecDepth 1000000 in
theorem e_spec_PartOf (k : Nat) (x) : evFn2 (mkCx TT (cs_spec_PartOf k) la_spec_PartOf ja_spec_PartOf k) ps_spec_PartOf rs_spec_PartOf Try.f31 x = F_spec_PartOf k x := by kernel_rfl
set_option maxRecDepth 1000000 in
theorem m_spec_PartOf (k : Nat) : Meets Try.prog 31 (c_spec_PartOf k) := meets_ev TTok mixed (cts := cs_spec_PartOf k) trivial Try.func31 (by kernel_rfl) (by kernel_rfl) (e_spec_PartOf k)
abbrev ps_spec_WantsPart : List PK := [.val tTask (.pair .leaf (.pair .leaf (.pair (.pair .shr (.pair .leaf (.pair .leaf .leaf))) (.pair .shr (.pair .leaf (.pair .shr (.pair .shr (.pair .leaf .leaf)))))))), .val (.int .i64) .leaf]
abbrev rs_spec_WantsPart : List RK := [.val (.int .i64) .leaf]
def c_spec_WantsPart (k : Nat) : Con := ⟨ps_spec_WantsPart, rs_spec_WantsPart, F_spec_WantsPart k⟩
def la_spec_WantsPart : Nat → Option Ann := fun _ => none
def ja_spec_WantsPart : Nat → Option Ann := fun _ => none
def cs_spec_WantsPart (k : Nat) : List (FuncId × Con) := [(32, c_spec_Finger k), (31, c_spec_PartOf k)]
set_option maxRecDepth 1000000 in
theorem e_spec_WantsPart (k : Nat) (x) : evFn2 (mkCx TT (cs_spec_WantsPart k) la_spec_WantsPart ja_spec_WantsPart k) ps_spec_WantsPart rs_spec_WantsPart Try.f9 x = F_spec_WantsPart k x := by kernel_rfl
set_option maxRecDepth 1000000 in
theorem m_spec_WantsPart (k : Nat) : Meets Try.prog 9 (c_spec_WantsPart k) := meets_ev TTok mixed (cts := cs_spec_WantsPart k) ⟨m_spec_Finger k, m_spec_PartOf k, trivial⟩ Try.func9 (by kernel_rfl) (by kernel_rfl) (e_spec_WantsPart k)
abbrev ps_impl_in : List PK := [.val (.int .i64) .leaf, .val (.int .i64) .leaf, .val (.int .i64) .leaf]
abbrev rs_impl_in : List RK := [.val .bool .leaf]
def c_impl_in (k : Nat) : Con := ⟨ps_impl_in, rs_impl_in, F_impl_in k⟩
def la_impl_in : Nat → Option Ann := fun _ => none
def ja_impl_in : Nat → Option Ann := fun _ => none
def cs_impl_in (k : Nat) : List (FuncId × Con) := []
set_option maxRecDepth 1000000 in
theorem e_impl_in (k : Nat) (x) : evFn2 (mkCx TT (cs_impl_in k) la_impl_in ja_impl_in k) ps_impl_in rs_impl_in Try.f79 x = F_impl_in k x := by kernel_rfl
set_option maxRecDepth 1000000 in
theorem m_impl_in (k : Nat) : Meets Try.prog 79 (c_impl_in k) := meets_ev TTok mixed (cts := cs_impl_in k) trivial Try.func79 (by kernel_rfl) (by kernel_rfl) (e_impl_in k)
abbrev ps_impl_NameOk : List PK := [.val .str .leaf]
abbrev rs_impl_NameOk : List RK := [.val .bool .leaf]
def c_impl_NameOk (k : Nat) : Con := ⟨ps_impl_NameOk, rs_impl_NameOk, F_impl_NameOk k⟩
def la_impl_NameOk : Nat → Option Ann := fun | 4 => some ⟨[(0, .val .str .leaf), (3, .val (.int .i64) .leaf)], 3⟩ | _ => none
def ja_impl_NameOk : Nat → Option Ann := fun _ => none
def cs_impl_NameOk (k : Nat) : List (FuncId × Con) := [(79, c_impl_in k)]
set_option maxRecDepth 1000000 in
theorem e_impl_NameOk (k : Nat) (x) : evFn2 (mkCx TT (cs_impl_NameOk k) la_impl_NameOk ja_impl_NameOk k) ps_impl_NameOk rs_impl_NameOk Try.f124 x = F_impl_NameOk k x := by kernel_rfl
set_option maxRecDepth 1000000 in
theorem m_impl_NameOk (k : Nat) : Meets Try.prog 124 (c_impl_NameOk k) := meets_ev TTok mixed (cts := cs_impl_NameOk k) ⟨m_impl_in k, trivial⟩ Try.func124 (by kernel_rfl) (by kernel_rfl) (e_impl_NameOk k)
end Vg.Try
