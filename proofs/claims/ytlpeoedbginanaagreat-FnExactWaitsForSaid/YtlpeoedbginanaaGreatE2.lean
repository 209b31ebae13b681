/- What the functions compute is what the evaluator says; their contracts. -/
import Derived.Test.YtlpeoedbginanaaGreatE1
namespace Vg.Tryz
open Go Vg Go.Proofs
set_option linter.unusedVariables false
abbrev ps_laws_toLabel : List PK := [.val tLabel (.pair .leaf .leaf)]
abbrev rs_laws_toLabel : List RK := [.val tLabel (.pair .leaf .leaf)]
def c_laws_toLabel (k : Nat) : Con := ⟨ps_laws_toLabel, rs_laws_toLabel, F_laws_toLabel k⟩
def la_laws_toLabel : Nat → Option Ann := fun _ => none
def ja_laws_toLabel : Nat → Option Ann := fun _ => none
def cs_laws_toLabel (k : Nat) : List (FuncId × Con) := []
set_option maxRecDepth 1000000 in
theorem e_laws_toLabel (k : Nat) (x) : evFn2 (mkCx TT (cs_laws_toLabel k) la_laws_toLabel ja_laws_toLabel k) ps_laws_toLabel rs_laws_toLabel Tryz.f128 x = F_laws_toLabel k x := by kernel_rfl
set_option maxRecDepth 1000000 in
theorem m_laws_toLabel (k : Nat) : Meets Tryz.prog 128 (c_laws_toLabel k) := meets_ev TTok mixed (cts := cs_laws_toLabel k) trivial Tryz.func128 (by kernel_rfl) (by kernel_rfl) (e_laws_toLabel k)
abbrev ps_laws_toLabelS : List PK := [.val (.sl tLabel) .shr]
abbrev rs_laws_toLabelS : List RK := [.val (.sl tLabel) .own]
def c_laws_toLabelS (k : Nat) : Con := ⟨ps_laws_toLabelS, rs_laws_toLabelS, F_laws_toLabelS k⟩
def la_laws_toLabelS : Nat → Option Ann := fun | 3 => some ⟨[(0, .val (.sl tLabel) (.sl (.sha [1]))), (3, .val (.sl tLabel) (.sl (.row 3 [3] true))), (4, .val (.int .i64) .leaf)], 4⟩ | _ => none
def ja_laws_toLabelS : Nat → Option Ann := fun _ => none
def cs_laws_toLabelS (k : Nat) : List (FuncId × Con) := [(128, c_laws_toLabel k)]
set_option maxRecDepth 1000000 in
theorem e_laws_toLabelS (k : Nat) (x) : evFn2 (mkCx TT (cs_laws_toLabelS k) la_laws_toLabelS ja_laws_toLabelS k) ps_laws_toLabelS rs_laws_toLabelS Tryz.f32 x = F_laws_toLabelS k x := by kernel_rfl
set_option maxRecDepth 1000000 in
theorem m_laws_toLabelS (k : Nat) : Meets Tryz.prog 32 (c_laws_toLabelS k) := meets_ev TTok mixed (cts := cs_laws_toLabelS k) ⟨m_laws_toLabel k, trivial⟩ Tryz.func32 (by kernel_rfl) (by kernel_rfl) (e_laws_toLabelS k)
abbrev ps_laws_toAlarm : List PK := [.val tAlarm (.pair .shr (.pair .leaf (.pair .leaf .leaf)))]
abbrev rs_laws_toAlarm : List RK := [.val tAlarm (.pair .own (.pair .leaf (.pair .leaf .leaf)))]
def c_laws_toAlarm (k : Nat) : Con := ⟨ps_laws_toAlarm, rs_laws_toAlarm, F_laws_toAlarm k⟩
def la_laws_toAlarm : Nat → Option Ann := fun _ => none
def ja_laws_toAlarm : Nat → Option Ann := fun _ => none
def cs_laws_toAlarm (k : Nat) : List (FuncId × Con) := [(32, c_laws_toLabelS k)]
set_option maxRecDepth 1000000 in
theorem e_laws_toAlarm (k : Nat) (x) : evFn2 (mkCx TT (cs_laws_toAlarm k) la_laws_toAlarm ja_laws_toAlarm k) ps_laws_toAlarm rs_laws_toAlarm Tryz.f38 x = F_laws_toAlarm k x := by kernel_rfl
set_option maxRecDepth 1000000 in
theorem m_laws_toAlarm (k : Nat) : Meets Tryz.prog 38 (c_laws_toAlarm k) := meets_ev TTok mixed (cts := cs_laws_toAlarm k) ⟨m_laws_toLabelS k, trivial⟩ Tryz.func38 (by kernel_rfl) (by kernel_rfl) (e_laws_toAlarm k)
abbrev ps_laws_toAlarmS : List PK := [.val (.sl tAlarm) .shr]
abbrev rs_laws_toAlarmS : List RK := [.val (.sl tAlarm) .own]
def c_laws_toAlarmS (k : Nat) : Con := ⟨ps_laws_toAlarmS, rs_laws_toAlarmS, F_laws_toAlarmS k⟩
def la_laws_toAlarmS : Nat → Option Ann := fun | 3 => some ⟨[(0, .val (.sl tAlarm) (.sl (.sha [1]))), (3, .val (.sl tAlarm) (.sl (.row 3 [3] true))), (4, .val (.int .i64) .leaf)], 4⟩ | _ => none
def ja_laws_toAlarmS : Nat → Option Ann := fun _ => none
def cs_laws_toAlarmS (k : Nat) : List (FuncId × Con) := [(38, c_laws_toAlarm k)]
set_option maxRecDepth 1000000 in
theorem e_laws_toAlarmS (k : Nat) (x) : evFn2 (mkCx TT (cs_laws_toAlarmS k) la_laws_toAlarmS ja_laws_toAlarmS k) ps_laws_toAlarmS rs_laws_toAlarmS Tryz.f65 x = F_laws_toAlarmS k x := by kernel_rfl
set_option maxRecDepth 1000000 in
theorem m_laws_toAlarmS (k : Nat) : Meets Tryz.prog 65 (c_laws_toAlarmS k) := meets_ev TTok mixed (cts := cs_laws_toAlarmS k) ⟨m_laws_toAlarm k, trivial⟩ Tryz.func65 (by kernel_rfl) (by kernel_rfl) (e_laws_toAlarmS k)
abbrev ps_laws_toChain : List PK := [.val tChain (.pair .leaf .shr)]
abbrev rs_laws_toChain : List RK := [.val tChain (.pair .leaf .own)]
def c_laws_toChain (k : Nat) : Con := ⟨ps_laws_toChain, rs_laws_toChain, F_laws_toChain k⟩
def la_laws_toChain : Nat → Option Ann := fun _ => none
def ja_laws_toChain : Nat → Option Ann := fun _ => none
def cs_laws_toChain (k : Nat) : List (FuncId × Con) := [(65, c_laws_toAlarmS k)]
set_option maxRecDepth 1000000 in
theorem e_laws_toChain (k : Nat) (x) : evFn2 (mkCx TT (cs_laws_toChain k) la_laws_toChain ja_laws_toChain k) ps_laws_toChain rs_laws_toChain Tryz.f343 x = F_laws_toChain k x := by kernel_rfl
set_option maxRecDepth 1000000 in
theorem m_laws_toChain (k : Nat) : Meets Tryz.prog 343 (c_laws_toChain k) := meets_ev TTok mixed (cts := cs_laws_toChain k) ⟨m_laws_toAlarmS k, trivial⟩ Tryz.func343 (by kernel_rfl) (by kernel_rfl) (e_laws_toChain k)
abbrev ps_laws_toChainS : List PK := [.val (.sl tChain) .shr]
abbrev rs_laws_toChainS : List RK := [.val (.sl tChain) .own]
def c_laws_toChainS (k : Nat) : Con := ⟨ps_laws_toChainS, rs_laws_toChainS, F_laws_toChainS k⟩
def la_laws_toChainS : Nat → Option Ann := fun | 3 => some ⟨[(0, .val (.sl tChain) (.sl (.sha [1]))), (3, .val (.sl tChain) (.sl (.row 3 [3] true))), (4, .val (.int .i64) .leaf)], 4⟩ | _ => none
def ja_laws_toChainS : Nat → Option Ann := fun _ => none
def cs_laws_toChainS (k : Nat) : List (FuncId × Con) := [(343, c_laws_toChain k)]
set_option maxRecDepth 1000000 in
theorem e_laws_toChainS (k : Nat) (x) : evFn2 (mkCx TT (cs_laws_toChainS k) la_laws_toChainS ja_laws_toChainS k) ps_laws_toChainS rs_laws_toChainS Tryz.f272 x = F_laws_toChainS k x := by kernel_rfl
set_option maxRecDepth 1000000 in
theorem m_laws_toChainS (k : Nat) : Meets Tryz.prog 272 (c_laws_toChainS k) := meets_ev TTok mixed (cts := cs_laws_toChainS k) ⟨m_laws_toChain k, trivial⟩ Tryz.func272 (by kernel_rfl) (by kernel_rfl) (e_laws_toChainS k)
abbrev ps_laws_toPart : List PK := [.val tPart (.pair .leaf (.pair .leaf .shr))]
abbrev rs_laws_toPart : List RK := [.val tPart (.pair .leaf (.pair .leaf .own))]
def c_laws_toPart (k : Nat) : Con := ⟨ps_laws_toPart, rs_laws_toPart, F_laws_toPart k⟩
def la_laws_toPart : Nat → Option Ann := fun _ => none
def ja_laws_toPart : Nat → Option Ann := fun _ => none
def cs_laws_toPart (k : Nat) : List (FuncId × Con) := [(272, c_laws_toChainS k)]
set_option maxRecDepth 1000000 in
theorem e_laws_toPart (k : Nat) (x) : evFn2 (mkCx TT (cs_laws_toPart k) la_laws_toPart ja_laws_toPart k) ps_laws_toPart rs_laws_toPart Tryz.f153 x = F_laws_toPart k x := by kernel_rfl
set_option maxRecDepth 1000000 in
theorem m_laws_toPart (k : Nat) : Meets Tryz.prog 153 (c_laws_toPart k) := meets_ev TTok mixed (cts := cs_laws_toPart k) ⟨m_laws_toChainS k, trivial⟩ Tryz.func153 (by kernel_rfl) (by kernel_rfl) (e_laws_toPart k)
abbrev ps_laws_toPartS : List PK := [.val (.sl tPart) .shr]
abbrev rs_laws_toPartS : List RK := [.val (.sl tPart) .own]
def c_laws_toPartS (k : Nat) : Con := ⟨ps_laws_toPartS, rs_laws_toPartS, F_laws_toPartS k⟩
def la_laws_toPartS : Nat → Option Ann := fun | 3 => some ⟨[(0, .val (.sl tPart) (.sl (.sha [1]))), (3, .val (.sl tPart) (.sl (.row 3 [3] true))), (4, .val (.int .i64) .leaf)], 4⟩ | _ => none
def ja_laws_toPartS : Nat → Option Ann := fun _ => none
def cs_laws_toPartS (k : Nat) : List (FuncId × Con) := [(153, c_laws_toPart k)]
set_option maxRecDepth 1000000 in
theorem e_laws_toPartS (k : Nat) (x) : evFn2 (mkCx TT (cs_laws_toPartS k) la_laws_toPartS ja_laws_toPartS k) ps_laws_toPartS rs_laws_toPartS Tryz.f63 x = F_laws_toPartS k x := by kernel_rfl
set_option maxRecDepth 1000000 in
theorem m_laws_toPartS (k : Nat) : Meets Tryz.prog 63 (c_laws_toPartS k) := meets_ev TTok mixed (cts := cs_laws_toPartS k) ⟨m_laws_toPart k, trivial⟩ Tryz.func63 (by kernel_rfl) (by kernel_rfl) (e_laws_toPartS k)
abbrev ps_laws_toSub : List PK := [.val tSub (.pair .shr .leaf)]
abbrev rs_laws_toSub : List RK := [.val tSub (.pair .own .leaf)]
def c_laws_toSub (k : Nat) : Con := ⟨ps_laws_toSub, rs_laws_toSub, F_laws_toSub k⟩
def la_laws_toSub : Nat → Option Ann := fun _ => none
def ja_laws_toSub : Nat → Option Ann := fun _ => none
def cs_laws_toSub (k : Nat) : List (FuncId × Con) := [(65, c_laws_toAlarmS k)]
set_option maxRecDepth 1000000 in
theorem e_laws_toSub (k : Nat) (x) : evFn2 (mkCx TT (cs_laws_toSub k) la_laws_toSub ja_laws_toSub k) ps_laws_toSub rs_laws_toSub Tryz.f154 x = F_laws_toSub k x := by kernel_rfl
set_option maxRecDepth 1000000 in
theorem m_laws_toSub (k : Nat) : Meets Tryz.prog 154 (c_laws_toSub k) := meets_ev TTok mixed (cts := cs_laws_toSub k) ⟨m_laws_toAlarmS k, trivial⟩ Tryz.func154 (by kernel_rfl) (by kernel_rfl) (e_laws_toSub k)
abbrev ps_laws_toSubS : List PK := [.val (.sl tSub) .shr]
abbrev rs_laws_toSubS : List RK := [.val (.sl tSub) .own]
def c_laws_toSubS (k : Nat) : Con := ⟨ps_laws_toSubS, rs_laws_toSubS, F_laws_toSubS k⟩
def la_laws_toSubS : Nat → Option Ann := fun | 3 => some ⟨[(0, .val (.sl tSub) (.sl (.sha [1]))), (3, .val (.sl tSub) (.sl (.row 3 [3] true))), (4, .val (.int .i64) .leaf)], 4⟩ | _ => none
def ja_laws_toSubS : Nat → Option Ann := fun _ => none
def cs_laws_toSubS (k : Nat) : List (FuncId × Con) := [(154, c_laws_toSub k)]
set_option maxRecDepth 1000000 in
theorem e_laws_toSubS (k : Nat) (x) : evFn2 (mkCx TT (cs_laws_toSubS k) la_laws_toSubS ja_laws_toSubS k) ps_laws_toSubS rs_laws_toSubS Tryz.f64 x = F_laws_toSubS k x := by kernel_rfl
set_option maxRecDepth 1000000 in
theorem m_laws_toSubS (k : Nat) : Meets Tryz.prog 64 (c_laws_toSubS k) := meets_ev TTok mixed (cts := cs_laws_toSubS k) ⟨m_laws_toSub k, trivial⟩ Tryz.func64 (by kernel_rfl) (by kernel_rfl) (e_laws_toSubS k)
abbrev ps_laws_toGroup : List PK := [.val tGroup (.pair .leaf (.pair .shr (.pair .leaf (.pair .leaf .shr))))]
abbrev rs_laws_toGroup : List RK := [.val tGroup (.pair .leaf (.pair .own (.pair .leaf (.pair .leaf .own))))]
def c_laws_toGroup (k : Nat) : Con := ⟨ps_laws_toGroup, rs_laws_toGroup, F_laws_toGroup k⟩
def la_laws_toGroup : Nat → Option Ann := fun _ => none
def ja_laws_toGroup : Nat → Option Ann := fun _ => none
def cs_laws_toGroup (k : Nat) : List (FuncId × Con) := [(32, c_laws_toLabelS k), (65, c_laws_toAlarmS k)]
set_option maxRecDepth 1000000 in
theorem e_laws_toGroup (k : Nat) (x) : evFn2 (mkCx TT (cs_laws_toGroup k) la_laws_toGroup ja_laws_toGroup k) ps_laws_toGroup rs_laws_toGroup Tryz.f155 x = F_laws_toGroup k x := by kernel_rfl
set_option maxRecDepth 1000000 in
theorem m_laws_toGroup (k : Nat) : Meets Tryz.prog 155 (c_laws_toGroup k) := meets_ev TTok mixed (cts := cs_laws_toGroup k) ⟨m_laws_toLabelS k, m_laws_toAlarmS k, trivial⟩ Tryz.func155 (by kernel_rfl) (by kernel_rfl) (e_laws_toGroup k)
abbrev ps_laws_toGroupS : List PK := [.val (.sl tGroup) .shr]
abbrev rs_laws_toGroupS : List RK := [.val (.sl tGroup) .own]
def c_laws_toGroupS (k : Nat) : Con := ⟨ps_laws_toGroupS, rs_laws_toGroupS, F_laws_toGroupS k⟩
def la_laws_toGroupS : Nat → Option Ann := fun | 3 => some ⟨[(0, .val (.sl tGroup) (.sl (.sha [1]))), (3, .val (.sl tGroup) (.sl (.row 3 [3] true))), (4, .val (.int .i64) .leaf)], 4⟩ | _ => none
def ja_laws_toGroupS : Nat → Option Ann := fun _ => none
def cs_laws_toGroupS (k : Nat) : List (FuncId × Con) := [(155, c_laws_toGroup k)]
set_option maxRecDepth 1000000 in
theorem e_laws_toGroupS (k : Nat) (x) : evFn2 (mkCx TT (cs_laws_toGroupS k) la_laws_toGroupS ja_laws_toGroupS k) ps_laws_toGroupS rs_laws_toGroupS Tryz.f66 x = F_laws_toGroupS k x := by kernel_rfl
set_option maxRecDepth 1000000 in
theorem m_laws_toGroupS (k : Nat) : Meets Tryz.prog 66 (c_laws_toGroupS k) := meets_ev TTok mixed (cts := cs_laws_toGroupS k) ⟨m_laws_toGroup k, trivial⟩ Tryz.func66 (by kernel_rfl) (by kernel_rfl) (e_laws_toGroupS k)
abbrev ps_laws_toTimer : List PK := [.val tTimer (.pair .leaf .leaf)]
abbrev rs_laws_toTimer : List RK := [.val tTimer (.pair .leaf .leaf)]
def c_laws_toTimer (k : Nat) : Con := ⟨ps_laws_toTimer, rs_laws_toTimer, F_laws_toTimer k⟩
def la_laws_toTimer : Nat → Option Ann := fun _ => none
def ja_laws_toTimer : Nat → Option Ann := fun _ => none
def cs_laws_toTimer (k : Nat) : List (FuncId × Con) := []
set_option maxRecDepth 1000000 in
theorem e_laws_toTimer (k : Nat) (x) : evFn2 (mkCx TT (cs_laws_toTimer k) la_laws_toTimer ja_laws_toTimer k) ps_laws_toTimer rs_laws_toTimer Tryz.f156 x = F_laws_toTimer k x := by kernel_rfl
set_option maxRecDepth 1000000 in
theorem m_laws_toTimer (k : Nat) : Meets Tryz.prog 156 (c_laws_toTimer k) := meets_ev TTok mixed (cts := cs_laws_toTimer k) trivial Tryz.func156 (by kernel_rfl) (by kernel_rfl) (e_laws_toTimer k)
abbrev ps_laws_toTimerS : List PK := [.val (.sl tTimer) .shr]
abbrev rs_laws_toTimerS : List RK := [.val (.sl tTimer) .own]
def c_laws_toTimerS (k : Nat) : Con := ⟨ps_laws_toTimerS, rs_laws_toTimerS, F_laws_toTimerS k⟩
def la_laws_toTimerS : Nat → Option Ann := fun | 3 => some ⟨[(0, .val (.sl tTimer) (.sl (.sha [1]))), (3, .val (.sl tTimer) (.sl (.row 3 [3] true))), (4, .val (.int .i64) .leaf)], 4⟩ | _ => none
def ja_laws_toTimerS : Nat → Option Ann := fun _ => none
def cs_laws_toTimerS (k : Nat) : List (FuncId × Con) := [(156, c_laws_toTimer k)]
set_option maxRecDepth 1000000 in
theorem e_laws_toTimerS (k : Nat) (x) : evFn2 (mkCx TT (cs_laws_toTimerS k) la_laws_toTimerS ja_laws_toTimerS k) ps_laws_toTimerS rs_laws_toTimerS Tryz.f67 x = F_laws_toTimerS k x := by kernel_rfl
set_option maxRecDepth 1000000 in
theorem m_laws_toTimerS (k : Nat) : Meets Tryz.prog 67 (c_laws_toTimerS k) := meets_ev TTok mixed (cts := cs_laws_toTimerS k) ⟨m_laws_toTimer k, trivial⟩ Tryz.func67 (by kernel_rfl) (by kernel_rfl) (e_laws_toTimerS k)
abbrev ps_laws_toBatch : List PK := [.val tBatch (.pair .leaf (.pair .shr (.pair .leaf .shr)))]
abbrev rs_laws_toBatch : List RK := [.val tBatch (.pair .leaf (.pair .own (.pair .leaf .own)))]
def c_laws_toBatch (k : Nat) : Con := ⟨ps_laws_toBatch, rs_laws_toBatch, F_laws_toBatch k⟩
def la_laws_toBatch : Nat → Option Ann := fun _ => none
def ja_laws_toBatch : Nat → Option Ann := fun _ => none
def cs_laws_toBatch (k : Nat) : List (FuncId × Con) := [(32, c_laws_toLabelS k), (65, c_laws_toAlarmS k)]
set_option maxRecDepth 1000000 in
theorem e_laws_toBatch (k : Nat) (x) : evFn2 (mkCx TT (cs_laws_toBatch k) la_laws_toBatch ja_laws_toBatch k) ps_laws_toBatch rs_laws_toBatch Tryz.f157 x = F_laws_toBatch k x := by kernel_rfl
set_option maxRecDepth 1000000 in
theorem m_laws_toBatch (k : Nat) : Meets Tryz.prog 157 (c_laws_toBatch k) := meets_ev TTok mixed (cts := cs_laws_toBatch k) ⟨m_laws_toLabelS k, m_laws_toAlarmS k, trivial⟩ Tryz.func157 (by kernel_rfl) (by kernel_rfl) (e_laws_toBatch k)
abbrev ps_laws_toBatchS : List PK := [.val (.sl tBatch) .shr]
abbrev rs_laws_toBatchS : List RK := [.val (.sl tBatch) .own]
def c_laws_toBatchS (k : Nat) : Con := ⟨ps_laws_toBatchS, rs_laws_toBatchS, F_laws_toBatchS k⟩
def la_laws_toBatchS : Nat → Option Ann := fun | 3 => some ⟨[(0, .val (.sl tBatch) (.sl (.sha [1]))), (3, .val (.sl tBatch) (.sl (.row 3 [3] true))), (4, .val (.int .i64) .leaf)], 4⟩ | _ => none
def ja_laws_toBatchS : Nat → Option Ann := fun _ => none
def cs_laws_toBatchS (k : Nat) : List (FuncId × Con) := [(157, c_laws_toBatch k)]
set_option maxRecDepth 1000000 in
theorem e_laws_toBatchS (k : Nat) (x) : evFn2 (mkCx TT (cs_laws_toBatchS k) la_laws_toBatchS ja_laws_toBatchS k) ps_laws_toBatchS rs_laws_toBatchS Tryz.f68 x = F_laws_toBatchS k x := by kernel_rfl
set_option maxRecDepth 1000000 in
theorem m_laws_toBatchS (k : Nat) : Meets Tryz.prog 68 (c_laws_toBatchS k) := meets_ev TTok mixed (cts := cs_laws_toBatchS k) ⟨m_laws_toBatch k, trivial⟩ Tryz.func68 (by kernel_rfl) (by kernel_rfl) (e_laws_toBatchS k)
abbrev ps_laws_toIntS : List PK := [.val (.sl (.int .i64)) .shr]
abbrev rs_laws_toIntS : List RK := [.val (.sl (.int .i64)) .own]
def c_laws_toIntS (k : Nat) : Con := ⟨ps_laws_toIntS, rs_laws_toIntS, F_laws_toIntS k⟩
def la_laws_toIntS : Nat → Option Ann := fun | 3 => some ⟨[(0, .val (.sl (.int .i64)) (.sl (.sha [1]))), (3, .val (.sl (.int .i64)) (.sl (.row 3 [3] true))), (4, .val (.int .i64) .leaf)], 4⟩ | _ => none
def ja_laws_toIntS : Nat → Option Ann := fun _ => none
def cs_laws_toIntS (k : Nat) : List (FuncId × Con) := []
set_option maxRecDepth 1000000 in
theorem e_laws_toIntS (k : Nat) (x) : evFn2 (mkCx TT (cs_laws_toIntS k) la_laws_toIntS ja_laws_toIntS k) ps_laws_toIntS rs_laws_toIntS Tryz.f273 x = F_laws_toIntS k x := by kernel_rfl
set_option maxRecDepth 1000000 in
theorem m_laws_toIntS (k : Nat) : Meets Tryz.prog 273 (c_laws_toIntS k) := meets_ev TTok mixed (cts := cs_laws_toIntS k) trivial Tryz.func273 (by kernel_rfl) (by kernel_rfl) (e_laws_toIntS k)
abbrev ps_laws_toTask : List PK := [.val tTask (.pair .leaf (.pair .leaf (.pair (.pair .shr (.pair .leaf (.pair .leaf .leaf))) (.pair .shr (.pair .leaf (.pair .shr (.pair .shr (.pair .leaf .leaf))))))))]
abbrev rs_laws_toTask : List RK := [.val tTask (.pair .leaf (.pair .leaf (.pair (.pair .own (.pair .leaf (.pair .leaf .leaf))) (.pair .own (.pair .leaf (.pair .own (.pair .own (.pair .leaf .leaf))))))))]
def c_laws_toTask (k : Nat) : Con := ⟨ps_laws_toTask, rs_laws_toTask, F_laws_toTask k⟩
def la_laws_toTask : Nat → Option Ann := fun _ => none
def ja_laws_toTask : Nat → Option Ann := fun _ => none
def cs_laws_toTask (k : Nat) : List (FuncId × Con) := [(38, c_laws_toAlarm k), (32, c_laws_toLabelS k), (273, c_laws_toIntS k), (65, c_laws_toAlarmS k)]
set_option maxRecDepth 1000000 in
theorem e_laws_toTask (k : Nat) (x) : evFn2 (mkCx TT (cs_laws_toTask k) la_laws_toTask ja_laws_toTask k) ps_laws_toTask rs_laws_toTask Tryz.f158 x = F_laws_toTask k x := by kernel_rfl
set_option maxRecDepth 1000000 in
theorem m_laws_toTask (k : Nat) : Meets Tryz.prog 158 (c_laws_toTask k) := meets_ev TTok mixed (cts := cs_laws_toTask k) ⟨m_laws_toAlarm k, m_laws_toLabelS k, m_laws_toIntS k, m_laws_toAlarmS k, trivial⟩ Tryz.func158 (by kernel_rfl) (by kernel_rfl) (e_laws_toTask k)
abbrev ps_laws_toTaskS : List PK := [.val (.sl tTask) .shr]
abbrev rs_laws_toTaskS : List RK := [.val (.sl tTask) .own]
def c_laws_toTaskS (k : Nat) : Con := ⟨ps_laws_toTaskS, rs_laws_toTaskS, F_laws_toTaskS k⟩
def la_laws_toTaskS : Nat → Option Ann := fun | 3 => some ⟨[(0, .val (.sl tTask) (.sl (.sha [1]))), (3, .val (.sl tTask) (.sl (.row 3 [3] true))), (4, .val (.int .i64) .leaf)], 4⟩ | _ => none
def ja_laws_toTaskS : Nat → Option Ann := fun _ => none
def cs_laws_toTaskS (k : Nat) : List (FuncId × Con) := [(158, c_laws_toTask k)]
set_option maxRecDepth 1000000 in
theorem e_laws_toTaskS (k : Nat) (x) : evFn2 (mkCx TT (cs_laws_toTaskS k) la_laws_toTaskS ja_laws_toTaskS k) ps_laws_toTaskS rs_laws_toTaskS Tryz.f69 x = F_laws_toTaskS k x := by kernel_rfl
set_option maxRecDepth 1000000 in
theorem m_laws_toTaskS (k : Nat) : Meets Tryz.prog 69 (c_laws_toTaskS k) := meets_ev TTok mixed (cts := cs_laws_toTaskS k) ⟨m_laws_toTask k, trivial⟩ Tryz.func69 (by kernel_rfl) (by kernel_rfl) (e_laws_toTaskS k)
abbrev ps_laws_toDeed : List PK := [.val tDeed (.pair .leaf (.pair .leaf (.pair (.pair .shr (.pair .leaf (.pair .leaf .leaf))) (.pair .shr (.pair .leaf (.pair .leaf (.pair .leaf (.pair .shr (.pair .leaf (.pair .leaf (.pair .leaf .leaf)))))))))))]
abbrev rs_laws_toDeed : List RK := [.val tDeed (.pair .leaf (.pair .leaf (.pair (.pair .own (.pair .leaf (.pair .leaf .leaf))) (.pair .own (.pair .leaf (.pair .leaf (.pair .leaf (.pair .own (.pair .leaf (.pair .leaf (.pair .leaf .leaf)))))))))))]
def c_laws_toDeed (k : Nat) : Con := ⟨ps_laws_toDeed, rs_laws_toDeed, F_laws_toDeed k⟩
def la_laws_toDeed : Nat → Option Ann := fun _ => none
def ja_laws_toDeed : Nat → Option Ann := fun _ => none
def cs_laws_toDeed (k : Nat) : List (FuncId × Con) := [(38, c_laws_toAlarm k), (32, c_laws_toLabelS k), (65, c_laws_toAlarmS k)]
set_option maxRecDepth 1000000 in
theorem e_laws_toDeed (k : Nat) (x) : evFn2 (mkCx TT (cs_laws_toDeed k) la_laws_toDeed ja_laws_toDeed k) ps_laws_toDeed rs_laws_toDeed Tryz.f159 x = F_laws_toDeed k x := by kernel_rfl
set_option maxRecDepth 1000000 in
theorem m_laws_toDeed (k : Nat) : Meets Tryz.prog 159 (c_laws_toDeed k) := meets_ev TTok mixed (cts := cs_laws_toDeed k) ⟨m_laws_toAlarm k, m_laws_toLabelS k, m_laws_toAlarmS k, trivial⟩ Tryz.func159 (by kernel_rfl) (by kernel_rfl) (e_laws_toDeed k)
abbrev ps_laws_toDeedS : List PK := [.val (.sl tDeed) .shr]
abbrev rs_laws_toDeedS : List RK := [.val (.sl tDeed) .own]
def c_laws_toDeedS (k : Nat) : Con := ⟨ps_laws_toDeedS, rs_laws_toDeedS, F_laws_toDeedS k⟩
def la_laws_toDeedS : Nat → Option Ann := fun | 3 => some ⟨[(0, .val (.sl tDeed) (.sl (.sha [1]))), (3, .val (.sl tDeed) (.sl (.row 3 [3] true))), (4, .val (.int .i64) .leaf)], 4⟩ | _ => none
def ja_laws_toDeedS : Nat → Option Ann := fun _ => none
def cs_laws_toDeedS (k : Nat) : List (FuncId × Con) := [(159, c_laws_toDeed k)]
set_option maxRecDepth 1000000 in
theorem e_laws_toDeedS (k : Nat) (x) : evFn2 (mkCx TT (cs_laws_toDeedS k) la_laws_toDeedS ja_laws_toDeedS k) ps_laws_toDeedS rs_laws_toDeedS Tryz.f70 x = F_laws_toDeedS k x := by kernel_rfl
set_option maxRecDepth 1000000 in
theorem m_laws_toDeedS (k : Nat) : Meets Tryz.prog 70 (c_laws_toDeedS k) := meets_ev TTok mixed (cts := cs_laws_toDeedS k) ⟨m_laws_toDeed k, trivial⟩ Tryz.func70 (by kernel_rfl) (by kernel_rfl) (e_laws_toDeedS k)
abbrev ps_laws_toWorld : List PK := [.val tWorld (.pair (.pair .leaf (.pair .leaf (.pair .leaf (.pair .leaf (.pair .leaf .shr))))) (.pair .leaf (.pair .leaf (.pair .shr (.pair .shr (.pair .shr (.pair .leaf (.pair .shr (.pair .leaf (.pair .shr (.pair .shr (.pair .shr (.pair .shr .shr)))))))))))))]
abbrev rs_laws_toWorld : List RK := [.val tWorld (.pair (.pair .leaf (.pair .leaf (.pair .leaf (.pair .leaf (.pair .leaf .own))))) (.pair .leaf (.pair .leaf (.pair .own (.pair .own (.pair .own (.pair .leaf (.pair .own (.pair .leaf (.pair .own (.pair .own (.pair .own (.pair .own .own)))))))))))))]
def c_laws_toWorld (k : Nat) : Con := ⟨ps_laws_toWorld, rs_laws_toWorld, F_laws_toWorld k⟩
def la_laws_toWorld : Nat → Option Ann := fun _ => none
def ja_laws_toWorld : Nat → Option Ann := fun _ => none
def cs_laws_toWorld (k : Nat) : List (FuncId × Con) := [(62, c_laws_toConf k), (63, c_laws_toPartS k), (64, c_laws_toSubS k), (65, c_laws_toAlarmS k), (66, c_laws_toGroupS k), (67, c_laws_toTimerS k), (68, c_laws_toBatchS k), (69, c_laws_toTaskS k), (70, c_laws_toDeedS k)]
set_option maxRecDepth 1000000 in
theorem e_laws_toWorld (k : Nat) (x) : evFn2 (mkCx TT (cs_laws_toWorld k) la_laws_toWorld ja_laws_toWorld k) ps_laws_toWorld rs_laws_toWorld Tryz.f17 x = F_laws_toWorld k x := by kernel_rfl
set_option maxRecDepth 1000000 in
theorem m_laws_toWorld (k : Nat) : Meets Tryz.prog 17 (c_laws_toWorld k) := meets_ev TTok mixed (cts := cs_laws_toWorld k) ⟨m_laws_toConf k, m_laws_toPartS k, m_laws_toSubS k, m_laws_toAlarmS k, m_laws_toGroupS k, m_laws_toTimerS k, m_laws_toBatchS k, m_laws_toTaskS k, m_laws_toDeedS k, trivial⟩ Tryz.func17 (by kernel_rfl) (by kernel_rfl) (e_laws_toWorld k)
abbrev ps_spec_l1In : List PK := [.val (.int .i64) .leaf, .val (.int .i64) .leaf, .val (.int .i64) .leaf]
abbrev rs_spec_l1In : List RK := [.val .bool .leaf]
def c_spec_l1In (k : Nat) : Con := ⟨ps_spec_l1In, rs_spec_l1In, F_spec_l1In k⟩
def la_spec_l1In : Nat → Option Ann := fun _ => none
def ja_spec_l1In : Nat → Option Ann := fun _ => none
def cs_spec_l1In (k : Nat) : List (FuncId × Con) := []
set_option maxRecDepth 1000000 in
theorem e_spec_l1In (k : Nat) (x) : evFn2 (mkCx TT (cs_spec_l1In k) la_spec_l1In ja_spec_l1In k) ps_spec_l1In rs_spec_l1In Tryz.f82 x = F_spec_l1In k x := by kernel_rfl
set_option maxRecDepth 1000000 in
theorem m_spec_l1In (k : Nat) : Meets Tryz.prog 82 (c_spec_l1In k) := meets_ev TTok mixed (cts := cs_spec_l1In k) trivial Tryz.func82 (by kernel_rfl) (by kernel_rfl) (e_spec_l1In k)
abbrev ps_spec_NameOk : List PK := [.val .str .leaf]
abbrev rs_spec_NameOk : List RK := [.val .bool .leaf]
def c_spec_NameOk (k : Nat) : Con := ⟨ps_spec_NameOk, rs_spec_NameOk, F_spec_NameOk k⟩
def la_spec_NameOk : Nat → Option Ann := fun | 2 => some ⟨[(0, .val .str .leaf), (3, .val (.int .i64) .leaf)], 3⟩ | _ => none
def ja_spec_NameOk : Nat → Option Ann := fun | 6 => some ⟨[(0, .val .str .leaf)], 3⟩ | _ => none
def cs_spec_NameOk (k : Nat) : List (FuncId × Con) := [(82, c_spec_l1In k)]
set_option maxRecDepth 1000000 in
theorem e_spec_NameOk (k : Nat) (x) : evFn2 (mkCx TT (cs_spec_NameOk k) la_spec_NameOk ja_spec_NameOk k) ps_spec_NameOk rs_spec_NameOk Tryz.f276 x = F_spec_NameOk k x := by kernel_rfl
set_option maxRecDepth 1000000 in
theorem m_spec_NameOk (k : Nat) : Meets Tryz.prog 276 (c_spec_NameOk k) := meets_ev TTok mixed (cts := cs_spec_NameOk k) ⟨m_spec_l1In k, trivial⟩ Tryz.func276 (by kernel_rfl) (by kernel_rfl) (e_spec_NameOk k)
abbrev ps_spec_Less : List PK := [.val .str .leaf, .val .str .leaf]
abbrev rs_spec_Less : List RK := [.val .bool .leaf]
def c_spec_Less (k : Nat) : Con := ⟨ps_spec_Less, rs_spec_Less, F_spec_Less k⟩
def la_spec_Less : Nat → Option Ann := fun _ => none
def ja_spec_Less : Nat → Option Ann := fun _ => none
def cs_spec_Less (k : Nat) : List (FuncId × Con) := []
set_option maxRecDepth 1000000 in
theorem e_spec_Less (k : Nat) (x) : evFn2 (mkCx TT (cs_spec_Less k) la_spec_Less ja_spec_Less k) ps_spec_Less rs_spec_Less Tryz.f232 x = F_spec_Less k x := by kernel_rfl
set_option maxRecDepth 1000000 in
theorem m_spec_Less (k : Nat) : Meets Tryz.prog 232 (c_spec_Less k) := meets_ev TTok mixed (cts := cs_spec_Less k) trivial Tryz.func232 (by kernel_rfl) (by kernel_rfl) (e_spec_Less k)
end Vg.Tryz
