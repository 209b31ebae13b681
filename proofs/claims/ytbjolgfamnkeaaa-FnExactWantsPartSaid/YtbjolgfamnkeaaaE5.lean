/- What the functions compute is what the evaluator says; their contracts. -/
import Derived.Test.YtbjolgfamnkeaaaE4
namespace Vg.Try
open Go Vg Go.Proofs
set_option linter.unusedVariables false
abbrev ps_laws_szTimerS : List PK := [.val (.sl tTimer) .shr, .val (.int .i64) .leaf]
abbrev rs_laws_szTimerS : List RK := [.val (.int .i64) .leaf]
def c_laws_szTimerS (k : Nat) : Con := ⟨ps_laws_szTimerS, rs_laws_szTimerS, F_laws_szTimerS k⟩
def la_laws_szTimerS : Nat → Option Ann := fun _ => none
def ja_laws_szTimerS : Nat → Option Ann := fun _ => none
def cs_laws_szTimerS (k : Nat) : List (FuncId × Con) := []
set_option maxRecDepth 1000000 in
theorem e_laws_szTimerS (k : Nat) (x) : evFn2 (mkCx TT (cs_laws_szTimerS k) la_laws_szTimerS ja_laws_szTimerS k) ps_laws_szTimerS rs_laws_szTimerS Try.f64 x = F_laws_szTimerS k x := by kernel_rfl
set_option maxRecDepth 1000000 in
theorem m_laws_szTimerS (k : Nat) : Meets Try.prog 64 (c_laws_szTimerS k) := meets_ev TTok mixed (cts := cs_laws_szTimerS k) trivial Try.func64 (by kernel_rfl) (by kernel_rfl) (e_laws_szTimerS k)
abbrev ps_laws_szBatch : List PK := [.val tBatch (.pair .leaf (.pair .shr (.pair .leaf .shr))), .val (.int .i64) .leaf]
abbrev rs_laws_szBatch : List RK := [.val (.int .i64) .leaf]
def c_laws_szBatch (k : Nat) : Con := ⟨ps_laws_szBatch, rs_laws_szBatch, F_laws_szBatch k⟩
def la_laws_szBatch : Nat → Option Ann := fun _ => none
def ja_laws_szBatch : Nat → Option Ann := fun _ => none
def cs_laws_szBatch (k : Nat) : List (FuncId × Con) := [(28, c_laws_szLabelS k), (30, c_laws_szAlarmS k)]
set_option maxRecDepth 1000000 in
theorem e_laws_szBatch (k : Nat) (x) : evFn2 (mkCx TT (cs_laws_szBatch k) la_laws_szBatch ja_laws_szBatch k) ps_laws_szBatch rs_laws_szBatch Try.f107 x = F_laws_szBatch k x := by kernel_rfl
set_option maxRecDepth 1000000 in
theorem m_laws_szBatch (k : Nat) : Meets Try.prog 107 (c_laws_szBatch k) := meets_ev TTok mixed (cts := cs_laws_szBatch k) ⟨m_laws_szLabelS k, m_laws_szAlarmS k, trivial⟩ Try.func107 (by kernel_rfl) (by kernel_rfl) (e_laws_szBatch k)
abbrev ps_laws_szBatchS : List PK := [.val (.sl tBatch) .shr, .val (.int .i64) .leaf]
abbrev rs_laws_szBatchS : List RK := [.val (.int .i64) .leaf]
def c_laws_szBatchS (k : Nat) : Con := ⟨ps_laws_szBatchS, rs_laws_szBatchS, F_laws_szBatchS k⟩
def la_laws_szBatchS : Nat → Option Ann := fun | 5 => some ⟨[(0, .val (.sl tBatch) (.sl (.sha [1]))), (1, .val (.int .i64) .leaf), (5, .val (.int .i64) .leaf)], 3⟩ | _ => none
def ja_laws_szBatchS : Nat → Option Ann := fun _ => none
def cs_laws_szBatchS (k : Nat) : List (FuncId × Con) := [(107, c_laws_szBatch k)]
set_option maxRecDepth 1000000 in
theorem e_laws_szBatchS (k : Nat) (x) : evFn2 (mkCx TT (cs_laws_szBatchS k) la_laws_szBatchS ja_laws_szBatchS k) ps_laws_szBatchS rs_laws_szBatchS Try.f65 x = F_laws_szBatchS k x := by kernel_rfl
set_option maxRecDepth 1000000 in
theorem m_laws_szBatchS (k : Nat) : Meets Try.prog 65 (c_laws_szBatchS k) := meets_ev TTok mixed (cts := cs_laws_szBatchS k) ⟨m_laws_szBatch k, trivial⟩ Try.func65 (by kernel_rfl) (by kernel_rfl) (e_laws_szBatchS k)
abbrev ps_laws_szTaskS : List PK := [.val (.sl tTask) .shr, .val (.int .i64) .leaf]
abbrev rs_laws_szTaskS : List RK := [.val (.int .i64) .leaf]
def c_laws_szTaskS (k : Nat) : Con := ⟨ps_laws_szTaskS, rs_laws_szTaskS, F_laws_szTaskS k⟩
def la_laws_szTaskS : Nat → Option Ann := fun | 5 => some ⟨[(0, .val (.sl tTask) (.sl (.sha [1]))), (1, .val (.int .i64) .leaf), (5, .val (.int .i64) .leaf)], 3⟩ | _ => none
def ja_laws_szTaskS : Nat → Option Ann := fun _ => none
def cs_laws_szTaskS (k : Nat) : List (FuncId × Con) := [(8, c_laws_szTask k)]
set_option maxRecDepth 1000000 in
theorem e_laws_szTaskS (k : Nat) (x) : evFn2 (mkCx TT (cs_laws_szTaskS k) la_laws_szTaskS ja_laws_szTaskS k) ps_laws_szTaskS rs_laws_szTaskS Try.f66 x = F_laws_szTaskS k x := by kernel_rfl
set_option maxRecDepth 1000000 in
theorem m_laws_szTaskS (k : Nat) : Meets Try.prog 66 (c_laws_szTaskS k) := meets_ev TTok mixed (cts := cs_laws_szTaskS k) ⟨m_laws_szTask k, trivial⟩ Try.func66 (by kernel_rfl) (by kernel_rfl) (e_laws_szTaskS k)
abbrev ps_laws_szDeed : List PK := [.val tDeed (.pair .leaf (.pair .leaf (.pair (.pair .shr (.pair .leaf (.pair .leaf .leaf))) (.pair .shr (.pair .leaf (.pair .leaf (.pair .leaf (.pair .shr (.pair .leaf (.pair .leaf (.pair .leaf .leaf))))))))))), .val (.int .i64) .leaf]
abbrev rs_laws_szDeed : List RK := [.val (.int .i64) .leaf]
def c_laws_szDeed (k : Nat) : Con := ⟨ps_laws_szDeed, rs_laws_szDeed, F_laws_szDeed k⟩
def la_laws_szDeed : Nat → Option Ann := fun _ => none
def ja_laws_szDeed : Nat → Option Ann := fun _ => none
def cs_laws_szDeed (k : Nat) : List (FuncId × Con) := [(27, c_laws_szAlarm k), (28, c_laws_szLabelS k), (30, c_laws_szAlarmS k)]
set_option maxRecDepth 1000000 in
theorem e_laws_szDeed (k : Nat) (x) : evFn2 (mkCx TT (cs_laws_szDeed k) la_laws_szDeed ja_laws_szDeed k) ps_laws_szDeed rs_laws_szDeed Try.f108 x = F_laws_szDeed k x := by kernel_rfl
set_option maxRecDepth 1000000 in
theorem m_laws_szDeed (k : Nat) : Meets Try.prog 108 (c_laws_szDeed k) := meets_ev TTok mixed (cts := cs_laws_szDeed k) ⟨m_laws_szAlarm k, m_laws_szLabelS k, m_laws_szAlarmS k, trivial⟩ Try.func108 (by kernel_rfl) (by kernel_rfl) (e_laws_szDeed k)
abbrev ps_laws_szDeedS : List PK := [.val (.sl tDeed) .shr, .val (.int .i64) .leaf]
abbrev rs_laws_szDeedS : List RK := [.val (.int .i64) .leaf]
def c_laws_szDeedS (k : Nat) : Con := ⟨ps_laws_szDeedS, rs_laws_szDeedS, F_laws_szDeedS k⟩
def la_laws_szDeedS : Nat → Option Ann := fun | 5 => some ⟨[(0, .val (.sl tDeed) (.sl (.sha [1]))), (1, .val (.int .i64) .leaf), (5, .val (.int .i64) .leaf)], 3⟩ | _ => none
def ja_laws_szDeedS : Nat → Option Ann := fun _ => none
def cs_laws_szDeedS (k : Nat) : List (FuncId × Con) := [(108, c_laws_szDeed k)]
set_option maxRecDepth 1000000 in
theorem e_laws_szDeedS (k : Nat) (x) : evFn2 (mkCx TT (cs_laws_szDeedS k) la_laws_szDeedS ja_laws_szDeedS k) ps_laws_szDeedS rs_laws_szDeedS Try.f67 x = F_laws_szDeedS k x := by kernel_rfl
set_option maxRecDepth 1000000 in
theorem m_laws_szDeedS (k : Nat) : Meets Try.prog 67 (c_laws_szDeedS k) := meets_ev TTok mixed (cts := cs_laws_szDeedS k) ⟨m_laws_szDeed k, trivial⟩ Try.func67 (by kernel_rfl) (by kernel_rfl) (e_laws_szDeedS k)
abbrev ps_laws_szWorld : List PK := [.val tWorld (.pair (.pair .leaf (.pair .leaf (.pair .leaf (.pair .leaf (.pair .leaf .shr))))) (.pair .leaf (.pair .leaf (.pair .shr (.pair .shr (.pair .shr (.pair .leaf (.pair .shr (.pair .leaf (.pair .shr (.pair .shr (.pair .shr (.pair .shr .shr))))))))))))), .val (.int .i64) .leaf]
abbrev rs_laws_szWorld : List RK := [.val (.int .i64) .leaf]
def c_laws_szWorld (k : Nat) : Con := ⟨ps_laws_szWorld, rs_laws_szWorld, F_laws_szWorld k⟩
def la_laws_szWorld : Nat → Option Ann := fun _ => none
def ja_laws_szWorld : Nat → Option Ann := fun _ => none
def cs_laws_szWorld (k : Nat) : List (FuncId × Con) := [(42, c_laws_szConf k), (63, c_laws_szPartS k), (43, c_laws_szSubS k), (30, c_laws_szAlarmS k), (44, c_laws_szGroupS k), (64, c_laws_szTimerS k), (65, c_laws_szBatchS k), (66, c_laws_szTaskS k), (67, c_laws_szDeedS k)]
set_option maxRecDepth 1000000 in
theorem e_laws_szWorld (k : Nat) (x) : evFn2 (mkCx TT (cs_laws_szWorld k) la_laws_szWorld ja_laws_szWorld k) ps_laws_szWorld rs_laws_szWorld Try.f18 x = F_laws_szWorld k x := by kernel_rfl
set_option maxRecDepth 1000000 in
theorem m_laws_szWorld (k : Nat) : Meets Try.prog 18 (c_laws_szWorld k) := meets_ev TTok mixed (cts := cs_laws_szWorld k) ⟨m_laws_szConf k, m_laws_szPartS k, m_laws_szSubS k, m_laws_szAlarmS k, m_laws_szGroupS k, m_laws_szTimerS k, m_laws_szBatchS k, m_laws_szTaskS k, m_laws_szDeedS k, trivial⟩ Try.func18 (by kernel_rfl) (by kernel_rfl) (e_laws_szWorld k)
abbrev ps_laws_toChain : List PK := [.val tChain (.pair .leaf .shr)]
abbrev rs_laws_toChain : List RK := [.val tChain (.pair .leaf .own)]
def c_laws_toChain (k : Nat) : Con := ⟨ps_laws_toChain, rs_laws_toChain, F_laws_toChain k⟩
def la_laws_toChain : Nat → Option Ann := fun _ => none
def ja_laws_toChain : Nat → Option Ann := fun _ => none
def cs_laws_toChain (k : Nat) : List (FuncId × Con) := [(36, c_laws_toAlarmS k)]
set_option maxRecDepth 1000000 in
theorem e_laws_toChain (k : Nat) (x) : evFn2 (mkCx TT (cs_laws_toChain k) la_laws_toChain ja_laws_toChain k) ps_laws_toChain rs_laws_toChain Try.f139 x = F_laws_toChain k x := by kernel_rfl
set_option maxRecDepth 1000000 in
theorem m_laws_toChain (k : Nat) : Meets Try.prog 139 (c_laws_toChain k) := meets_ev TTok mixed (cts := cs_laws_toChain k) ⟨m_laws_toAlarmS k, trivial⟩ Try.func139 (by kernel_rfl) (by kernel_rfl) (e_laws_toChain k)
abbrev ps_laws_toChainS : List PK := [.val (.sl tChain) .shr]
abbrev rs_laws_toChainS : List RK := [.val (.sl tChain) .own]
def c_laws_toChainS (k : Nat) : Con := ⟨ps_laws_toChainS, rs_laws_toChainS, F_laws_toChainS k⟩
def la_laws_toChainS : Nat → Option Ann := fun | 3 => some ⟨[(0, .val (.sl tChain) (.sl (.sha [1]))), (3, .val (.sl tChain) (.sl (.row 3 [3] true))), (4, .val (.int .i64) .leaf)], 4⟩ | _ => none
def ja_laws_toChainS : Nat → Option Ann := fun _ => none
def cs_laws_toChainS (k : Nat) : List (FuncId × Con) := [(139, c_laws_toChain k)]
set_option maxRecDepth 1000000 in
theorem e_laws_toChainS (k : Nat) (x) : evFn2 (mkCx TT (cs_laws_toChainS k) la_laws_toChainS ja_laws_toChainS k) ps_laws_toChainS rs_laws_toChainS Try.f131 x = F_laws_toChainS k x := by kernel_rfl
set_option maxRecDepth 1000000 in
theorem m_laws_toChainS (k : Nat) : Meets Try.prog 131 (c_laws_toChainS k) := meets_ev TTok mixed (cts := cs_laws_toChainS k) ⟨m_laws_toChain k, trivial⟩ Try.func131 (by kernel_rfl) (by kernel_rfl) (e_laws_toChainS k)
abbrev ps_laws_toPart : List PK := [.val tPart (.pair .leaf (.pair .leaf .shr))]
abbrev rs_laws_toPart : List RK := [.val tPart (.pair .leaf (.pair .leaf .own))]
def c_laws_toPart (k : Nat) : Con := ⟨ps_laws_toPart, rs_laws_toPart, F_laws_toPart k⟩
def la_laws_toPart : Nat → Option Ann := fun _ => none
def ja_laws_toPart : Nat → Option Ann := fun _ => none
def cs_laws_toPart (k : Nat) : List (FuncId × Con) := [(131, c_laws_toChainS k)]
set_option maxRecDepth 1000000 in
theorem e_laws_toPart (k : Nat) (x) : evFn2 (mkCx TT (cs_laws_toPart k) la_laws_toPart ja_laws_toPart k) ps_laws_toPart rs_laws_toPart Try.f109 x = F_laws_toPart k x := by kernel_rfl
set_option maxRecDepth 1000000 in
theorem m_laws_toPart (k : Nat) : Meets Try.prog 109 (c_laws_toPart k) := meets_ev TTok mixed (cts := cs_laws_toPart k) ⟨m_laws_toChainS k, trivial⟩ Try.func109 (by kernel_rfl) (by kernel_rfl) (e_laws_toPart k)
abbrev ps_laws_toPartS : List PK := [.val (.sl tPart) .shr]
abbrev rs_laws_toPartS : List RK := [.val (.sl tPart) .own]
def c_laws_toPartS (k : Nat) : Con := ⟨ps_laws_toPartS, rs_laws_toPartS, F_laws_toPartS k⟩
def la_laws_toPartS : Nat → Option Ann := fun | 3 => some ⟨[(0, .val (.sl tPart) (.sl (.sha [1]))), (3, .val (.sl tPart) (.sl (.row 3 [3] true))), (4, .val (.int .i64) .leaf)], 4⟩ | _ => none
def ja_laws_toPartS : Nat → Option Ann := fun _ => none
def cs_laws_toPartS (k : Nat) : List (FuncId × Con) := [(109, c_laws_toPart k)]
set_option maxRecDepth 1000000 in
theorem e_laws_toPartS (k : Nat) (x) : evFn2 (mkCx TT (cs_laws_toPartS k) la_laws_toPartS ja_laws_toPartS k) ps_laws_toPartS rs_laws_toPartS Try.f68 x = F_laws_toPartS k x := by kernel_rfl
set_option maxRecDepth 1000000 in
theorem m_laws_toPartS (k : Nat) : Meets Try.prog 68 (c_laws_toPartS k) := meets_ev TTok mixed (cts := cs_laws_toPartS k) ⟨m_laws_toPart k, trivial⟩ Try.func68 (by kernel_rfl) (by kernel_rfl) (e_laws_toPartS k)
abbrev ps_laws_toTimer : List PK := [.val tTimer (.pair .leaf .leaf)]
abbrev rs_laws_toTimer : List RK := [.val tTimer (.pair .leaf .leaf)]
def c_laws_toTimer (k : Nat) : Con := ⟨ps_laws_toTimer, rs_laws_toTimer, F_laws_toTimer k⟩
def la_laws_toTimer : Nat → Option Ann := fun _ => none
def ja_laws_toTimer : Nat → Option Ann := fun _ => none
def cs_laws_toTimer (k : Nat) : List (FuncId × Con) := []
set_option maxRecDepth 1000000 in
theorem e_laws_toTimer (k : Nat) (x) : evFn2 (mkCx TT (cs_laws_toTimer k) la_laws_toTimer ja_laws_toTimer k) ps_laws_toTimer rs_laws_toTimer Try.f110 x = F_laws_toTimer k x := by kernel_rfl
set_option maxRecDepth 1000000 in
theorem m_laws_toTimer (k : Nat) : Meets Try.prog 110 (c_laws_toTimer k) := meets_ev TTok mixed (cts := cs_laws_toTimer k) trivial Try.func110 (by kernel_rfl) (by kernel_rfl) (e_laws_toTimer k)
abbrev ps_laws_toTimerS : List PK := [.val (.sl tTimer) .shr]
abbrev rs_laws_toTimerS : List RK := [.val (.sl tTimer) .own]
def c_laws_toTimerS (k : Nat) : Con := ⟨ps_laws_toTimerS, rs_laws_toTimerS, F_laws_toTimerS k⟩
def la_laws_toTimerS : Nat → Option Ann := fun | 3 => some ⟨[(0, .val (.sl tTimer) (.sl (.sha [1]))), (3, .val (.sl tTimer) (.sl (.row 3 [3] true))), (4, .val (.int .i64) .leaf)], 4⟩ | _ => none
def ja_laws_toTimerS : Nat → Option Ann := fun _ => none
def cs_laws_toTimerS (k : Nat) : List (FuncId × Con) := [(110, c_laws_toTimer k)]
set_option maxRecDepth 1000000 in
theorem e_laws_toTimerS (k : Nat) (x) : evFn2 (mkCx TT (cs_laws_toTimerS k) la_laws_toTimerS ja_laws_toTimerS k) ps_laws_toTimerS rs_laws_toTimerS Try.f69 x = F_laws_toTimerS k x := by kernel_rfl
set_option maxRecDepth 1000000 in
theorem m_laws_toTimerS (k : Nat) : Meets Try.prog 69 (c_laws_toTimerS k) := meets_ev TTok mixed (cts := cs_laws_toTimerS k) ⟨m_laws_toTimer k, trivial⟩ Try.func69 (by kernel_rfl) (by kernel_rfl) (e_laws_toTimerS k)
abbrev ps_laws_toBatch : List PK := [.val tBatch (.pair .leaf (.pair .shr (.pair .leaf .shr)))]
abbrev rs_laws_toBatch : List RK := [.val tBatch (.pair .leaf (.pair .own (.pair .leaf .own)))]
def c_laws_toBatch (k : Nat) : Con := ⟨ps_laws_toBatch, rs_laws_toBatch, F_laws_toBatch k⟩
def la_laws_toBatch : Nat → Option Ann := fun _ => none
def ja_laws_toBatch : Nat → Option Ann := fun _ => none
def cs_laws_toBatch (k : Nat) : List (FuncId × Con) := [(34, c_laws_toLabelS k), (36, c_laws_toAlarmS k)]
set_option maxRecDepth 1000000 in
theorem e_laws_toBatch (k : Nat) (x) : evFn2 (mkCx TT (cs_laws_toBatch k) la_laws_toBatch ja_laws_toBatch k) ps_laws_toBatch rs_laws_toBatch Try.f111 x = F_laws_toBatch k x := by kernel_rfl
set_option maxRecDepth 1000000 in
theorem m_laws_toBatch (k : Nat) : Meets Try.prog 111 (c_laws_toBatch k) := meets_ev TTok mixed (cts := cs_laws_toBatch k) ⟨m_laws_toLabelS k, m_laws_toAlarmS k, trivial⟩ Try.func111 (by kernel_rfl) (by kernel_rfl) (e_laws_toBatch k)
abbrev ps_laws_toBatchS : List PK := [.val (.sl tBatch) .shr]
abbrev rs_laws_toBatchS : List RK := [.val (.sl tBatch) .own]
def c_laws_toBatchS (k : Nat) : Con := ⟨ps_laws_toBatchS, rs_laws_toBatchS, F_laws_toBatchS k⟩
def la_laws_toBatchS : Nat → Option Ann := fun | 3 => some ⟨[(0, .val (.sl tBatch) (.sl (.sha [1]))), (3, .val (.sl tBatch) (.sl (.row 3 [3] true))), (4, .val (.int .i64) .leaf)], 4⟩ | _ => none
def ja_laws_toBatchS : Nat → Option Ann := fun _ => none
def cs_laws_toBatchS (k : Nat) : List (FuncId × Con) := [(111, c_laws_toBatch k)]
set_option maxRecDepth 1000000 in
theorem e_laws_toBatchS (k : Nat) (x) : evFn2 (mkCx TT (cs_laws_toBatchS k) la_laws_toBatchS ja_laws_toBatchS k) ps_laws_toBatchS rs_laws_toBatchS Try.f70 x = F_laws_toBatchS k x := by kernel_rfl
set_option maxRecDepth 1000000 in
theorem m_laws_toBatchS (k : Nat) : Meets Try.prog 70 (c_laws_toBatchS k) := meets_ev TTok mixed (cts := cs_laws_toBatchS k) ⟨m_laws_toBatch k, trivial⟩ Try.func70 (by kernel_rfl) (by kernel_rfl) (e_laws_toBatchS k)
abbrev ps_laws_toTaskS : List PK := [.val (.sl tTask) .shr]
abbrev rs_laws_toTaskS : List RK := [.val (.sl tTask) .own]
def c_laws_toTaskS (k : Nat) : Con := ⟨ps_laws_toTaskS, rs_laws_toTaskS, F_laws_toTaskS k⟩
def la_laws_toTaskS : Nat → Option Ann := fun | 3 => some ⟨[(0, .val (.sl tTask) (.sl (.sha [1]))), (3, .val (.sl tTask) (.sl (.row 3 [3] true))), (4, .val (.int .i64) .leaf)], 4⟩ | _ => none
def ja_laws_toTaskS : Nat → Option Ann := fun _ => none
def cs_laws_toTaskS (k : Nat) : List (FuncId × Con) := [(10, c_laws_toTask k)]
set_option maxRecDepth 1000000 in
theorem e_laws_toTaskS (k : Nat) (x) : evFn2 (mkCx TT (cs_laws_toTaskS k) la_laws_toTaskS ja_laws_toTaskS k) ps_laws_toTaskS rs_laws_toTaskS Try.f71 x = F_laws_toTaskS k x := by kernel_rfl
set_option maxRecDepth 1000000 in
theorem m_laws_toTaskS (k : Nat) : Meets Try.prog 71 (c_laws_toTaskS k) := meets_ev TTok mixed (cts := cs_laws_toTaskS k) ⟨m_laws_toTask k, trivial⟩ Try.func71 (by kernel_rfl) (by kernel_rfl) (e_laws_toTaskS k)
abbrev ps_laws_toDeed : List PK := [.val tDeed (.pair .leaf (.pair .leaf (.pair (.pair .shr (.pair .leaf (.pair .leaf .leaf))) (.pair .shr (.pair .leaf (.pair .leaf (.pair .leaf (.pair .shr (.pair .leaf (.pair .leaf (.pair .leaf .leaf)))))))))))]
abbrev rs_laws_toDeed : List RK := [.val tDeed (.pair .leaf (.pair .leaf (.pair (.pair .own (.pair .leaf (.pair .leaf .leaf))) (.pair .own (.pair .leaf (.pair .leaf (.pair .leaf (.pair .own (.pair .leaf (.pair .leaf (.pair .leaf .leaf)))))))))))]
def c_laws_toDeed (k : Nat) : Con := ⟨ps_laws_toDeed, rs_laws_toDeed, F_laws_toDeed k⟩
def la_laws_toDeed : Nat → Option Ann := fun _ => none
def ja_laws_toDeed : Nat → Option Ann := fun _ => none
def cs_laws_toDeed (k : Nat) : List (FuncId × Con) := [(33, c_laws_toAlarm k), (34, c_laws_toLabelS k), (36, c_laws_toAlarmS k)]
set_option maxRecDepth 1000000 in
theorem e_laws_toDeed (k : Nat) (x) : evFn2 (mkCx TT (cs_laws_toDeed k) la_laws_toDeed ja_laws_toDeed k) ps_laws_toDeed rs_laws_toDeed Try.f112 x = F_laws_toDeed k x := by kernel_rfl
set_option maxRecDepth 1000000 in
theorem m_laws_toDeed (k : Nat) : Meets Try.prog 112 (c_laws_toDeed k) := meets_ev TTok mixed (cts := cs_laws_toDeed k) ⟨m_laws_toAlarm k, m_laws_toLabelS k, m_laws_toAlarmS k, trivial⟩ Try.func112 (by kernel_rfl) (by kernel_rfl) (e_laws_toDeed k)
abbrev ps_laws_toDeedS : List PK := [.val (.sl tDeed) .shr]
abbrev rs_laws_toDeedS : List RK := [.val (.sl tDeed) .own]
def c_laws_toDeedS (k : Nat) : Con := ⟨ps_laws_toDeedS, rs_laws_toDeedS, F_laws_toDeedS k⟩
def la_laws_toDeedS : Nat → Option Ann := fun | 3 => some ⟨[(0, .val (.sl tDeed) (.sl (.sha [1]))), (3, .val (.sl tDeed) (.sl (.row 3 [3] true))), (4, .val (.int .i64) .leaf)], 4⟩ | _ => none
def ja_laws_toDeedS : Nat → Option Ann := fun _ => none
def cs_laws_toDeedS (k : Nat) : List (FuncId × Con) := [(112, c_laws_toDeed k)]
set_option maxRecDepth 1000000 in
theorem e_laws_toDeedS (k : Nat) (x) : evFn2 (mkCx TT (cs_laws_toDeedS k) la_laws_toDeedS ja_laws_toDeedS k) ps_laws_toDeedS rs_laws_toDeedS Try.f72 x = F_laws_toDeedS k x := by kernel_rfl
set_option maxRecDepth 1000000 in
theorem m_laws_toDeedS (k : Nat) : Meets Try.prog 72 (c_laws_toDeedS k) := meets_ev TTok mixed (cts := cs_laws_toDeedS k) ⟨m_laws_toDeed k, trivial⟩ Try.func72 (by kernel_rfl) (by kernel_rfl) (e_laws_toDeedS k)
abbrev ps_laws_toWorld : List PK := [.val tWorld (.pair (.pair .leaf (.pair .leaf (.pair .leaf (.pair .leaf (.pair .leaf .shr))))) (.pair .leaf (.pair .leaf (.pair .shr (.pair .shr (.pair .shr (.pair .leaf (.pair .shr (.pair .leaf (.pair .shr (.pair .shr (.pair .shr (.pair .shr .shr)))))))))))))]
abbrev rs_laws_toWorld : List RK := [.val tWorld (.pair (.pair .leaf (.pair .leaf (.pair .leaf (.pair .leaf (.pair .leaf .own))))) (.pair .leaf (.pair .leaf (.pair .own (.pair .own (.pair .own (.pair .leaf (.pair .own (.pair .leaf (.pair .own (.pair .own (.pair .own (.pair .own .own)))))))))))))]
def c_laws_toWorld (k : Nat) : Con := ⟨ps_laws_toWorld, rs_laws_toWorld, F_laws_toWorld k⟩
def la_laws_toWorld : Nat → Option Ann := fun _ => none
def ja_laws_toWorld : Nat → Option Ann := fun _ => none
def cs_laws_toWorld (k : Nat) : List (FuncId × Con) := [(51, c_laws_toConf k), (68, c_laws_toPartS k), (52, c_laws_toSubS k), (36, c_laws_toAlarmS k), (53, c_laws_toGroupS k), (69, c_laws_toTimerS k), (70, c_laws_toBatchS k), (71, c_laws_toTaskS k), (72, c_laws_toDeedS k)]
set_option maxRecDepth 1000000 in
theorem e_laws_toWorld (k : Nat) (x) : evFn2 (mkCx TT (cs_laws_toWorld k) la_laws_toWorld ja_laws_toWorld k) ps_laws_toWorld rs_laws_toWorld Try.f20 x = F_laws_toWorld k x := by kernel_rfl
set_option maxRecDepth 1000000 in
theorem m_laws_toWorld (k : Nat) : Meets Try.prog 20 (c_laws_toWorld k) := meets_ev TTok mixed (cts := cs_laws_toWorld k) ⟨m_laws_toConf k, m_laws_toPartS k, m_laws_toSubS k, m_laws_toAlarmS k, m_laws_toGroupS k, m_laws_toTimerS k, m_laws_toBatchS k, m_laws_toTaskS k, m_laws_toDeedS k, trivial⟩ Try.func20 (by kernel_rfl) (by kernel_rfl) (e_laws_toWorld k)
abbrev ps_spec_Ripe : List PK := [.val tWorld (.pair (.pair .leaf (.pair .leaf (.pair .leaf (.pair .leaf (.pair .leaf .shr))))) (.pair .leaf (.pair .leaf (.pair .shr (.pair .shr (.pair .shr (.pair .leaf (.pair .shr (.pair .leaf (.pair .shr (.pair .shr (.pair .shr (.pair .shr .shr)))))))))))))]
abbrev rs_spec_Ripe : List RK := [.val .bool .leaf]
def c_spec_Ripe (k : Nat) : Con := ⟨ps_spec_Ripe, rs_spec_Ripe, F_spec_Ripe k⟩
def la_spec_Ripe : Nat → Option Ann := fun _ => none
def ja_spec_Ripe : Nat → Option Ann := fun _ => none
def cs_spec_Ripe (k : Nat) : List (FuncId × Con) := []
set_option maxRecDepth 1000000 in
theorem e_spec_Ripe (k : Nat) (x) : evFn2 (mkCx TT (cs_spec_Ripe k) la_spec_Ripe ja_spec_Ripe k) ps_spec_Ripe rs_spec_Ripe Try.f19 x = F_spec_Ripe k x := by kernel_rfl
set_option maxRecDepth 1000000 in
theorem m_spec_Ripe (k : Nat) : Meets Try.prog 19 (c_spec_Ripe k) := meets_ev TTok mixed (cts := cs_spec_Ripe k) trivial Try.func19 (by kernel_rfl) (by kernel_rfl) (e_spec_Ripe k)
abbrev ps_impl_Ripe : List PK := [.val tWorld (.pair (.pair .leaf (.pair .leaf (.pair .leaf (.pair .leaf (.pair .leaf .shr))))) (.pair .leaf (.pair .leaf (.pair .shr (.pair .shr (.pair .shr (.pair .leaf (.pair .shr (.pair .leaf (.pair .shr (.pair .shr (.pair .shr (.pair .shr .shr)))))))))))))]
abbrev rs_impl_Ripe : List RK := [.val .bool .leaf]
def c_impl_Ripe (k : Nat) : Con := ⟨ps_impl_Ripe, rs_impl_Ripe, F_impl_Ripe k⟩
def la_impl_Ripe : Nat → Option Ann := fun _ => none
def ja_impl_Ripe : Nat → Option Ann := fun _ => none
def cs_impl_Ripe (k : Nat) : List (FuncId × Con) := []
set_option maxRecDepth 1000000 in
theorem e_impl_Ripe (k : Nat) (x) : evFn2 (mkCx TT (cs_impl_Ripe k) la_impl_Ripe ja_impl_Ripe k) ps_impl_Ripe rs_impl_Ripe Try.f21 x = F_impl_Ripe k x := by kernel_rfl
set_option maxRecDepth 1000000 in
theorem m_impl_Ripe (k : Nat) : Meets Try.prog 21 (c_impl_Ripe k) := meets_ev TTok mixed (cts := cs_impl_Ripe k) trivial Try.func21 (by kernel_rfl) (by kernel_rfl) (e_impl_Ripe k)
abbrev ps_laws_eqChain : List PK := [.val tChain (.pair .leaf .shr), .val tChain (.pair .leaf .shr)]
abbrev rs_laws_eqChain : List RK := [.val .bool .leaf]
def c_laws_eqChain (k : Nat) : Con := ⟨ps_laws_eqChain, rs_laws_eqChain, F_laws_eqChain k⟩
def la_laws_eqChain : Nat → Option Ann := fun _ => none
def ja_laws_eqChain : Nat → Option Ann := fun _ => none
def cs_laws_eqChain (k : Nat) : List (FuncId × Con) := [(41, c_laws_eqAlarmS k)]
set_option maxRecDepth 1000000 in
theorem e_laws_eqChain (k : Nat) (x) : evFn2 (mkCx TT (cs_laws_eqChain k) la_laws_eqChain ja_laws_eqChain k) ps_laws_eqChain rs_laws_eqChain Try.f140 x = F_laws_eqChain k x := by kernel_rfl
set_option maxRecDepth 1000000 in
theorem m_laws_eqChain (k : Nat) : Meets Try.prog 140 (c_laws_eqChain k) := meets_ev TTok mixed (cts := cs_laws_eqChain k) ⟨m_laws_eqAlarmS k, trivial⟩ Try.func140 (by kernel_rfl) (by kernel_rfl) (e_laws_eqChain k)
abbrev ps_laws_eqChainS : List PK := [.val (.sl tChain) .shr, .val (.sl tChain) .shr]
abbrev rs_laws_eqChainS : List RK := [.val .bool .leaf]
def c_laws_eqChainS (k : Nat) : Con := ⟨ps_laws_eqChainS, rs_laws_eqChainS, F_laws_eqChainS k⟩
def la_laws_eqChainS : Nat → Option Ann := fun | 4 => some ⟨[(0, .val (.sl tChain) (.sl (.sha [1]))), (1, .val (.sl tChain) (.sl (.sha [1]))), (5, .val (.int .i64) .leaf)], 3⟩ | _ => none
def ja_laws_eqChainS : Nat → Option Ann := fun _ => none
def cs_laws_eqChainS (k : Nat) : List (FuncId × Con) := [(140, c_laws_eqChain k)]
set_option maxRecDepth 1000000 in
theorem e_laws_eqChainS (k : Nat) (x) : evFn2 (mkCx TT (cs_laws_eqChainS k) la_laws_eqChainS ja_laws_eqChainS k) ps_laws_eqChainS rs_laws_eqChainS Try.f132 x = F_laws_eqChainS k x := by kernel_rfl
set_option maxRecDepth 1000000 in
theorem m_laws_eqChainS (k : Nat) : Meets Try.prog 132 (c_laws_eqChainS k) := meets_ev TTok mixed (cts := cs_laws_eqChainS k) ⟨m_laws_eqChain k, trivial⟩ Try.func132 (by kernel_rfl) (by kernel_rfl) (e_laws_eqChainS k)
abbrev ps_laws_eqPart : List PK := [.val tPart (.pair .leaf (.pair .leaf .shr)), .val tPart (.pair .leaf (.pair .leaf .shr))]
abbrev rs_laws_eqPart : List RK := [.val .bool .leaf]
def c_laws_eqPart (k : Nat) : Con := ⟨ps_laws_eqPart, rs_laws_eqPart, F_laws_eqPart k⟩
def la_laws_eqPart : Nat → Option Ann := fun _ => none
def ja_laws_eqPart : Nat → Option Ann := fun _ => none
def cs_laws_eqPart (k : Nat) : List (FuncId × Con) := [(132, c_laws_eqChainS k)]
set_option maxRecDepth 1000000 in
theorem e_laws_eqPart (k : Nat) (x) : evFn2 (mkCx TT (cs_laws_eqPart k) la_laws_eqPart ja_laws_eqPart k) ps_laws_eqPart rs_laws_eqPart Try.f113 x = F_laws_eqPart k x := by kernel_rfl
set_option maxRecDepth 1000000 in
theorem m_laws_eqPart (k : Nat) : Meets Try.prog 113 (c_laws_eqPart k) := meets_ev TTok mixed (cts := cs_laws_eqPart k) ⟨m_laws_eqChainS k, trivial⟩ Try.func113 (by kernel_rfl) (by kernel_rfl) (e_laws_eqPart k)
abbrev ps_laws_eqPartS : List PK := [.val (.sl tPart) .shr, .val (.sl tPart) .shr]
abbrev rs_laws_eqPartS : List RK := [.val .bool .leaf]
def c_laws_eqPartS (k : Nat) : Con := ⟨ps_laws_eqPartS, rs_laws_eqPartS, F_laws_eqPartS k⟩
def la_laws_eqPartS : Nat → Option Ann := fun | 4 => some ⟨[(0, .val (.sl tPart) (.sl (.sha [1]))), (1, .val (.sl tPart) (.sl (.sha [1]))), (5, .val (.int .i64) .leaf)], 3⟩ | _ => none
def ja_laws_eqPartS : Nat → Option Ann := fun _ => none
def cs_laws_eqPartS (k : Nat) : List (FuncId × Con) := [(113, c_laws_eqPart k)]
set_option maxRecDepth 1000000 in
theorem e_laws_eqPartS (k : Nat) (x) : evFn2 (mkCx TT (cs_laws_eqPartS k) la_laws_eqPartS ja_laws_eqPartS k) ps_laws_eqPartS rs_laws_eqPartS Try.f73 x = F_laws_eqPartS k x := by kernel_rfl
set_option maxRecDepth 1000000 in
theorem m_laws_eqPartS (k : Nat) : Meets Try.prog 73 (c_laws_eqPartS k) := meets_ev TTok mixed (cts := cs_laws_eqPartS k) ⟨m_laws_eqPart k, trivial⟩ Try.func73 (by kernel_rfl) (by kernel_rfl) (e_laws_eqPartS k)
end Vg.Try
