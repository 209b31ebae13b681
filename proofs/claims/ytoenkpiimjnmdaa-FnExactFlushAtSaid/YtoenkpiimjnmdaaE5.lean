/- What the functions compute is what the evaluator says; their contracts. -/
import Derived.Test.YtoenkpiimjnmdaaE4
namespace Vg.Try
open Go Vg Go.Proofs
set_option linter.unusedVariables false
abbrev ps_laws_eqWorld : List PK := [.val tWorld (.pair (.pair .leaf (.pair .leaf (.pair .leaf (.pair .leaf (.pair .leaf .shr))))) (.pair .leaf (.pair .leaf (.pair .shr (.pair .shr (.pair .shr (.pair .leaf (.pair .shr (.pair .leaf (.pair .shr (.pair .shr (.pair .shr (.pair .shr .shr))))))))))))), .val tWorld (.pair (.pair .leaf (.pair .leaf (.pair .leaf (.pair .leaf (.pair .leaf .shr))))) (.pair .leaf (.pair .leaf (.pair .shr (.pair .shr (.pair .shr (.pair .leaf (.pair .shr (.pair .leaf (.pair .shr (.pair .shr (.pair .shr (.pair .shr .shr)))))))))))))]
abbrev rs_laws_eqWorld : List RK := [.val .bool .leaf]
def c_laws_eqWorld (k : Nat) : Con := ⟨ps_laws_eqWorld, rs_laws_eqWorld, F_laws_eqWorld k⟩
def la_laws_eqWorld : Nat → Option Ann := fun _ => none
def ja_laws_eqWorld : Nat → Option Ann := fun _ => none
def cs_laws_eqWorld (k : Nat) : List (FuncId × Con) := [(29, c_laws_eqConf k), (74, c_laws_eqPartS k), (66, c_laws_eqSubS k), (51, c_laws_eqAlarmS k), (21, c_laws_eqGroupS k), (75, c_laws_eqTimerS k), (76, c_laws_eqBatchS k), (77, c_laws_eqTaskS k), (78, c_laws_eqDeedS k)]
set_option maxRecDepth 1000000 in
theorem e_laws_eqWorld (k : Nat) (x) : evFn2 (mkCx TT (cs_laws_eqWorld k) la_laws_eqWorld ja_laws_eqWorld k) ps_laws_eqWorld rs_laws_eqWorld Try.f35 x = F_laws_eqWorld k x := by kernel_rfl
set_option maxRecDepth 1000000 in
theorem m_laws_eqWorld (k : Nat) : Meets Try.prog 35 (c_laws_eqWorld k) := meets_ev TTok mixed (cts := cs_laws_eqWorld k) ⟨m_laws_eqConf k, m_laws_eqPartS k, m_laws_eqSubS k, m_laws_eqAlarmS k, m_laws_eqGroupS k, m_laws_eqTimerS k, m_laws_eqBatchS k, m_laws_eqTaskS k, m_laws_eqDeedS k, trivial⟩ Try.func35 (by kernel_rfl) (by kernel_rfl) (e_laws_eqWorld k)
def c_laws_markChainS (k : Nat) : MCon := ⟨(.sl tChain), F_laws_markChainS k⟩
def la_laws_markChainS : Nat → Option Ann := fun | 2 => some ⟨[(0, .val (.sl tChain) (.sl (.row 3 [3] true))), (1, .val (.int .i64) .leaf), (5, .val (.int .i64) .leaf)], 4⟩ | _ => none
def ja_laws_markChainS : Nat → Option Ann := fun _ => none
def cs_laws_markChainS (k : Nat) : List (FuncId × Con) := []
def ms_laws_markChainS (k : Nat) : List (FuncId × MCon) := [(53, c_laws_markAlarmS k)]
set_option maxRecDepth 1000000 in
theorem e_laws_markChainS (k : Nat) (x) (n : Int) : evMk (mkCx TT (cs_laws_markChainS k) la_laws_markChainS ja_laws_markChainS k) (fun f => (ms_laws_markChainS k).lookup f) (.sl tChain) Try.f109 x n = F_laws_markChainS k x n := by kernel_rfl
set_option maxRecDepth 1000000 in
theorem m_laws_markChainS (k : Nat) : MMeets Try.prog 109 (c_laws_markChainS k) := mmeets_ev TTok mixed (cts := cs_laws_markChainS k) trivial (mts := ms_laws_markChainS k) ⟨m_laws_markAlarmS k, trivial⟩ Try.func109 (by kernel_rfl) (by kernel_rfl) (e_laws_markChainS k)
def c_laws_markPartS (k : Nat) : MCon := ⟨(.sl tPart), F_laws_markPartS k⟩
def la_laws_markPartS : Nat → Option Ann := fun | 2 => some ⟨[(0, .val (.sl tPart) (.sl (.row 3 [3] true))), (1, .val (.int .i64) .leaf), (5, .val (.int .i64) .leaf)], 4⟩ | _ => none
def ja_laws_markPartS : Nat → Option Ann := fun _ => none
def cs_laws_markPartS (k : Nat) : List (FuncId × Con) := []
def ms_laws_markPartS (k : Nat) : List (FuncId × MCon) := [(109, c_laws_markChainS k)]
set_option maxRecDepth 1000000 in
theorem e_laws_markPartS (k : Nat) (x) (n : Int) : evMk (mkCx TT (cs_laws_markPartS k) la_laws_markPartS ja_laws_markPartS k) (fun f => (ms_laws_markPartS k).lookup f) (.sl tPart) Try.f79 x n = F_laws_markPartS k x n := by kernel_rfl
set_option maxRecDepth 1000000 in
theorem m_laws_markPartS (k : Nat) : MMeets Try.prog 79 (c_laws_markPartS k) := mmeets_ev TTok mixed (cts := cs_laws_markPartS k) trivial (mts := ms_laws_markPartS k) ⟨m_laws_markChainS k, trivial⟩ Try.func79 (by kernel_rfl) (by kernel_rfl) (e_laws_markPartS k)
def c_laws_markTimerS (k : Nat) : MCon := ⟨(.sl tTimer), F_laws_markTimerS k⟩
def la_laws_markTimerS : Nat → Option Ann := fun | 2 => some ⟨[(0, .val (.sl tTimer) (.sl (.row 3 [3] true))), (1, .val (.int .i64) .leaf), (5, .val (.int .i64) .leaf)], 4⟩ | _ => none
def ja_laws_markTimerS : Nat → Option Ann := fun _ => none
def cs_laws_markTimerS (k : Nat) : List (FuncId × Con) := []
def ms_laws_markTimerS (k : Nat) : List (FuncId × MCon) := []
set_option maxRecDepth 1000000 in
theorem e_laws_markTimerS (k : Nat) (x) (n : Int) : evMk (mkCx TT (cs_laws_markTimerS k) la_laws_markTimerS ja_laws_markTimerS k) (fun f => (ms_laws_markTimerS k).lookup f) (.sl tTimer) Try.f80 x n = F_laws_markTimerS k x n := by kernel_rfl
set_option maxRecDepth 1000000 in
theorem m_laws_markTimerS (k : Nat) : MMeets Try.prog 80 (c_laws_markTimerS k) := mmeets_ev TTok mixed (cts := cs_laws_markTimerS k) trivial (mts := ms_laws_markTimerS k) trivial Try.func80 (by kernel_rfl) (by kernel_rfl) (e_laws_markTimerS k)
def c_laws_markBatchS (k : Nat) : MCon := ⟨(.sl tBatch), F_laws_markBatchS k⟩
def la_laws_markBatchS : Nat → Option Ann := fun | 2 => some ⟨[(0, .val (.sl tBatch) (.sl (.row 3 [3] true))), (1, .val (.int .i64) .leaf), (5, .val (.int .i64) .leaf)], 4⟩ | _ => none
def ja_laws_markBatchS : Nat → Option Ann := fun _ => none
def cs_laws_markBatchS (k : Nat) : List (FuncId × Con) := []
def ms_laws_markBatchS (k : Nat) : List (FuncId × MCon) := [(52, c_laws_markLabelS k), (53, c_laws_markAlarmS k)]
set_option maxRecDepth 1000000 in
theorem e_laws_markBatchS (k : Nat) (x) (n : Int) : evMk (mkCx TT (cs_laws_markBatchS k) la_laws_markBatchS ja_laws_markBatchS k) (fun f => (ms_laws_markBatchS k).lookup f) (.sl tBatch) Try.f81 x n = F_laws_markBatchS k x n := by kernel_rfl
set_option maxRecDepth 1000000 in
theorem m_laws_markBatchS (k : Nat) : MMeets Try.prog 81 (c_laws_markBatchS k) := mmeets_ev TTok mixed (cts := cs_laws_markBatchS k) trivial (mts := ms_laws_markBatchS k) ⟨m_laws_markLabelS k, m_laws_markAlarmS k, trivial⟩ Try.func81 (by kernel_rfl) (by kernel_rfl) (e_laws_markBatchS k)
def c_laws_markIntS (k : Nat) : MCon := ⟨(.sl (.int .i64)), F_laws_markIntS k⟩
def la_laws_markIntS : Nat → Option Ann := fun | 2 => some ⟨[(0, .val (.sl (.int .i64)) (.sl (.row 3 [3] true))), (1, .val (.int .i64) .leaf), (5, .val (.int .i64) .leaf)], 4⟩ | _ => none
def ja_laws_markIntS : Nat → Option Ann := fun _ => none
def cs_laws_markIntS (k : Nat) : List (FuncId × Con) := []
def ms_laws_markIntS (k : Nat) : List (FuncId × MCon) := []
set_option maxRecDepth 1000000 in
theorem e_laws_markIntS (k : Nat) (x) (n : Int) : evMk (mkCx TT (cs_laws_markIntS k) la_laws_markIntS ja_laws_markIntS k) (fun f => (ms_laws_markIntS k).lookup f) (.sl (.int .i64)) Try.f110 x n = F_laws_markIntS k x n := by kernel_rfl
set_option maxRecDepth 1000000 in
theorem m_laws_markIntS (k : Nat) : MMeets Try.prog 110 (c_laws_markIntS k) := mmeets_ev TTok mixed (cts := cs_laws_markIntS k) trivial (mts := ms_laws_markIntS k) trivial Try.func110 (by kernel_rfl) (by kernel_rfl) (e_laws_markIntS k)
def c_laws_markTaskS (k : Nat) : MCon := ⟨(.sl tTask), F_laws_markTaskS k⟩
def la_laws_markTaskS : Nat → Option Ann := fun | 2 => some ⟨[(0, .val (.sl tTask) (.sl (.row 3 [3] true))), (1, .val (.int .i64) .leaf), (5, .val (.int .i64) .leaf)], 4⟩ | _ => none
def ja_laws_markTaskS : Nat → Option Ann := fun _ => none
def cs_laws_markTaskS (k : Nat) : List (FuncId × Con) := [(98, c_laws_markText k)]
def ms_laws_markTaskS (k : Nat) : List (FuncId × MCon) := [(52, c_laws_markLabelS k), (110, c_laws_markIntS k), (53, c_laws_markAlarmS k)]
set_option maxRecDepth 1000000 in
theorem e_laws_markTaskS (k : Nat) (x) (n : Int) : evMk (mkCx TT (cs_laws_markTaskS k) la_laws_markTaskS ja_laws_markTaskS k) (fun f => (ms_laws_markTaskS k).lookup f) (.sl tTask) Try.f82 x n = F_laws_markTaskS k x n := by kernel_rfl
set_option maxRecDepth 1000000 in
theorem m_laws_markTaskS (k : Nat) : MMeets Try.prog 82 (c_laws_markTaskS k) := mmeets_ev TTok mixed (cts := cs_laws_markTaskS k) ⟨m_laws_markText k, trivial⟩ (mts := ms_laws_markTaskS k) ⟨m_laws_markLabelS k, m_laws_markIntS k, m_laws_markAlarmS k, trivial⟩ Try.func82 (by kernel_rfl) (by kernel_rfl) (e_laws_markTaskS k)
def c_laws_markDeedS (k : Nat) : MCon := ⟨(.sl tDeed), F_laws_markDeedS k⟩
def la_laws_markDeedS : Nat → Option Ann := fun | 2 => some ⟨[(0, .val (.sl tDeed) (.sl (.row 3 [3] true))), (1, .val (.int .i64) .leaf), (5, .val (.int .i64) .leaf)], 4⟩ | _ => none
def ja_laws_markDeedS : Nat → Option Ann := fun _ => none
def cs_laws_markDeedS (k : Nat) : List (FuncId × Con) := [(98, c_laws_markText k)]
def ms_laws_markDeedS (k : Nat) : List (FuncId × MCon) := [(52, c_laws_markLabelS k), (53, c_laws_markAlarmS k)]
set_option maxRecDepth 1000000 in
theorem e_laws_markDeedS (k : Nat) (x) (n : Int) : evMk (mkCx TT (cs_laws_markDeedS k) la_laws_markDeedS ja_laws_markDeedS k) (fun f => (ms_laws_markDeedS k).lookup f) (.sl tDeed) Try.f83 x n = F_laws_markDeedS k x n := by kernel_rfl
set_option maxRecDepth 1000000 in
theorem m_laws_markDeedS (k : Nat) : MMeets Try.prog 83 (c_laws_markDeedS k) := mmeets_ev TTok mixed (cts := cs_laws_markDeedS k) ⟨m_laws_markText k, trivial⟩ (mts := ms_laws_markDeedS k) ⟨m_laws_markLabelS k, m_laws_markAlarmS k, trivial⟩ Try.func83 (by kernel_rfl) (by kernel_rfl) (e_laws_markDeedS k)
def c_laws_markWorld (k : Nat) : MCon := ⟨tWorld, F_laws_markWorld k⟩
def la_laws_markWorld : Nat → Option Ann := fun _ => none
def ja_laws_markWorld : Nat → Option Ann := fun _ => none
def cs_laws_markWorld (k : Nat) : List (FuncId × Con) := []
def ms_laws_markWorld (k : Nat) : List (FuncId × MCon) := [(30, c_laws_markConf k), (79, c_laws_markPartS k), (69, c_laws_markSubS k), (53, c_laws_markAlarmS k), (22, c_laws_markGroupS k), (80, c_laws_markTimerS k), (81, c_laws_markBatchS k), (82, c_laws_markTaskS k), (83, c_laws_markDeedS k)]
set_option maxRecDepth 1000000 in
theorem e_laws_markWorld (k : Nat) (x) (n : Int) : evMk (mkCx TT (cs_laws_markWorld k) la_laws_markWorld ja_laws_markWorld k) (fun f => (ms_laws_markWorld k).lookup f) tWorld Try.f36 x n = F_laws_markWorld k x n := by kernel_rfl
set_option maxRecDepth 1000000 in
theorem m_laws_markWorld (k : Nat) : MMeets Try.prog 36 (c_laws_markWorld k) := mmeets_ev TTok mixed (cts := cs_laws_markWorld k) trivial (mts := ms_laws_markWorld k) ⟨m_laws_markConf k, m_laws_markPartS k, m_laws_markSubS k, m_laws_markAlarmS k, m_laws_markGroupS k, m_laws_markTimerS k, m_laws_markBatchS k, m_laws_markTaskS k, m_laws_markDeedS k, trivial⟩ Try.func36 (by kernel_rfl) (by kernel_rfl) (e_laws_markWorld k)
abbrev ps_laws_heldChainS : List PK := [.val (.sl tChain) .shr, .val (.int .i64) .leaf]
abbrev rs_laws_heldChainS : List RK := [.val (.int .i64) .leaf]
def c_laws_heldChainS (k : Nat) : Con := ⟨ps_laws_heldChainS, rs_laws_heldChainS, F_laws_heldChainS k⟩
def la_laws_heldChainS : Nat → Option Ann := fun | 2 => some ⟨[(0, .val (.sl tChain) (.sl (.sha [1]))), (1, .val (.int .i64) .leaf), (5, .val (.int .i64) .leaf)], 3⟩ | _ => none
def ja_laws_heldChainS : Nat → Option Ann := fun _ => none
def cs_laws_heldChainS (k : Nat) : List (FuncId × Con) := [(55, c_laws_heldAlarmS k)]
set_option maxRecDepth 1000000 in
theorem e_laws_heldChainS (k : Nat) (x) : evFn2 (mkCx TT (cs_laws_heldChainS k) la_laws_heldChainS ja_laws_heldChainS k) ps_laws_heldChainS rs_laws_heldChainS Try.f111 x = F_laws_heldChainS k x := by kernel_rfl
set_option maxRecDepth 1000000 in
theorem m_laws_heldChainS (k : Nat) : Meets Try.prog 111 (c_laws_heldChainS k) := meets_ev TTok mixed (cts := cs_laws_heldChainS k) ⟨m_laws_heldAlarmS k, trivial⟩ Try.func111 (by kernel_rfl) (by kernel_rfl) (e_laws_heldChainS k)
abbrev ps_laws_heldPartS : List PK := [.val (.sl tPart) .shr, .val (.int .i64) .leaf]
abbrev rs_laws_heldPartS : List RK := [.val (.int .i64) .leaf]
def c_laws_heldPartS (k : Nat) : Con := ⟨ps_laws_heldPartS, rs_laws_heldPartS, F_laws_heldPartS k⟩
def la_laws_heldPartS : Nat → Option Ann := fun | 2 => some ⟨[(0, .val (.sl tPart) (.sl (.sha [1]))), (1, .val (.int .i64) .leaf), (5, .val (.int .i64) .leaf)], 3⟩ | _ => none
def ja_laws_heldPartS : Nat → Option Ann := fun _ => none
def cs_laws_heldPartS (k : Nat) : List (FuncId × Con) := [(111, c_laws_heldChainS k)]
set_option maxRecDepth 1000000 in
theorem e_laws_heldPartS (k : Nat) (x) : evFn2 (mkCx TT (cs_laws_heldPartS k) la_laws_heldPartS ja_laws_heldPartS k) ps_laws_heldPartS rs_laws_heldPartS Try.f84 x = F_laws_heldPartS k x := by kernel_rfl
set_option maxRecDepth 1000000 in
theorem m_laws_heldPartS (k : Nat) : Meets Try.prog 84 (c_laws_heldPartS k) := meets_ev TTok mixed (cts := cs_laws_heldPartS k) ⟨m_laws_heldChainS k, trivial⟩ Try.func84 (by kernel_rfl) (by kernel_rfl) (e_laws_heldPartS k)
abbrev ps_laws_heldTimerS : List PK := [.val (.sl tTimer) .shr, .val (.int .i64) .leaf]
abbrev rs_laws_heldTimerS : List RK := [.val (.int .i64) .leaf]
def c_laws_heldTimerS (k : Nat) : Con := ⟨ps_laws_heldTimerS, rs_laws_heldTimerS, F_laws_heldTimerS k⟩
def la_laws_heldTimerS : Nat → Option Ann := fun | 2 => some ⟨[(0, .val (.sl tTimer) (.sl (.sha [1]))), (1, .val (.int .i64) .leaf), (5, .val (.int .i64) .leaf)], 3⟩ | _ => none
def ja_laws_heldTimerS : Nat → Option Ann := fun _ => none
def cs_laws_heldTimerS (k : Nat) : List (FuncId × Con) := []
set_option maxRecDepth 1000000 in
theorem e_laws_heldTimerS (k : Nat) (x) : evFn2 (mkCx TT (cs_laws_heldTimerS k) la_laws_heldTimerS ja_laws_heldTimerS k) ps_laws_heldTimerS rs_laws_heldTimerS Try.f85 x = F_laws_heldTimerS k x := by kernel_rfl
set_option maxRecDepth 1000000 in
theorem m_laws_heldTimerS (k : Nat) : Meets Try.prog 85 (c_laws_heldTimerS k) := meets_ev TTok mixed (cts := cs_laws_heldTimerS k) trivial Try.func85 (by kernel_rfl) (by kernel_rfl) (e_laws_heldTimerS k)
abbrev ps_laws_heldBatchS : List PK := [.val (.sl tBatch) .shr, .val (.int .i64) .leaf]
abbrev rs_laws_heldBatchS : List RK := [.val (.int .i64) .leaf]
def c_laws_heldBatchS (k : Nat) : Con := ⟨ps_laws_heldBatchS, rs_laws_heldBatchS, F_laws_heldBatchS k⟩
def la_laws_heldBatchS : Nat → Option Ann := fun | 2 => some ⟨[(0, .val (.sl tBatch) (.sl (.sha [1]))), (1, .val (.int .i64) .leaf), (5, .val (.int .i64) .leaf)], 3⟩ | _ => none
def ja_laws_heldBatchS : Nat → Option Ann := fun _ => none
def cs_laws_heldBatchS (k : Nat) : List (FuncId × Con) := [(54, c_laws_heldLabelS k), (55, c_laws_heldAlarmS k)]
set_option maxRecDepth 1000000 in
theorem e_laws_heldBatchS (k : Nat) (x) : evFn2 (mkCx TT (cs_laws_heldBatchS k) la_laws_heldBatchS ja_laws_heldBatchS k) ps_laws_heldBatchS rs_laws_heldBatchS Try.f86 x = F_laws_heldBatchS k x := by kernel_rfl
set_option maxRecDepth 1000000 in
theorem m_laws_heldBatchS (k : Nat) : Meets Try.prog 86 (c_laws_heldBatchS k) := meets_ev TTok mixed (cts := cs_laws_heldBatchS k) ⟨m_laws_heldLabelS k, m_laws_heldAlarmS k, trivial⟩ Try.func86 (by kernel_rfl) (by kernel_rfl) (e_laws_heldBatchS k)
abbrev ps_laws_heldIntS : List PK := [.val (.sl (.int .i64)) .shr, .val (.int .i64) .leaf]
abbrev rs_laws_heldIntS : List RK := [.val (.int .i64) .leaf]
def c_laws_heldIntS (k : Nat) : Con := ⟨ps_laws_heldIntS, rs_laws_heldIntS, F_laws_heldIntS k⟩
def la_laws_heldIntS : Nat → Option Ann := fun | 2 => some ⟨[(0, .val (.sl (.int .i64)) (.sl (.sha [1]))), (1, .val (.int .i64) .leaf), (5, .val (.int .i64) .leaf)], 3⟩ | _ => none
def ja_laws_heldIntS : Nat → Option Ann := fun _ => none
def cs_laws_heldIntS (k : Nat) : List (FuncId × Con) := []
set_option maxRecDepth 1000000 in
theorem e_laws_heldIntS (k : Nat) (x) : evFn2 (mkCx TT (cs_laws_heldIntS k) la_laws_heldIntS ja_laws_heldIntS k) ps_laws_heldIntS rs_laws_heldIntS Try.f112 x = F_laws_heldIntS k x := by kernel_rfl
set_option maxRecDepth 1000000 in
theorem m_laws_heldIntS (k : Nat) : Meets Try.prog 112 (c_laws_heldIntS k) := meets_ev TTok mixed (cts := cs_laws_heldIntS k) trivial Try.func112 (by kernel_rfl) (by kernel_rfl) (e_laws_heldIntS k)
abbrev ps_laws_heldTaskS : List PK := [.val (.sl tTask) .shr, .val (.int .i64) .leaf]
abbrev rs_laws_heldTaskS : List RK := [.val (.int .i64) .leaf]
def c_laws_heldTaskS (k : Nat) : Con := ⟨ps_laws_heldTaskS, rs_laws_heldTaskS, F_laws_heldTaskS k⟩
def la_laws_heldTaskS : Nat → Option Ann := fun | 2 => some ⟨[(0, .val (.sl tTask) (.sl (.sha [1]))), (1, .val (.int .i64) .leaf), (5, .val (.int .i64) .leaf)], 3⟩ | _ => none
def ja_laws_heldTaskS : Nat → Option Ann := fun _ => none
def cs_laws_heldTaskS (k : Nat) : List (FuncId × Con) := [(54, c_laws_heldLabelS k), (98, c_laws_markText k), (112, c_laws_heldIntS k), (55, c_laws_heldAlarmS k)]
set_option maxRecDepth 1000000 in
theorem e_laws_heldTaskS (k : Nat) (x) : evFn2 (mkCx TT (cs_laws_heldTaskS k) la_laws_heldTaskS ja_laws_heldTaskS k) ps_laws_heldTaskS rs_laws_heldTaskS Try.f87 x = F_laws_heldTaskS k x := by kernel_rfl
set_option maxRecDepth 1000000 in
theorem m_laws_heldTaskS (k : Nat) : Meets Try.prog 87 (c_laws_heldTaskS k) := meets_ev TTok mixed (cts := cs_laws_heldTaskS k) ⟨m_laws_heldLabelS k, m_laws_markText k, m_laws_heldIntS k, m_laws_heldAlarmS k, trivial⟩ Try.func87 (by kernel_rfl) (by kernel_rfl) (e_laws_heldTaskS k)
abbrev ps_laws_heldDeedS : List PK := [.val (.sl tDeed) .shr, .val (.int .i64) .leaf]
abbrev rs_laws_heldDeedS : List RK := [.val (.int .i64) .leaf]
def c_laws_heldDeedS (k : Nat) : Con := ⟨ps_laws_heldDeedS, rs_laws_heldDeedS, F_laws_heldDeedS k⟩
def la_laws_heldDeedS : Nat → Option Ann := fun | 2 => some ⟨[(0, .val (.sl tDeed) (.sl (.sha [1]))), (1, .val (.int .i64) .leaf), (5, .val (.int .i64) .leaf)], 3⟩ | _ => none
def ja_laws_heldDeedS : Nat → Option Ann := fun _ => none
def cs_laws_heldDeedS (k : Nat) : List (FuncId × Con) := [(54, c_laws_heldLabelS k), (98, c_laws_markText k), (55, c_laws_heldAlarmS k)]
set_option maxRecDepth 1000000 in
theorem e_laws_heldDeedS (k : Nat) (x) : evFn2 (mkCx TT (cs_laws_heldDeedS k) la_laws_heldDeedS ja_laws_heldDeedS k) ps_laws_heldDeedS rs_laws_heldDeedS Try.f88 x = F_laws_heldDeedS k x := by kernel_rfl
set_option maxRecDepth 1000000 in
theorem m_laws_heldDeedS (k : Nat) : Meets Try.prog 88 (c_laws_heldDeedS k) := meets_ev TTok mixed (cts := cs_laws_heldDeedS k) ⟨m_laws_heldLabelS k, m_laws_markText k, m_laws_heldAlarmS k, trivial⟩ Try.func88 (by kernel_rfl) (by kernel_rfl) (e_laws_heldDeedS k)
abbrev ps_laws_heldWorld : List PK := [.val tWorld (.pair (.pair .leaf (.pair .leaf (.pair .leaf (.pair .leaf (.pair .leaf .shr))))) (.pair .leaf (.pair .leaf (.pair .shr (.pair .shr (.pair .shr (.pair .leaf (.pair .shr (.pair .leaf (.pair .shr (.pair .shr (.pair .shr (.pair .shr .shr))))))))))))), .val (.int .i64) .leaf]
abbrev rs_laws_heldWorld : List RK := [.val (.int .i64) .leaf]
def c_laws_heldWorld (k : Nat) : Con := ⟨ps_laws_heldWorld, rs_laws_heldWorld, F_laws_heldWorld k⟩
def la_laws_heldWorld : Nat → Option Ann := fun _ => none
def ja_laws_heldWorld : Nat → Option Ann := fun _ => none
def cs_laws_heldWorld (k : Nat) : List (FuncId × Con) := [(70, c_laws_heldConf k), (84, c_laws_heldPartS k), (71, c_laws_heldSubS k), (55, c_laws_heldAlarmS k), (23, c_laws_heldGroupS k), (85, c_laws_heldTimerS k), (86, c_laws_heldBatchS k), (87, c_laws_heldTaskS k), (88, c_laws_heldDeedS k)]
set_option maxRecDepth 1000000 in
theorem e_laws_heldWorld (k : Nat) (x) : evFn2 (mkCx TT (cs_laws_heldWorld k) la_laws_heldWorld ja_laws_heldWorld k) ps_laws_heldWorld rs_laws_heldWorld Try.f37 x = F_laws_heldWorld k x := by kernel_rfl
set_option maxRecDepth 1000000 in
theorem m_laws_heldWorld (k : Nat) : Meets Try.prog 37 (c_laws_heldWorld k) := meets_ev TTok mixed (cts := cs_laws_heldWorld k) ⟨m_laws_heldConf k, m_laws_heldPartS k, m_laws_heldSubS k, m_laws_heldAlarmS k, m_laws_heldGroupS k, m_laws_heldTimerS k, m_laws_heldBatchS k, m_laws_heldTaskS k, m_laws_heldDeedS k, trivial⟩ Try.func37 (by kernel_rfl) (by kernel_rfl) (e_laws_heldWorld k)
abbrev ps_laws_FnExactWorldNew : List PK := [.val tConf (.pair .leaf (.pair .leaf (.pair .leaf (.pair .leaf (.pair .leaf .shr)))))]
abbrev rs_laws_FnExactWorldNew : List RK := [.val .bool .leaf]
def c_laws_FnExactWorldNew (k : Nat) : Con := ⟨ps_laws_FnExactWorldNew, rs_laws_FnExactWorldNew, F_laws_FnExactWorldNew k⟩
def la_laws_FnExactWorldNew : Nat → Option Ann := fun _ => none
def ja_laws_FnExactWorldNew : Nat → Option Ann := fun _ => none
def cs_laws_FnExactWorldNew (k : Nat) : List (FuncId × Con) := [(24, c_laws_szConf k), (26, c_laws_toConf k), (33, c_spec_WorldNew k), (34, c_impl_WorldNew k), (35, c_laws_eqWorld k), (29, c_laws_eqConf k), (37, c_laws_heldWorld k)]
def ms_laws_FnExactWorldNew (k : Nat) : List (FuncId × MCon) := [(30, c_laws_markConf k), (36, c_laws_markWorld k)]
set_option maxRecDepth 1000000 in
theorem e_laws_FnExactWorldNew (k : Nat) (x) : evFnM (mkCx TT (cs_laws_FnExactWorldNew k) la_laws_FnExactWorldNew ja_laws_FnExactWorldNew k) (fun f => (ms_laws_FnExactWorldNew k).lookup f) ps_laws_FnExactWorldNew rs_laws_FnExactWorldNew Try.f6 x = F_laws_FnExactWorldNew k x := by kernel_rfl
set_option maxRecDepth 1000000 in
theorem m_laws_FnExactWorldNew (k : Nat) : Meets Try.prog 6 (c_laws_FnExactWorldNew k) := meetsM_ev TTok mixed (cts := cs_laws_FnExactWorldNew k) ⟨m_laws_szConf k, m_laws_toConf k, m_spec_WorldNew k, m_impl_WorldNew k, m_laws_eqWorld k, m_laws_eqConf k, m_laws_heldWorld k, trivial⟩ (mts := ms_laws_FnExactWorldNew k) ⟨m_laws_markConf k, m_laws_markWorld k, trivial⟩ Try.func6 (by kernel_rfl) (by kernel_rfl) (e_laws_FnExactWorldNew k)
end Vg.Try
