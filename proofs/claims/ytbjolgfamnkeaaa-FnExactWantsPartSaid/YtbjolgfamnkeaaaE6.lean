/- What the functions compute is what the evaluator says; their contracts. -/
import Derived.Test.YtbjolgfamnkeaaaE5
namespace Vg.Try
open Go Vg Go.Proofs
set_option linter.unusedVariables false
abbrev ps_laws_eqTimer : List PK := [.val tTimer (.pair .leaf .leaf), .val tTimer (.pair .leaf .leaf)]
abbrev rs_laws_eqTimer : List RK := [.val .bool .leaf]
def c_laws_eqTimer (k : Nat) : Con := ⟨ps_laws_eqTimer, rs_laws_eqTimer, F_laws_eqTimer k⟩
def la_laws_eqTimer : Nat → Option Ann := fun _ => none
def ja_laws_eqTimer : Nat → Option Ann := fun _ => none
def cs_laws_eqTimer (k : Nat) : List (FuncId × Con) := []
set_option maxRecDepth 1000000 in
theorem e_laws_eqTimer (k : Nat) (x) : evFn2 (mkCx TT (cs_laws_eqTimer k) la_laws_eqTimer ja_laws_eqTimer k) ps_laws_eqTimer rs_laws_eqTimer Try.f114 x = F_laws_eqTimer k x := by kernel_rfl
set_option maxRecDepth 1000000 in
theorem m_laws_eqTimer (k : Nat) : Meets Try.prog 114 (c_laws_eqTimer k) := meets_ev TTok mixed (cts := cs_laws_eqTimer k) trivial Try.func114 (by kernel_rfl) (by kernel_rfl) (e_laws_eqTimer k)
abbrev ps_laws_eqTimerS : List PK := [.val (.sl tTimer) .shr, .val (.sl tTimer) .shr]
abbrev rs_laws_eqTimerS : List RK := [.val .bool .leaf]
def c_laws_eqTimerS (k : Nat) : Con := ⟨ps_laws_eqTimerS, rs_laws_eqTimerS, F_laws_eqTimerS k⟩
def la_laws_eqTimerS : Nat → Option Ann := fun | 4 => some ⟨[(0, .val (.sl tTimer) (.sl (.sha [1]))), (1, .val (.sl tTimer) (.sl (.sha [1]))), (5, .val (.int .i64) .leaf)], 3⟩ | _ => none
def ja_laws_eqTimerS : Nat → Option Ann := fun _ => none
def cs_laws_eqTimerS (k : Nat) : List (FuncId × Con) := [(114, c_laws_eqTimer k)]
set_option maxRecDepth 1000000 in
theorem e_laws_eqTimerS (k : Nat) (x) : evFn2 (mkCx TT (cs_laws_eqTimerS k) la_laws_eqTimerS ja_laws_eqTimerS k) ps_laws_eqTimerS rs_laws_eqTimerS Try.f74 x = F_laws_eqTimerS k x := by kernel_rfl
set_option maxRecDepth 1000000 in
theorem m_laws_eqTimerS (k : Nat) : Meets Try.prog 74 (c_laws_eqTimerS k) := meets_ev TTok mixed (cts := cs_laws_eqTimerS k) ⟨m_laws_eqTimer k, trivial⟩ Try.func74 (by kernel_rfl) (by kernel_rfl) (e_laws_eqTimerS k)
abbrev ps_laws_eqBatch : List PK := [.val tBatch (.pair .leaf (.pair .shr (.pair .leaf .shr))), .val tBatch (.pair .leaf (.pair .shr (.pair .leaf .shr)))]
abbrev rs_laws_eqBatch : List RK := [.val .bool .leaf]
def c_laws_eqBatch (k : Nat) : Con := ⟨ps_laws_eqBatch, rs_laws_eqBatch, F_laws_eqBatch k⟩
def la_laws_eqBatch : Nat → Option Ann := fun _ => none
def ja_laws_eqBatch : Nat → Option Ann := fun _ => none
def cs_laws_eqBatch (k : Nat) : List (FuncId × Con) := [(39, c_laws_eqLabelS k), (41, c_laws_eqAlarmS k)]
set_option maxRecDepth 1000000 in
theorem e_laws_eqBatch (k : Nat) (x) : evFn2 (mkCx TT (cs_laws_eqBatch k) la_laws_eqBatch ja_laws_eqBatch k) ps_laws_eqBatch rs_laws_eqBatch Try.f115 x = F_laws_eqBatch k x := by kernel_rfl
set_option maxRecDepth 1000000 in
theorem m_laws_eqBatch (k : Nat) : Meets Try.prog 115 (c_laws_eqBatch k) := meets_ev TTok mixed (cts := cs_laws_eqBatch k) ⟨m_laws_eqLabelS k, m_laws_eqAlarmS k, trivial⟩ Try.func115 (by kernel_rfl) (by kernel_rfl) (e_laws_eqBatch k)
abbrev ps_laws_eqBatchS : List PK := [.val (.sl tBatch) .shr, .val (.sl tBatch) .shr]
abbrev rs_laws_eqBatchS : List RK := [.val .bool .leaf]
def c_laws_eqBatchS (k : Nat) : Con := ⟨ps_laws_eqBatchS, rs_laws_eqBatchS, F_laws_eqBatchS k⟩
def la_laws_eqBatchS : Nat → Option Ann := fun | 4 => some ⟨[(0, .val (.sl tBatch) (.sl (.sha [1]))), (1, .val (.sl tBatch) (.sl (.sha [1]))), (5, .val (.int .i64) .leaf)], 3⟩ | _ => none
def ja_laws_eqBatchS : Nat → Option Ann := fun _ => none
def cs_laws_eqBatchS (k : Nat) : List (FuncId × Con) := [(115, c_laws_eqBatch k)]
set_option maxRecDepth 1000000 in
theorem e_laws_eqBatchS (k : Nat) (x) : evFn2 (mkCx TT (cs_laws_eqBatchS k) la_laws_eqBatchS ja_laws_eqBatchS k) ps_laws_eqBatchS rs_laws_eqBatchS Try.f75 x = F_laws_eqBatchS k x := by kernel_rfl
set_option maxRecDepth 1000000 in
theorem m_laws_eqBatchS (k : Nat) : Meets Try.prog 75 (c_laws_eqBatchS k) := meets_ev TTok mixed (cts := cs_laws_eqBatchS k) ⟨m_laws_eqBatch k, trivial⟩ Try.func75 (by kernel_rfl) (by kernel_rfl) (e_laws_eqBatchS k)
abbrev ps_laws_eqTaskS : List PK := [.val (.sl tTask) .shr, .val (.sl tTask) .shr]
abbrev rs_laws_eqTaskS : List RK := [.val .bool .leaf]
def c_laws_eqTaskS (k : Nat) : Con := ⟨ps_laws_eqTaskS, rs_laws_eqTaskS, F_laws_eqTaskS k⟩
def la_laws_eqTaskS : Nat → Option Ann := fun | 4 => some ⟨[(0, .val (.sl tTask) (.sl (.sha [1]))), (1, .val (.sl tTask) (.sl (.sha [1]))), (5, .val (.int .i64) .leaf)], 3⟩ | _ => none
def ja_laws_eqTaskS : Nat → Option Ann := fun _ => none
def cs_laws_eqTaskS (k : Nat) : List (FuncId × Con) := [(12, c_laws_eqTask k)]
set_option maxRecDepth 1000000 in
theorem e_laws_eqTaskS (k : Nat) (x) : evFn2 (mkCx TT (cs_laws_eqTaskS k) la_laws_eqTaskS ja_laws_eqTaskS k) ps_laws_eqTaskS rs_laws_eqTaskS Try.f76 x = F_laws_eqTaskS k x := by kernel_rfl
set_option maxRecDepth 1000000 in
theorem m_laws_eqTaskS (k : Nat) : Meets Try.prog 76 (c_laws_eqTaskS k) := meets_ev TTok mixed (cts := cs_laws_eqTaskS k) ⟨m_laws_eqTask k, trivial⟩ Try.func76 (by kernel_rfl) (by kernel_rfl) (e_laws_eqTaskS k)
abbrev ps_laws_eqDeed : List PK := [.val tDeed (.pair .leaf (.pair .leaf (.pair (.pair .shr (.pair .leaf (.pair .leaf .leaf))) (.pair .shr (.pair .leaf (.pair .leaf (.pair .leaf (.pair .shr (.pair .leaf (.pair .leaf (.pair .leaf .leaf))))))))))), .val tDeed (.pair .leaf (.pair .leaf (.pair (.pair .shr (.pair .leaf (.pair .leaf .leaf))) (.pair .shr (.pair .leaf (.pair .leaf (.pair .leaf (.pair .shr (.pair .leaf (.pair .leaf (.pair .leaf .leaf)))))))))))]
abbrev rs_laws_eqDeed : List RK := [.val .bool .leaf]
def c_laws_eqDeed (k : Nat) : Con := ⟨ps_laws_eqDeed, rs_laws_eqDeed, F_laws_eqDeed k⟩
def la_laws_eqDeed : Nat → Option Ann := fun _ => none
def ja_laws_eqDeed : Nat → Option Ann := fun _ => none
def cs_laws_eqDeed (k : Nat) : List (FuncId × Con) := [(38, c_laws_eqAlarm k), (39, c_laws_eqLabelS k), (41, c_laws_eqAlarmS k)]
set_option maxRecDepth 1000000 in
theorem e_laws_eqDeed (k : Nat) (x) : evFn2 (mkCx TT (cs_laws_eqDeed k) la_laws_eqDeed ja_laws_eqDeed k) ps_laws_eqDeed rs_laws_eqDeed Try.f116 x = F_laws_eqDeed k x := by kernel_rfl
set_option maxRecDepth 1000000 in
theorem m_laws_eqDeed (k : Nat) : Meets Try.prog 116 (c_laws_eqDeed k) := meets_ev TTok mixed (cts := cs_laws_eqDeed k) ⟨m_laws_eqAlarm k, m_laws_eqLabelS k, m_laws_eqAlarmS k, trivial⟩ Try.func116 (by kernel_rfl) (by kernel_rfl) (e_laws_eqDeed k)
abbrev ps_laws_eqDeedS : List PK := [.val (.sl tDeed) .shr, .val (.sl tDeed) .shr]
abbrev rs_laws_eqDeedS : List RK := [.val .bool .leaf]
def c_laws_eqDeedS (k : Nat) : Con := ⟨ps_laws_eqDeedS, rs_laws_eqDeedS, F_laws_eqDeedS k⟩
def la_laws_eqDeedS : Nat → Option Ann := fun | 4 => some ⟨[(0, .val (.sl tDeed) (.sl (.sha [1]))), (1, .val (.sl tDeed) (.sl (.sha [1]))), (5, .val (.int .i64) .leaf)], 3⟩ | _ => none
def ja_laws_eqDeedS : Nat → Option Ann := fun _ => none
def cs_laws_eqDeedS (k : Nat) : List (FuncId × Con) := [(116, c_laws_eqDeed k)]
set_option maxRecDepth 1000000 in
theorem e_laws_eqDeedS (k : Nat) (x) : evFn2 (mkCx TT (cs_laws_eqDeedS k) la_laws_eqDeedS ja_laws_eqDeedS k) ps_laws_eqDeedS rs_laws_eqDeedS Try.f77 x = F_laws_eqDeedS k x := by kernel_rfl
set_option maxRecDepth 1000000 in
theorem m_laws_eqDeedS (k : Nat) : Meets Try.prog 77 (c_laws_eqDeedS k) := meets_ev TTok mixed (cts := cs_laws_eqDeedS k) ⟨m_laws_eqDeed k, trivial⟩ Try.func77 (by kernel_rfl) (by kernel_rfl) (e_laws_eqDeedS k)
abbrev ps_laws_eqWorld : List PK := [.val tWorld (.pair (.pair .leaf (.pair .leaf (.pair .leaf (.pair .leaf (.pair .leaf .shr))))) (.pair .leaf (.pair .leaf (.pair .shr (.pair .shr (.pair .shr (.pair .leaf (.pair .shr (.pair .leaf (.pair .shr (.pair .shr (.pair .shr (.pair .shr .shr))))))))))))), .val tWorld (.pair (.pair .leaf (.pair .leaf (.pair .leaf (.pair .leaf (.pair .leaf .shr))))) (.pair .leaf (.pair .leaf (.pair .shr (.pair .shr (.pair .shr (.pair .leaf (.pair .shr (.pair .leaf (.pair .shr (.pair .shr (.pair .shr (.pair .shr .shr)))))))))))))]
abbrev rs_laws_eqWorld : List RK := [.val .bool .leaf]
def c_laws_eqWorld (k : Nat) : Con := ⟨ps_laws_eqWorld, rs_laws_eqWorld, F_laws_eqWorld k⟩
def la_laws_eqWorld : Nat → Option Ann := fun _ => none
def ja_laws_eqWorld : Nat → Option Ann := fun _ => none
def cs_laws_eqWorld (k : Nat) : List (FuncId × Con) := [(60, c_laws_eqConf k), (73, c_laws_eqPartS k), (61, c_laws_eqSubS k), (41, c_laws_eqAlarmS k), (62, c_laws_eqGroupS k), (74, c_laws_eqTimerS k), (75, c_laws_eqBatchS k), (76, c_laws_eqTaskS k), (77, c_laws_eqDeedS k)]
set_option maxRecDepth 1000000 in
theorem e_laws_eqWorld (k : Nat) (x) : evFn2 (mkCx TT (cs_laws_eqWorld k) la_laws_eqWorld ja_laws_eqWorld k) ps_laws_eqWorld rs_laws_eqWorld Try.f22 x = F_laws_eqWorld k x := by kernel_rfl
set_option maxRecDepth 1000000 in
theorem m_laws_eqWorld (k : Nat) : Meets Try.prog 22 (c_laws_eqWorld k) := meets_ev TTok mixed (cts := cs_laws_eqWorld k) ⟨m_laws_eqConf k, m_laws_eqPartS k, m_laws_eqSubS k, m_laws_eqAlarmS k, m_laws_eqGroupS k, m_laws_eqTimerS k, m_laws_eqBatchS k, m_laws_eqTaskS k, m_laws_eqDeedS k, trivial⟩ Try.func22 (by kernel_rfl) (by kernel_rfl) (e_laws_eqWorld k)
abbrev ps_laws_FnExactRipe : List PK := [.val tWorld (.pair (.pair .leaf (.pair .leaf (.pair .leaf (.pair .leaf (.pair .leaf .shr))))) (.pair .leaf (.pair .leaf (.pair .shr (.pair .shr (.pair .shr (.pair .leaf (.pair .shr (.pair .leaf (.pair .shr (.pair .shr (.pair .shr (.pair .shr .shr)))))))))))))]
abbrev rs_laws_FnExactRipe : List RK := [.val .bool .leaf]
def c_laws_FnExactRipe (k : Nat) : Con := ⟨ps_laws_FnExactRipe, rs_laws_FnExactRipe, F_laws_FnExactRipe k⟩
def la_laws_FnExactRipe : Nat → Option Ann := fun _ => none
def ja_laws_FnExactRipe : Nat → Option Ann := fun _ => none
def cs_laws_FnExactRipe (k : Nat) : List (FuncId × Con) := [(18, c_laws_szWorld k), (20, c_laws_toWorld k), (19, c_spec_Ripe k), (21, c_impl_Ripe k), (22, c_laws_eqWorld k)]
set_option maxRecDepth 1000000 in
theorem e_laws_FnExactRipe (k : Nat) (x) : evFn2 (mkCx TT (cs_laws_FnExactRipe k) la_laws_FnExactRipe ja_laws_FnExactRipe k) ps_laws_FnExactRipe rs_laws_FnExactRipe Try.f5 x = F_laws_FnExactRipe k x := by kernel_rfl
set_option maxRecDepth 1000000 in
theorem m_laws_FnExactRipe (k : Nat) : Meets Try.prog 5 (c_laws_FnExactRipe k) := meets_ev TTok mixed (cts := cs_laws_FnExactRipe k) ⟨m_laws_szWorld k, m_laws_toWorld k, m_spec_Ripe k, m_impl_Ripe k, m_laws_eqWorld k, trivial⟩ Try.func5 (by kernel_rfl) (by kernel_rfl) (e_laws_FnExactRipe k)
abbrev ps_spec_Idle : List PK := [.val tWorld (.pair (.pair .leaf (.pair .leaf (.pair .leaf (.pair .leaf (.pair .leaf .shr))))) (.pair .leaf (.pair .leaf (.pair .shr (.pair .shr (.pair .shr (.pair .leaf (.pair .shr (.pair .leaf (.pair .shr (.pair .shr (.pair .shr (.pair .shr .shr))))))))))))), .val (.int .i64) .leaf]
abbrev rs_spec_Idle : List RK := [.val .bool .leaf]
def c_spec_Idle (k : Nat) : Con := ⟨ps_spec_Idle, rs_spec_Idle, F_spec_Idle k⟩
def la_spec_Idle : Nat → Option Ann := fun _ => none
def ja_spec_Idle : Nat → Option Ann := fun _ => none
def cs_spec_Idle (k : Nat) : List (FuncId × Con) := [(78, c_spec_l1In k)]
set_option maxRecDepth 1000000 in
theorem e_spec_Idle (k : Nat) (x) : evFn2 (mkCx TT (cs_spec_Idle k) la_spec_Idle ja_spec_Idle k) ps_spec_Idle rs_spec_Idle Try.f23 x = F_spec_Idle k x := by kernel_rfl
set_option maxRecDepth 1000000 in
theorem m_spec_Idle (k : Nat) : Meets Try.prog 23 (c_spec_Idle k) := meets_ev TTok mixed (cts := cs_spec_Idle k) ⟨m_spec_l1In k, trivial⟩ Try.func23 (by kernel_rfl) (by kernel_rfl) (e_spec_Idle k)
abbrev ps_impl_Idle : List PK := [.val tWorld (.pair (.pair .leaf (.pair .leaf (.pair .leaf (.pair .leaf (.pair .leaf .shr))))) (.pair .leaf (.pair .leaf (.pair .shr (.pair .shr (.pair .shr (.pair .leaf (.pair .shr (.pair .leaf (.pair .shr (.pair .shr (.pair .shr (.pair .shr .shr))))))))))))), .val (.int .i64) .leaf]
abbrev rs_impl_Idle : List RK := [.val .bool .leaf]
def c_impl_Idle (k : Nat) : Con := ⟨ps_impl_Idle, rs_impl_Idle, F_impl_Idle k⟩
def la_impl_Idle : Nat → Option Ann := fun _ => none
def ja_impl_Idle : Nat → Option Ann := fun _ => none
def cs_impl_Idle (k : Nat) : List (FuncId × Con) := [(79, c_impl_in k)]
set_option maxRecDepth 1000000 in
theorem e_impl_Idle (k : Nat) (x) : evFn2 (mkCx TT (cs_impl_Idle k) la_impl_Idle ja_impl_Idle k) ps_impl_Idle rs_impl_Idle Try.f24 x = F_impl_Idle k x := by kernel_rfl
set_option maxRecDepth 1000000 in
theorem m_impl_Idle (k : Nat) : Meets Try.prog 24 (c_impl_Idle k) := meets_ev TTok mixed (cts := cs_impl_Idle k) ⟨m_impl_in k, trivial⟩ Try.func24 (by kernel_rfl) (by kernel_rfl) (e_impl_Idle k)
abbrev ps_laws_FnExactIdle : List PK := [.val tWorld (.pair (.pair .leaf (.pair .leaf (.pair .leaf (.pair .leaf (.pair .leaf .shr))))) (.pair .leaf (.pair .leaf (.pair .shr (.pair .shr (.pair .shr (.pair .leaf (.pair .shr (.pair .leaf (.pair .shr (.pair .shr (.pair .shr (.pair .shr .shr))))))))))))), .val (.int .i64) .leaf]
abbrev rs_laws_FnExactIdle : List RK := [.val .bool .leaf]
def c_laws_FnExactIdle (k : Nat) : Con := ⟨ps_laws_FnExactIdle, rs_laws_FnExactIdle, F_laws_FnExactIdle k⟩
def la_laws_FnExactIdle : Nat → Option Ann := fun _ => none
def ja_laws_FnExactIdle : Nat → Option Ann := fun _ => none
def cs_laws_FnExactIdle (k : Nat) : List (FuncId × Con) := [(18, c_laws_szWorld k), (20, c_laws_toWorld k), (23, c_spec_Idle k), (24, c_impl_Idle k), (22, c_laws_eqWorld k)]
set_option maxRecDepth 1000000 in
theorem e_laws_FnExactIdle (k : Nat) (x) : evFn2 (mkCx TT (cs_laws_FnExactIdle k) la_laws_FnExactIdle ja_laws_FnExactIdle k) ps_laws_FnExactIdle rs_laws_FnExactIdle Try.f6 x = F_laws_FnExactIdle k x := by kernel_rfl
set_option maxRecDepth 1000000 in
theorem m_laws_FnExactIdle (k : Nat) : Meets Try.prog 6 (c_laws_FnExactIdle k) := meets_ev TTok mixed (cts := cs_laws_FnExactIdle k) ⟨m_laws_szWorld k, m_laws_toWorld k, m_spec_Idle k, m_impl_Idle k, m_laws_eqWorld k, trivial⟩ Try.func6 (by kernel_rfl) (by kernel_rfl) (e_laws_FnExactIdle k)
abbrev ps_spec_Busy : List PK := [.val tWorld (.pair (.pair .leaf (.pair .leaf (.pair .leaf (.pair .leaf (.pair .leaf .shr))))) (.pair .leaf (.pair .leaf (.pair .shr (.pair .shr (.pair .shr (.pair .leaf (.pair .shr (.pair .leaf (.pair .shr (.pair .shr (.pair .shr (.pair .shr .shr)))))))))))))]
abbrev rs_spec_Busy : List RK := [.val (.int .i64) .leaf]
def c_spec_Busy (k : Nat) : Con := ⟨ps_spec_Busy, rs_spec_Busy, F_spec_Busy k⟩
def la_spec_Busy : Nat → Option Ann := fun | 3 => some ⟨[(1, .box 3 tWorld (.pair (.pair .leaf (.pair .leaf (.pair .leaf (.pair .leaf (.pair .leaf (.sl (.sha [1]))))))) (.pair .leaf (.pair .leaf (.pair (.sl (.sha [1])) (.pair (.sl (.sha [1])) (.pair (.sl (.sha [1])) (.pair .leaf (.pair (.sl (.sha [1])) (.pair .leaf (.pair (.sl (.sha [1])) (.pair (.sl (.sha [1])) (.pair (.sl (.sha [1])) (.pair (.sl (.sha [1])) (.sl (.sha [1])))))))))))))))), (3, .val (.int .i64) .leaf), (4, .val (.int .i64) .leaf)], 4⟩ | _ => none
def ja_spec_Busy : Nat → Option Ann := fun _ => none
def cs_spec_Busy (k : Nat) : List (FuncId × Con) := []
set_option maxRecDepth 1000000 in
theorem e_spec_Busy (k : Nat) (x) : evFn2 (mkCx TT (cs_spec_Busy k) la_spec_Busy ja_spec_Busy k) ps_spec_Busy rs_spec_Busy Try.f25 x = F_spec_Busy k x := by kernel_rfl
set_option maxRecDepth 1000000 in
theorem m_spec_Busy (k : Nat) : Meets Try.prog 25 (c_spec_Busy k) := meets_ev TTok mixed (cts := cs_spec_Busy k) trivial Try.func25 (by kernel_rfl) (by kernel_rfl) (e_spec_Busy k)
abbrev ps_impl_Busy : List PK := [.val tWorld (.pair (.pair .leaf (.pair .leaf (.pair .leaf (.pair .leaf (.pair .leaf .shr))))) (.pair .leaf (.pair .leaf (.pair .shr (.pair .shr (.pair .shr (.pair .leaf (.pair .shr (.pair .leaf (.pair .shr (.pair .shr (.pair .shr (.pair .shr .shr)))))))))))))]
abbrev rs_impl_Busy : List RK := [.val (.int .i64) .leaf]
def c_impl_Busy (k : Nat) : Con := ⟨ps_impl_Busy, rs_impl_Busy, F_impl_Busy k⟩
def la_impl_Busy : Nat → Option Ann := fun | 3 => some ⟨[(1, .box 3 tWorld (.pair (.pair .leaf (.pair .leaf (.pair .leaf (.pair .leaf (.pair .leaf (.sl (.sha [1]))))))) (.pair .leaf (.pair .leaf (.pair (.sl (.sha [1])) (.pair (.sl (.sha [1])) (.pair (.sl (.sha [1])) (.pair .leaf (.pair (.sl (.sha [1])) (.pair .leaf (.pair (.sl (.sha [1])) (.pair (.sl (.sha [1])) (.pair (.sl (.sha [1])) (.pair (.sl (.sha [1])) (.sl (.sha [1])))))))))))))))), (3, .val (.int .i64) .leaf), (7, .val (.sl tTask) (.sl (.sha [1]))), (8, .val (.int .i64) .leaf), (9, .val (.int .i64) .leaf)], 4⟩ | _ => none
def ja_impl_Busy : Nat → Option Ann := fun _ => none
def cs_impl_Busy (k : Nat) : List (FuncId × Con) := []
set_option maxRecDepth 1000000 in
theorem e_impl_Busy (k : Nat) (x) : evFn2 (mkCx TT (cs_impl_Busy k) la_impl_Busy ja_impl_Busy k) ps_impl_Busy rs_impl_Busy Try.f26 x = F_impl_Busy k x := by kernel_rfl
set_option maxRecDepth 1000000 in
theorem m_impl_Busy (k : Nat) : Meets Try.prog 26 (c_impl_Busy k) := meets_ev TTok mixed (cts := cs_impl_Busy k) trivial Try.func26 (by kernel_rfl) (by kernel_rfl) (e_impl_Busy k)
abbrev ps_laws_FnExactBusy : List PK := [.val tWorld (.pair (.pair .leaf (.pair .leaf (.pair .leaf (.pair .leaf (.pair .leaf .shr))))) (.pair .leaf (.pair .leaf (.pair .shr (.pair .shr (.pair .shr (.pair .leaf (.pair .shr (.pair .leaf (.pair .shr (.pair .shr (.pair .shr (.pair .shr .shr)))))))))))))]
abbrev rs_laws_FnExactBusy : List RK := [.val .bool .leaf]
def c_laws_FnExactBusy (k : Nat) : Con := ⟨ps_laws_FnExactBusy, rs_laws_FnExactBusy, F_laws_FnExactBusy k⟩
def la_laws_FnExactBusy : Nat → Option Ann := fun _ => none
def ja_laws_FnExactBusy : Nat → Option Ann := fun _ => none
def cs_laws_FnExactBusy (k : Nat) : List (FuncId × Con) := [(18, c_laws_szWorld k), (20, c_laws_toWorld k), (25, c_spec_Busy k), (26, c_impl_Busy k), (22, c_laws_eqWorld k)]
set_option maxRecDepth 1000000 in
theorem e_laws_FnExactBusy (k : Nat) (x) : evFn2 (mkCx TT (cs_laws_FnExactBusy k) la_laws_FnExactBusy ja_laws_FnExactBusy k) ps_laws_FnExactBusy rs_laws_FnExactBusy Try.f7 x = F_laws_FnExactBusy k x := by kernel_rfl
set_option maxRecDepth 1000000 in
theorem m_laws_FnExactBusy (k : Nat) : Meets Try.prog 7 (c_laws_FnExactBusy k) := meets_ev TTok mixed (cts := cs_laws_FnExactBusy k) ⟨m_laws_szWorld k, m_laws_toWorld k, m_spec_Busy k, m_impl_Busy k, m_laws_eqWorld k, trivial⟩ Try.func7 (by kernel_rfl) (by kernel_rfl) (e_laws_FnExactBusy k)
end Vg.Try
