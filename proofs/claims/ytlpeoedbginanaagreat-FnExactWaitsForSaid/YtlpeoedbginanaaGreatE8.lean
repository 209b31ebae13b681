/- What the functions compute is what the evaluator says; their contracts. -/
import Derived.Test.YtlpeoedbginanaaGreatE7
namespace Vg.Tryz
open Go Vg Go.Proofs
set_option linter.unusedVariables false
abbrev ps_laws_eqChain : List PK := [.val tChain (.pair .leaf .shr), .val tChain (.pair .leaf .shr)]
abbrev rs_laws_eqChain : List RK := [.val .bool .leaf]
def c_laws_eqChain (k : Nat) : Con := ⟨ps_laws_eqChain, rs_laws_eqChain, F_laws_eqChain k⟩
def la_laws_eqChain : Nat → Option Ann := fun _ => none
def ja_laws_eqChain : Nat → Option Ann := fun _ => none
def cs_laws_eqChain (k : Nat) : List (FuncId × Con) := [(75, c_laws_eqAlarmS k)]
set_option maxRecDepth 1000000 in
theorem e_laws_eqChain (k : Nat) (x) : evFn2 (mkCx TT (cs_laws_eqChain k) la_laws_eqChain ja_laws_eqChain k) ps_laws_eqChain rs_laws_eqChain Tryz.f344 x = F_laws_eqChain k x := by kernel_rfl
set_option maxRecDepth 1000000 in
theorem m_laws_eqChain (k : Nat) : Meets Tryz.prog 344 (c_laws_eqChain k) := meets_ev TTok mixed (cts := cs_laws_eqChain k) ⟨m_laws_eqAlarmS k, trivial⟩ Tryz.func344 (by kernel_rfl) (by kernel_rfl) (e_laws_eqChain k)
abbrev ps_laws_eqChainS : List PK := [.val (.sl tChain) .shr, .val (.sl tChain) .shr]
abbrev rs_laws_eqChainS : List RK := [.val .bool .leaf]
def c_laws_eqChainS (k : Nat) : Con := ⟨ps_laws_eqChainS, rs_laws_eqChainS, F_laws_eqChainS k⟩
def la_laws_eqChainS : Nat → Option Ann := fun | 4 => some ⟨[(0, .val (.sl tChain) (.sl (.sha [1]))), (1, .val (.sl tChain) (.sl (.sha [1]))), (5, .val (.int .i64) .leaf)], 3⟩ | _ => none
def ja_laws_eqChainS : Nat → Option Ann := fun _ => none
def cs_laws_eqChainS (k : Nat) : List (FuncId × Con) := [(344, c_laws_eqChain k)]
set_option maxRecDepth 1000000 in
theorem e_laws_eqChainS (k : Nat) (x) : evFn2 (mkCx TT (cs_laws_eqChainS k) la_laws_eqChainS ja_laws_eqChainS k) ps_laws_eqChainS rs_laws_eqChainS Tryz.f274 x = F_laws_eqChainS k x := by kernel_rfl
set_option maxRecDepth 1000000 in
theorem m_laws_eqChainS (k : Nat) : Meets Tryz.prog 274 (c_laws_eqChainS k) := meets_ev TTok mixed (cts := cs_laws_eqChainS k) ⟨m_laws_eqChain k, trivial⟩ Tryz.func274 (by kernel_rfl) (by kernel_rfl) (e_laws_eqChainS k)
abbrev ps_laws_eqPart : List PK := [.val tPart (.pair .leaf (.pair .leaf .shr)), .val tPart (.pair .leaf (.pair .leaf .shr))]
abbrev rs_laws_eqPart : List RK := [.val .bool .leaf]
def c_laws_eqPart (k : Nat) : Con := ⟨ps_laws_eqPart, rs_laws_eqPart, F_laws_eqPart k⟩
def la_laws_eqPart : Nat → Option Ann := fun _ => none
def ja_laws_eqPart : Nat → Option Ann := fun _ => none
def cs_laws_eqPart (k : Nat) : List (FuncId × Con) := [(274, c_laws_eqChainS k)]
set_option maxRecDepth 1000000 in
theorem e_laws_eqPart (k : Nat) (x) : evFn2 (mkCx TT (cs_laws_eqPart k) la_laws_eqPart ja_laws_eqPart k) ps_laws_eqPart rs_laws_eqPart Tryz.f162 x = F_laws_eqPart k x := by kernel_rfl
set_option maxRecDepth 1000000 in
theorem m_laws_eqPart (k : Nat) : Meets Tryz.prog 162 (c_laws_eqPart k) := meets_ev TTok mixed (cts := cs_laws_eqPart k) ⟨m_laws_eqChainS k, trivial⟩ Tryz.func162 (by kernel_rfl) (by kernel_rfl) (e_laws_eqPart k)
abbrev ps_laws_eqPartS : List PK := [.val (.sl tPart) .shr, .val (.sl tPart) .shr]
abbrev rs_laws_eqPartS : List RK := [.val .bool .leaf]
def c_laws_eqPartS (k : Nat) : Con := ⟨ps_laws_eqPartS, rs_laws_eqPartS, F_laws_eqPartS k⟩
def la_laws_eqPartS : Nat → Option Ann := fun | 4 => some ⟨[(0, .val (.sl tPart) (.sl (.sha [1]))), (1, .val (.sl tPart) (.sl (.sha [1]))), (5, .val (.int .i64) .leaf)], 3⟩ | _ => none
def ja_laws_eqPartS : Nat → Option Ann := fun _ => none
def cs_laws_eqPartS (k : Nat) : List (FuncId × Con) := [(162, c_laws_eqPart k)]
set_option maxRecDepth 1000000 in
theorem e_laws_eqPartS (k : Nat) (x) : evFn2 (mkCx TT (cs_laws_eqPartS k) la_laws_eqPartS ja_laws_eqPartS k) ps_laws_eqPartS rs_laws_eqPartS Tryz.f73 x = F_laws_eqPartS k x := by kernel_rfl
set_option maxRecDepth 1000000 in
theorem m_laws_eqPartS (k : Nat) : Meets Tryz.prog 73 (c_laws_eqPartS k) := meets_ev TTok mixed (cts := cs_laws_eqPartS k) ⟨m_laws_eqPart k, trivial⟩ Tryz.func73 (by kernel_rfl) (by kernel_rfl) (e_laws_eqPartS k)
abbrev ps_laws_eqSub : List PK := [.val tSub (.pair .shr .leaf), .val tSub (.pair .shr .leaf)]
abbrev rs_laws_eqSub : List RK := [.val .bool .leaf]
def c_laws_eqSub (k : Nat) : Con := ⟨ps_laws_eqSub, rs_laws_eqSub, F_laws_eqSub k⟩
def la_laws_eqSub : Nat → Option Ann := fun _ => none
def ja_laws_eqSub : Nat → Option Ann := fun _ => none
def cs_laws_eqSub (k : Nat) : List (FuncId × Con) := [(75, c_laws_eqAlarmS k)]
set_option maxRecDepth 1000000 in
theorem e_laws_eqSub (k : Nat) (x) : evFn2 (mkCx TT (cs_laws_eqSub k) la_laws_eqSub ja_laws_eqSub k) ps_laws_eqSub rs_laws_eqSub Tryz.f163 x = F_laws_eqSub k x := by kernel_rfl
set_option maxRecDepth 1000000 in
theorem m_laws_eqSub (k : Nat) : Meets Tryz.prog 163 (c_laws_eqSub k) := meets_ev TTok mixed (cts := cs_laws_eqSub k) ⟨m_laws_eqAlarmS k, trivial⟩ Tryz.func163 (by kernel_rfl) (by kernel_rfl) (e_laws_eqSub k)
abbrev ps_laws_eqSubS : List PK := [.val (.sl tSub) .shr, .val (.sl tSub) .shr]
abbrev rs_laws_eqSubS : List RK := [.val .bool .leaf]
def c_laws_eqSubS (k : Nat) : Con := ⟨ps_laws_eqSubS, rs_laws_eqSubS, F_laws_eqSubS k⟩
def la_laws_eqSubS : Nat → Option Ann := fun | 4 => some ⟨[(0, .val (.sl tSub) (.sl (.sha [1]))), (1, .val (.sl tSub) (.sl (.sha [1]))), (5, .val (.int .i64) .leaf)], 3⟩ | _ => none
def ja_laws_eqSubS : Nat → Option Ann := fun _ => none
def cs_laws_eqSubS (k : Nat) : List (FuncId × Con) := [(163, c_laws_eqSub k)]
set_option maxRecDepth 1000000 in
theorem e_laws_eqSubS (k : Nat) (x) : evFn2 (mkCx TT (cs_laws_eqSubS k) la_laws_eqSubS ja_laws_eqSubS k) ps_laws_eqSubS rs_laws_eqSubS Tryz.f74 x = F_laws_eqSubS k x := by kernel_rfl
set_option maxRecDepth 1000000 in
theorem m_laws_eqSubS (k : Nat) : Meets Tryz.prog 74 (c_laws_eqSubS k) := meets_ev TTok mixed (cts := cs_laws_eqSubS k) ⟨m_laws_eqSub k, trivial⟩ Tryz.func74 (by kernel_rfl) (by kernel_rfl) (e_laws_eqSubS k)
abbrev ps_laws_eqGroup : List PK := [.val tGroup (.pair .leaf (.pair .shr (.pair .leaf (.pair .leaf .shr)))), .val tGroup (.pair .leaf (.pair .shr (.pair .leaf (.pair .leaf .shr))))]
abbrev rs_laws_eqGroup : List RK := [.val .bool .leaf]
def c_laws_eqGroup (k : Nat) : Con := ⟨ps_laws_eqGroup, rs_laws_eqGroup, F_laws_eqGroup k⟩
def la_laws_eqGroup : Nat → Option Ann := fun _ => none
def ja_laws_eqGroup : Nat → Option Ann := fun _ => none
def cs_laws_eqGroup (k : Nat) : List (FuncId × Con) := [(34, c_laws_eqLabelS k), (75, c_laws_eqAlarmS k)]
set_option maxRecDepth 1000000 in
theorem e_laws_eqGroup (k : Nat) (x) : evFn2 (mkCx TT (cs_laws_eqGroup k) la_laws_eqGroup ja_laws_eqGroup k) ps_laws_eqGroup rs_laws_eqGroup Tryz.f164 x = F_laws_eqGroup k x := by kernel_rfl
set_option maxRecDepth 1000000 in
theorem m_laws_eqGroup (k : Nat) : Meets Tryz.prog 164 (c_laws_eqGroup k) := meets_ev TTok mixed (cts := cs_laws_eqGroup k) ⟨m_laws_eqLabelS k, m_laws_eqAlarmS k, trivial⟩ Tryz.func164 (by kernel_rfl) (by kernel_rfl) (e_laws_eqGroup k)
abbrev ps_laws_eqGroupS : List PK := [.val (.sl tGroup) .shr, .val (.sl tGroup) .shr]
abbrev rs_laws_eqGroupS : List RK := [.val .bool .leaf]
def c_laws_eqGroupS (k : Nat) : Con := ⟨ps_laws_eqGroupS, rs_laws_eqGroupS, F_laws_eqGroupS k⟩
def la_laws_eqGroupS : Nat → Option Ann := fun | 4 => some ⟨[(0, .val (.sl tGroup) (.sl (.sha [1]))), (1, .val (.sl tGroup) (.sl (.sha [1]))), (5, .val (.int .i64) .leaf)], 3⟩ | _ => none
def ja_laws_eqGroupS : Nat → Option Ann := fun _ => none
def cs_laws_eqGroupS (k : Nat) : List (FuncId × Con) := [(164, c_laws_eqGroup k)]
set_option maxRecDepth 1000000 in
theorem e_laws_eqGroupS (k : Nat) (x) : evFn2 (mkCx TT (cs_laws_eqGroupS k) la_laws_eqGroupS ja_laws_eqGroupS k) ps_laws_eqGroupS rs_laws_eqGroupS Tryz.f76 x = F_laws_eqGroupS k x := by kernel_rfl
set_option maxRecDepth 1000000 in
theorem m_laws_eqGroupS (k : Nat) : Meets Tryz.prog 76 (c_laws_eqGroupS k) := meets_ev TTok mixed (cts := cs_laws_eqGroupS k) ⟨m_laws_eqGroup k, trivial⟩ Tryz.func76 (by kernel_rfl) (by kernel_rfl) (e_laws_eqGroupS k)
abbrev ps_laws_eqTimer : List PK := [.val tTimer (.pair .leaf .leaf), .val tTimer (.pair .leaf .leaf)]
abbrev rs_laws_eqTimer : List RK := [.val .bool .leaf]
def c_laws_eqTimer (k : Nat) : Con := ⟨ps_laws_eqTimer, rs_laws_eqTimer, F_laws_eqTimer k⟩
def la_laws_eqTimer : Nat → Option Ann := fun _ => none
def ja_laws_eqTimer : Nat → Option Ann := fun _ => none
def cs_laws_eqTimer (k : Nat) : List (FuncId × Con) := []
set_option maxRecDepth 1000000 in
theorem e_laws_eqTimer (k : Nat) (x) : evFn2 (mkCx TT (cs_laws_eqTimer k) la_laws_eqTimer ja_laws_eqTimer k) ps_laws_eqTimer rs_laws_eqTimer Tryz.f165 x = F_laws_eqTimer k x := by kernel_rfl
set_option maxRecDepth 1000000 in
theorem m_laws_eqTimer (k : Nat) : Meets Tryz.prog 165 (c_laws_eqTimer k) := meets_ev TTok mixed (cts := cs_laws_eqTimer k) trivial Tryz.func165 (by kernel_rfl) (by kernel_rfl) (e_laws_eqTimer k)
abbrev ps_laws_eqTimerS : List PK := [.val (.sl tTimer) .shr, .val (.sl tTimer) .shr]
abbrev rs_laws_eqTimerS : List RK := [.val .bool .leaf]
def c_laws_eqTimerS (k : Nat) : Con := ⟨ps_laws_eqTimerS, rs_laws_eqTimerS, F_laws_eqTimerS k⟩
def la_laws_eqTimerS : Nat → Option Ann := fun | 4 => some ⟨[(0, .val (.sl tTimer) (.sl (.sha [1]))), (1, .val (.sl tTimer) (.sl (.sha [1]))), (5, .val (.int .i64) .leaf)], 3⟩ | _ => none
def ja_laws_eqTimerS : Nat → Option Ann := fun _ => none
def cs_laws_eqTimerS (k : Nat) : List (FuncId × Con) := [(165, c_laws_eqTimer k)]
set_option maxRecDepth 1000000 in
theorem e_laws_eqTimerS (k : Nat) (x) : evFn2 (mkCx TT (cs_laws_eqTimerS k) la_laws_eqTimerS ja_laws_eqTimerS k) ps_laws_eqTimerS rs_laws_eqTimerS Tryz.f77 x = F_laws_eqTimerS k x := by kernel_rfl
set_option maxRecDepth 1000000 in
theorem m_laws_eqTimerS (k : Nat) : Meets Tryz.prog 77 (c_laws_eqTimerS k) := meets_ev TTok mixed (cts := cs_laws_eqTimerS k) ⟨m_laws_eqTimer k, trivial⟩ Tryz.func77 (by kernel_rfl) (by kernel_rfl) (e_laws_eqTimerS k)
abbrev ps_laws_eqBatch : List PK := [.val tBatch (.pair .leaf (.pair .shr (.pair .leaf .shr))), .val tBatch (.pair .leaf (.pair .shr (.pair .leaf .shr)))]
abbrev rs_laws_eqBatch : List RK := [.val .bool .leaf]
def c_laws_eqBatch (k : Nat) : Con := ⟨ps_laws_eqBatch, rs_laws_eqBatch, F_laws_eqBatch k⟩
def la_laws_eqBatch : Nat → Option Ann := fun _ => none
def ja_laws_eqBatch : Nat → Option Ann := fun _ => none
def cs_laws_eqBatch (k : Nat) : List (FuncId × Con) := [(34, c_laws_eqLabelS k), (75, c_laws_eqAlarmS k)]
set_option maxRecDepth 1000000 in
theorem e_laws_eqBatch (k : Nat) (x) : evFn2 (mkCx TT (cs_laws_eqBatch k) la_laws_eqBatch ja_laws_eqBatch k) ps_laws_eqBatch rs_laws_eqBatch Tryz.f166 x = F_laws_eqBatch k x := by kernel_rfl
set_option maxRecDepth 1000000 in
theorem m_laws_eqBatch (k : Nat) : Meets Tryz.prog 166 (c_laws_eqBatch k) := meets_ev TTok mixed (cts := cs_laws_eqBatch k) ⟨m_laws_eqLabelS k, m_laws_eqAlarmS k, trivial⟩ Tryz.func166 (by kernel_rfl) (by kernel_rfl) (e_laws_eqBatch k)
abbrev ps_laws_eqBatchS : List PK := [.val (.sl tBatch) .shr, .val (.sl tBatch) .shr]
abbrev rs_laws_eqBatchS : List RK := [.val .bool .leaf]
def c_laws_eqBatchS (k : Nat) : Con := ⟨ps_laws_eqBatchS, rs_laws_eqBatchS, F_laws_eqBatchS k⟩
def la_laws_eqBatchS : Nat → Option Ann := fun | 4 => some ⟨[(0, .val (.sl tBatch) (.sl (.sha [1]))), (1, .val (.sl tBatch) (.sl (.sha [1]))), (5, .val (.int .i64) .leaf)], 3⟩ | _ => none
def ja_laws_eqBatchS : Nat → Option Ann := fun _ => none
def cs_laws_eqBatchS (k : Nat) : List (FuncId × Con) := [(166, c_laws_eqBatch k)]
set_option maxRecDepth 1000000 in
theorem e_laws_eqBatchS (k : Nat) (x) : evFn2 (mkCx TT (cs_laws_eqBatchS k) la_laws_eqBatchS ja_laws_eqBatchS k) ps_laws_eqBatchS rs_laws_eqBatchS Tryz.f78 x = F_laws_eqBatchS k x := by kernel_rfl
set_option maxRecDepth 1000000 in
theorem m_laws_eqBatchS (k : Nat) : Meets Tryz.prog 78 (c_laws_eqBatchS k) := meets_ev TTok mixed (cts := cs_laws_eqBatchS k) ⟨m_laws_eqBatch k, trivial⟩ Tryz.func78 (by kernel_rfl) (by kernel_rfl) (e_laws_eqBatchS k)
abbrev ps_laws_eqIntS : List PK := [.val (.sl (.int .i64)) .shr, .val (.sl (.int .i64)) .shr]
abbrev rs_laws_eqIntS : List RK := [.val .bool .leaf]
def c_laws_eqIntS (k : Nat) : Con := ⟨ps_laws_eqIntS, rs_laws_eqIntS, F_laws_eqIntS k⟩
def la_laws_eqIntS : Nat → Option Ann := fun | 4 => some ⟨[(0, .val (.sl (.int .i64)) (.sl (.sha [1]))), (1, .val (.sl (.int .i64)) (.sl (.sha [1]))), (5, .val (.int .i64) .leaf)], 3⟩ | _ => none
def ja_laws_eqIntS : Nat → Option Ann := fun _ => none
def cs_laws_eqIntS (k : Nat) : List (FuncId × Con) := []
set_option maxRecDepth 1000000 in
theorem e_laws_eqIntS (k : Nat) (x) : evFn2 (mkCx TT (cs_laws_eqIntS k) la_laws_eqIntS ja_laws_eqIntS k) ps_laws_eqIntS rs_laws_eqIntS Tryz.f275 x = F_laws_eqIntS k x := by kernel_rfl
set_option maxRecDepth 1000000 in
theorem m_laws_eqIntS (k : Nat) : Meets Tryz.prog 275 (c_laws_eqIntS k) := meets_ev TTok mixed (cts := cs_laws_eqIntS k) trivial Tryz.func275 (by kernel_rfl) (by kernel_rfl) (e_laws_eqIntS k)
abbrev ps_laws_eqTask : List PK := [.val tTask (.pair .leaf (.pair .leaf (.pair (.pair .shr (.pair .leaf (.pair .leaf .leaf))) (.pair .shr (.pair .leaf (.pair .shr (.pair .shr (.pair .leaf .leaf)))))))), .val tTask (.pair .leaf (.pair .leaf (.pair (.pair .shr (.pair .leaf (.pair .leaf .leaf))) (.pair .shr (.pair .leaf (.pair .shr (.pair .shr (.pair .leaf .leaf))))))))]
abbrev rs_laws_eqTask : List RK := [.val .bool .leaf]
def c_laws_eqTask (k : Nat) : Con := ⟨ps_laws_eqTask, rs_laws_eqTask, F_laws_eqTask k⟩
def la_laws_eqTask : Nat → Option Ann := fun _ => none
def ja_laws_eqTask : Nat → Option Ann := fun _ => none
def cs_laws_eqTask (k : Nat) : List (FuncId × Con) := [(40, c_laws_eqAlarm k), (34, c_laws_eqLabelS k), (275, c_laws_eqIntS k), (75, c_laws_eqAlarmS k)]
set_option maxRecDepth 1000000 in
theorem e_laws_eqTask (k : Nat) (x) : evFn2 (mkCx TT (cs_laws_eqTask k) la_laws_eqTask ja_laws_eqTask k) ps_laws_eqTask rs_laws_eqTask Tryz.f167 x = F_laws_eqTask k x := by kernel_rfl
set_option maxRecDepth 1000000 in
theorem m_laws_eqTask (k : Nat) : Meets Tryz.prog 167 (c_laws_eqTask k) := meets_ev TTok mixed (cts := cs_laws_eqTask k) ⟨m_laws_eqAlarm k, m_laws_eqLabelS k, m_laws_eqIntS k, m_laws_eqAlarmS k, trivial⟩ Tryz.func167 (by kernel_rfl) (by kernel_rfl) (e_laws_eqTask k)
abbrev ps_laws_eqTaskS : List PK := [.val (.sl tTask) .shr, .val (.sl tTask) .shr]
abbrev rs_laws_eqTaskS : List RK := [.val .bool .leaf]
def c_laws_eqTaskS (k : Nat) : Con := ⟨ps_laws_eqTaskS, rs_laws_eqTaskS, F_laws_eqTaskS k⟩
def la_laws_eqTaskS : Nat → Option Ann := fun | 4 => some ⟨[(0, .val (.sl tTask) (.sl (.sha [1]))), (1, .val (.sl tTask) (.sl (.sha [1]))), (5, .val (.int .i64) .leaf)], 3⟩ | _ => none
def ja_laws_eqTaskS : Nat → Option Ann := fun _ => none
def cs_laws_eqTaskS (k : Nat) : List (FuncId × Con) := [(167, c_laws_eqTask k)]
set_option maxRecDepth 1000000 in
theorem e_laws_eqTaskS (k : Nat) (x) : evFn2 (mkCx TT (cs_laws_eqTaskS k) la_laws_eqTaskS ja_laws_eqTaskS k) ps_laws_eqTaskS rs_laws_eqTaskS Tryz.f79 x = F_laws_eqTaskS k x := by kernel_rfl
set_option maxRecDepth 1000000 in
theorem m_laws_eqTaskS (k : Nat) : Meets Tryz.prog 79 (c_laws_eqTaskS k) := meets_ev TTok mixed (cts := cs_laws_eqTaskS k) ⟨m_laws_eqTask k, trivial⟩ Tryz.func79 (by kernel_rfl) (by kernel_rfl) (e_laws_eqTaskS k)
abbrev ps_laws_eqDeed : List PK := [.val tDeed (.pair .leaf (.pair .leaf (.pair (.pair .shr (.pair .leaf (.pair .leaf .leaf))) (.pair .shr (.pair .leaf (.pair .leaf (.pair .leaf (.pair .shr (.pair .leaf (.pair .leaf (.pair .leaf .leaf))))))))))), .val tDeed (.pair .leaf (.pair .leaf (.pair (.pair .shr (.pair .leaf (.pair .leaf .leaf))) (.pair .shr (.pair .leaf (.pair .leaf (.pair .leaf (.pair .shr (.pair .leaf (.pair .leaf (.pair .leaf .leaf)))))))))))]
abbrev rs_laws_eqDeed : List RK := [.val .bool .leaf]
def c_laws_eqDeed (k : Nat) : Con := ⟨ps_laws_eqDeed, rs_laws_eqDeed, F_laws_eqDeed k⟩
def la_laws_eqDeed : Nat → Option Ann := fun _ => none
def ja_laws_eqDeed : Nat → Option Ann := fun _ => none
def cs_laws_eqDeed (k : Nat) : List (FuncId × Con) := [(40, c_laws_eqAlarm k), (34, c_laws_eqLabelS k), (75, c_laws_eqAlarmS k)]
set_option maxRecDepth 1000000 in
theorem e_laws_eqDeed (k : Nat) (x) : evFn2 (mkCx TT (cs_laws_eqDeed k) la_laws_eqDeed ja_laws_eqDeed k) ps_laws_eqDeed rs_laws_eqDeed Tryz.f168 x = F_laws_eqDeed k x := by kernel_rfl
set_option maxRecDepth 1000000 in
theorem m_laws_eqDeed (k : Nat) : Meets Tryz.prog 168 (c_laws_eqDeed k) := meets_ev TTok mixed (cts := cs_laws_eqDeed k) ⟨m_laws_eqAlarm k, m_laws_eqLabelS k, m_laws_eqAlarmS k, trivial⟩ Tryz.func168 (by kernel_rfl) (by kernel_rfl) (e_laws_eqDeed k)
abbrev ps_laws_eqDeedS : List PK := [.val (.sl tDeed) .shr, .val (.sl tDeed) .shr]
abbrev rs_laws_eqDeedS : List RK := [.val .bool .leaf]
def c_laws_eqDeedS (k : Nat) : Con := ⟨ps_laws_eqDeedS, rs_laws_eqDeedS, F_laws_eqDeedS k⟩
def la_laws_eqDeedS : Nat → Option Ann := fun | 4 => some ⟨[(0, .val (.sl tDeed) (.sl (.sha [1]))), (1, .val (.sl tDeed) (.sl (.sha [1]))), (5, .val (.int .i64) .leaf)], 3⟩ | _ => none
def ja_laws_eqDeedS : Nat → Option Ann := fun _ => none
def cs_laws_eqDeedS (k : Nat) : List (FuncId × Con) := [(168, c_laws_eqDeed k)]
set_option maxRecDepth 1000000 in
theorem e_laws_eqDeedS (k : Nat) (x) : evFn2 (mkCx TT (cs_laws_eqDeedS k) la_laws_eqDeedS ja_laws_eqDeedS k) ps_laws_eqDeedS rs_laws_eqDeedS Tryz.f80 x = F_laws_eqDeedS k x := by kernel_rfl
set_option maxRecDepth 1000000 in
theorem m_laws_eqDeedS (k : Nat) : Meets Tryz.prog 80 (c_laws_eqDeedS k) := meets_ev TTok mixed (cts := cs_laws_eqDeedS k) ⟨m_laws_eqDeed k, trivial⟩ Tryz.func80 (by kernel_rfl) (by kernel_rfl) (e_laws_eqDeedS k)
abbrev ps_laws_eqWorld : List PK := [.val tWorld (.pair (.pair .leaf (.pair .leaf (.pair .leaf (.pair .leaf (.pair .leaf .shr))))) (.pair .leaf (.pair .leaf (.pair .shr (.pair .shr (.pair .shr (.pair .leaf (.pair .shr (.pair .leaf (.pair .shr (.pair .shr (.pair .shr (.pair .shr .shr))))))))))))), .val tWorld (.pair (.pair .leaf (.pair .leaf (.pair .leaf (.pair .leaf (.pair .leaf .shr))))) (.pair .leaf (.pair .leaf (.pair .shr (.pair .shr (.pair .shr (.pair .leaf (.pair .shr (.pair .leaf (.pair .shr (.pair .shr (.pair .shr (.pair .shr .shr)))))))))))))]
abbrev rs_laws_eqWorld : List RK := [.val .bool .leaf]
def c_laws_eqWorld (k : Nat) : Con := ⟨ps_laws_eqWorld, rs_laws_eqWorld, F_laws_eqWorld k⟩
def la_laws_eqWorld : Nat → Option Ann := fun _ => none
def ja_laws_eqWorld : Nat → Option Ann := fun _ => none
def cs_laws_eqWorld (k : Nat) : List (FuncId × Con) := [(72, c_laws_eqConf k), (73, c_laws_eqPartS k), (74, c_laws_eqSubS k), (75, c_laws_eqAlarmS k), (76, c_laws_eqGroupS k), (77, c_laws_eqTimerS k), (78, c_laws_eqBatchS k), (79, c_laws_eqTaskS k), (80, c_laws_eqDeedS k)]
set_option maxRecDepth 1000000 in
theorem e_laws_eqWorld (k : Nat) (x) : evFn2 (mkCx TT (cs_laws_eqWorld k) la_laws_eqWorld ja_laws_eqWorld k) ps_laws_eqWorld rs_laws_eqWorld Tryz.f19 x = F_laws_eqWorld k x := by kernel_rfl
set_option maxRecDepth 1000000 in
theorem m_laws_eqWorld (k : Nat) : Meets Tryz.prog 19 (c_laws_eqWorld k) := meets_ev TTok mixed (cts := cs_laws_eqWorld k) ⟨m_laws_eqConf k, m_laws_eqPartS k, m_laws_eqSubS k, m_laws_eqAlarmS k, m_laws_eqGroupS k, m_laws_eqTimerS k, m_laws_eqBatchS k, m_laws_eqTaskS k, m_laws_eqDeedS k, trivial⟩ Tryz.func19 (by kernel_rfl) (by kernel_rfl) (e_laws_eqWorld k)
abbrev ps_laws_FnExactWorldOk : List PK := [.val tWorld (.pair (.pair .leaf (.pair .leaf (.pair .leaf (.pair .leaf (.pair .leaf .shr))))) (.pair .leaf (.pair .leaf (.pair .shr (.pair .shr (.pair .shr (.pair .leaf (.pair .shr (.pair .leaf (.pair .shr (.pair .shr (.pair .shr (.pair .shr .shr)))))))))))))]
abbrev rs_laws_FnExactWorldOk : List RK := [.val .bool .leaf]
def c_laws_FnExactWorldOk (k : Nat) : Con := ⟨ps_laws_FnExactWorldOk, rs_laws_FnExactWorldOk, F_laws_FnExactWorldOk k⟩
def la_laws_FnExactWorldOk : Nat → Option Ann := fun _ => none
def ja_laws_FnExactWorldOk : Nat → Option Ann := fun _ => none
def cs_laws_FnExactWorldOk (k : Nat) : List (FuncId × Con) := [(15, c_laws_szWorld k), (17, c_laws_toWorld k), (20, c_spec_WorldOk k), (21, c_impl_WorldOk k), (19, c_laws_eqWorld k)]
set_option maxRecDepth 1000000 in
theorem e_laws_FnExactWorldOk (k : Nat) (x) : evFn2 (mkCx TT (cs_laws_FnExactWorldOk k) la_laws_FnExactWorldOk ja_laws_FnExactWorldOk k) ps_laws_FnExactWorldOk rs_laws_FnExactWorldOk Tryz.f4 x = F_laws_FnExactWorldOk k x := by kernel_rfl
set_option maxRecDepth 1000000 in
theorem m_laws_FnExactWorldOk (k : Nat) : Meets Tryz.prog 4 (c_laws_FnExactWorldOk k) := meets_ev TTok mixed (cts := cs_laws_FnExactWorldOk k) ⟨m_laws_szWorld k, m_laws_toWorld k, m_spec_WorldOk k, m_impl_WorldOk k, m_laws_eqWorld k, trivial⟩ Tryz.func4 (by kernel_rfl) (by kernel_rfl) (e_laws_FnExactWorldOk k)
end Vg.Tryz
