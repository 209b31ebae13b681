/- What the functions compute is what the evaluator says; their contracts. -/
import Derived.Test.YtbjolgfamnkeaaaE3
namespace Vg.Try
open Go Vg Go.Proofs
set_option linter.unusedVariables false
abbrev ps_impl_SubOk : List PK := [.val tSub (.pair .shr .leaf)]
abbrev rs_impl_SubOk : List RK := [.val .bool .leaf]
def c_impl_SubOk (k : Nat) : Con := ⟨ps_impl_SubOk, rs_impl_SubOk, F_impl_SubOk k⟩
def la_impl_SubOk : Nat → Option Ann := fun _ => none
def ja_impl_SubOk : Nat → Option Ann := fun _ => none
def cs_impl_SubOk (k : Nat) : List (FuncId × Con) := [(56, c_impl_alarmsOk k)]
set_option maxRecDepth 1000000 in
theorem e_impl_SubOk (k : Nat) (x) : evFn2 (mkCx TT (cs_impl_SubOk k) la_impl_SubOk ja_impl_SubOk k) ps_impl_SubOk rs_impl_SubOk Try.f99 x = F_impl_SubOk k x := by kernel_rfl
set_option maxRecDepth 1000000 in
theorem m_impl_SubOk (k : Nat) : Meets Try.prog 99 (c_impl_SubOk k) := meets_ev TTok mixed (cts := cs_impl_SubOk k) ⟨m_impl_alarmsOk k, trivial⟩ Try.func99 (by kernel_rfl) (by kernel_rfl) (e_impl_SubOk k)
abbrev ps_impl_subsRight : List PK := [.val (.sl tSub) .shr, .val tConf (.pair .leaf (.pair .leaf (.pair .leaf (.pair .leaf (.pair .leaf .shr)))))]
abbrev rs_impl_subsRight : List RK := [.val .bool .leaf]
def c_impl_subsRight (k : Nat) : Con := ⟨ps_impl_subsRight, rs_impl_subsRight, F_impl_subsRight k⟩
def la_impl_subsRight : Nat → Option Ann := fun | 2 => some ⟨[(0, .val (.sl tSub) (.sl (.sha [1]))), (3, .box 3 tConf (.pair .leaf (.pair .leaf (.pair .leaf (.pair .leaf (.pair .leaf (.sl (.sha [1])))))))), (7, .val (.sl tSub) (.sl (.sha [1]))), (8, .val (.int .i64) .leaf), (9, .val (.int .i64) .leaf)], 4⟩ | _ => none
def ja_impl_subsRight : Nat → Option Ann := fun | 7 => some ⟨[(0, .val (.sl tSub) (.sl (.sha [1]))), (3, .box 3 tConf (.pair .leaf (.pair .leaf (.pair .leaf (.pair .leaf (.pair .leaf (.sl (.sha [1]))))))))], 4⟩ | _ => none
def cs_impl_subsRight (k : Nat) : List (FuncId × Con) := [(99, c_impl_SubOk k)]
set_option maxRecDepth 1000000 in
theorem e_impl_subsRight (k : Nat) (x) : evFn2 (mkCx TT (cs_impl_subsRight k) la_impl_subsRight ja_impl_subsRight k) ps_impl_subsRight rs_impl_subsRight Try.f55 x = F_impl_subsRight k x := by kernel_rfl
set_option maxRecDepth 1000000 in
theorem m_impl_subsRight (k : Nat) : Meets Try.prog 55 (c_impl_subsRight k) := meets_ev TTok mixed (cts := cs_impl_subsRight k) ⟨m_impl_SubOk k, trivial⟩ Try.func55 (by kernel_rfl) (by kernel_rfl) (e_impl_subsRight k)
abbrev ps_impl_hasText : List PK := [.val (.sl .str) .shr, .val .str .leaf]
abbrev rs_impl_hasText : List RK := [.val .bool .leaf]
def c_impl_hasText (k : Nat) : Con := ⟨ps_impl_hasText, rs_impl_hasText, F_impl_hasText k⟩
def la_impl_hasText : Nat → Option Ann := fun | 2 => some ⟨[(1, .val .str .leaf), (7, .val (.sl .str) (.sl (.sha [1]))), (8, .val (.int .i64) .leaf), (9, .val (.int .i64) .leaf)], 3⟩ | _ => none
def ja_impl_hasText : Nat → Option Ann := fun _ => none
def cs_impl_hasText (k : Nat) : List (FuncId × Con) := []
set_option maxRecDepth 1000000 in
theorem e_impl_hasText (k : Nat) (x) : evFn2 (mkCx TT (cs_impl_hasText k) la_impl_hasText ja_impl_hasText k) ps_impl_hasText rs_impl_hasText Try.f148 x = F_impl_hasText k x := by kernel_rfl
set_option maxRecDepth 1000000 in
theorem m_impl_hasText (k : Nat) : Meets Try.prog 148 (c_impl_hasText k) := meets_ev TTok mixed (cts := cs_impl_hasText k) trivial Try.func148 (by kernel_rfl) (by kernel_rfl) (e_impl_hasText k)
abbrev ps_impl_Project : List PK := [.val (.sl tLabel) .shr, .val (.sl .str) .shr]
abbrev rs_impl_Project : List RK := [.val (.sl tLabel) .own]
def c_impl_Project (k : Nat) : Con := ⟨ps_impl_Project, rs_impl_Project, F_impl_Project k⟩
def la_impl_Project : Nat → Option Ann := fun | 3 => some ⟨[(1, .val (.sl .str) (.sl (.sha [1]))), (5, .val (.sl tLabel) (.sl (.row 3 [] true))), (8, .val (.sl tLabel) (.sl (.sha [1]))), (9, .val (.int .i64) .leaf), (10, .val (.int .i64) .leaf)], 4⟩ | _ => none
def ja_impl_Project : Nat → Option Ann := fun _ => none
def cs_impl_Project (k : Nat) : List (FuncId × Con) := [(148, c_impl_hasText k)]
set_option maxRecDepth 1000000 in
theorem e_impl_Project (k : Nat) (x) : evFn2 (mkCx TT (cs_impl_Project k) la_impl_Project ja_impl_Project k) ps_impl_Project rs_impl_Project Try.f145 x = F_impl_Project k x := by kernel_rfl
set_option maxRecDepth 1000000 in
theorem m_impl_Project (k : Nat) : Meets Try.prog 145 (c_impl_Project k) := meets_ev TTok mixed (cts := cs_impl_Project k) ⟨m_impl_hasText k, trivial⟩ Try.func145 (by kernel_rfl) (by kernel_rfl) (e_impl_Project k)
abbrev ps_impl_KeyOf : List PK := [.val tAlarm (.pair .shr (.pair .leaf (.pair .leaf .leaf))), .val (.sl .str) .shr]
abbrev rs_impl_KeyOf : List RK := [.val (.sl tLabel) .own]
def c_impl_KeyOf (k : Nat) : Con := ⟨ps_impl_KeyOf, rs_impl_KeyOf, F_impl_KeyOf k⟩
def la_impl_KeyOf : Nat → Option Ann := fun _ => none
def ja_impl_KeyOf : Nat → Option Ann := fun _ => none
def cs_impl_KeyOf (k : Nat) : List (FuncId × Con) := [(145, c_impl_Project k)]
set_option maxRecDepth 1000000 in
theorem e_impl_KeyOf (k : Nat) (x) : evFn2 (mkCx TT (cs_impl_KeyOf k) la_impl_KeyOf ja_impl_KeyOf k) ps_impl_KeyOf rs_impl_KeyOf Try.f137 x = F_impl_KeyOf k x := by kernel_rfl
set_option maxRecDepth 1000000 in
theorem m_impl_KeyOf (k : Nat) : Meets Try.prog 137 (c_impl_KeyOf k) := meets_ev TTok mixed (cts := cs_impl_KeyOf k) ⟨m_impl_Project k, trivial⟩ Try.func137 (by kernel_rfl) (by kernel_rfl) (e_impl_KeyOf k)
abbrev ps_impl_SameSet : List PK := [.val (.sl tLabel) .shr, .val (.sl tLabel) .shr]
abbrev rs_impl_SameSet : List RK := [.val .bool .leaf]
def c_impl_SameSet (k : Nat) : Con := ⟨ps_impl_SameSet, rs_impl_SameSet, F_impl_SameSet k⟩
def la_impl_SameSet : Nat → Option Ann := fun | 4 => some ⟨[(0, .val (.sl tLabel) (.sl (.sha [1]))), (1, .val (.sl tLabel) (.sl (.sha [1]))), (12, .val (.int .i64) .leaf), (13, .val (.int .i64) .leaf)], 3⟩ | _ => none
def ja_impl_SameSet : Nat → Option Ann := fun _ => none
def cs_impl_SameSet (k : Nat) : List (FuncId × Con) := []
set_option maxRecDepth 1000000 in
theorem e_impl_SameSet (k : Nat) (x) : evFn2 (mkCx TT (cs_impl_SameSet k) la_impl_SameSet ja_impl_SameSet k) ps_impl_SameSet rs_impl_SameSet Try.f129 x = F_impl_SameSet k x := by kernel_rfl
set_option maxRecDepth 1000000 in
theorem m_impl_SameSet (k : Nat) : Meets Try.prog 129 (c_impl_SameSet k) := meets_ev TTok mixed (cts := cs_impl_SameSet k) trivial Try.func129 (by kernel_rfl) (by kernel_rfl) (e_impl_SameSet k)
abbrev ps_impl_SetLess : List PK := [.val (.sl tLabel) .shr, .val (.sl tLabel) .shr]
abbrev rs_impl_SetLess : List RK := [.val .bool .leaf]
def c_impl_SetLess (k : Nat) : Con := ⟨ps_impl_SetLess, rs_impl_SetLess, F_impl_SetLess k⟩
def la_impl_SetLess : Nat → Option Ann := fun | 2 => some ⟨[(0, .val (.sl tLabel) (.sl (.sha [1]))), (1, .val (.sl tLabel) (.sl (.sha [1]))), (5, .val (.int .i64) .leaf)], 3⟩ | _ => none
def ja_impl_SetLess : Nat → Option Ann := fun | 8 => some ⟨[(0, .val (.sl tLabel) (.sl (.sha [1]))), (1, .val (.sl tLabel) (.sl (.sha [1])))], 3⟩ | _ => none
def cs_impl_SetLess (k : Nat) : List (FuncId × Con) := []
set_option maxRecDepth 1000000 in
theorem e_impl_SetLess (k : Nat) (x) : evFn2 (mkCx TT (cs_impl_SetLess k) la_impl_SetLess ja_impl_SetLess k) ps_impl_SetLess rs_impl_SetLess Try.f59 x = F_impl_SetLess k x := by kernel_rfl
set_option maxRecDepth 1000000 in
theorem m_impl_SetLess (k : Nat) : Meets Try.prog 59 (c_impl_SetLess k) := meets_ev TTok mixed (cts := cs_impl_SetLess k) trivial Try.func59 (by kernel_rfl) (by kernel_rfl) (e_impl_SetLess k)
abbrev ps_impl_keyedOk : List PK := [.val (.sl tAlarm) .shr, .val (.sl tLabel) .shr, .val (.sl .str) .shr]
abbrev rs_impl_keyedOk : List RK := [.val .bool .leaf]
def c_impl_keyedOk (k : Nat) : Con := ⟨ps_impl_keyedOk, rs_impl_keyedOk, F_impl_keyedOk k⟩
def la_impl_keyedOk : Nat → Option Ann := fun | 2 => some ⟨[(0, .val (.sl tAlarm) (.sl (.sha [1]))), (1, .val (.sl tLabel) (.sl (.sha [1]))), (2, .val (.sl .str) (.sl (.sha [1]))), (9, .val (.sl tAlarm) (.sl (.sha [1]))), (10, .val (.int .i64) .leaf), (11, .val (.int .i64) .leaf)], 3⟩ | _ => none
def ja_impl_keyedOk : Nat → Option Ann := fun _ => none
def cs_impl_keyedOk (k : Nat) : List (FuncId × Con) := [(100, c_impl_AlarmOk k), (137, c_impl_KeyOf k), (129, c_impl_SameSet k), (59, c_impl_SetLess k)]
set_option maxRecDepth 1000000 in
theorem e_impl_keyedOk (k : Nat) (x) : evFn2 (mkCx TT (cs_impl_keyedOk k) la_impl_keyedOk ja_impl_keyedOk k) ps_impl_keyedOk rs_impl_keyedOk Try.f128 x = F_impl_keyedOk k x := by kernel_rfl
set_option maxRecDepth 1000000 in
theorem m_impl_keyedOk (k : Nat) : Meets Try.prog 128 (c_impl_keyedOk k) := meets_ev TTok mixed (cts := cs_impl_keyedOk k) ⟨m_impl_AlarmOk k, m_impl_KeyOf k, m_impl_SameSet k, m_impl_SetLess k, trivial⟩ Try.func128 (by kernel_rfl) (by kernel_rfl) (e_impl_keyedOk k)
abbrev ps_impl_GroupOk : List PK := [.val tGroup (.pair .leaf (.pair .shr (.pair .leaf (.pair .leaf .shr)))), .val (.sl .str) .shr]
abbrev rs_impl_GroupOk : List RK := [.val .bool .leaf]
def c_impl_GroupOk (k : Nat) : Con := ⟨ps_impl_GroupOk, rs_impl_GroupOk, F_impl_GroupOk k⟩
def la_impl_GroupOk : Nat → Option Ann := fun _ => none
def ja_impl_GroupOk : Nat → Option Ann := fun _ => none
def cs_impl_GroupOk (k : Nat) : List (FuncId × Con) := [(126, c_impl_SetOk k), (79, c_impl_in k), (128, c_impl_keyedOk k)]
set_option maxRecDepth 1000000 in
theorem e_impl_GroupOk (k : Nat) (x) : evFn2 (mkCx TT (cs_impl_GroupOk k) la_impl_GroupOk ja_impl_GroupOk k) ps_impl_GroupOk rs_impl_GroupOk Try.f101 x = F_impl_GroupOk k x := by kernel_rfl
set_option maxRecDepth 1000000 in
theorem m_impl_GroupOk (k : Nat) : Meets Try.prog 101 (c_impl_GroupOk k) := meets_ev TTok mixed (cts := cs_impl_GroupOk k) ⟨m_impl_SetOk k, m_impl_in k, m_impl_keyedOk k, trivial⟩ Try.func101 (by kernel_rfl) (by kernel_rfl) (e_impl_GroupOk k)
abbrev ps_impl_GroupOf : List PK := [.val (.sl tGroup) .shr, .val (.sl tLabel) .shr]
abbrev rs_impl_GroupOf : List RK := [.val (.int .i64) .leaf]
def c_impl_GroupOf (k : Nat) : Con := ⟨ps_impl_GroupOf, rs_impl_GroupOf, F_impl_GroupOf k⟩
def la_impl_GroupOf : Nat → Option Ann := fun | 2 => some ⟨[(1, .val (.sl tLabel) (.sl (.sha [1]))), (7, .val (.sl tGroup) (.sl (.sha [1]))), (8, .val (.int .i64) .leaf), (9, .val (.int .i64) .leaf)], 3⟩ | _ => none
def ja_impl_GroupOf : Nat → Option Ann := fun _ => none
def cs_impl_GroupOf (k : Nat) : List (FuncId × Con) := [(129, c_impl_SameSet k)]
set_option maxRecDepth 1000000 in
theorem e_impl_GroupOf (k : Nat) (x) : evFn2 (mkCx TT (cs_impl_GroupOf k) la_impl_GroupOf ja_impl_GroupOf k) ps_impl_GroupOf rs_impl_GroupOf Try.f102 x = F_impl_GroupOf k x := by kernel_rfl
set_option maxRecDepth 1000000 in
theorem m_impl_GroupOf (k : Nat) : Meets Try.prog 102 (c_impl_GroupOf k) := meets_ev TTok mixed (cts := cs_impl_GroupOf k) ⟨m_impl_SameSet k, trivial⟩ Try.func102 (by kernel_rfl) (by kernel_rfl) (e_impl_GroupOf k)
abbrev ps_impl_GroupsOk : List PK := [.val (.sl tGroup) .shr, .val (.sl .str) .shr]
abbrev rs_impl_GroupsOk : List RK := [.val .bool .leaf]
def c_impl_GroupsOk (k : Nat) : Con := ⟨ps_impl_GroupsOk, rs_impl_GroupsOk, F_impl_GroupsOk k⟩
def la_impl_GroupsOk : Nat → Option Ann := fun | 2 => some ⟨[(0, .val (.sl tGroup) (.sl (.sha [1]))), (1, .val (.sl .str) (.sl (.sha [1]))), (7, .val (.sl tGroup) (.sl (.sha [1]))), (8, .val (.int .i64) .leaf), (9, .val (.int .i64) .leaf)], 3⟩ | _ => none
def ja_impl_GroupsOk : Nat → Option Ann := fun _ => none
def cs_impl_GroupsOk (k : Nat) : List (FuncId × Con) := [(101, c_impl_GroupOk k), (102, c_impl_GroupOf k)]
set_option maxRecDepth 1000000 in
theorem e_impl_GroupsOk (k : Nat) (x) : evFn2 (mkCx TT (cs_impl_GroupsOk k) la_impl_GroupsOk ja_impl_GroupsOk k) ps_impl_GroupsOk rs_impl_GroupsOk Try.f57 x = F_impl_GroupsOk k x := by kernel_rfl
set_option maxRecDepth 1000000 in
theorem m_impl_GroupsOk (k : Nat) : Meets Try.prog 57 (c_impl_GroupsOk k) := meets_ev TTok mixed (cts := cs_impl_GroupsOk k) ⟨m_impl_GroupOk k, m_impl_GroupOf k, trivial⟩ Try.func57 (by kernel_rfl) (by kernel_rfl) (e_impl_GroupsOk k)
abbrev ps_impl_Fits : List PK := [.val tConf (.pair .leaf (.pair .leaf (.pair .leaf (.pair .leaf (.pair .leaf .shr))))), .val tAlarm (.pair .shr (.pair .leaf (.pair .leaf .leaf)))]
abbrev rs_impl_Fits : List RK := [.val .bool .leaf]
def c_impl_Fits (k : Nat) : Con := ⟨ps_impl_Fits, rs_impl_Fits, F_impl_Fits k⟩
def la_impl_Fits : Nat → Option Ann := fun _ => none
def ja_impl_Fits : Nat → Option Ann := fun _ => none
def cs_impl_Fits (k : Nat) : List (FuncId × Con) := [(100, c_impl_AlarmOk k)]
set_option maxRecDepth 1000000 in
theorem e_impl_Fits (k : Nat) (x) : evFn2 (mkCx TT (cs_impl_Fits k) la_impl_Fits ja_impl_Fits k) ps_impl_Fits rs_impl_Fits Try.f58 x = F_impl_Fits k x := by kernel_rfl
set_option maxRecDepth 1000000 in
theorem m_impl_Fits (k : Nat) : Meets Try.prog 58 (c_impl_Fits k) := meets_ev TTok mixed (cts := cs_impl_Fits k) ⟨m_impl_AlarmOk k, trivial⟩ Try.func58 (by kernel_rfl) (by kernel_rfl) (e_impl_Fits k)
abbrev ps_impl_ModelOk : List PK := [.val tModel (.pair (.pair .leaf (.pair .leaf (.pair .leaf (.pair .leaf (.pair .leaf .shr))))) (.pair .shr (.pair .shr (.pair .shr (.pair .shr .leaf)))))]
abbrev rs_impl_ModelOk : List RK := [.val .bool .leaf]
def c_impl_ModelOk (k : Nat) : Con := ⟨ps_impl_ModelOk, rs_impl_ModelOk, F_impl_ModelOk k⟩
def la_impl_ModelOk : Nat → Option Ann := fun | 4 => some ⟨[(1, .box 3 tModel (.pair (.pair .leaf (.pair .leaf (.pair .leaf (.pair .leaf (.pair .leaf (.sl (.sha [1]))))))) (.pair (.sl (.sha [1])) (.pair (.sl (.sha [1])) (.pair (.sl (.sha [1])) (.pair (.sl (.sha [1])) .leaf)))))), (49, .val (.sl tAlarm) (.sl (.sha [1]))), (50, .val (.int .i64) .leaf), (51, .val (.int .i64) .leaf)], 4⟩ | 10 => some ⟨[(1, .box 3 tModel (.pair (.pair .leaf (.pair .leaf (.pair .leaf (.pair .leaf (.pair .leaf (.sl (.sha [1]))))))) (.pair (.sl (.sha [1])) (.pair (.sl (.sha [1])) (.pair (.sl (.sha [1])) (.pair (.sl (.sha [1])) .leaf)))))), (80, .val (.sl tGroup) (.sl (.sha [1]))), (81, .val (.int .i64) .leaf), (82, .val (.int .i64) .leaf)], 4⟩ | _ => none
def ja_impl_ModelOk : Nat → Option Ann := fun | 9 => some ⟨[(1, .box 3 tModel (.pair (.pair .leaf (.pair .leaf (.pair .leaf (.pair .leaf (.pair .leaf (.sl (.sha [1]))))))) (.pair (.sl (.sha [1])) (.pair (.sl (.sha [1])) (.pair (.sl (.sha [1])) (.pair (.sl (.sha [1])) .leaf))))))], 4⟩ | _ => none
def cs_impl_ModelOk (k : Nat) : List (FuncId × Con) := [(54, c_impl_ConfOk k), (55, c_impl_subsRight k), (56, c_impl_alarmsOk k), (57, c_impl_GroupsOk k), (58, c_impl_Fits k), (59, c_impl_SetLess k)]
set_option maxRecDepth 1000000 in
theorem e_impl_ModelOk (k : Nat) (x) : evFn2 (mkCx TT (cs_impl_ModelOk k) la_impl_ModelOk ja_impl_ModelOk k) ps_impl_ModelOk rs_impl_ModelOk Try.f16 x = F_impl_ModelOk k x := by kernel_rfl
set_option maxRecDepth 1000000 in
theorem m_impl_ModelOk (k : Nat) : Meets Try.prog 16 (c_impl_ModelOk k) := meets_ev TTok mixed (cts := cs_impl_ModelOk k) ⟨m_impl_ConfOk k, m_impl_subsRight k, m_impl_alarmsOk k, m_impl_GroupsOk k, m_impl_Fits k, m_impl_SetLess k, trivial⟩ Try.func16 (by kernel_rfl) (by kernel_rfl) (e_impl_ModelOk k)
abbrev ps_laws_eqStringS : List PK := [.val (.sl .str) .shr, .val (.sl .str) .shr]
abbrev rs_laws_eqStringS : List RK := [.val .bool .leaf]
def c_laws_eqStringS (k : Nat) : Con := ⟨ps_laws_eqStringS, rs_laws_eqStringS, F_laws_eqStringS k⟩
def la_laws_eqStringS : Nat → Option Ann := fun | 4 => some ⟨[(0, .val (.sl .str) (.sl (.sha [1]))), (1, .val (.sl .str) (.sl (.sha [1]))), (5, .val (.int .i64) .leaf)], 3⟩ | _ => none
def ja_laws_eqStringS : Nat → Option Ann := fun _ => none
def cs_laws_eqStringS (k : Nat) : List (FuncId × Con) := []
set_option maxRecDepth 1000000 in
theorem e_laws_eqStringS (k : Nat) (x) : evFn2 (mkCx TT (cs_laws_eqStringS k) la_laws_eqStringS ja_laws_eqStringS k) ps_laws_eqStringS rs_laws_eqStringS Try.f103 x = F_laws_eqStringS k x := by kernel_rfl
set_option maxRecDepth 1000000 in
theorem m_laws_eqStringS (k : Nat) : Meets Try.prog 103 (c_laws_eqStringS k) := meets_ev TTok mixed (cts := cs_laws_eqStringS k) trivial Try.func103 (by kernel_rfl) (by kernel_rfl) (e_laws_eqStringS k)
abbrev ps_laws_eqConf : List PK := [.val tConf (.pair .leaf (.pair .leaf (.pair .leaf (.pair .leaf (.pair .leaf .shr))))), .val tConf (.pair .leaf (.pair .leaf (.pair .leaf (.pair .leaf (.pair .leaf .shr)))))]
abbrev rs_laws_eqConf : List RK := [.val .bool .leaf]
def c_laws_eqConf (k : Nat) : Con := ⟨ps_laws_eqConf, rs_laws_eqConf, F_laws_eqConf k⟩
def la_laws_eqConf : Nat → Option Ann := fun _ => none
def ja_laws_eqConf : Nat → Option Ann := fun _ => none
def cs_laws_eqConf (k : Nat) : List (FuncId × Con) := [(103, c_laws_eqStringS k)]
set_option maxRecDepth 1000000 in
theorem e_laws_eqConf (k : Nat) (x) : evFn2 (mkCx TT (cs_laws_eqConf k) la_laws_eqConf ja_laws_eqConf k) ps_laws_eqConf rs_laws_eqConf Try.f60 x = F_laws_eqConf k x := by kernel_rfl
set_option maxRecDepth 1000000 in
theorem m_laws_eqConf (k : Nat) : Meets Try.prog 60 (c_laws_eqConf k) := meets_ev TTok mixed (cts := cs_laws_eqConf k) ⟨m_laws_eqStringS k, trivial⟩ Try.func60 (by kernel_rfl) (by kernel_rfl) (e_laws_eqConf k)
abbrev ps_laws_eqSub : List PK := [.val tSub (.pair .shr .leaf), .val tSub (.pair .shr .leaf)]
abbrev rs_laws_eqSub : List RK := [.val .bool .leaf]
def c_laws_eqSub (k : Nat) : Con := ⟨ps_laws_eqSub, rs_laws_eqSub, F_laws_eqSub k⟩
def la_laws_eqSub : Nat → Option Ann := fun _ => none
def ja_laws_eqSub : Nat → Option Ann := fun _ => none
def cs_laws_eqSub (k : Nat) : List (FuncId × Con) := [(41, c_laws_eqAlarmS k)]
set_option maxRecDepth 1000000 in
theorem e_laws_eqSub (k : Nat) (x) : evFn2 (mkCx TT (cs_laws_eqSub k) la_laws_eqSub ja_laws_eqSub k) ps_laws_eqSub rs_laws_eqSub Try.f104 x = F_laws_eqSub k x := by kernel_rfl
set_option maxRecDepth 1000000 in
theorem m_laws_eqSub (k : Nat) : Meets Try.prog 104 (c_laws_eqSub k) := meets_ev TTok mixed (cts := cs_laws_eqSub k) ⟨m_laws_eqAlarmS k, trivial⟩ Try.func104 (by kernel_rfl) (by kernel_rfl) (e_laws_eqSub k)
abbrev ps_laws_eqSubS : List PK := [.val (.sl tSub) .shr, .val (.sl tSub) .shr]
abbrev rs_laws_eqSubS : List RK := [.val .bool .leaf]
def c_laws_eqSubS (k : Nat) : Con := ⟨ps_laws_eqSubS, rs_laws_eqSubS, F_laws_eqSubS k⟩
def la_laws_eqSubS : Nat → Option Ann := fun | 4 => some ⟨[(0, .val (.sl tSub) (.sl (.sha [1]))), (1, .val (.sl tSub) (.sl (.sha [1]))), (5, .val (.int .i64) .leaf)], 3⟩ | _ => none
def ja_laws_eqSubS : Nat → Option Ann := fun _ => none
def cs_laws_eqSubS (k : Nat) : List (FuncId × Con) := [(104, c_laws_eqSub k)]
set_option maxRecDepth 1000000 in
theorem e_laws_eqSubS (k : Nat) (x) : evFn2 (mkCx TT (cs_laws_eqSubS k) la_laws_eqSubS ja_laws_eqSubS k) ps_laws_eqSubS rs_laws_eqSubS Try.f61 x = F_laws_eqSubS k x := by kernel_rfl
set_option maxRecDepth 1000000 in
theorem m_laws_eqSubS (k : Nat) : Meets Try.prog 61 (c_laws_eqSubS k) := meets_ev TTok mixed (cts := cs_laws_eqSubS k) ⟨m_laws_eqSub k, trivial⟩ Try.func61 (by kernel_rfl) (by kernel_rfl) (e_laws_eqSubS k)
abbrev ps_laws_eqGroup : List PK := [.val tGroup (.pair .leaf (.pair .shr (.pair .leaf (.pair .leaf .shr)))), .val tGroup (.pair .leaf (.pair .shr (.pair .leaf (.pair .leaf .shr))))]
abbrev rs_laws_eqGroup : List RK := [.val .bool .leaf]
def c_laws_eqGroup (k : Nat) : Con := ⟨ps_laws_eqGroup, rs_laws_eqGroup, F_laws_eqGroup k⟩
def la_laws_eqGroup : Nat → Option Ann := fun _ => none
def ja_laws_eqGroup : Nat → Option Ann := fun _ => none
def cs_laws_eqGroup (k : Nat) : List (FuncId × Con) := [(39, c_laws_eqLabelS k), (41, c_laws_eqAlarmS k)]
set_option maxRecDepth 1000000 in
theorem e_laws_eqGroup (k : Nat) (x) : evFn2 (mkCx TT (cs_laws_eqGroup k) la_laws_eqGroup ja_laws_eqGroup k) ps_laws_eqGroup rs_laws_eqGroup Try.f105 x = F_laws_eqGroup k x := by kernel_rfl
set_option maxRecDepth 1000000 in
theorem m_laws_eqGroup (k : Nat) : Meets Try.prog 105 (c_laws_eqGroup k) := meets_ev TTok mixed (cts := cs_laws_eqGroup k) ⟨m_laws_eqLabelS k, m_laws_eqAlarmS k, trivial⟩ Try.func105 (by kernel_rfl) (by kernel_rfl) (e_laws_eqGroup k)
abbrev ps_laws_eqGroupS : List PK := [.val (.sl tGroup) .shr, .val (.sl tGroup) .shr]
abbrev rs_laws_eqGroupS : List RK := [.val .bool .leaf]
def c_laws_eqGroupS (k : Nat) : Con := ⟨ps_laws_eqGroupS, rs_laws_eqGroupS, F_laws_eqGroupS k⟩
def la_laws_eqGroupS : Nat → Option Ann := fun | 4 => some ⟨[(0, .val (.sl tGroup) (.sl (.sha [1]))), (1, .val (.sl tGroup) (.sl (.sha [1]))), (5, .val (.int .i64) .leaf)], 3⟩ | _ => none
def ja_laws_eqGroupS : Nat → Option Ann := fun _ => none
def cs_laws_eqGroupS (k : Nat) : List (FuncId × Con) := [(105, c_laws_eqGroup k)]
set_option maxRecDepth 1000000 in
theorem e_laws_eqGroupS (k : Nat) (x) : evFn2 (mkCx TT (cs_laws_eqGroupS k) la_laws_eqGroupS ja_laws_eqGroupS k) ps_laws_eqGroupS rs_laws_eqGroupS Try.f62 x = F_laws_eqGroupS k x := by kernel_rfl
set_option maxRecDepth 1000000 in
theorem m_laws_eqGroupS (k : Nat) : Meets Try.prog 62 (c_laws_eqGroupS k) := meets_ev TTok mixed (cts := cs_laws_eqGroupS k) ⟨m_laws_eqGroup k, trivial⟩ Try.func62 (by kernel_rfl) (by kernel_rfl) (e_laws_eqGroupS k)
abbrev ps_laws_eqModel : List PK := [.val tModel (.pair (.pair .leaf (.pair .leaf (.pair .leaf (.pair .leaf (.pair .leaf .shr))))) (.pair .shr (.pair .shr (.pair .shr (.pair .shr .leaf))))), .val tModel (.pair (.pair .leaf (.pair .leaf (.pair .leaf (.pair .leaf (.pair .leaf .shr))))) (.pair .shr (.pair .shr (.pair .shr (.pair .shr .leaf)))))]
abbrev rs_laws_eqModel : List RK := [.val .bool .leaf]
def c_laws_eqModel (k : Nat) : Con := ⟨ps_laws_eqModel, rs_laws_eqModel, F_laws_eqModel k⟩
def la_laws_eqModel : Nat → Option Ann := fun _ => none
def ja_laws_eqModel : Nat → Option Ann := fun _ => none
def cs_laws_eqModel (k : Nat) : List (FuncId × Con) := [(60, c_laws_eqConf k), (41, c_laws_eqAlarmS k), (61, c_laws_eqSubS k), (62, c_laws_eqGroupS k)]
set_option maxRecDepth 1000000 in
theorem e_laws_eqModel (k : Nat) (x) : evFn2 (mkCx TT (cs_laws_eqModel k) la_laws_eqModel ja_laws_eqModel k) ps_laws_eqModel rs_laws_eqModel Try.f17 x = F_laws_eqModel k x := by kernel_rfl
set_option maxRecDepth 1000000 in
theorem m_laws_eqModel (k : Nat) : Meets Try.prog 17 (c_laws_eqModel k) := meets_ev TTok mixed (cts := cs_laws_eqModel k) ⟨m_laws_eqConf k, m_laws_eqAlarmS k, m_laws_eqSubS k, m_laws_eqGroupS k, trivial⟩ Try.func17 (by kernel_rfl) (by kernel_rfl) (e_laws_eqModel k)
abbrev ps_laws_FnExactModelOk : List PK := [.val tModel (.pair (.pair .leaf (.pair .leaf (.pair .leaf (.pair .leaf (.pair .leaf .shr))))) (.pair .shr (.pair .shr (.pair .shr (.pair .shr .leaf)))))]
abbrev rs_laws_FnExactModelOk : List RK := [.val .bool .leaf]
def c_laws_FnExactModelOk (k : Nat) : Con := ⟨ps_laws_FnExactModelOk, rs_laws_FnExactModelOk, F_laws_FnExactModelOk k⟩
def la_laws_FnExactModelOk : Nat → Option Ann := fun _ => none
def ja_laws_FnExactModelOk : Nat → Option Ann := fun _ => none
def cs_laws_FnExactModelOk (k : Nat) : List (FuncId × Con) := [(13, c_laws_szModel k), (15, c_laws_toModel k), (14, c_spec_ModelOk k), (16, c_impl_ModelOk k), (17, c_laws_eqModel k)]
set_option maxRecDepth 1000000 in
theorem e_laws_FnExactModelOk (k : Nat) (x) : evFn2 (mkCx TT (cs_laws_FnExactModelOk k) la_laws_FnExactModelOk ja_laws_FnExactModelOk k) ps_laws_FnExactModelOk rs_laws_FnExactModelOk Try.f4 x = F_laws_FnExactModelOk k x := by kernel_rfl
set_option maxRecDepth 1000000 in
theorem m_laws_FnExactModelOk (k : Nat) : Meets Try.prog 4 (c_laws_FnExactModelOk k) := meets_ev TTok mixed (cts := cs_laws_FnExactModelOk k) ⟨m_laws_szModel k, m_laws_toModel k, m_spec_ModelOk k, m_impl_ModelOk k, m_laws_eqModel k, trivial⟩ Try.func4 (by kernel_rfl) (by kernel_rfl) (e_laws_FnExactModelOk k)
abbrev ps_laws_szChain : List PK := [.val tChain (.pair .leaf .shr), .val (.int .i64) .leaf]
abbrev rs_laws_szChain : List RK := [.val (.int .i64) .leaf]
def c_laws_szChain (k : Nat) : Con := ⟨ps_laws_szChain, rs_laws_szChain, F_laws_szChain k⟩
def la_laws_szChain : Nat → Option Ann := fun _ => none
def ja_laws_szChain : Nat → Option Ann := fun _ => none
def cs_laws_szChain (k : Nat) : List (FuncId × Con) := [(30, c_laws_szAlarmS k)]
set_option maxRecDepth 1000000 in
theorem e_laws_szChain (k : Nat) (x) : evFn2 (mkCx TT (cs_laws_szChain k) la_laws_szChain ja_laws_szChain k) ps_laws_szChain rs_laws_szChain Try.f138 x = F_laws_szChain k x := by kernel_rfl
set_option maxRecDepth 1000000 in
theorem m_laws_szChain (k : Nat) : Meets Try.prog 138 (c_laws_szChain k) := meets_ev TTok mixed (cts := cs_laws_szChain k) ⟨m_laws_szAlarmS k, trivial⟩ Try.func138 (by kernel_rfl) (by kernel_rfl) (e_laws_szChain k)
abbrev ps_laws_szChainS : List PK := [.val (.sl tChain) .shr, .val (.int .i64) .leaf]
abbrev rs_laws_szChainS : List RK := [.val (.int .i64) .leaf]
def c_laws_szChainS (k : Nat) : Con := ⟨ps_laws_szChainS, rs_laws_szChainS, F_laws_szChainS k⟩
def la_laws_szChainS : Nat → Option Ann := fun | 5 => some ⟨[(0, .val (.sl tChain) (.sl (.sha [1]))), (1, .val (.int .i64) .leaf), (5, .val (.int .i64) .leaf)], 3⟩ | _ => none
def ja_laws_szChainS : Nat → Option Ann := fun _ => none
def cs_laws_szChainS (k : Nat) : List (FuncId × Con) := [(138, c_laws_szChain k)]
set_option maxRecDepth 1000000 in
theorem e_laws_szChainS (k : Nat) (x) : evFn2 (mkCx TT (cs_laws_szChainS k) la_laws_szChainS ja_laws_szChainS k) ps_laws_szChainS rs_laws_szChainS Try.f130 x = F_laws_szChainS k x := by kernel_rfl
set_option maxRecDepth 1000000 in
theorem m_laws_szChainS (k : Nat) : Meets Try.prog 130 (c_laws_szChainS k) := meets_ev TTok mixed (cts := cs_laws_szChainS k) ⟨m_laws_szChain k, trivial⟩ Try.func130 (by kernel_rfl) (by kernel_rfl) (e_laws_szChainS k)
abbrev ps_laws_szPart : List PK := [.val tPart (.pair .leaf (.pair .leaf .shr)), .val (.int .i64) .leaf]
abbrev rs_laws_szPart : List RK := [.val (.int .i64) .leaf]
def c_laws_szPart (k : Nat) : Con := ⟨ps_laws_szPart, rs_laws_szPart, F_laws_szPart k⟩
def la_laws_szPart : Nat → Option Ann := fun _ => none
def ja_laws_szPart : Nat → Option Ann := fun _ => none
def cs_laws_szPart (k : Nat) : List (FuncId × Con) := [(130, c_laws_szChainS k)]
set_option maxRecDepth 1000000 in
theorem e_laws_szPart (k : Nat) (x) : evFn2 (mkCx TT (cs_laws_szPart k) la_laws_szPart ja_laws_szPart k) ps_laws_szPart rs_laws_szPart Try.f106 x = F_laws_szPart k x := by kernel_rfl
set_option maxRecDepth 1000000 in
theorem m_laws_szPart (k : Nat) : Meets Try.prog 106 (c_laws_szPart k) := meets_ev TTok mixed (cts := cs_laws_szPart k) ⟨m_laws_szChainS k, trivial⟩ Try.func106 (by kernel_rfl) (by kernel_rfl) (e_laws_szPart k)
abbrev ps_laws_szPartS : List PK := [.val (.sl tPart) .shr, .val (.int .i64) .leaf]
abbrev rs_laws_szPartS : List RK := [.val (.int .i64) .leaf]
def c_laws_szPartS (k : Nat) : Con := ⟨ps_laws_szPartS, rs_laws_szPartS, F_laws_szPartS k⟩
def la_laws_szPartS : Nat → Option Ann := fun | 5 => some ⟨[(0, .val (.sl tPart) (.sl (.sha [1]))), (1, .val (.int .i64) .leaf), (5, .val (.int .i64) .leaf)], 3⟩ | _ => none
def ja_laws_szPartS : Nat → Option Ann := fun _ => none
def cs_laws_szPartS (k : Nat) : List (FuncId × Con) := [(106, c_laws_szPart k)]
set_option maxRecDepth 1000000 in
theorem e_laws_szPartS (k : Nat) (x) : evFn2 (mkCx TT (cs_laws_szPartS k) la_laws_szPartS ja_laws_szPartS k) ps_laws_szPartS rs_laws_szPartS Try.f63 x = F_laws_szPartS k x := by kernel_rfl
set_option maxRecDepth 1000000 in
theorem m_laws_szPartS (k : Nat) : Meets Try.prog 63 (c_laws_szPartS k) := meets_ev TTok mixed (cts := cs_laws_szPartS k) ⟨m_laws_szPart k, trivial⟩ Try.func63 (by kernel_rfl) (by kernel_rfl) (e_laws_szPartS k)
end Vg.Try
