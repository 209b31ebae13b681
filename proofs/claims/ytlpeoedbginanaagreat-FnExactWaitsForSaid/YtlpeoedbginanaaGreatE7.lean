/- What the functions compute is what the evaluator says; their contracts. -/
import Derived.Test.YtlpeoedbginanaaGreatE6
namespace Vg.Tryz
open Go Vg Go.Proofs
set_option linter.unusedVariables false
abbrev ps_impl_tasksRight : List PK := [.val tWorld (.pair (.pair .leaf (.pair .leaf (.pair .leaf (.pair .leaf (.pair .leaf .shr))))) (.pair .leaf (.pair .leaf (.pair .shr (.pair .shr (.pair .shr (.pair .leaf (.pair .shr (.pair .leaf (.pair .shr (.pair .shr (.pair .shr (.pair .shr .shr)))))))))))))]
abbrev rs_impl_tasksRight : List RK := [.val .bool .leaf]
def c_impl_tasksRight (k : Nat) : Con := ⟨ps_impl_tasksRight, rs_impl_tasksRight, F_impl_tasksRight k⟩
def la_impl_tasksRight : Nat → Option Ann := fun | 2 => some ⟨[(1, .box 3 tWorld (.pair (.pair .leaf (.pair .leaf (.pair .leaf (.pair .leaf (.pair .leaf (.sl (.sha [1]))))))) (.pair .leaf (.pair .leaf (.pair (.sl (.sha [1])) (.pair (.sl (.sha [1])) (.pair (.sl (.sha [1])) (.pair .leaf (.pair (.sl (.sha [1])) (.pair .leaf (.pair (.sl (.sha [1])) (.pair (.sl (.sha [1])) (.pair (.sl (.sha [1])) (.pair (.sl (.sha [1])) (.sl (.sha [1])))))))))))))))), (9, .val (.sl tDeed) (.sl (.sha [1]))), (10, .val (.int .i64) .leaf), (11, .val (.int .i64) .leaf)], 4⟩ | 8 => some ⟨[(1, .box 3 tWorld (.pair (.pair .leaf (.pair .leaf (.pair .leaf (.pair .leaf (.pair .leaf (.sl (.sha [1]))))))) (.pair .leaf (.pair .leaf (.pair (.sl (.sha [1])) (.pair (.sl (.sha [1])) (.pair (.sl (.sha [1])) (.pair .leaf (.pair (.sl (.sha [1])) (.pair .leaf (.pair (.sl (.sha [1])) (.pair (.sl (.sha [1])) (.pair (.sl (.sha [1])) (.pair (.sl (.sha [1])) (.sl (.sha [1])))))))))))))))), (41, .val (.sl tTask) (.sl (.sha [1]))), (42, .val (.int .i64) .leaf), (43, .val (.int .i64) .leaf)], 4⟩ | _ => none
def ja_impl_tasksRight : Nat → Option Ann := fun | 7 => some ⟨[(1, .box 3 tWorld (.pair (.pair .leaf (.pair .leaf (.pair .leaf (.pair .leaf (.pair .leaf (.sl (.sha [1]))))))) (.pair .leaf (.pair .leaf (.pair (.sl (.sha [1])) (.pair (.sl (.sha [1])) (.pair (.sl (.sha [1])) (.pair .leaf (.pair (.sl (.sha [1])) (.pair .leaf (.pair (.sl (.sha [1])) (.pair (.sl (.sha [1])) (.pair (.sl (.sha [1])) (.pair (.sl (.sha [1])) (.sl (.sha [1]))))))))))))))))], 4⟩ | _ => none
def cs_impl_tasksRight (k : Nat) : List (FuncId × Con) := [(194, c_impl_DeedOk k), (195, c_impl_TaskOk k), (196, c_impl_deedFits k)]
set_option maxRecDepth 1000000 in
theorem e_impl_tasksRight (k : Nat) (x) : evFn2 (mkCx TT (cs_impl_tasksRight k) la_impl_tasksRight ja_impl_tasksRight k) ps_impl_tasksRight rs_impl_tasksRight Tryz.f95 x = F_impl_tasksRight k x := by kernel_rfl
set_option maxRecDepth 1000000 in
theorem m_impl_tasksRight (k : Nat) : Meets Tryz.prog 95 (c_impl_tasksRight k) := meets_ev TTok mixed (cts := cs_impl_tasksRight k) ⟨m_impl_DeedOk k, m_impl_TaskOk k, m_impl_deedFits k, trivial⟩ Tryz.func95 (by kernel_rfl) (by kernel_rfl) (e_impl_tasksRight k)
abbrev ps_impl_partAt : List PK := [.val tTask (.pair .leaf (.pair .leaf (.pair (.pair .shr (.pair .leaf (.pair .leaf .leaf))) (.pair .shr (.pair .leaf (.pair .shr (.pair .shr (.pair .leaf .leaf)))))))), .val (.int .i64) .leaf, .val .bool .leaf]
abbrev rs_impl_partAt : List RK := [.val (.int .i64) .leaf]
def c_impl_partAt (k : Nat) : Con := ⟨ps_impl_partAt, rs_impl_partAt, F_impl_partAt k⟩
def la_impl_partAt : Nat → Option Ann := fun _ => none
def ja_impl_partAt : Nat → Option Ann := fun _ => none
def cs_impl_partAt (k : Nat) : List (FuncId × Con) := [(309, c_impl_Finger k), (308, c_impl_PartOf k)]
set_option maxRecDepth 1000000 in
theorem e_impl_partAt (k : Nat) (x) : evFn2 (mkCx TT (cs_impl_partAt k) la_impl_partAt ja_impl_partAt k) ps_impl_partAt rs_impl_partAt Tryz.f204 x = F_impl_partAt k x := by kernel_rfl
set_option maxRecDepth 1000000 in
theorem m_impl_partAt (k : Nat) : Meets Tryz.prog 204 (c_impl_partAt k) := meets_ev TTok mixed (cts := cs_impl_partAt k) ⟨m_impl_Finger k, m_impl_PartOf k, trivial⟩ Tryz.func204 (by kernel_rfl) (by kernel_rfl) (e_impl_partAt k)
abbrev ps_impl_HoldsPart : List PK := [.val tTask (.pair .leaf (.pair .leaf (.pair (.pair .shr (.pair .leaf (.pair .leaf .leaf))) (.pair .shr (.pair .leaf (.pair .shr (.pair .shr (.pair .leaf .leaf)))))))), .val (.int .i64) .leaf]
abbrev rs_impl_HoldsPart : List RK := [.val (.int .i64) .leaf]
def c_impl_HoldsPart (k : Nat) : Con := ⟨ps_impl_HoldsPart, rs_impl_HoldsPart, F_impl_HoldsPart k⟩
def la_impl_HoldsPart : Nat → Option Ann := fun _ => none
def ja_impl_HoldsPart : Nat → Option Ann := fun _ => none
def cs_impl_HoldsPart (k : Nat) : List (FuncId × Con) := [(204, c_impl_partAt k)]
set_option maxRecDepth 1000000 in
theorem e_impl_HoldsPart (k : Nat) (x) : evFn2 (mkCx TT (cs_impl_HoldsPart k) la_impl_HoldsPart ja_impl_HoldsPart k) ps_impl_HoldsPart rs_impl_HoldsPart Tryz.f197 x = F_impl_HoldsPart k x := by kernel_rfl
set_option maxRecDepth 1000000 in
theorem m_impl_HoldsPart (k : Nat) : Meets Tryz.prog 197 (c_impl_HoldsPart k) := meets_ev TTok mixed (cts := cs_impl_HoldsPart k) ⟨m_impl_partAt k, trivial⟩ Tryz.func197 (by kernel_rfl) (by kernel_rfl) (e_impl_HoldsPart k)
abbrev ps_impl_HoldsGroups : List PK := [.val tTask (.pair .leaf (.pair .leaf (.pair (.pair .shr (.pair .leaf (.pair .leaf .leaf))) (.pair .shr (.pair .leaf (.pair .shr (.pair .shr (.pair .leaf .leaf))))))))]
abbrev rs_impl_HoldsGroups : List RK := [.val .bool .leaf]
def c_impl_HoldsGroups (k : Nat) : Con := ⟨ps_impl_HoldsGroups, rs_impl_HoldsGroups, F_impl_HoldsGroups k⟩
def la_impl_HoldsGroups : Nat → Option Ann := fun _ => none
def ja_impl_HoldsGroups : Nat → Option Ann := fun _ => none
def cs_impl_HoldsGroups (k : Nat) : List (FuncId × Con) := []
set_option maxRecDepth 1000000 in
theorem e_impl_HoldsGroups (k : Nat) (x) : evFn2 (mkCx TT (cs_impl_HoldsGroups k) la_impl_HoldsGroups ja_impl_HoldsGroups k) ps_impl_HoldsGroups rs_impl_HoldsGroups Tryz.f198 x = F_impl_HoldsGroups k x := by kernel_rfl
set_option maxRecDepth 1000000 in
theorem m_impl_HoldsGroups (k : Nat) : Meets Tryz.prog 198 (c_impl_HoldsGroups k) := meets_ev TTok mixed (cts := cs_impl_HoldsGroups k) trivial Tryz.func198 (by kernel_rfl) (by kernel_rfl) (e_impl_HoldsGroups k)
abbrev ps_impl_locksRight : List PK := [.val tWorld (.pair (.pair .leaf (.pair .leaf (.pair .leaf (.pair .leaf (.pair .leaf .shr))))) (.pair .leaf (.pair .leaf (.pair .shr (.pair .shr (.pair .shr (.pair .leaf (.pair .shr (.pair .leaf (.pair .shr (.pair .shr (.pair .shr (.pair .shr .shr)))))))))))))]
abbrev rs_impl_locksRight : List RK := [.val .bool .leaf]
def c_impl_locksRight (k : Nat) : Con := ⟨ps_impl_locksRight, rs_impl_locksRight, F_impl_locksRight k⟩
def la_impl_locksRight : Nat → Option Ann := fun | 2 => some ⟨[(1, .box 3 tWorld (.pair (.pair .leaf (.pair .leaf (.pair .leaf (.pair .leaf (.pair .leaf (.sl (.sha [1]))))))) (.pair .leaf (.pair .leaf (.pair (.sl (.sha [1])) (.pair (.sl (.sha [1])) (.pair (.sl (.sha [1])) (.pair .leaf (.pair (.sl (.sha [1])) (.pair .leaf (.pair (.sl (.sha [1])) (.pair (.sl (.sha [1])) (.pair (.sl (.sha [1])) (.pair (.sl (.sha [1])) (.sl (.sha [1])))))))))))))))), (10, .val (.sl tPart) (.sl (.sha [1]))), (11, .val (.int .i64) .leaf), (12, .val (.int .i64) .leaf)], 4⟩ | 5 => some ⟨[(1, .box 3 tWorld (.pair (.pair .leaf (.pair .leaf (.pair .leaf (.pair .leaf (.pair .leaf (.sl (.sha [1]))))))) (.pair .leaf (.pair .leaf (.pair (.sl (.sha [1])) (.pair (.sl (.sha [1])) (.pair (.sl (.sha [1])) (.pair .leaf (.pair (.sl (.sha [1])) (.pair .leaf (.pair (.sl (.sha [1])) (.pair (.sl (.sha [1])) (.pair (.sl (.sha [1])) (.pair (.sl (.sha [1])) (.sl (.sha [1])))))))))))))))), (3, .val (.int .i64) .leaf), (4, .box 4 tPart (.pair .leaf (.pair .leaf (.sl (.sha [1, 2]))))), (10, .val (.sl tPart) (.sl (.sha [1]))), (11, .val (.int .i64) .leaf), (12, .val (.int .i64) .leaf), (18, .val (.sl tTask) (.sl (.sha [1]))), (19, .val (.int .i64) .leaf), (20, .val (.int .i64) .leaf)], 5⟩ | 12 => some ⟨[(1, .box 3 tWorld (.pair (.pair .leaf (.pair .leaf (.pair .leaf (.pair .leaf (.pair .leaf (.sl (.sha [1]))))))) (.pair .leaf (.pair .leaf (.pair (.sl (.sha [1])) (.pair (.sl (.sha [1])) (.pair (.sl (.sha [1])) (.pair .leaf (.pair (.sl (.sha [1])) (.pair .leaf (.pair (.sl (.sha [1])) (.pair (.sl (.sha [1])) (.pair (.sl (.sha [1])) (.pair (.sl (.sha [1])) (.sl (.sha [1])))))))))))))))), (40, .val (.sl tTask) (.sl (.sha [1]))), (41, .val (.int .i64) .leaf), (42, .val (.int .i64) .leaf)], 4⟩ | _ => none
def ja_impl_locksRight : Nat → Option Ann := fun | 11 => some ⟨[(1, .box 3 tWorld (.pair (.pair .leaf (.pair .leaf (.pair .leaf (.pair .leaf (.pair .leaf (.sl (.sha [1]))))))) (.pair .leaf (.pair .leaf (.pair (.sl (.sha [1])) (.pair (.sl (.sha [1])) (.pair (.sl (.sha [1])) (.pair .leaf (.pair (.sl (.sha [1])) (.pair .leaf (.pair (.sl (.sha [1])) (.pair (.sl (.sha [1])) (.pair (.sl (.sha [1])) (.pair (.sl (.sha [1])) (.sl (.sha [1]))))))))))))))))], 4⟩ | 17 => some ⟨[(1, .box 3 tWorld (.pair (.pair .leaf (.pair .leaf (.pair .leaf (.pair .leaf (.pair .leaf (.sl (.sha [1]))))))) (.pair .leaf (.pair .leaf (.pair (.sl (.sha [1])) (.pair (.sl (.sha [1])) (.pair (.sl (.sha [1])) (.pair .leaf (.pair (.sl (.sha [1])) (.pair .leaf (.pair (.sl (.sha [1])) (.pair (.sl (.sha [1])) (.pair (.sl (.sha [1])) (.pair (.sl (.sha [1])) (.sl (.sha [1]))))))))))))))))], 4⟩ | _ => none
def cs_impl_locksRight (k : Nat) : List (FuncId × Con) := [(197, c_impl_HoldsPart k), (198, c_impl_HoldsGroups k), (91, c_impl_in k)]
set_option maxRecDepth 1000000 in
theorem e_impl_locksRight (k : Nat) (x) : evFn2 (mkCx TT (cs_impl_locksRight k) la_impl_locksRight ja_impl_locksRight k) ps_impl_locksRight rs_impl_locksRight Tryz.f96 x = F_impl_locksRight k x := by kernel_rfl
set_option maxRecDepth 1000000 in
theorem m_impl_locksRight (k : Nat) : Meets Tryz.prog 96 (c_impl_locksRight k) := meets_ev TTok mixed (cts := cs_impl_locksRight k) ⟨m_impl_HoldsPart k, m_impl_HoldsGroups k, m_impl_in k, trivial⟩ Tryz.func96 (by kernel_rfl) (by kernel_rfl) (e_impl_locksRight k)
abbrev ps_impl_hasText : List PK := [.val (.sl .str) .shr, .val .str .leaf]
abbrev rs_impl_hasText : List RK := [.val .bool .leaf]
def c_impl_hasText (k : Nat) : Con := ⟨ps_impl_hasText, rs_impl_hasText, F_impl_hasText k⟩
def la_impl_hasText : Nat → Option Ann := fun | 2 => some ⟨[(1, .val .str .leaf), (7, .val (.sl .str) (.sl (.sha [1]))), (8, .val (.int .i64) .leaf), (9, .val (.int .i64) .leaf)], 3⟩ | _ => none
def ja_impl_hasText : Nat → Option Ann := fun _ => none
def cs_impl_hasText (k : Nat) : List (FuncId × Con) := []
set_option maxRecDepth 1000000 in
theorem e_impl_hasText (k : Nat) (x) : evFn2 (mkCx TT (cs_impl_hasText k) la_impl_hasText ja_impl_hasText k) ps_impl_hasText rs_impl_hasText Tryz.f381 x = F_impl_hasText k x := by kernel_rfl
set_option maxRecDepth 1000000 in
theorem m_impl_hasText (k : Nat) : Meets Tryz.prog 381 (c_impl_hasText k) := meets_ev TTok mixed (cts := cs_impl_hasText k) trivial Tryz.func381 (by kernel_rfl) (by kernel_rfl) (e_impl_hasText k)
abbrev ps_impl_Project : List PK := [.val (.sl tLabel) .shr, .val (.sl .str) .shr]
abbrev rs_impl_Project : List RK := [.val (.sl tLabel) .own]
def c_impl_Project (k : Nat) : Con := ⟨ps_impl_Project, rs_impl_Project, F_impl_Project k⟩
def la_impl_Project : Nat → Option Ann := fun | 3 => some ⟨[(1, .val (.sl .str) (.sl (.sha [1]))), (5, .val (.sl tLabel) (.sl (.row 3 [] true))), (8, .val (.sl tLabel) (.sl (.sha [1]))), (9, .val (.int .i64) .leaf), (10, .val (.int .i64) .leaf)], 4⟩ | _ => none
def ja_impl_Project : Nat → Option Ann := fun _ => none
def cs_impl_Project (k : Nat) : List (FuncId × Con) := [(381, c_impl_hasText k)]
set_option maxRecDepth 1000000 in
theorem e_impl_Project (k : Nat) (x) : evFn2 (mkCx TT (cs_impl_Project k) la_impl_Project ja_impl_Project k) ps_impl_Project rs_impl_Project Tryz.f365 x = F_impl_Project k x := by kernel_rfl
set_option maxRecDepth 1000000 in
theorem m_impl_Project (k : Nat) : Meets Tryz.prog 365 (c_impl_Project k) := meets_ev TTok mixed (cts := cs_impl_Project k) ⟨m_impl_hasText k, trivial⟩ Tryz.func365 (by kernel_rfl) (by kernel_rfl) (e_impl_Project k)
abbrev ps_impl_KeyOf : List PK := [.val tAlarm (.pair .shr (.pair .leaf (.pair .leaf .leaf))), .val (.sl .str) .shr]
abbrev rs_impl_KeyOf : List RK := [.val (.sl tLabel) .own]
def c_impl_KeyOf (k : Nat) : Con := ⟨ps_impl_KeyOf, rs_impl_KeyOf, F_impl_KeyOf k⟩
def la_impl_KeyOf : Nat → Option Ann := fun _ => none
def ja_impl_KeyOf : Nat → Option Ann := fun _ => none
def cs_impl_KeyOf (k : Nat) : List (FuncId × Con) := [(365, c_impl_Project k)]
set_option maxRecDepth 1000000 in
theorem e_impl_KeyOf (k : Nat) (x) : evFn2 (mkCx TT (cs_impl_KeyOf k) la_impl_KeyOf ja_impl_KeyOf k) ps_impl_KeyOf rs_impl_KeyOf Tryz.f326 x = F_impl_KeyOf k x := by kernel_rfl
set_option maxRecDepth 1000000 in
theorem m_impl_KeyOf (k : Nat) : Meets Tryz.prog 326 (c_impl_KeyOf k) := meets_ev TTok mixed (cts := cs_impl_KeyOf k) ⟨m_impl_Project k, trivial⟩ Tryz.func326 (by kernel_rfl) (by kernel_rfl) (e_impl_KeyOf k)
abbrev ps_impl_SetLess : List PK := [.val (.sl tLabel) .shr, .val (.sl tLabel) .shr]
abbrev rs_impl_SetLess : List RK := [.val .bool .leaf]
def c_impl_SetLess (k : Nat) : Con := ⟨ps_impl_SetLess, rs_impl_SetLess, F_impl_SetLess k⟩
def la_impl_SetLess : Nat → Option Ann := fun | 2 => some ⟨[(0, .val (.sl tLabel) (.sl (.sha [1]))), (1, .val (.sl tLabel) (.sl (.sha [1]))), (5, .val (.int .i64) .leaf)], 3⟩ | _ => none
def ja_impl_SetLess : Nat → Option Ann := fun | 8 => some ⟨[(0, .val (.sl tLabel) (.sl (.sha [1]))), (1, .val (.sl tLabel) (.sl (.sha [1])))], 3⟩ | _ => none
def cs_impl_SetLess (k : Nat) : List (FuncId × Con) := []
set_option maxRecDepth 1000000 in
theorem e_impl_SetLess (k : Nat) (x) : evFn2 (mkCx TT (cs_impl_SetLess k) la_impl_SetLess ja_impl_SetLess k) ps_impl_SetLess rs_impl_SetLess Tryz.f352 x = F_impl_SetLess k x := by kernel_rfl
set_option maxRecDepth 1000000 in
theorem m_impl_SetLess (k : Nat) : Meets Tryz.prog 352 (c_impl_SetLess k) := meets_ev TTok mixed (cts := cs_impl_SetLess k) trivial Tryz.func352 (by kernel_rfl) (by kernel_rfl) (e_impl_SetLess k)
abbrev ps_impl_keyedOk : List PK := [.val (.sl tAlarm) .shr, .val (.sl tLabel) .shr, .val (.sl .str) .shr]
abbrev rs_impl_keyedOk : List RK := [.val .bool .leaf]
def c_impl_keyedOk (k : Nat) : Con := ⟨ps_impl_keyedOk, rs_impl_keyedOk, F_impl_keyedOk k⟩
def la_impl_keyedOk : Nat → Option Ann := fun | 2 => some ⟨[(0, .val (.sl tAlarm) (.sl (.sha [1]))), (1, .val (.sl tLabel) (.sl (.sha [1]))), (2, .val (.sl .str) (.sl (.sha [1]))), (9, .val (.sl tAlarm) (.sl (.sha [1]))), (10, .val (.int .i64) .leaf), (11, .val (.int .i64) .leaf)], 3⟩ | _ => none
def ja_impl_keyedOk : Nat → Option Ann := fun _ => none
def cs_impl_keyedOk (k : Nat) : List (FuncId × Con) := [(193, c_impl_AlarmOk k), (326, c_impl_KeyOf k), (299, c_impl_SameSet k), (352, c_impl_SetLess k)]
set_option maxRecDepth 1000000 in
theorem e_impl_keyedOk (k : Nat) (x) : evFn2 (mkCx TT (cs_impl_keyedOk k) la_impl_keyedOk ja_impl_keyedOk k) ps_impl_keyedOk rs_impl_keyedOk Tryz.f355 x = F_impl_keyedOk k x := by kernel_rfl
set_option maxRecDepth 1000000 in
theorem m_impl_keyedOk (k : Nat) : Meets Tryz.prog 355 (c_impl_keyedOk k) := meets_ev TTok mixed (cts := cs_impl_keyedOk k) ⟨m_impl_AlarmOk k, m_impl_KeyOf k, m_impl_SameSet k, m_impl_SetLess k, trivial⟩ Tryz.func355 (by kernel_rfl) (by kernel_rfl) (e_impl_keyedOk k)
abbrev ps_impl_GroupOk : List PK := [.val tGroup (.pair .leaf (.pair .shr (.pair .leaf (.pair .leaf .shr)))), .val (.sl .str) .shr]
abbrev rs_impl_GroupOk : List RK := [.val .bool .leaf]
def c_impl_GroupOk (k : Nat) : Con := ⟨ps_impl_GroupOk, rs_impl_GroupOk, F_impl_GroupOk k⟩
def la_impl_GroupOk : Nat → Option Ann := fun _ => none
def ja_impl_GroupOk : Nat → Option Ann := fun _ => none
def cs_impl_GroupOk (k : Nat) : List (FuncId × Con) := [(233, c_impl_SetOk k), (91, c_impl_in k), (355, c_impl_keyedOk k)]
set_option maxRecDepth 1000000 in
theorem e_impl_GroupOk (k : Nat) (x) : evFn2 (mkCx TT (cs_impl_GroupOk k) la_impl_GroupOk ja_impl_GroupOk k) ps_impl_GroupOk rs_impl_GroupOk Tryz.f302 x = F_impl_GroupOk k x := by kernel_rfl
set_option maxRecDepth 1000000 in
theorem m_impl_GroupOk (k : Nat) : Meets Tryz.prog 302 (c_impl_GroupOk k) := meets_ev TTok mixed (cts := cs_impl_GroupOk k) ⟨m_impl_SetOk k, m_impl_in k, m_impl_keyedOk k, trivial⟩ Tryz.func302 (by kernel_rfl) (by kernel_rfl) (e_impl_GroupOk k)
abbrev ps_impl_GroupOf : List PK := [.val (.sl tGroup) .shr, .val (.sl tLabel) .shr]
abbrev rs_impl_GroupOf : List RK := [.val (.int .i64) .leaf]
def c_impl_GroupOf (k : Nat) : Con := ⟨ps_impl_GroupOf, rs_impl_GroupOf, F_impl_GroupOf k⟩
def la_impl_GroupOf : Nat → Option Ann := fun | 2 => some ⟨[(1, .val (.sl tLabel) (.sl (.sha [1]))), (7, .val (.sl tGroup) (.sl (.sha [1]))), (8, .val (.int .i64) .leaf), (9, .val (.int .i64) .leaf)], 3⟩ | _ => none
def ja_impl_GroupOf : Nat → Option Ann := fun _ => none
def cs_impl_GroupOf (k : Nat) : List (FuncId × Con) := [(299, c_impl_SameSet k)]
set_option maxRecDepth 1000000 in
theorem e_impl_GroupOf (k : Nat) (x) : evFn2 (mkCx TT (cs_impl_GroupOf k) la_impl_GroupOf ja_impl_GroupOf k) ps_impl_GroupOf rs_impl_GroupOf Tryz.f303 x = F_impl_GroupOf k x := by kernel_rfl
set_option maxRecDepth 1000000 in
theorem m_impl_GroupOf (k : Nat) : Meets Tryz.prog 303 (c_impl_GroupOf k) := meets_ev TTok mixed (cts := cs_impl_GroupOf k) ⟨m_impl_SameSet k, trivial⟩ Tryz.func303 (by kernel_rfl) (by kernel_rfl) (e_impl_GroupOf k)
abbrev ps_impl_GroupsOk : List PK := [.val (.sl tGroup) .shr, .val (.sl .str) .shr]
abbrev rs_impl_GroupsOk : List RK := [.val .bool .leaf]
def c_impl_GroupsOk (k : Nat) : Con := ⟨ps_impl_GroupsOk, rs_impl_GroupsOk, F_impl_GroupsOk k⟩
def la_impl_GroupsOk : Nat → Option Ann := fun | 2 => some ⟨[(0, .val (.sl tGroup) (.sl (.sha [1]))), (1, .val (.sl .str) (.sl (.sha [1]))), (7, .val (.sl tGroup) (.sl (.sha [1]))), (8, .val (.int .i64) .leaf), (9, .val (.int .i64) .leaf)], 3⟩ | _ => none
def ja_impl_GroupsOk : Nat → Option Ann := fun _ => none
def cs_impl_GroupsOk (k : Nat) : List (FuncId × Con) := [(302, c_impl_GroupOk k), (303, c_impl_GroupOf k)]
set_option maxRecDepth 1000000 in
theorem e_impl_GroupsOk (k : Nat) (x) : evFn2 (mkCx TT (cs_impl_GroupsOk k) la_impl_GroupsOk ja_impl_GroupsOk k) ps_impl_GroupsOk rs_impl_GroupsOk Tryz.f199 x = F_impl_GroupsOk k x := by kernel_rfl
set_option maxRecDepth 1000000 in
theorem m_impl_GroupsOk (k : Nat) : Meets Tryz.prog 199 (c_impl_GroupsOk k) := meets_ev TTok mixed (cts := cs_impl_GroupsOk k) ⟨m_impl_GroupOk k, m_impl_GroupOf k, trivial⟩ Tryz.func199 (by kernel_rfl) (by kernel_rfl) (e_impl_GroupsOk k)
abbrev ps_impl_Before : List PK := [.val tTimer (.pair .leaf .leaf), .val tTimer (.pair .leaf .leaf)]
abbrev rs_impl_Before : List RK := [.val .bool .leaf]
def c_impl_Before (k : Nat) : Con := ⟨ps_impl_Before, rs_impl_Before, F_impl_Before k⟩
def la_impl_Before : Nat → Option Ann := fun _ => none
def ja_impl_Before : Nat → Option Ann := fun _ => none
def cs_impl_Before (k : Nat) : List (FuncId × Con) := []
set_option maxRecDepth 1000000 in
theorem e_impl_Before (k : Nat) (x) : evFn2 (mkCx TT (cs_impl_Before k) la_impl_Before ja_impl_Before k) ps_impl_Before rs_impl_Before Tryz.f304 x = F_impl_Before k x := by kernel_rfl
set_option maxRecDepth 1000000 in
theorem m_impl_Before (k : Nat) : Meets Tryz.prog 304 (c_impl_Before k) := meets_ev TTok mixed (cts := cs_impl_Before k) trivial Tryz.func304 (by kernel_rfl) (by kernel_rfl) (e_impl_Before k)
abbrev ps_impl_HeapOk : List PK := [.val (.sl tTimer) .shr]
abbrev rs_impl_HeapOk : List RK := [.val .bool .leaf]
def c_impl_HeapOk (k : Nat) : Con := ⟨ps_impl_HeapOk, rs_impl_HeapOk, F_impl_HeapOk k⟩
def la_impl_HeapOk : Nat → Option Ann := fun | 2 => some ⟨[(0, .val (.sl tTimer) (.sl (.sha [1]))), (5, .val (.sl tTimer) (.sl (.sha [1]))), (6, .val (.int .i64) .leaf), (7, .val (.int .i64) .leaf)], 3⟩ | _ => none
def ja_impl_HeapOk : Nat → Option Ann := fun | 7 => some ⟨[(0, .val (.sl tTimer) (.sl (.sha [1])))], 3⟩ | _ => none
def cs_impl_HeapOk (k : Nat) : List (FuncId × Con) := [(304, c_impl_Before k)]
set_option maxRecDepth 1000000 in
theorem e_impl_HeapOk (k : Nat) (x) : evFn2 (mkCx TT (cs_impl_HeapOk k) la_impl_HeapOk ja_impl_HeapOk k) ps_impl_HeapOk rs_impl_HeapOk Tryz.f200 x = F_impl_HeapOk k x := by kernel_rfl
set_option maxRecDepth 1000000 in
theorem m_impl_HeapOk (k : Nat) : Meets Tryz.prog 200 (c_impl_HeapOk k) := meets_ev TTok mixed (cts := cs_impl_HeapOk k) ⟨m_impl_Before k, trivial⟩ Tryz.func200 (by kernel_rfl) (by kernel_rfl) (e_impl_HeapOk k)
abbrev ps_impl_NextDue : List PK := [.val tGroup (.pair .leaf (.pair .shr (.pair .leaf (.pair .leaf .shr)))), .val (.int .i64) .leaf, .val (.int .i64) .leaf]
abbrev rs_impl_NextDue : List RK := [.val (.int .i64) .leaf]
def c_impl_NextDue (k : Nat) : Con := ⟨ps_impl_NextDue, rs_impl_NextDue, F_impl_NextDue k⟩
def la_impl_NextDue : Nat → Option Ann := fun _ => none
def ja_impl_NextDue : Nat → Option Ann := fun _ => none
def cs_impl_NextDue (k : Nat) : List (FuncId × Con) := []
set_option maxRecDepth 1000000 in
theorem e_impl_NextDue (k : Nat) (x) : evFn2 (mkCx TT (cs_impl_NextDue k) la_impl_NextDue ja_impl_NextDue k) ps_impl_NextDue rs_impl_NextDue Tryz.f305 x = F_impl_NextDue k x := by kernel_rfl
set_option maxRecDepth 1000000 in
theorem m_impl_NextDue (k : Nat) : Meets Tryz.prog 305 (c_impl_NextDue k) := meets_ev TTok mixed (cts := cs_impl_NextDue k) trivial Tryz.func305 (by kernel_rfl) (by kernel_rfl) (e_impl_NextDue k)
abbrev ps_impl_Due : List PK := [.val tConf (.pair .leaf (.pair .leaf (.pair .leaf (.pair .leaf (.pair .leaf .shr))))), .val tGroup (.pair .leaf (.pair .shr (.pair .leaf (.pair .leaf .shr))))]
abbrev rs_impl_Due : List RK := [.val (.int .i64) .leaf]
def c_impl_Due (k : Nat) : Con := ⟨ps_impl_Due, rs_impl_Due, F_impl_Due k⟩
def la_impl_Due : Nat → Option Ann := fun _ => none
def ja_impl_Due : Nat → Option Ann := fun _ => none
def cs_impl_Due (k : Nat) : List (FuncId × Con) := [(305, c_impl_NextDue k)]
set_option maxRecDepth 1000000 in
theorem e_impl_Due (k : Nat) (x) : evFn2 (mkCx TT (cs_impl_Due k) la_impl_Due ja_impl_Due k) ps_impl_Due rs_impl_Due Tryz.f201 x = F_impl_Due k x := by kernel_rfl
set_option maxRecDepth 1000000 in
theorem m_impl_Due (k : Nat) : Meets Tryz.prog 201 (c_impl_Due k) := meets_ev TTok mixed (cts := cs_impl_Due k) ⟨m_impl_NextDue k, trivial⟩ Tryz.func201 (by kernel_rfl) (by kernel_rfl) (e_impl_Due k)
abbrev ps_impl_groupsRight : List PK := [.val tWorld (.pair (.pair .leaf (.pair .leaf (.pair .leaf (.pair .leaf (.pair .leaf .shr))))) (.pair .leaf (.pair .leaf (.pair .shr (.pair .shr (.pair .shr (.pair .leaf (.pair .shr (.pair .leaf (.pair .shr (.pair .shr (.pair .shr (.pair .shr .shr)))))))))))))]
abbrev rs_impl_groupsRight : List RK := [.val .bool .leaf]
def c_impl_groupsRight (k : Nat) : Con := ⟨ps_impl_groupsRight, rs_impl_groupsRight, F_impl_groupsRight k⟩
def la_impl_groupsRight : Nat → Option Ann := fun | 4 => some ⟨[(1, .box 3 tWorld (.pair (.pair .leaf (.pair .leaf (.pair .leaf (.pair .leaf (.pair .leaf (.sl (.sha [1]))))))) (.pair .leaf (.pair .leaf (.pair (.sl (.sha [1])) (.pair (.sl (.sha [1])) (.pair (.sl (.sha [1])) (.pair .leaf (.pair (.sl (.sha [1])) (.pair .leaf (.pair (.sl (.sha [1])) (.pair (.sl (.sha [1])) (.pair (.sl (.sha [1])) (.pair (.sl (.sha [1])) (.sl (.sha [1])))))))))))))))), (26, .val (.sl tGroup) (.sl (.sha [1]))), (27, .val (.int .i64) .leaf), (28, .val (.int .i64) .leaf)], 4⟩ | 10 => some ⟨[(1, .box 3 tWorld (.pair (.pair .leaf (.pair .leaf (.pair .leaf (.pair .leaf (.pair .leaf (.sl (.sha [1]))))))) (.pair .leaf (.pair .leaf (.pair (.sl (.sha [1])) (.pair (.sl (.sha [1])) (.pair (.sl (.sha [1])) (.pair .leaf (.pair (.sl (.sha [1])) (.pair .leaf (.pair (.sl (.sha [1])) (.pair (.sl (.sha [1])) (.pair (.sl (.sha [1])) (.pair (.sl (.sha [1])) (.sl (.sha [1])))))))))))))))), (4, .box 4 tGroup (.pair .leaf (.pair (.sl (.sha [1, 2])) (.pair .leaf (.pair .leaf (.sl (.sha [1, 2]))))))), (5, .val .bool .leaf), (26, .val (.sl tGroup) (.sl (.sha [1]))), (27, .val (.int .i64) .leaf), (28, .val (.int .i64) .leaf), (68, .val (.sl tTimer) (.sl (.sha [1]))), (69, .val (.int .i64) .leaf), (70, .val (.int .i64) .leaf)], 5⟩ | 18 => some ⟨[(1, .box 3 tWorld (.pair (.pair .leaf (.pair .leaf (.pair .leaf (.pair .leaf (.pair .leaf (.sl (.sha [1]))))))) (.pair .leaf (.pair .leaf (.pair (.sl (.sha [1])) (.pair (.sl (.sha [1])) (.pair (.sl (.sha [1])) (.pair .leaf (.pair (.sl (.sha [1])) (.pair .leaf (.pair (.sl (.sha [1])) (.pair (.sl (.sha [1])) (.pair (.sl (.sha [1])) (.pair (.sl (.sha [1])) (.sl (.sha [1])))))))))))))))), (96, .val (.sl tTimer) (.sl (.sha [1]))), (97, .val (.int .i64) .leaf), (98, .val (.int .i64) .leaf)], 4⟩ | 23 => some ⟨[(1, .box 3 tWorld (.pair (.pair .leaf (.pair .leaf (.pair .leaf (.pair .leaf (.pair .leaf (.sl (.sha [1]))))))) (.pair .leaf (.pair .leaf (.pair (.sl (.sha [1])) (.pair (.sl (.sha [1])) (.pair (.sl (.sha [1])) (.pair .leaf (.pair (.sl (.sha [1])) (.pair .leaf (.pair (.sl (.sha [1])) (.pair (.sl (.sha [1])) (.pair (.sl (.sha [1])) (.pair (.sl (.sha [1])) (.sl (.sha [1])))))))))))))))), (9, .box 4 tTimer (.pair .leaf .leaf)), (96, .val (.sl tTimer) (.sl (.sha [1]))), (97, .val (.int .i64) .leaf), (98, .val (.int .i64) .leaf), (111, .val (.sl tTimer) (.sl (.sha [1]))), (112, .val (.int .i64) .leaf), (113, .val (.int .i64) .leaf)], 5⟩ | _ => none
def ja_impl_groupsRight : Nat → Option Ann := fun | 14 => some ⟨[(1, .box 3 tWorld (.pair (.pair .leaf (.pair .leaf (.pair .leaf (.pair .leaf (.pair .leaf (.sl (.sha [1]))))))) (.pair .leaf (.pair .leaf (.pair (.sl (.sha [1])) (.pair (.sl (.sha [1])) (.pair (.sl (.sha [1])) (.pair .leaf (.pair (.sl (.sha [1])) (.pair .leaf (.pair (.sl (.sha [1])) (.pair (.sl (.sha [1])) (.pair (.sl (.sha [1])) (.pair (.sl (.sha [1])) (.sl (.sha [1])))))))))))))))), (4, .box 4 tGroup (.pair .leaf (.pair (.sl (.sha [1, 2])) (.pair .leaf (.pair .leaf (.sl (.sha [1, 2]))))))), (5, .val .bool .leaf), (26, .val (.sl tGroup) (.sl (.sha [1]))), (27, .val (.int .i64) .leaf), (28, .val (.int .i64) .leaf)], 5⟩ | 17 => some ⟨[(1, .box 3 tWorld (.pair (.pair .leaf (.pair .leaf (.pair .leaf (.pair .leaf (.pair .leaf (.sl (.sha [1]))))))) (.pair .leaf (.pair .leaf (.pair (.sl (.sha [1])) (.pair (.sl (.sha [1])) (.pair (.sl (.sha [1])) (.pair .leaf (.pair (.sl (.sha [1])) (.pair .leaf (.pair (.sl (.sha [1])) (.pair (.sl (.sha [1])) (.pair (.sl (.sha [1])) (.pair (.sl (.sha [1])) (.sl (.sha [1]))))))))))))))))], 4⟩ | _ => none
def cs_impl_groupsRight (k : Nat) : List (FuncId × Con) := [(199, c_impl_GroupsOk k), (200, c_impl_HeapOk k), (201, c_impl_Due k)]
set_option maxRecDepth 1000000 in
theorem e_impl_groupsRight (k : Nat) (x) : evFn2 (mkCx TT (cs_impl_groupsRight k) la_impl_groupsRight ja_impl_groupsRight k) ps_impl_groupsRight rs_impl_groupsRight Tryz.f97 x = F_impl_groupsRight k x := by kernel_rfl
set_option maxRecDepth 1000000 in
theorem m_impl_groupsRight (k : Nat) : Meets Tryz.prog 97 (c_impl_groupsRight k) := meets_ev TTok mixed (cts := cs_impl_groupsRight k) ⟨m_impl_GroupsOk k, m_impl_HeapOk k, m_impl_Due k, trivial⟩ Tryz.func97 (by kernel_rfl) (by kernel_rfl) (e_impl_groupsRight k)
abbrev ps_impl_WorldOk : List PK := [.val tWorld (.pair (.pair .leaf (.pair .leaf (.pair .leaf (.pair .leaf (.pair .leaf .shr))))) (.pair .leaf (.pair .leaf (.pair .shr (.pair .shr (.pair .shr (.pair .leaf (.pair .shr (.pair .leaf (.pair .shr (.pair .shr (.pair .shr (.pair .shr .shr)))))))))))))]
abbrev rs_impl_WorldOk : List RK := [.val .bool .leaf]
def c_impl_WorldOk (k : Nat) : Con := ⟨ps_impl_WorldOk, rs_impl_WorldOk, F_impl_WorldOk k⟩
def la_impl_WorldOk : Nat → Option Ann := fun _ => none
def ja_impl_WorldOk : Nat → Option Ann := fun _ => none
def cs_impl_WorldOk (k : Nat) : List (FuncId × Con) := [(90, c_impl_ConfOk k), (91, c_impl_in k), (92, c_impl_storeRight k), (93, c_impl_subsRight k), (94, c_impl_alarmsOk k), (95, c_impl_tasksRight k), (96, c_impl_locksRight k), (97, c_impl_groupsRight k)]
set_option maxRecDepth 1000000 in
theorem e_impl_WorldOk (k : Nat) (x) : evFn2 (mkCx TT (cs_impl_WorldOk k) la_impl_WorldOk ja_impl_WorldOk k) ps_impl_WorldOk rs_impl_WorldOk Tryz.f21 x = F_impl_WorldOk k x := by kernel_rfl
set_option maxRecDepth 1000000 in
theorem m_impl_WorldOk (k : Nat) : Meets Tryz.prog 21 (c_impl_WorldOk k) := meets_ev TTok mixed (cts := cs_impl_WorldOk k) ⟨m_impl_ConfOk k, m_impl_in k, m_impl_storeRight k, m_impl_subsRight k, m_impl_alarmsOk k, m_impl_tasksRight k, m_impl_locksRight k, m_impl_groupsRight k, trivial⟩ Tryz.func21 (by kernel_rfl) (by kernel_rfl) (e_impl_WorldOk k)
abbrev ps_laws_eqStringS : List PK := [.val (.sl .str) .shr, .val (.sl .str) .shr]
abbrev rs_laws_eqStringS : List RK := [.val .bool .leaf]
def c_laws_eqStringS (k : Nat) : Con := ⟨ps_laws_eqStringS, rs_laws_eqStringS, F_laws_eqStringS k⟩
def la_laws_eqStringS : Nat → Option Ann := fun | 4 => some ⟨[(0, .val (.sl .str) (.sl (.sha [1]))), (1, .val (.sl .str) (.sl (.sha [1]))), (5, .val (.int .i64) .leaf)], 3⟩ | _ => none
def ja_laws_eqStringS : Nat → Option Ann := fun _ => none
def cs_laws_eqStringS (k : Nat) : List (FuncId × Con) := []
set_option maxRecDepth 1000000 in
theorem e_laws_eqStringS (k : Nat) (x) : evFn2 (mkCx TT (cs_laws_eqStringS k) la_laws_eqStringS ja_laws_eqStringS k) ps_laws_eqStringS rs_laws_eqStringS Tryz.f161 x = F_laws_eqStringS k x := by kernel_rfl
set_option maxRecDepth 1000000 in
theorem m_laws_eqStringS (k : Nat) : Meets Tryz.prog 161 (c_laws_eqStringS k) := meets_ev TTok mixed (cts := cs_laws_eqStringS k) trivial Tryz.func161 (by kernel_rfl) (by kernel_rfl) (e_laws_eqStringS k)
abbrev ps_laws_eqConf : List PK := [.val tConf (.pair .leaf (.pair .leaf (.pair .leaf (.pair .leaf (.pair .leaf .shr))))), .val tConf (.pair .leaf (.pair .leaf (.pair .leaf (.pair .leaf (.pair .leaf .shr)))))]
abbrev rs_laws_eqConf : List RK := [.val .bool .leaf]
def c_laws_eqConf (k : Nat) : Con := ⟨ps_laws_eqConf, rs_laws_eqConf, F_laws_eqConf k⟩
def la_laws_eqConf : Nat → Option Ann := fun _ => none
def ja_laws_eqConf : Nat → Option Ann := fun _ => none
def cs_laws_eqConf (k : Nat) : List (FuncId × Con) := [(161, c_laws_eqStringS k)]
set_option maxRecDepth 1000000 in
theorem e_laws_eqConf (k : Nat) (x) : evFn2 (mkCx TT (cs_laws_eqConf k) la_laws_eqConf ja_laws_eqConf k) ps_laws_eqConf rs_laws_eqConf Tryz.f72 x = F_laws_eqConf k x := by kernel_rfl
set_option maxRecDepth 1000000 in
theorem m_laws_eqConf (k : Nat) : Meets Tryz.prog 72 (c_laws_eqConf k) := meets_ev TTok mixed (cts := cs_laws_eqConf k) ⟨m_laws_eqStringS k, trivial⟩ Tryz.func72 (by kernel_rfl) (by kernel_rfl) (e_laws_eqConf k)
abbrev ps_laws_eqLabel : List PK := [.val tLabel (.pair .leaf .leaf), .val tLabel (.pair .leaf .leaf)]
abbrev rs_laws_eqLabel : List RK := [.val .bool .leaf]
def c_laws_eqLabel (k : Nat) : Con := ⟨ps_laws_eqLabel, rs_laws_eqLabel, F_laws_eqLabel k⟩
def la_laws_eqLabel : Nat → Option Ann := fun _ => none
def ja_laws_eqLabel : Nat → Option Ann := fun _ => none
def cs_laws_eqLabel (k : Nat) : List (FuncId × Con) := []
set_option maxRecDepth 1000000 in
theorem e_laws_eqLabel (k : Nat) (x) : evFn2 (mkCx TT (cs_laws_eqLabel k) la_laws_eqLabel ja_laws_eqLabel k) ps_laws_eqLabel rs_laws_eqLabel Tryz.f130 x = F_laws_eqLabel k x := by kernel_rfl
set_option maxRecDepth 1000000 in
theorem m_laws_eqLabel (k : Nat) : Meets Tryz.prog 130 (c_laws_eqLabel k) := meets_ev TTok mixed (cts := cs_laws_eqLabel k) trivial Tryz.func130 (by kernel_rfl) (by kernel_rfl) (e_laws_eqLabel k)
abbrev ps_laws_eqLabelS : List PK := [.val (.sl tLabel) .shr, .val (.sl tLabel) .shr]
abbrev rs_laws_eqLabelS : List RK := [.val .bool .leaf]
def c_laws_eqLabelS (k : Nat) : Con := ⟨ps_laws_eqLabelS, rs_laws_eqLabelS, F_laws_eqLabelS k⟩
def la_laws_eqLabelS : Nat → Option Ann := fun | 4 => some ⟨[(0, .val (.sl tLabel) (.sl (.sha [1]))), (1, .val (.sl tLabel) (.sl (.sha [1]))), (5, .val (.int .i64) .leaf)], 3⟩ | _ => none
def ja_laws_eqLabelS : Nat → Option Ann := fun _ => none
def cs_laws_eqLabelS (k : Nat) : List (FuncId × Con) := [(130, c_laws_eqLabel k)]
set_option maxRecDepth 1000000 in
theorem e_laws_eqLabelS (k : Nat) (x) : evFn2 (mkCx TT (cs_laws_eqLabelS k) la_laws_eqLabelS ja_laws_eqLabelS k) ps_laws_eqLabelS rs_laws_eqLabelS Tryz.f34 x = F_laws_eqLabelS k x := by kernel_rfl
set_option maxRecDepth 1000000 in
theorem m_laws_eqLabelS (k : Nat) : Meets Tryz.prog 34 (c_laws_eqLabelS k) := meets_ev TTok mixed (cts := cs_laws_eqLabelS k) ⟨m_laws_eqLabel k, trivial⟩ Tryz.func34 (by kernel_rfl) (by kernel_rfl) (e_laws_eqLabelS k)
abbrev ps_laws_eqAlarm : List PK := [.val tAlarm (.pair .shr (.pair .leaf (.pair .leaf .leaf))), .val tAlarm (.pair .shr (.pair .leaf (.pair .leaf .leaf)))]
abbrev rs_laws_eqAlarm : List RK := [.val .bool .leaf]
def c_laws_eqAlarm (k : Nat) : Con := ⟨ps_laws_eqAlarm, rs_laws_eqAlarm, F_laws_eqAlarm k⟩
def la_laws_eqAlarm : Nat → Option Ann := fun _ => none
def ja_laws_eqAlarm : Nat → Option Ann := fun _ => none
def cs_laws_eqAlarm (k : Nat) : List (FuncId × Con) := [(34, c_laws_eqLabelS k)]
set_option maxRecDepth 1000000 in
theorem e_laws_eqAlarm (k : Nat) (x) : evFn2 (mkCx TT (cs_laws_eqAlarm k) la_laws_eqAlarm ja_laws_eqAlarm k) ps_laws_eqAlarm rs_laws_eqAlarm Tryz.f40 x = F_laws_eqAlarm k x := by kernel_rfl
set_option maxRecDepth 1000000 in
theorem m_laws_eqAlarm (k : Nat) : Meets Tryz.prog 40 (c_laws_eqAlarm k) := meets_ev TTok mixed (cts := cs_laws_eqAlarm k) ⟨m_laws_eqLabelS k, trivial⟩ Tryz.func40 (by kernel_rfl) (by kernel_rfl) (e_laws_eqAlarm k)
abbrev ps_laws_eqAlarmS : List PK := [.val (.sl tAlarm) .shr, .val (.sl tAlarm) .shr]
abbrev rs_laws_eqAlarmS : List RK := [.val .bool .leaf]
def c_laws_eqAlarmS (k : Nat) : Con := ⟨ps_laws_eqAlarmS, rs_laws_eqAlarmS, F_laws_eqAlarmS k⟩
def la_laws_eqAlarmS : Nat → Option Ann := fun | 4 => some ⟨[(0, .val (.sl tAlarm) (.sl (.sha [1]))), (1, .val (.sl tAlarm) (.sl (.sha [1]))), (5, .val (.int .i64) .leaf)], 3⟩ | _ => none
def ja_laws_eqAlarmS : Nat → Option Ann := fun _ => none
def cs_laws_eqAlarmS (k : Nat) : List (FuncId × Con) := [(40, c_laws_eqAlarm k)]
set_option maxRecDepth 1000000 in
theorem e_laws_eqAlarmS (k : Nat) (x) : evFn2 (mkCx TT (cs_laws_eqAlarmS k) la_laws_eqAlarmS ja_laws_eqAlarmS k) ps_laws_eqAlarmS rs_laws_eqAlarmS Tryz.f75 x = F_laws_eqAlarmS k x := by kernel_rfl
set_option maxRecDepth 1000000 in
theorem m_laws_eqAlarmS (k : Nat) : Meets Tryz.prog 75 (c_laws_eqAlarmS k) := meets_ev TTok mixed (cts := cs_laws_eqAlarmS k) ⟨m_laws_eqAlarm k, trivial⟩ Tryz.func75 (by kernel_rfl) (by kernel_rfl) (e_laws_eqAlarmS k)
end Vg.Tryz
