/- What the functions compute is what the evaluator says; their contracts. -/
import Derived.Test.YtbjolgfamnkeaaaE2
namespace Vg.Try
open Go Vg Go.Proofs
set_option linter.unusedVariables false
abbrev ps_laws_toSub : List PK := [.val tSub (.pair .shr .leaf)]
abbrev rs_laws_toSub : List RK := [.val tSub (.pair .own .leaf)]
def c_laws_toSub (k : Nat) : Con := ⟨ps_laws_toSub, rs_laws_toSub, F_laws_toSub k⟩
def la_laws_toSub : Nat → Option Ann := fun _ => none
def ja_laws_toSub : Nat → Option Ann := fun _ => none
def cs_laws_toSub (k : Nat) : List (FuncId × Con) := [(36, c_laws_toAlarmS k)]
set_option maxRecDepth 1000000 in
theorem e_laws_toSub (k : Nat) (x) : evFn2 (mkCx TT (cs_laws_toSub k) la_laws_toSub ja_laws_toSub k) ps_laws_toSub rs_laws_toSub Try.f96 x = F_laws_toSub k x := by kernel_rfl
set_option maxRecDepth 1000000 in
theorem m_laws_toSub (k : Nat) : Meets Try.prog 96 (c_laws_toSub k) := meets_ev TTok mixed (cts := cs_laws_toSub k) ⟨m_laws_toAlarmS k, trivial⟩ Try.func96 (by kernel_rfl) (by kernel_rfl) (e_laws_toSub k)
abbrev ps_laws_toSubS : List PK := [.val (.sl tSub) .shr]
abbrev rs_laws_toSubS : List RK := [.val (.sl tSub) .own]
def c_laws_toSubS (k : Nat) : Con := ⟨ps_laws_toSubS, rs_laws_toSubS, F_laws_toSubS k⟩
def la_laws_toSubS : Nat → Option Ann := fun | 3 => some ⟨[(0, .val (.sl tSub) (.sl (.sha [1]))), (3, .val (.sl tSub) (.sl (.row 3 [3] true))), (4, .val (.int .i64) .leaf)], 4⟩ | _ => none
def ja_laws_toSubS : Nat → Option Ann := fun _ => none
def cs_laws_toSubS (k : Nat) : List (FuncId × Con) := [(96, c_laws_toSub k)]
set_option maxRecDepth 1000000 in
theorem e_laws_toSubS (k : Nat) (x) : evFn2 (mkCx TT (cs_laws_toSubS k) la_laws_toSubS ja_laws_toSubS k) ps_laws_toSubS rs_laws_toSubS Try.f52 x = F_laws_toSubS k x := by kernel_rfl
set_option maxRecDepth 1000000 in
theorem m_laws_toSubS (k : Nat) : Meets Try.prog 52 (c_laws_toSubS k) := meets_ev TTok mixed (cts := cs_laws_toSubS k) ⟨m_laws_toSub k, trivial⟩ Try.func52 (by kernel_rfl) (by kernel_rfl) (e_laws_toSubS k)
abbrev ps_laws_toGroup : List PK := [.val tGroup (.pair .leaf (.pair .shr (.pair .leaf (.pair .leaf .shr))))]
abbrev rs_laws_toGroup : List RK := [.val tGroup (.pair .leaf (.pair .own (.pair .leaf (.pair .leaf .own))))]
def c_laws_toGroup (k : Nat) : Con := ⟨ps_laws_toGroup, rs_laws_toGroup, F_laws_toGroup k⟩
def la_laws_toGroup : Nat → Option Ann := fun _ => none
def ja_laws_toGroup : Nat → Option Ann := fun _ => none
def cs_laws_toGroup (k : Nat) : List (FuncId × Con) := [(34, c_laws_toLabelS k), (36, c_laws_toAlarmS k)]
set_option maxRecDepth 1000000 in
theorem e_laws_toGroup (k : Nat) (x) : evFn2 (mkCx TT (cs_laws_toGroup k) la_laws_toGroup ja_laws_toGroup k) ps_laws_toGroup rs_laws_toGroup Try.f97 x = F_laws_toGroup k x := by kernel_rfl
set_option maxRecDepth 1000000 in
theorem m_laws_toGroup (k : Nat) : Meets Try.prog 97 (c_laws_toGroup k) := meets_ev TTok mixed (cts := cs_laws_toGroup k) ⟨m_laws_toLabelS k, m_laws_toAlarmS k, trivial⟩ Try.func97 (by kernel_rfl) (by kernel_rfl) (e_laws_toGroup k)
abbrev ps_laws_toGroupS : List PK := [.val (.sl tGroup) .shr]
abbrev rs_laws_toGroupS : List RK := [.val (.sl tGroup) .own]
def c_laws_toGroupS (k : Nat) : Con := ⟨ps_laws_toGroupS, rs_laws_toGroupS, F_laws_toGroupS k⟩
def la_laws_toGroupS : Nat → Option Ann := fun | 3 => some ⟨[(0, .val (.sl tGroup) (.sl (.sha [1]))), (3, .val (.sl tGroup) (.sl (.row 3 [3] true))), (4, .val (.int .i64) .leaf)], 4⟩ | _ => none
def ja_laws_toGroupS : Nat → Option Ann := fun _ => none
def cs_laws_toGroupS (k : Nat) : List (FuncId × Con) := [(97, c_laws_toGroup k)]
set_option maxRecDepth 1000000 in
theorem e_laws_toGroupS (k : Nat) (x) : evFn2 (mkCx TT (cs_laws_toGroupS k) la_laws_toGroupS ja_laws_toGroupS k) ps_laws_toGroupS rs_laws_toGroupS Try.f53 x = F_laws_toGroupS k x := by kernel_rfl
set_option maxRecDepth 1000000 in
theorem m_laws_toGroupS (k : Nat) : Meets Try.prog 53 (c_laws_toGroupS k) := meets_ev TTok mixed (cts := cs_laws_toGroupS k) ⟨m_laws_toGroup k, trivial⟩ Try.func53 (by kernel_rfl) (by kernel_rfl) (e_laws_toGroupS k)
abbrev ps_laws_toModel : List PK := [.val tModel (.pair (.pair .leaf (.pair .leaf (.pair .leaf (.pair .leaf (.pair .leaf .shr))))) (.pair .shr (.pair .shr (.pair .shr (.pair .shr .leaf)))))]
abbrev rs_laws_toModel : List RK := [.val tModel (.pair (.pair .leaf (.pair .leaf (.pair .leaf (.pair .leaf (.pair .leaf .own))))) (.pair .own (.pair .own (.pair .own (.pair .own .leaf)))))]
def c_laws_toModel (k : Nat) : Con := ⟨ps_laws_toModel, rs_laws_toModel, F_laws_toModel k⟩
def la_laws_toModel : Nat → Option Ann := fun _ => none
def ja_laws_toModel : Nat → Option Ann := fun _ => none
def cs_laws_toModel (k : Nat) : List (FuncId × Con) := [(51, c_laws_toConf k), (36, c_laws_toAlarmS k), (52, c_laws_toSubS k), (53, c_laws_toGroupS k)]
set_option maxRecDepth 1000000 in
theorem e_laws_toModel (k : Nat) (x) : evFn2 (mkCx TT (cs_laws_toModel k) la_laws_toModel ja_laws_toModel k) ps_laws_toModel rs_laws_toModel Try.f15 x = F_laws_toModel k x := by kernel_rfl
set_option maxRecDepth 1000000 in
theorem m_laws_toModel (k : Nat) : Meets Try.prog 15 (c_laws_toModel k) := meets_ev TTok mixed (cts := cs_laws_toModel k) ⟨m_laws_toConf k, m_laws_toAlarmS k, m_laws_toSubS k, m_laws_toGroupS k, trivial⟩ Try.func15 (by kernel_rfl) (by kernel_rfl) (e_laws_toModel k)
abbrev ps_spec_InOrder : List PK := [.val (.sl .str) .shr]
abbrev rs_spec_InOrder : List RK := [.val .bool .leaf]
def c_spec_InOrder (k : Nat) : Con := ⟨ps_spec_InOrder, rs_spec_InOrder, F_spec_InOrder k⟩
def la_spec_InOrder : Nat → Option Ann := fun | 2 => some ⟨[(0, .val (.sl .str) (.sl (.sha [1]))), (3, .val (.int .i64) .leaf)], 3⟩ | _ => none
def ja_spec_InOrder : Nat → Option Ann := fun _ => none
def cs_spec_InOrder (k : Nat) : List (FuncId × Con) := [(94, c_spec_Less k)]
set_option maxRecDepth 1000000 in
theorem e_spec_InOrder (k : Nat) (x) : evFn2 (mkCx TT (cs_spec_InOrder k) la_spec_InOrder ja_spec_InOrder k) ps_spec_InOrder rs_spec_InOrder Try.f121 x = F_spec_InOrder k x := by kernel_rfl
set_option maxRecDepth 1000000 in
theorem m_spec_InOrder (k : Nat) : Meets Try.prog 121 (c_spec_InOrder k) := meets_ev TTok mixed (cts := cs_spec_InOrder k) ⟨m_spec_Less k, trivial⟩ Try.func121 (by kernel_rfl) (by kernel_rfl) (e_spec_InOrder k)
abbrev ps_spec_ByOk : List PK := [.val (.sl .str) .shr]
abbrev rs_spec_ByOk : List RK := [.val .bool .leaf]
def c_spec_ByOk (k : Nat) : Con := ⟨ps_spec_ByOk, rs_spec_ByOk, F_spec_ByOk k⟩
def la_spec_ByOk : Nat → Option Ann := fun | 2 => some ⟨[(0, .val (.sl .str) (.sl (.sha [1]))), (3, .val (.int .i64) .leaf)], 3⟩ | _ => none
def ja_spec_ByOk : Nat → Option Ann := fun | 6 => some ⟨[(0, .val (.sl .str) (.sl (.sha [1])))], 3⟩ | _ => none
def cs_spec_ByOk (k : Nat) : List (FuncId × Con) := [(120, c_spec_NameOk k), (121, c_spec_InOrder k)]
set_option maxRecDepth 1000000 in
theorem e_spec_ByOk (k : Nat) (x) : evFn2 (mkCx TT (cs_spec_ByOk k) la_spec_ByOk ja_spec_ByOk k) ps_spec_ByOk rs_spec_ByOk Try.f90 x = F_spec_ByOk k x := by kernel_rfl
set_option maxRecDepth 1000000 in
theorem m_spec_ByOk (k : Nat) : Meets Try.prog 90 (c_spec_ByOk k) := meets_ev TTok mixed (cts := cs_spec_ByOk k) ⟨m_spec_NameOk k, m_spec_InOrder k, trivial⟩ Try.func90 (by kernel_rfl) (by kernel_rfl) (e_spec_ByOk k)
abbrev ps_spec_ConfOk : List PK := [.val tConf (.pair .leaf (.pair .leaf (.pair .leaf (.pair .leaf (.pair .leaf .shr)))))]
abbrev rs_spec_ConfOk : List RK := [.val .bool .leaf]
def c_spec_ConfOk (k : Nat) : Con := ⟨ps_spec_ConfOk, rs_spec_ConfOk, F_spec_ConfOk k⟩
def la_spec_ConfOk : Nat → Option Ann := fun _ => none
def ja_spec_ConfOk : Nat → Option Ann := fun _ => none
def cs_spec_ConfOk (k : Nat) : List (FuncId × Con) := [(78, c_spec_l1In k), (90, c_spec_ByOk k)]
set_option maxRecDepth 1000000 in
theorem e_spec_ConfOk (k : Nat) (x) : evFn2 (mkCx TT (cs_spec_ConfOk k) la_spec_ConfOk ja_spec_ConfOk k) ps_spec_ConfOk rs_spec_ConfOk Try.f45 x = F_spec_ConfOk k x := by kernel_rfl
set_option maxRecDepth 1000000 in
theorem m_spec_ConfOk (k : Nat) : Meets Try.prog 45 (c_spec_ConfOk k) := meets_ev TTok mixed (cts := cs_spec_ConfOk k) ⟨m_spec_l1In k, m_spec_ByOk k, trivial⟩ Try.func45 (by kernel_rfl) (by kernel_rfl) (e_spec_ConfOk k)
abbrev ps_spec_AlarmOk : List PK := [.val tAlarm (.pair .shr (.pair .leaf (.pair .leaf .leaf)))]
abbrev rs_spec_AlarmOk : List RK := [.val .bool .leaf]
def c_spec_AlarmOk (k : Nat) : Con := ⟨ps_spec_AlarmOk, rs_spec_AlarmOk, F_spec_AlarmOk k⟩
def la_spec_AlarmOk : Nat → Option Ann := fun _ => none
def ja_spec_AlarmOk : Nat → Option Ann := fun _ => none
def cs_spec_AlarmOk (k : Nat) : List (FuncId × Con) := [(117, c_spec_SetOk k), (78, c_spec_l1In k), (122, c_spec_PlainOk k)]
set_option maxRecDepth 1000000 in
theorem e_spec_AlarmOk (k : Nat) (x) : evFn2 (mkCx TT (cs_spec_AlarmOk k) la_spec_AlarmOk ja_spec_AlarmOk k) ps_spec_AlarmOk rs_spec_AlarmOk Try.f91 x = F_spec_AlarmOk k x := by kernel_rfl
set_option maxRecDepth 1000000 in
theorem m_spec_AlarmOk (k : Nat) : Meets Try.prog 91 (c_spec_AlarmOk k) := meets_ev TTok mixed (cts := cs_spec_AlarmOk k) ⟨m_spec_SetOk k, m_spec_l1In k, m_spec_PlainOk k, trivial⟩ Try.func91 (by kernel_rfl) (by kernel_rfl) (e_spec_AlarmOk k)
abbrev ps_spec_l14Got : List PK := [.val (.sl tAlarm) .shr]
abbrev rs_spec_l14Got : List RK := [.val .bool .leaf]
def c_spec_l14Got (k : Nat) : Con := ⟨ps_spec_l14Got, rs_spec_l14Got, F_spec_l14Got k⟩
def la_spec_l14Got : Nat → Option Ann := fun | 2 => some ⟨[(0, .val (.sl tAlarm) (.sl (.sha [1]))), (3, .val (.int .i64) .leaf)], 3⟩ | _ => none
def ja_spec_l14Got : Nat → Option Ann := fun _ => none
def cs_spec_l14Got (k : Nat) : List (FuncId × Con) := [(91, c_spec_AlarmOk k)]
set_option maxRecDepth 1000000 in
theorem e_spec_l14Got (k : Nat) (x) : evFn2 (mkCx TT (cs_spec_l14Got k) la_spec_l14Got ja_spec_l14Got k) ps_spec_l14Got rs_spec_l14Got Try.f46 x = F_spec_l14Got k x := by kernel_rfl
set_option maxRecDepth 1000000 in
theorem m_spec_l14Got (k : Nat) : Meets Try.prog 46 (c_spec_l14Got k) := meets_ev TTok mixed (cts := cs_spec_l14Got k) ⟨m_spec_AlarmOk k, trivial⟩ Try.func46 (by kernel_rfl) (by kernel_rfl) (e_spec_l14Got k)
abbrev ps_spec_SetLess : List PK := [.val (.sl tLabel) .shr, .val (.sl tLabel) .shr]
abbrev rs_spec_SetLess : List RK := [.val .bool .leaf]
def c_spec_SetLess (k : Nat) : Con := ⟨ps_spec_SetLess, rs_spec_SetLess, F_spec_SetLess k⟩
def la_spec_SetLess : Nat → Option Ann := fun | 2 => some ⟨[(0, .val (.sl tLabel) (.sl (.sha [1]))), (1, .val (.sl tLabel) (.sl (.sha [1]))), (5, .val (.int .i64) .leaf)], 3⟩ | _ => none
def ja_spec_SetLess : Nat → Option Ann := fun | 8 => some ⟨[(0, .val (.sl tLabel) (.sl (.sha [1]))), (1, .val (.sl tLabel) (.sl (.sha [1])))], 3⟩ | _ => none
def cs_spec_SetLess (k : Nat) : List (FuncId × Con) := [(94, c_spec_Less k)]
set_option maxRecDepth 1000000 in
theorem e_spec_SetLess (k : Nat) (x) : evFn2 (mkCx TT (cs_spec_SetLess k) la_spec_SetLess ja_spec_SetLess k) ps_spec_SetLess rs_spec_SetLess Try.f49 x = F_spec_SetLess k x := by kernel_rfl
set_option maxRecDepth 1000000 in
theorem m_spec_SetLess (k : Nat) : Meets Try.prog 49 (c_spec_SetLess k) := meets_ev TTok mixed (cts := cs_spec_SetLess k) ⟨m_spec_Less k, trivial⟩ Try.func49 (by kernel_rfl) (by kernel_rfl) (e_spec_SetLess k)
abbrev ps_spec_l5Has : List PK := [.val (.sl .str) .shr, .val .str .leaf]
abbrev rs_spec_l5Has : List RK := [.val .bool .leaf]
def c_spec_l5Has (k : Nat) : Con := ⟨ps_spec_l5Has, rs_spec_l5Has, F_spec_l5Has k⟩
def la_spec_l5Has : Nat → Option Ann := fun | 2 => some ⟨[(0, .val (.sl .str) (.sl (.sha [1]))), (1, .val .str .leaf), (5, .val (.int .i64) .leaf)], 3⟩ | _ => none
def ja_spec_l5Has : Nat → Option Ann := fun _ => none
def cs_spec_l5Has (k : Nat) : List (FuncId × Con) := []
set_option maxRecDepth 1000000 in
theorem e_spec_l5Has (k : Nat) (x) : evFn2 (mkCx TT (cs_spec_l5Has k) la_spec_l5Has ja_spec_l5Has k) ps_spec_l5Has rs_spec_l5Has Try.f144 x = F_spec_l5Has k x := by kernel_rfl
set_option maxRecDepth 1000000 in
theorem m_spec_l5Has (k : Nat) : Meets Try.prog 144 (c_spec_l5Has k) := meets_ev TTok mixed (cts := cs_spec_l5Has k) trivial Try.func144 (by kernel_rfl) (by kernel_rfl) (e_spec_l5Has k)
abbrev ps_spec_Project : List PK := [.val (.sl tLabel) .shr, .val (.sl .str) .shr]
abbrev rs_spec_Project : List RK := [.val (.sl tLabel) .own]
def c_spec_Project (k : Nat) : Con := ⟨ps_spec_Project, rs_spec_Project, F_spec_Project k⟩
def la_spec_Project : Nat → Option Ann := fun | 3 => some ⟨[(0, .val (.sl tLabel) (.sl (.sha [1]))), (1, .val (.sl .str) (.sl (.sha [1]))), (5, .val (.sl tLabel) (.sl (.row 3 [] true))), (6, .val (.int .i64) .leaf)], 4⟩ | _ => none
def ja_spec_Project : Nat → Option Ann := fun _ => none
def cs_spec_Project (k : Nat) : List (FuncId × Con) := [(144, c_spec_l5Has k)]
set_option maxRecDepth 1000000 in
theorem e_spec_Project (k : Nat) (x) : evFn2 (mkCx TT (cs_spec_Project k) la_spec_Project ja_spec_Project k) ps_spec_Project rs_spec_Project Try.f135 x = F_spec_Project k x := by kernel_rfl
set_option maxRecDepth 1000000 in
theorem m_spec_Project (k : Nat) : Meets Try.prog 135 (c_spec_Project k) := meets_ev TTok mixed (cts := cs_spec_Project k) ⟨m_spec_l5Has k, trivial⟩ Try.func135 (by kernel_rfl) (by kernel_rfl) (e_spec_Project k)
abbrev ps_spec_KeyOf : List PK := [.val tAlarm (.pair .shr (.pair .leaf (.pair .leaf .leaf))), .val (.sl .str) .shr]
abbrev rs_spec_KeyOf : List RK := [.val (.sl tLabel) .own]
def c_spec_KeyOf (k : Nat) : Con := ⟨ps_spec_KeyOf, rs_spec_KeyOf, F_spec_KeyOf k⟩
def la_spec_KeyOf : Nat → Option Ann := fun _ => none
def ja_spec_KeyOf : Nat → Option Ann := fun _ => none
def cs_spec_KeyOf (k : Nat) : List (FuncId × Con) := [(135, c_spec_Project k)]
set_option maxRecDepth 1000000 in
theorem e_spec_KeyOf (k : Nat) (x) : evFn2 (mkCx TT (cs_spec_KeyOf k) la_spec_KeyOf ja_spec_KeyOf k) ps_spec_KeyOf rs_spec_KeyOf Try.f123 x = F_spec_KeyOf k x := by kernel_rfl
set_option maxRecDepth 1000000 in
theorem m_spec_KeyOf (k : Nat) : Meets Try.prog 123 (c_spec_KeyOf k) := meets_ev TTok mixed (cts := cs_spec_KeyOf k) ⟨m_spec_Project k, trivial⟩ Try.func123 (by kernel_rfl) (by kernel_rfl) (e_spec_KeyOf k)
abbrev ps_spec_SameSet : List PK := [.val (.sl tLabel) .shr, .val (.sl tLabel) .shr]
abbrev rs_spec_SameSet : List RK := [.val .bool .leaf]
def c_spec_SameSet (k : Nat) : Con := ⟨ps_spec_SameSet, rs_spec_SameSet, F_spec_SameSet k⟩
def la_spec_SameSet : Nat → Option Ann := fun | 4 => some ⟨[(0, .val (.sl tLabel) (.sl (.sha [1]))), (1, .val (.sl tLabel) (.sl (.sha [1]))), (5, .val (.int .i64) .leaf)], 3⟩ | _ => none
def ja_spec_SameSet : Nat → Option Ann := fun _ => none
def cs_spec_SameSet (k : Nat) : List (FuncId × Con) := []
set_option maxRecDepth 1000000 in
theorem e_spec_SameSet (k : Nat) (x) : evFn2 (mkCx TT (cs_spec_SameSet k) la_spec_SameSet ja_spec_SameSet k) ps_spec_SameSet rs_spec_SameSet Try.f93 x = F_spec_SameSet k x := by kernel_rfl
set_option maxRecDepth 1000000 in
theorem m_spec_SameSet (k : Nat) : Meets Try.prog 93 (c_spec_SameSet k) := meets_ev TTok mixed (cts := cs_spec_SameSet k) trivial Try.func93 (by kernel_rfl) (by kernel_rfl) (e_spec_SameSet k)
abbrev ps_spec_GroupOk : List PK := [.val tGroup (.pair .leaf (.pair .shr (.pair .leaf (.pair .leaf .shr)))), .val (.sl .str) .shr]
abbrev rs_spec_GroupOk : List RK := [.val .bool .leaf]
def c_spec_GroupOk (k : Nat) : Con := ⟨ps_spec_GroupOk, rs_spec_GroupOk, F_spec_GroupOk k⟩
def la_spec_GroupOk : Nat → Option Ann := fun | 2 => some ⟨[(1, .val (.sl .str) (.sl (.sha [1]))), (2, .box 3 tGroup (.pair .leaf (.pair (.sl (.sha [1])) (.pair .leaf (.pair .leaf (.sl (.sha [1]))))))), (5, .val (.int .i64) .leaf)], 4⟩ | _ => none
def ja_spec_GroupOk : Nat → Option Ann := fun | 6 => some ⟨[(2, .box 3 tGroup (.pair .leaf (.pair (.sl (.sha [1])) (.pair .leaf (.pair .leaf (.sl (.sha [1])))))))], 4⟩ | _ => none
def cs_spec_GroupOk (k : Nat) : List (FuncId × Con) := [(91, c_spec_AlarmOk k), (49, c_spec_SetLess k), (123, c_spec_KeyOf k), (93, c_spec_SameSet k), (117, c_spec_SetOk k), (78, c_spec_l1In k)]
set_option maxRecDepth 1000000 in
theorem e_spec_GroupOk (k : Nat) (x) : evFn2 (mkCx TT (cs_spec_GroupOk k) la_spec_GroupOk ja_spec_GroupOk k) ps_spec_GroupOk rs_spec_GroupOk Try.f92 x = F_spec_GroupOk k x := by kernel_rfl
set_option maxRecDepth 1000000 in
theorem m_spec_GroupOk (k : Nat) : Meets Try.prog 92 (c_spec_GroupOk k) := meets_ev TTok mixed (cts := cs_spec_GroupOk k) ⟨m_spec_AlarmOk k, m_spec_SetLess k, m_spec_KeyOf k, m_spec_SameSet k, m_spec_SetOk k, m_spec_l1In k, trivial⟩ Try.func92 (by kernel_rfl) (by kernel_rfl) (e_spec_GroupOk k)
abbrev ps_spec_GroupsOk : List PK := [.val (.sl tGroup) .shr, .val (.sl .str) .shr]
abbrev rs_spec_GroupsOk : List RK := [.val .bool .leaf]
def c_spec_GroupsOk (k : Nat) : Con := ⟨ps_spec_GroupsOk, rs_spec_GroupsOk, F_spec_GroupsOk k⟩
def la_spec_GroupsOk : Nat → Option Ann := fun | 2 => some ⟨[(0, .val (.sl tGroup) (.sl (.sha [1]))), (1, .val (.sl .str) (.sl (.sha [1]))), (5, .val (.int .i64) .leaf)], 3⟩ | 7 => some ⟨[(0, .val (.sl tGroup) (.sl (.sha [1]))), (1, .val (.sl .str) (.sl (.sha [1]))), (5, .val (.int .i64) .leaf), (6, .val (.int .i64) .leaf)], 3⟩ | _ => none
def ja_spec_GroupsOk : Nat → Option Ann := fun | 11 => some ⟨[(0, .val (.sl tGroup) (.sl (.sha [1])))], 3⟩ | _ => none
def cs_spec_GroupsOk (k : Nat) : List (FuncId × Con) := [(92, c_spec_GroupOk k), (93, c_spec_SameSet k)]
set_option maxRecDepth 1000000 in
theorem e_spec_GroupsOk (k : Nat) (x) : evFn2 (mkCx TT (cs_spec_GroupsOk k) la_spec_GroupsOk ja_spec_GroupsOk k) ps_spec_GroupsOk rs_spec_GroupsOk Try.f47 x = F_spec_GroupsOk k x := by kernel_rfl
set_option maxRecDepth 1000000 in
theorem m_spec_GroupsOk (k : Nat) : Meets Try.prog 47 (c_spec_GroupsOk k) := meets_ev TTok mixed (cts := cs_spec_GroupsOk k) ⟨m_spec_GroupOk k, m_spec_SameSet k, trivial⟩ Try.func47 (by kernel_rfl) (by kernel_rfl) (e_spec_GroupsOk k)
abbrev ps_spec_Fits : List PK := [.val tConf (.pair .leaf (.pair .leaf (.pair .leaf (.pair .leaf (.pair .leaf .shr))))), .val tAlarm (.pair .shr (.pair .leaf (.pair .leaf .leaf)))]
abbrev rs_spec_Fits : List RK := [.val .bool .leaf]
def c_spec_Fits (k : Nat) : Con := ⟨ps_spec_Fits, rs_spec_Fits, F_spec_Fits k⟩
def la_spec_Fits : Nat → Option Ann := fun _ => none
def ja_spec_Fits : Nat → Option Ann := fun _ => none
def cs_spec_Fits (k : Nat) : List (FuncId × Con) := [(91, c_spec_AlarmOk k)]
set_option maxRecDepth 1000000 in
theorem e_spec_Fits (k : Nat) (x) : evFn2 (mkCx TT (cs_spec_Fits k) la_spec_Fits ja_spec_Fits k) ps_spec_Fits rs_spec_Fits Try.f48 x = F_spec_Fits k x := by kernel_rfl
set_option maxRecDepth 1000000 in
theorem m_spec_Fits (k : Nat) : Meets Try.prog 48 (c_spec_Fits k) := meets_ev TTok mixed (cts := cs_spec_Fits k) ⟨m_spec_AlarmOk k, trivial⟩ Try.func48 (by kernel_rfl) (by kernel_rfl) (e_spec_Fits k)
abbrev ps_spec_SubOk : List PK := [.val tSub (.pair .shr .leaf)]
abbrev rs_spec_SubOk : List RK := [.val .bool .leaf]
def c_spec_SubOk (k : Nat) : Con := ⟨ps_spec_SubOk, rs_spec_SubOk, F_spec_SubOk k⟩
def la_spec_SubOk : Nat → Option Ann := fun | 2 => some ⟨[(1, .box 3 tSub (.pair (.sl (.sha [1])) .leaf)), (3, .val (.int .i64) .leaf)], 4⟩ | _ => none
def ja_spec_SubOk : Nat → Option Ann := fun | 6 => some ⟨[(1, .box 3 tSub (.pair (.sl (.sha [1])) .leaf))], 4⟩ | _ => none
def cs_spec_SubOk (k : Nat) : List (FuncId × Con) := [(91, c_spec_AlarmOk k)]
set_option maxRecDepth 1000000 in
theorem e_spec_SubOk (k : Nat) (x) : evFn2 (mkCx TT (cs_spec_SubOk k) la_spec_SubOk ja_spec_SubOk k) ps_spec_SubOk rs_spec_SubOk Try.f50 x = F_spec_SubOk k x := by kernel_rfl
set_option maxRecDepth 1000000 in
theorem m_spec_SubOk (k : Nat) : Meets Try.prog 50 (c_spec_SubOk k) := meets_ev TTok mixed (cts := cs_spec_SubOk k) ⟨m_spec_AlarmOk k, trivial⟩ Try.func50 (by kernel_rfl) (by kernel_rfl) (e_spec_SubOk k)
abbrev ps_spec_ModelOk : List PK := [.val tModel (.pair (.pair .leaf (.pair .leaf (.pair .leaf (.pair .leaf (.pair .leaf .shr))))) (.pair .shr (.pair .shr (.pair .shr (.pair .shr .leaf)))))]
abbrev rs_spec_ModelOk : List RK := [.val .bool .leaf]
def c_spec_ModelOk (k : Nat) : Con := ⟨ps_spec_ModelOk, rs_spec_ModelOk, F_spec_ModelOk k⟩
def la_spec_ModelOk : Nat → Option Ann := fun | 4 => some ⟨[(1, .box 3 tModel (.pair (.pair .leaf (.pair .leaf (.pair .leaf (.pair .leaf (.pair .leaf (.sl (.sha [1]))))))) (.pair (.sl (.sha [1])) (.pair (.sl (.sha [1])) (.pair (.sl (.sha [1])) (.pair (.sl (.sha [1])) .leaf)))))), (3, .val (.int .i64) .leaf)], 4⟩ | 9 => some ⟨[(1, .box 3 tModel (.pair (.pair .leaf (.pair .leaf (.pair .leaf (.pair .leaf (.pair .leaf (.sl (.sha [1]))))))) (.pair (.sl (.sha [1])) (.pair (.sl (.sha [1])) (.pair (.sl (.sha [1])) (.pair (.sl (.sha [1])) .leaf)))))), (4, .val (.int .i64) .leaf)], 4⟩ | 14 => some ⟨[(1, .box 3 tModel (.pair (.pair .leaf (.pair .leaf (.pair .leaf (.pair .leaf (.pair .leaf (.sl (.sha [1]))))))) (.pair (.sl (.sha [1])) (.pair (.sl (.sha [1])) (.pair (.sl (.sha [1])) (.pair (.sl (.sha [1])) .leaf)))))), (5, .val (.int .i64) .leaf)], 4⟩ | _ => none
def ja_spec_ModelOk : Nat → Option Ann := fun | 8 => some ⟨[(1, .box 3 tModel (.pair (.pair .leaf (.pair .leaf (.pair .leaf (.pair .leaf (.pair .leaf (.sl (.sha [1]))))))) (.pair (.sl (.sha [1])) (.pair (.sl (.sha [1])) (.pair (.sl (.sha [1])) (.pair (.sl (.sha [1])) .leaf))))))], 4⟩ | 13 => some ⟨[(1, .box 3 tModel (.pair (.pair .leaf (.pair .leaf (.pair .leaf (.pair .leaf (.pair .leaf (.sl (.sha [1]))))))) (.pair (.sl (.sha [1])) (.pair (.sl (.sha [1])) (.pair (.sl (.sha [1])) (.pair (.sl (.sha [1])) .leaf))))))], 4⟩ | _ => none
def cs_spec_ModelOk (k : Nat) : List (FuncId × Con) := [(45, c_spec_ConfOk k), (46, c_spec_l14Got k), (47, c_spec_GroupsOk k), (48, c_spec_Fits k), (49, c_spec_SetLess k), (50, c_spec_SubOk k)]
set_option maxRecDepth 1000000 in
theorem e_spec_ModelOk (k : Nat) (x) : evFn2 (mkCx TT (cs_spec_ModelOk k) la_spec_ModelOk ja_spec_ModelOk k) ps_spec_ModelOk rs_spec_ModelOk Try.f14 x = F_spec_ModelOk k x := by kernel_rfl
set_option maxRecDepth 1000000 in
theorem m_spec_ModelOk (k : Nat) : Meets Try.prog 14 (c_spec_ModelOk k) := meets_ev TTok mixed (cts := cs_spec_ModelOk k) ⟨m_spec_ConfOk k, m_spec_l14Got k, m_spec_GroupsOk k, m_spec_Fits k, m_spec_SetLess k, m_spec_SubOk k, trivial⟩ Try.func14 (by kernel_rfl) (by kernel_rfl) (e_spec_ModelOk k)
abbrev ps_impl_InOrder : List PK := [.val (.sl .str) .shr]
abbrev rs_impl_InOrder : List RK := [.val .bool .leaf]
def c_impl_InOrder (k : Nat) : Con := ⟨ps_impl_InOrder, rs_impl_InOrder, F_impl_InOrder k⟩
def la_impl_InOrder : Nat → Option Ann := fun | 2 => some ⟨[(0, .val (.sl .str) (.sl (.sha [1]))), (3, .val (.int .i64) .leaf)], 3⟩ | _ => none
def ja_impl_InOrder : Nat → Option Ann := fun _ => none
def cs_impl_InOrder (k : Nat) : List (FuncId × Con) := []
set_option maxRecDepth 1000000 in
theorem e_impl_InOrder (k : Nat) (x) : evFn2 (mkCx TT (cs_impl_InOrder k) la_impl_InOrder ja_impl_InOrder k) ps_impl_InOrder rs_impl_InOrder Try.f125 x = F_impl_InOrder k x := by kernel_rfl
set_option maxRecDepth 1000000 in
theorem m_impl_InOrder (k : Nat) : Meets Try.prog 125 (c_impl_InOrder k) := meets_ev TTok mixed (cts := cs_impl_InOrder k) trivial Try.func125 (by kernel_rfl) (by kernel_rfl) (e_impl_InOrder k)
abbrev ps_impl_ByOk : List PK := [.val (.sl .str) .shr]
abbrev rs_impl_ByOk : List RK := [.val .bool .leaf]
def c_impl_ByOk (k : Nat) : Con := ⟨ps_impl_ByOk, rs_impl_ByOk, F_impl_ByOk k⟩
def la_impl_ByOk : Nat → Option Ann := fun | 2 => some ⟨[(0, .val (.sl .str) (.sl (.sha [1]))), (5, .val (.sl .str) (.sl (.sha [1]))), (6, .val (.int .i64) .leaf), (7, .val (.int .i64) .leaf)], 3⟩ | _ => none
def ja_impl_ByOk : Nat → Option Ann := fun | 7 => some ⟨[(0, .val (.sl .str) (.sl (.sha [1])))], 3⟩ | _ => none
def cs_impl_ByOk (k : Nat) : List (FuncId × Con) := [(124, c_impl_NameOk k), (125, c_impl_InOrder k)]
set_option maxRecDepth 1000000 in
theorem e_impl_ByOk (k : Nat) (x) : evFn2 (mkCx TT (cs_impl_ByOk k) la_impl_ByOk ja_impl_ByOk k) ps_impl_ByOk rs_impl_ByOk Try.f98 x = F_impl_ByOk k x := by kernel_rfl
set_option maxRecDepth 1000000 in
theorem m_impl_ByOk (k : Nat) : Meets Try.prog 98 (c_impl_ByOk k) := meets_ev TTok mixed (cts := cs_impl_ByOk k) ⟨m_impl_NameOk k, m_impl_InOrder k, trivial⟩ Try.func98 (by kernel_rfl) (by kernel_rfl) (e_impl_ByOk k)
abbrev ps_impl_ConfOk : List PK := [.val tConf (.pair .leaf (.pair .leaf (.pair .leaf (.pair .leaf (.pair .leaf .shr)))))]
abbrev rs_impl_ConfOk : List RK := [.val .bool .leaf]
def c_impl_ConfOk (k : Nat) : Con := ⟨ps_impl_ConfOk, rs_impl_ConfOk, F_impl_ConfOk k⟩
def la_impl_ConfOk : Nat → Option Ann := fun _ => none
def ja_impl_ConfOk : Nat → Option Ann := fun _ => none
def cs_impl_ConfOk (k : Nat) : List (FuncId × Con) := [(79, c_impl_in k), (98, c_impl_ByOk k)]
set_option maxRecDepth 1000000 in
theorem e_impl_ConfOk (k : Nat) (x) : evFn2 (mkCx TT (cs_impl_ConfOk k) la_impl_ConfOk ja_impl_ConfOk k) ps_impl_ConfOk rs_impl_ConfOk Try.f54 x = F_impl_ConfOk k x := by kernel_rfl
set_option maxRecDepth 1000000 in
theorem m_impl_ConfOk (k : Nat) : Meets Try.prog 54 (c_impl_ConfOk k) := meets_ev TTok mixed (cts := cs_impl_ConfOk k) ⟨m_impl_in k, m_impl_ByOk k, trivial⟩ Try.func54 (by kernel_rfl) (by kernel_rfl) (e_impl_ConfOk k)
abbrev ps_impl_AlarmOk : List PK := [.val tAlarm (.pair .shr (.pair .leaf (.pair .leaf .leaf)))]
abbrev rs_impl_AlarmOk : List RK := [.val .bool .leaf]
def c_impl_AlarmOk (k : Nat) : Con := ⟨ps_impl_AlarmOk, rs_impl_AlarmOk, F_impl_AlarmOk k⟩
def la_impl_AlarmOk : Nat → Option Ann := fun _ => none
def ja_impl_AlarmOk : Nat → Option Ann := fun _ => none
def cs_impl_AlarmOk (k : Nat) : List (FuncId × Con) := [(126, c_impl_SetOk k), (79, c_impl_in k), (127, c_impl_PlainOk k)]
set_option maxRecDepth 1000000 in
theorem e_impl_AlarmOk (k : Nat) (x) : evFn2 (mkCx TT (cs_impl_AlarmOk k) la_impl_AlarmOk ja_impl_AlarmOk k) ps_impl_AlarmOk rs_impl_AlarmOk Try.f100 x = F_impl_AlarmOk k x := by kernel_rfl
set_option maxRecDepth 1000000 in
theorem m_impl_AlarmOk (k : Nat) : Meets Try.prog 100 (c_impl_AlarmOk k) := meets_ev TTok mixed (cts := cs_impl_AlarmOk k) ⟨m_impl_SetOk k, m_impl_in k, m_impl_PlainOk k, trivial⟩ Try.func100 (by kernel_rfl) (by kernel_rfl) (e_impl_AlarmOk k)
abbrev ps_impl_alarmsOk : List PK := [.val (.sl tAlarm) .shr]
abbrev rs_impl_alarmsOk : List RK := [.val .bool .leaf]
def c_impl_alarmsOk (k : Nat) : Con := ⟨ps_impl_alarmsOk, rs_impl_alarmsOk, F_impl_alarmsOk k⟩
def la_impl_alarmsOk : Nat → Option Ann := fun | 2 => some ⟨[(5, .val (.sl tAlarm) (.sl (.sha [1]))), (6, .val (.int .i64) .leaf), (7, .val (.int .i64) .leaf)], 3⟩ | _ => none
def ja_impl_alarmsOk : Nat → Option Ann := fun _ => none
def cs_impl_alarmsOk (k : Nat) : List (FuncId × Con) := [(100, c_impl_AlarmOk k)]
set_option maxRecDepth 1000000 in
theorem e_impl_alarmsOk (k : Nat) (x) : evFn2 (mkCx TT (cs_impl_alarmsOk k) la_impl_alarmsOk ja_impl_alarmsOk k) ps_impl_alarmsOk rs_impl_alarmsOk Try.f56 x = F_impl_alarmsOk k x := by kernel_rfl
set_option maxRecDepth 1000000 in
theorem m_impl_alarmsOk (k : Nat) : Meets Try.prog 56 (c_impl_alarmsOk k) := meets_ev TTok mixed (cts := cs_impl_alarmsOk k) ⟨m_impl_AlarmOk k, trivial⟩ Try.func56 (by kernel_rfl) (by kernel_rfl) (e_impl_alarmsOk k)
end Vg.Try
