/- What the functions compute is what the evaluator says; their contracts. -/
import Derived.Test.YtbjolgfamnkeaaaE1
namespace Vg.Try
open Go Vg Go.Proofs
set_option linter.unusedVariables false
abbrev ps_impl_PlainOk : List PK := [.val .str .leaf]
abbrev rs_impl_PlainOk : List RK := [.val .bool .leaf]
def c_impl_PlainOk (k : Nat) : Con := ⟨ps_impl_PlainOk, rs_impl_PlainOk, F_impl_PlainOk k⟩
def la_impl_PlainOk : Nat → Option Ann := fun | 4 => some ⟨[(0, .val .str .leaf), (3, .val (.int .i64) .leaf)], 3⟩ | _ => none
def ja_impl_PlainOk : Nat → Option Ann := fun _ => none
def cs_impl_PlainOk (k : Nat) : List (FuncId × Con) := []
set_option maxRecDepth 1000000 in
theorem e_impl_PlainOk (k : Nat) (x) : evFn2 (mkCx TT (cs_impl_PlainOk k) la_impl_PlainOk ja_impl_PlainOk k) ps_impl_PlainOk rs_impl_PlainOk Try.f127 x = F_impl_PlainOk k x := by kernel_rfl
set_option maxRecDepth 1000000 in
theorem m_impl_PlainOk (k : Nat) : Meets Try.prog 127 (c_impl_PlainOk k) := meets_ev TTok mixed (cts := cs_impl_PlainOk k) trivial Try.func127 (by kernel_rfl) (by kernel_rfl) (e_impl_PlainOk k)
abbrev ps_impl_LabelOk : List PK := [.val tLabel (.pair .leaf .leaf)]
abbrev rs_impl_LabelOk : List RK := [.val .bool .leaf]
def c_impl_LabelOk (k : Nat) : Con := ⟨ps_impl_LabelOk, rs_impl_LabelOk, F_impl_LabelOk k⟩
def la_impl_LabelOk : Nat → Option Ann := fun _ => none
def ja_impl_LabelOk : Nat → Option Ann := fun _ => none
def cs_impl_LabelOk (k : Nat) : List (FuncId × Con) := [(124, c_impl_NameOk k), (127, c_impl_PlainOk k)]
set_option maxRecDepth 1000000 in
theorem e_impl_LabelOk (k : Nat) (x) : evFn2 (mkCx TT (cs_impl_LabelOk k) la_impl_LabelOk ja_impl_LabelOk k) ps_impl_LabelOk rs_impl_LabelOk Try.f136 x = F_impl_LabelOk k x := by kernel_rfl
set_option maxRecDepth 1000000 in
theorem m_impl_LabelOk (k : Nat) : Meets Try.prog 136 (c_impl_LabelOk k) := meets_ev TTok mixed (cts := cs_impl_LabelOk k) ⟨m_impl_NameOk k, m_impl_PlainOk k, trivial⟩ Try.func136 (by kernel_rfl) (by kernel_rfl) (e_impl_LabelOk k)
abbrev ps_impl_SetOk : List PK := [.val (.sl tLabel) .shr]
abbrev rs_impl_SetOk : List RK := [.val .bool .leaf]
def c_impl_SetOk (k : Nat) : Con := ⟨ps_impl_SetOk, rs_impl_SetOk, F_impl_SetOk k⟩
def la_impl_SetOk : Nat → Option Ann := fun | 2 => some ⟨[(0, .val (.sl tLabel) (.sl (.sha [1]))), (5, .val (.sl tLabel) (.sl (.sha [1]))), (6, .val (.int .i64) .leaf), (7, .val (.int .i64) .leaf)], 3⟩ | _ => none
def ja_impl_SetOk : Nat → Option Ann := fun _ => none
def cs_impl_SetOk (k : Nat) : List (FuncId × Con) := [(136, c_impl_LabelOk k)]
set_option maxRecDepth 1000000 in
theorem e_impl_SetOk (k : Nat) (x) : evFn2 (mkCx TT (cs_impl_SetOk k) la_impl_SetOk ja_impl_SetOk k) ps_impl_SetOk rs_impl_SetOk Try.f126 x = F_impl_SetOk k x := by kernel_rfl
set_option maxRecDepth 1000000 in
theorem m_impl_SetOk (k : Nat) : Meets Try.prog 126 (c_impl_SetOk k) := meets_ev TTok mixed (cts := cs_impl_SetOk k) ⟨m_impl_LabelOk k, trivial⟩ Try.func126 (by kernel_rfl) (by kernel_rfl) (e_impl_SetOk k)
abbrev ps_impl_SetText : List PK := [.val (.sl tLabel) .shr]
abbrev rs_impl_SetText : List RK := [.val .str .leaf]
def c_impl_SetText (k : Nat) : Con := ⟨ps_impl_SetText, rs_impl_SetText, F_impl_SetText k⟩
def la_impl_SetText : Nat → Option Ann := fun | 5 => some ⟨[(3, .val (.sl .str) (.sl (.row 3 [] true))), (9, .val (.sl tLabel) (.sl (.sha [1]))), (10, .val (.int .i64) .leaf), (11, .val (.int .i64) .leaf)], 4⟩ | _ => none
def ja_impl_SetText : Nat → Option Ann := fun | 9 => some ⟨[(3, .val (.sl .str) (.sl (.row 3 [] true)))], 4⟩ | _ => none
def cs_impl_SetText (k : Nat) : List (FuncId × Con) := [(126, c_impl_SetOk k), (134, c_strings_Join k)]
set_option maxRecDepth 1000000 in
theorem e_impl_SetText (k : Nat) (x) : evFn2 (mkCx TT (cs_impl_SetText k) la_impl_SetText ja_impl_SetText k) ps_impl_SetText rs_impl_SetText Try.f119 x = F_impl_SetText k x := by kernel_rfl
set_option maxRecDepth 1000000 in
theorem m_impl_SetText (k : Nat) : Meets Try.prog 119 (c_impl_SetText k) := meets_ev TTok mixed (cts := cs_impl_SetText k) ⟨m_impl_SetOk k, m_strings_Join k, trivial⟩ Try.func119 (by kernel_rfl) (by kernel_rfl) (e_impl_SetText k)
abbrev ps_impl_Sum : List PK := [.val .str .leaf]
abbrev rs_impl_Sum : List RK := [.val (.int .i64) .leaf]
def c_impl_Sum (k : Nat) : Con := ⟨ps_impl_Sum, rs_impl_Sum, F_impl_Sum k⟩
def la_impl_Sum : Nat → Option Ann := fun | 3 => some ⟨[(0, .val .str .leaf), (3, .val (.int .u32) .leaf), (4, .val (.int .i64) .leaf)], 3⟩ | _ => none
def ja_impl_Sum : Nat → Option Ann := fun | 6 => some ⟨[(3, .val (.int .u32) .leaf)], 3⟩ | _ => none
def cs_impl_Sum (k : Nat) : List (FuncId × Con) := []
set_option maxRecDepth 1000000 in
theorem e_impl_Sum (k : Nat) (x) : evFn2 (mkCx TT (cs_impl_Sum k) la_impl_Sum ja_impl_Sum k) ps_impl_Sum rs_impl_Sum Try.f118 x = F_impl_Sum k x := by kernel_rfl
set_option maxRecDepth 1000000 in
theorem m_impl_Sum (k : Nat) : Meets Try.prog 118 (c_impl_Sum k) := meets_ev TTok mixed (cts := cs_impl_Sum k) trivial Try.func118 (by kernel_rfl) (by kernel_rfl) (e_impl_Sum k)
abbrev ps_impl_Finger : List PK := [.val (.sl tLabel) .shr]
abbrev rs_impl_Finger : List RK := [.val (.int .i64) .leaf]
def c_impl_Finger (k : Nat) : Con := ⟨ps_impl_Finger, rs_impl_Finger, F_impl_Finger k⟩
def la_impl_Finger : Nat → Option Ann := fun _ => none
def ja_impl_Finger : Nat → Option Ann := fun _ => none
def cs_impl_Finger (k : Nat) : List (FuncId × Con) := [(119, c_impl_SetText k), (118, c_impl_Sum k)]
set_option maxRecDepth 1000000 in
theorem e_impl_Finger (k : Nat) (x) : evFn2 (mkCx TT (cs_impl_Finger k) la_impl_Finger ja_impl_Finger k) ps_impl_Finger rs_impl_Finger Try.f85 x = F_impl_Finger k x := by kernel_rfl
set_option maxRecDepth 1000000 in
theorem m_impl_Finger (k : Nat) : Meets Try.prog 85 (c_impl_Finger k) := meets_ev TTok mixed (cts := cs_impl_Finger k) ⟨m_impl_SetText k, m_impl_Sum k, trivial⟩ Try.func85 (by kernel_rfl) (by kernel_rfl) (e_impl_Finger k)
abbrev ps_impl_PartOf : List PK := [.val (.int .i64) .leaf, .val (.int .i64) .leaf]
abbrev rs_impl_PartOf : List RK := [.val (.int .i64) .leaf]
def c_impl_PartOf (k : Nat) : Con := ⟨ps_impl_PartOf, rs_impl_PartOf, F_impl_PartOf k⟩
def la_impl_PartOf : Nat → Option Ann := fun _ => none
def ja_impl_PartOf : Nat → Option Ann := fun _ => none
def cs_impl_PartOf (k : Nat) : List (FuncId × Con) := []
set_option maxRecDepth 1000000 in
theorem e_impl_PartOf (k : Nat) (x) : evFn2 (mkCx TT (cs_impl_PartOf k) la_impl_PartOf ja_impl_PartOf k) ps_impl_PartOf rs_impl_PartOf Try.f84 x = F_impl_PartOf k x := by kernel_rfl
set_option maxRecDepth 1000000 in
theorem m_impl_PartOf (k : Nat) : Meets Try.prog 84 (c_impl_PartOf k) := meets_ev TTok mixed (cts := cs_impl_PartOf k) trivial Try.func84 (by kernel_rfl) (by kernel_rfl) (e_impl_PartOf k)
abbrev ps_impl_partAt : List PK := [.val tTask (.pair .leaf (.pair .leaf (.pair (.pair .shr (.pair .leaf (.pair .leaf .leaf))) (.pair .shr (.pair .leaf (.pair .shr (.pair .shr (.pair .leaf .leaf)))))))), .val (.int .i64) .leaf, .val .bool .leaf]
abbrev rs_impl_partAt : List RK := [.val (.int .i64) .leaf]
def c_impl_partAt (k : Nat) : Con := ⟨ps_impl_partAt, rs_impl_partAt, F_impl_partAt k⟩
def la_impl_partAt : Nat → Option Ann := fun _ => none
def ja_impl_partAt : Nat → Option Ann := fun _ => none
def cs_impl_partAt (k : Nat) : List (FuncId × Con) := [(85, c_impl_Finger k), (84, c_impl_PartOf k)]
set_option maxRecDepth 1000000 in
theorem e_impl_partAt (k : Nat) (x) : evFn2 (mkCx TT (cs_impl_partAt k) la_impl_partAt ja_impl_partAt k) ps_impl_partAt rs_impl_partAt Try.f37 x = F_impl_partAt k x := by kernel_rfl
set_option maxRecDepth 1000000 in
theorem m_impl_partAt (k : Nat) : Meets Try.prog 37 (c_impl_partAt k) := meets_ev TTok mixed (cts := cs_impl_partAt k) ⟨m_impl_Finger k, m_impl_PartOf k, trivial⟩ Try.func37 (by kernel_rfl) (by kernel_rfl) (e_impl_partAt k)
abbrev ps_impl_WantsPart : List PK := [.val tTask (.pair .leaf (.pair .leaf (.pair (.pair .shr (.pair .leaf (.pair .leaf .leaf))) (.pair .shr (.pair .leaf (.pair .shr (.pair .shr (.pair .leaf .leaf)))))))), .val (.int .i64) .leaf]
abbrev rs_impl_WantsPart : List RK := [.val (.int .i64) .leaf]
def c_impl_WantsPart (k : Nat) : Con := ⟨ps_impl_WantsPart, rs_impl_WantsPart, F_impl_WantsPart k⟩
def la_impl_WantsPart : Nat → Option Ann := fun _ => none
def ja_impl_WantsPart : Nat → Option Ann := fun _ => none
def cs_impl_WantsPart (k : Nat) : List (FuncId × Con) := [(37, c_impl_partAt k)]
set_option maxRecDepth 1000000 in
theorem e_impl_WantsPart (k : Nat) (x) : evFn2 (mkCx TT (cs_impl_WantsPart k) la_impl_WantsPart ja_impl_WantsPart k) ps_impl_WantsPart rs_impl_WantsPart Try.f11 x = F_impl_WantsPart k x := by kernel_rfl
set_option maxRecDepth 1000000 in
theorem m_impl_WantsPart (k : Nat) : Meets Try.prog 11 (c_impl_WantsPart k) := meets_ev TTok mixed (cts := cs_impl_WantsPart k) ⟨m_impl_partAt k, trivial⟩ Try.func11 (by kernel_rfl) (by kernel_rfl) (e_impl_WantsPart k)
abbrev ps_laws_eqLabel : List PK := [.val tLabel (.pair .leaf .leaf), .val tLabel (.pair .leaf .leaf)]
abbrev rs_laws_eqLabel : List RK := [.val .bool .leaf]
def c_laws_eqLabel (k : Nat) : Con := ⟨ps_laws_eqLabel, rs_laws_eqLabel, F_laws_eqLabel k⟩
def la_laws_eqLabel : Nat → Option Ann := fun _ => none
def ja_laws_eqLabel : Nat → Option Ann := fun _ => none
def cs_laws_eqLabel (k : Nat) : List (FuncId × Con) := []
set_option maxRecDepth 1000000 in
theorem e_laws_eqLabel (k : Nat) (x) : evFn2 (mkCx TT (cs_laws_eqLabel k) la_laws_eqLabel ja_laws_eqLabel k) ps_laws_eqLabel rs_laws_eqLabel Try.f86 x = F_laws_eqLabel k x := by kernel_rfl
set_option maxRecDepth 1000000 in
theorem m_laws_eqLabel (k : Nat) : Meets Try.prog 86 (c_laws_eqLabel k) := meets_ev TTok mixed (cts := cs_laws_eqLabel k) trivial Try.func86 (by kernel_rfl) (by kernel_rfl) (e_laws_eqLabel k)
abbrev ps_laws_eqLabelS : List PK := [.val (.sl tLabel) .shr, .val (.sl tLabel) .shr]
abbrev rs_laws_eqLabelS : List RK := [.val .bool .leaf]
def c_laws_eqLabelS (k : Nat) : Con := ⟨ps_laws_eqLabelS, rs_laws_eqLabelS, F_laws_eqLabelS k⟩
def la_laws_eqLabelS : Nat → Option Ann := fun | 4 => some ⟨[(0, .val (.sl tLabel) (.sl (.sha [1]))), (1, .val (.sl tLabel) (.sl (.sha [1]))), (5, .val (.int .i64) .leaf)], 3⟩ | _ => none
def ja_laws_eqLabelS : Nat → Option Ann := fun _ => none
def cs_laws_eqLabelS (k : Nat) : List (FuncId × Con) := [(86, c_laws_eqLabel k)]
set_option maxRecDepth 1000000 in
theorem e_laws_eqLabelS (k : Nat) (x) : evFn2 (mkCx TT (cs_laws_eqLabelS k) la_laws_eqLabelS ja_laws_eqLabelS k) ps_laws_eqLabelS rs_laws_eqLabelS Try.f39 x = F_laws_eqLabelS k x := by kernel_rfl
set_option maxRecDepth 1000000 in
theorem m_laws_eqLabelS (k : Nat) : Meets Try.prog 39 (c_laws_eqLabelS k) := meets_ev TTok mixed (cts := cs_laws_eqLabelS k) ⟨m_laws_eqLabel k, trivial⟩ Try.func39 (by kernel_rfl) (by kernel_rfl) (e_laws_eqLabelS k)
abbrev ps_laws_eqAlarm : List PK := [.val tAlarm (.pair .shr (.pair .leaf (.pair .leaf .leaf))), .val tAlarm (.pair .shr (.pair .leaf (.pair .leaf .leaf)))]
abbrev rs_laws_eqAlarm : List RK := [.val .bool .leaf]
def c_laws_eqAlarm (k : Nat) : Con := ⟨ps_laws_eqAlarm, rs_laws_eqAlarm, F_laws_eqAlarm k⟩
def la_laws_eqAlarm : Nat → Option Ann := fun _ => none
def ja_laws_eqAlarm : Nat → Option Ann := fun _ => none
def cs_laws_eqAlarm (k : Nat) : List (FuncId × Con) := [(39, c_laws_eqLabelS k)]
set_option maxRecDepth 1000000 in
theorem e_laws_eqAlarm (k : Nat) (x) : evFn2 (mkCx TT (cs_laws_eqAlarm k) la_laws_eqAlarm ja_laws_eqAlarm k) ps_laws_eqAlarm rs_laws_eqAlarm Try.f38 x = F_laws_eqAlarm k x := by kernel_rfl
set_option maxRecDepth 1000000 in
theorem m_laws_eqAlarm (k : Nat) : Meets Try.prog 38 (c_laws_eqAlarm k) := meets_ev TTok mixed (cts := cs_laws_eqAlarm k) ⟨m_laws_eqLabelS k, trivial⟩ Try.func38 (by kernel_rfl) (by kernel_rfl) (e_laws_eqAlarm k)
abbrev ps_laws_eqIntS : List PK := [.val (.sl (.int .i64)) .shr, .val (.sl (.int .i64)) .shr]
abbrev rs_laws_eqIntS : List RK := [.val .bool .leaf]
def c_laws_eqIntS (k : Nat) : Con := ⟨ps_laws_eqIntS, rs_laws_eqIntS, F_laws_eqIntS k⟩
def la_laws_eqIntS : Nat → Option Ann := fun | 4 => some ⟨[(0, .val (.sl (.int .i64)) (.sl (.sha [1]))), (1, .val (.sl (.int .i64)) (.sl (.sha [1]))), (5, .val (.int .i64) .leaf)], 3⟩ | _ => none
def ja_laws_eqIntS : Nat → Option Ann := fun _ => none
def cs_laws_eqIntS (k : Nat) : List (FuncId × Con) := []
set_option maxRecDepth 1000000 in
theorem e_laws_eqIntS (k : Nat) (x) : evFn2 (mkCx TT (cs_laws_eqIntS k) la_laws_eqIntS ja_laws_eqIntS k) ps_laws_eqIntS rs_laws_eqIntS Try.f40 x = F_laws_eqIntS k x := by kernel_rfl
set_option maxRecDepth 1000000 in
theorem m_laws_eqIntS (k : Nat) : Meets Try.prog 40 (c_laws_eqIntS k) := meets_ev TTok mixed (cts := cs_laws_eqIntS k) trivial Try.func40 (by kernel_rfl) (by kernel_rfl) (e_laws_eqIntS k)
abbrev ps_laws_eqAlarmS : List PK := [.val (.sl tAlarm) .shr, .val (.sl tAlarm) .shr]
abbrev rs_laws_eqAlarmS : List RK := [.val .bool .leaf]
def c_laws_eqAlarmS (k : Nat) : Con := ⟨ps_laws_eqAlarmS, rs_laws_eqAlarmS, F_laws_eqAlarmS k⟩
def la_laws_eqAlarmS : Nat → Option Ann := fun | 4 => some ⟨[(0, .val (.sl tAlarm) (.sl (.sha [1]))), (1, .val (.sl tAlarm) (.sl (.sha [1]))), (5, .val (.int .i64) .leaf)], 3⟩ | _ => none
def ja_laws_eqAlarmS : Nat → Option Ann := fun _ => none
def cs_laws_eqAlarmS (k : Nat) : List (FuncId × Con) := [(38, c_laws_eqAlarm k)]
set_option maxRecDepth 1000000 in
theorem e_laws_eqAlarmS (k : Nat) (x) : evFn2 (mkCx TT (cs_laws_eqAlarmS k) la_laws_eqAlarmS ja_laws_eqAlarmS k) ps_laws_eqAlarmS rs_laws_eqAlarmS Try.f41 x = F_laws_eqAlarmS k x := by kernel_rfl
set_option maxRecDepth 1000000 in
theorem m_laws_eqAlarmS (k : Nat) : Meets Try.prog 41 (c_laws_eqAlarmS k) := meets_ev TTok mixed (cts := cs_laws_eqAlarmS k) ⟨m_laws_eqAlarm k, trivial⟩ Try.func41 (by kernel_rfl) (by kernel_rfl) (e_laws_eqAlarmS k)
abbrev ps_laws_eqTask : List PK := [.val tTask (.pair .leaf (.pair .leaf (.pair (.pair .shr (.pair .leaf (.pair .leaf .leaf))) (.pair .shr (.pair .leaf (.pair .shr (.pair .shr (.pair .leaf .leaf)))))))), .val tTask (.pair .leaf (.pair .leaf (.pair (.pair .shr (.pair .leaf (.pair .leaf .leaf))) (.pair .shr (.pair .leaf (.pair .shr (.pair .shr (.pair .leaf .leaf))))))))]
abbrev rs_laws_eqTask : List RK := [.val .bool .leaf]
def c_laws_eqTask (k : Nat) : Con := ⟨ps_laws_eqTask, rs_laws_eqTask, F_laws_eqTask k⟩
def la_laws_eqTask : Nat → Option Ann := fun _ => none
def ja_laws_eqTask : Nat → Option Ann := fun _ => none
def cs_laws_eqTask (k : Nat) : List (FuncId × Con) := [(38, c_laws_eqAlarm k), (39, c_laws_eqLabelS k), (40, c_laws_eqIntS k), (41, c_laws_eqAlarmS k)]
set_option maxRecDepth 1000000 in
theorem e_laws_eqTask (k : Nat) (x) : evFn2 (mkCx TT (cs_laws_eqTask k) la_laws_eqTask ja_laws_eqTask k) ps_laws_eqTask rs_laws_eqTask Try.f12 x = F_laws_eqTask k x := by kernel_rfl
set_option maxRecDepth 1000000 in
theorem m_laws_eqTask (k : Nat) : Meets Try.prog 12 (c_laws_eqTask k) := meets_ev TTok mixed (cts := cs_laws_eqTask k) ⟨m_laws_eqAlarm k, m_laws_eqLabelS k, m_laws_eqIntS k, m_laws_eqAlarmS k, trivial⟩ Try.func12 (by kernel_rfl) (by kernel_rfl) (e_laws_eqTask k)
abbrev ps_laws_FnExactWantsPart : List PK := [.val tTask (.pair .leaf (.pair .leaf (.pair (.pair .shr (.pair .leaf (.pair .leaf .leaf))) (.pair .shr (.pair .leaf (.pair .shr (.pair .shr (.pair .leaf .leaf)))))))), .val (.int .i64) .leaf]
abbrev rs_laws_FnExactWantsPart : List RK := [.val .bool .leaf]
def c_laws_FnExactWantsPart (k : Nat) : Con := ⟨ps_laws_FnExactWantsPart, rs_laws_FnExactWantsPart, F_laws_FnExactWantsPart k⟩
def la_laws_FnExactWantsPart : Nat → Option Ann := fun _ => none
def ja_laws_FnExactWantsPart : Nat → Option Ann := fun _ => none
def cs_laws_FnExactWantsPart (k : Nat) : List (FuncId × Con) := [(8, c_laws_szTask k), (10, c_laws_toTask k), (9, c_spec_WantsPart k), (11, c_impl_WantsPart k), (12, c_laws_eqTask k)]
set_option maxRecDepth 1000000 in
theorem e_laws_FnExactWantsPart (k : Nat) (x) : evFn2 (mkCx TT (cs_laws_FnExactWantsPart k) la_laws_FnExactWantsPart ja_laws_FnExactWantsPart k) ps_laws_FnExactWantsPart rs_laws_FnExactWantsPart Try.f3 x = F_laws_FnExactWantsPart k x := by kernel_rfl
set_option maxRecDepth 1000000 in
theorem m_laws_FnExactWantsPart (k : Nat) : Meets Try.prog 3 (c_laws_FnExactWantsPart k) := meets_ev TTok mixed (cts := cs_laws_FnExactWantsPart k) ⟨m_laws_szTask k, m_laws_toTask k, m_spec_WantsPart k, m_impl_WantsPart k, m_laws_eqTask k, trivial⟩ Try.func3 (by kernel_rfl) (by kernel_rfl) (e_laws_FnExactWantsPart k)
abbrev ps_laws_szStringS : List PK := [.val (.sl .str) .shr, .val (.int .i64) .leaf]
abbrev rs_laws_szStringS : List RK := [.val (.int .i64) .leaf]
def c_laws_szStringS (k : Nat) : Con := ⟨ps_laws_szStringS, rs_laws_szStringS, F_laws_szStringS k⟩
def la_laws_szStringS : Nat → Option Ann := fun | 5 => some ⟨[(0, .val (.sl .str) (.sl (.sha [1]))), (1, .val (.int .i64) .leaf), (5, .val (.int .i64) .leaf)], 3⟩ | _ => none
def ja_laws_szStringS : Nat → Option Ann := fun _ => none
def cs_laws_szStringS (k : Nat) : List (FuncId × Con) := []
set_option maxRecDepth 1000000 in
theorem e_laws_szStringS (k : Nat) (x) : evFn2 (mkCx TT (cs_laws_szStringS k) la_laws_szStringS ja_laws_szStringS k) ps_laws_szStringS rs_laws_szStringS Try.f87 x = F_laws_szStringS k x := by kernel_rfl
set_option maxRecDepth 1000000 in
theorem m_laws_szStringS (k : Nat) : Meets Try.prog 87 (c_laws_szStringS k) := meets_ev TTok mixed (cts := cs_laws_szStringS k) trivial Try.func87 (by kernel_rfl) (by kernel_rfl) (e_laws_szStringS k)
abbrev ps_laws_szConf : List PK := [.val tConf (.pair .leaf (.pair .leaf (.pair .leaf (.pair .leaf (.pair .leaf .shr))))), .val (.int .i64) .leaf]
abbrev rs_laws_szConf : List RK := [.val (.int .i64) .leaf]
def c_laws_szConf (k : Nat) : Con := ⟨ps_laws_szConf, rs_laws_szConf, F_laws_szConf k⟩
def la_laws_szConf : Nat → Option Ann := fun _ => none
def ja_laws_szConf : Nat → Option Ann := fun _ => none
def cs_laws_szConf (k : Nat) : List (FuncId × Con) := [(87, c_laws_szStringS k)]
set_option maxRecDepth 1000000 in
theorem e_laws_szConf (k : Nat) (x) : evFn2 (mkCx TT (cs_laws_szConf k) la_laws_szConf ja_laws_szConf k) ps_laws_szConf rs_laws_szConf Try.f42 x = F_laws_szConf k x := by kernel_rfl
set_option maxRecDepth 1000000 in
theorem m_laws_szConf (k : Nat) : Meets Try.prog 42 (c_laws_szConf k) := meets_ev TTok mixed (cts := cs_laws_szConf k) ⟨m_laws_szStringS k, trivial⟩ Try.func42 (by kernel_rfl) (by kernel_rfl) (e_laws_szConf k)
abbrev ps_laws_szSub : List PK := [.val tSub (.pair .shr .leaf), .val (.int .i64) .leaf]
abbrev rs_laws_szSub : List RK := [.val (.int .i64) .leaf]
def c_laws_szSub (k : Nat) : Con := ⟨ps_laws_szSub, rs_laws_szSub, F_laws_szSub k⟩
def la_laws_szSub : Nat → Option Ann := fun _ => none
def ja_laws_szSub : Nat → Option Ann := fun _ => none
def cs_laws_szSub (k : Nat) : List (FuncId × Con) := [(30, c_laws_szAlarmS k)]
set_option maxRecDepth 1000000 in
theorem e_laws_szSub (k : Nat) (x) : evFn2 (mkCx TT (cs_laws_szSub k) la_laws_szSub ja_laws_szSub k) ps_laws_szSub rs_laws_szSub Try.f88 x = F_laws_szSub k x := by kernel_rfl
set_option maxRecDepth 1000000 in
theorem m_laws_szSub (k : Nat) : Meets Try.prog 88 (c_laws_szSub k) := meets_ev TTok mixed (cts := cs_laws_szSub k) ⟨m_laws_szAlarmS k, trivial⟩ Try.func88 (by kernel_rfl) (by kernel_rfl) (e_laws_szSub k)
abbrev ps_laws_szSubS : List PK := [.val (.sl tSub) .shr, .val (.int .i64) .leaf]
abbrev rs_laws_szSubS : List RK := [.val (.int .i64) .leaf]
def c_laws_szSubS (k : Nat) : Con := ⟨ps_laws_szSubS, rs_laws_szSubS, F_laws_szSubS k⟩
def la_laws_szSubS : Nat → Option Ann := fun | 5 => some ⟨[(0, .val (.sl tSub) (.sl (.sha [1]))), (1, .val (.int .i64) .leaf), (5, .val (.int .i64) .leaf)], 3⟩ | _ => none
def ja_laws_szSubS : Nat → Option Ann := fun _ => none
def cs_laws_szSubS (k : Nat) : List (FuncId × Con) := [(88, c_laws_szSub k)]
set_option maxRecDepth 1000000 in
theorem e_laws_szSubS (k : Nat) (x) : evFn2 (mkCx TT (cs_laws_szSubS k) la_laws_szSubS ja_laws_szSubS k) ps_laws_szSubS rs_laws_szSubS Try.f43 x = F_laws_szSubS k x := by kernel_rfl
set_option maxRecDepth 1000000 in
theorem m_laws_szSubS (k : Nat) : Meets Try.prog 43 (c_laws_szSubS k) := meets_ev TTok mixed (cts := cs_laws_szSubS k) ⟨m_laws_szSub k, trivial⟩ Try.func43 (by kernel_rfl) (by kernel_rfl) (e_laws_szSubS k)
abbrev ps_laws_szGroup : List PK := [.val tGroup (.pair .leaf (.pair .shr (.pair .leaf (.pair .leaf .shr)))), .val (.int .i64) .leaf]
abbrev rs_laws_szGroup : List RK := [.val (.int .i64) .leaf]
def c_laws_szGroup (k : Nat) : Con := ⟨ps_laws_szGroup, rs_laws_szGroup, F_laws_szGroup k⟩
def la_laws_szGroup : Nat → Option Ann := fun _ => none
def ja_laws_szGroup : Nat → Option Ann := fun _ => none
def cs_laws_szGroup (k : Nat) : List (FuncId × Con) := [(28, c_laws_szLabelS k), (30, c_laws_szAlarmS k)]
set_option maxRecDepth 1000000 in
theorem e_laws_szGroup (k : Nat) (x) : evFn2 (mkCx TT (cs_laws_szGroup k) la_laws_szGroup ja_laws_szGroup k) ps_laws_szGroup rs_laws_szGroup Try.f89 x = F_laws_szGroup k x := by kernel_rfl
set_option maxRecDepth 1000000 in
theorem m_laws_szGroup (k : Nat) : Meets Try.prog 89 (c_laws_szGroup k) := meets_ev TTok mixed (cts := cs_laws_szGroup k) ⟨m_laws_szLabelS k, m_laws_szAlarmS k, trivial⟩ Try.func89 (by kernel_rfl) (by kernel_rfl) (e_laws_szGroup k)
abbrev ps_laws_szGroupS : List PK := [.val (.sl tGroup) .shr, .val (.int .i64) .leaf]
abbrev rs_laws_szGroupS : List RK := [.val (.int .i64) .leaf]
def c_laws_szGroupS (k : Nat) : Con := ⟨ps_laws_szGroupS, rs_laws_szGroupS, F_laws_szGroupS k⟩
def la_laws_szGroupS : Nat → Option Ann := fun | 5 => some ⟨[(0, .val (.sl tGroup) (.sl (.sha [1]))), (1, .val (.int .i64) .leaf), (5, .val (.int .i64) .leaf)], 3⟩ | _ => none
def ja_laws_szGroupS : Nat → Option Ann := fun _ => none
def cs_laws_szGroupS (k : Nat) : List (FuncId × Con) := [(89, c_laws_szGroup k)]
set_option maxRecDepth 1000000 in
theorem e_laws_szGroupS (k : Nat) (x) : evFn2 (mkCx TT (cs_laws_szGroupS k) la_laws_szGroupS ja_laws_szGroupS k) ps_laws_szGroupS rs_laws_szGroupS Try.f44 x = F_laws_szGroupS k x := by kernel_rfl
set_option maxRecDepth 1000000 in
theorem m_laws_szGroupS (k : Nat) : Meets Try.prog 44 (c_laws_szGroupS k) := meets_ev TTok mixed (cts := cs_laws_szGroupS k) ⟨m_laws_szGroup k, trivial⟩ Try.func44 (by kernel_rfl) (by kernel_rfl) (e_laws_szGroupS k)
abbrev ps_laws_szModel : List PK := [.val tModel (.pair (.pair .leaf (.pair .leaf (.pair .leaf (.pair .leaf (.pair .leaf .shr))))) (.pair .shr (.pair .shr (.pair .shr (.pair .shr .leaf))))), .val (.int .i64) .leaf]
abbrev rs_laws_szModel : List RK := [.val (.int .i64) .leaf]
def c_laws_szModel (k : Nat) : Con := ⟨ps_laws_szModel, rs_laws_szModel, F_laws_szModel k⟩
def la_laws_szModel : Nat → Option Ann := fun _ => none
def ja_laws_szModel : Nat → Option Ann := fun _ => none
def cs_laws_szModel (k : Nat) : List (FuncId × Con) := [(42, c_laws_szConf k), (30, c_laws_szAlarmS k), (43, c_laws_szSubS k), (44, c_laws_szGroupS k)]
set_option maxRecDepth 1000000 in
theorem e_laws_szModel (k : Nat) (x) : evFn2 (mkCx TT (cs_laws_szModel k) la_laws_szModel ja_laws_szModel k) ps_laws_szModel rs_laws_szModel Try.f13 x = F_laws_szModel k x := by kernel_rfl
set_option maxRecDepth 1000000 in
theorem m_laws_szModel (k : Nat) : Meets Try.prog 13 (c_laws_szModel k) := meets_ev TTok mixed (cts := cs_laws_szModel k) ⟨m_laws_szConf k, m_laws_szAlarmS k, m_laws_szSubS k, m_laws_szGroupS k, trivial⟩ Try.func13 (by kernel_rfl) (by kernel_rfl) (e_laws_szModel k)
abbrev ps_laws_toStringS : List PK := [.val (.sl .str) .shr]
abbrev rs_laws_toStringS : List RK := [.val (.sl .str) .own]
def c_laws_toStringS (k : Nat) : Con := ⟨ps_laws_toStringS, rs_laws_toStringS, F_laws_toStringS k⟩
def la_laws_toStringS : Nat → Option Ann := fun | 3 => some ⟨[(0, .val (.sl .str) (.sl (.sha [1]))), (3, .val (.sl .str) (.sl (.row 3 [3] true))), (4, .val (.int .i64) .leaf)], 4⟩ | _ => none
def ja_laws_toStringS : Nat → Option Ann := fun _ => none
def cs_laws_toStringS (k : Nat) : List (FuncId × Con) := []
set_option maxRecDepth 1000000 in
theorem e_laws_toStringS (k : Nat) (x) : evFn2 (mkCx TT (cs_laws_toStringS k) la_laws_toStringS ja_laws_toStringS k) ps_laws_toStringS rs_laws_toStringS Try.f95 x = F_laws_toStringS k x := by kernel_rfl
set_option maxRecDepth 1000000 in
theorem m_laws_toStringS (k : Nat) : Meets Try.prog 95 (c_laws_toStringS k) := meets_ev TTok mixed (cts := cs_laws_toStringS k) trivial Try.func95 (by kernel_rfl) (by kernel_rfl) (e_laws_toStringS k)
abbrev ps_laws_toConf : List PK := [.val tConf (.pair .leaf (.pair .leaf (.pair .leaf (.pair .leaf (.pair .leaf .shr)))))]
abbrev rs_laws_toConf : List RK := [.val tConf (.pair .leaf (.pair .leaf (.pair .leaf (.pair .leaf (.pair .leaf .own)))))]
def c_laws_toConf (k : Nat) : Con := ⟨ps_laws_toConf, rs_laws_toConf, F_laws_toConf k⟩
def la_laws_toConf : Nat → Option Ann := fun _ => none
def ja_laws_toConf : Nat → Option Ann := fun _ => none
def cs_laws_toConf (k : Nat) : List (FuncId × Con) := [(95, c_laws_toStringS k)]
set_option maxRecDepth 1000000 in
theorem e_laws_toConf (k : Nat) (x) : evFn2 (mkCx TT (cs_laws_toConf k) la_laws_toConf ja_laws_toConf k) ps_laws_toConf rs_laws_toConf Try.f51 x = F_laws_toConf k x := by kernel_rfl
set_option maxRecDepth 1000000 in
theorem m_laws_toConf (k : Nat) : Meets Try.prog 51 (c_laws_toConf k) := meets_ev TTok mixed (cts := cs_laws_toConf k) ⟨m_laws_toStringS k, trivial⟩ Try.func51 (by kernel_rfl) (by kernel_rfl) (e_laws_toConf k)
end Vg.Try
