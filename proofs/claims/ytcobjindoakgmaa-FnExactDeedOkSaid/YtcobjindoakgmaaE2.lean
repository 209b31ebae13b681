/- What the functions compute is what the evaluator says; their contracts. -/
import Derived.Test.YtcobjindoakgmaaE1
namespace Vg.Try
open Go Vg Go.Proofs
set_option linter.unusedVariables false
abbrev ps_spec_l4Copy : List PK := [.val tAlarm (.pair .shr (.pair .leaf (.pair .leaf .leaf)))]
abbrev rs_spec_l4Copy : List RK := [.val tAlarm (.pair .own (.pair .leaf (.pair .leaf .leaf)))]
def c_spec_l4Copy (k : Nat) : Con := ⟨ps_spec_l4Copy, rs_spec_l4Copy, F_spec_l4Copy k⟩
def la_spec_l4Copy : Nat → Option Ann := fun _ => none
def ja_spec_l4Copy : Nat → Option Ann := fun _ => none
def cs_spec_l4Copy (k : Nat) : List (FuncId × Con) := []
set_option maxRecDepth 1000000 in
theorem e_spec_l4Copy (k : Nat) (x) : evFn2 (mkCx TT (cs_spec_l4Copy k) la_spec_l4Copy ja_spec_l4Copy k) ps_spec_l4Copy rs_spec_l4Copy Try.f38 x = F_spec_l4Copy k x := by kernel_rfl
theorem m_spec_l4Copy (k : Nat) : Meets Try.prog 38 (c_spec_l4Copy k) := meets_ev TTok mixed (cts := cs_spec_l4Copy k) trivial Try.func38 (by kernel_rfl) (by kernel_rfl) (e_spec_l4Copy k)
abbrev ps_spec_Swept : List PK := [.val (.sl tAlarm) .shr, .val (.int .i64) .leaf]
abbrev rs_spec_Swept : List RK := [.val (.sl tAlarm) .own]
def c_spec_Swept (k : Nat) : Con := ⟨ps_spec_Swept, rs_spec_Swept, F_spec_Swept k⟩
def la_spec_Swept : Nat → Option Ann := fun | 3 => some ⟨[(0, .val (.sl tAlarm) (.sl (.sha [1]))), (1, .val (.int .i64) .leaf), (5, .val (.sl tAlarm) (.sl (.row 3 [3] true))), (6, .val (.int .i64) .leaf)], 4⟩ | _ => none
def ja_spec_Swept : Nat → Option Ann := fun _ => none
def cs_spec_Swept (k : Nat) : List (FuncId × Con) := [(37, c_spec_Over k), (38, c_spec_l4Copy k)]
set_option maxRecDepth 1000000 in
theorem e_spec_Swept (k : Nat) (x) : evFn2 (mkCx TT (cs_spec_Swept k) la_spec_Swept ja_spec_Swept k) ps_spec_Swept rs_spec_Swept Try.f21 x = F_spec_Swept k x := by kernel_rfl
theorem m_spec_Swept (k : Nat) : Meets Try.prog 21 (c_spec_Swept k) := meets_ev TTok mixed (cts := cs_spec_Swept k) ⟨m_spec_Over k, m_spec_l4Copy k, trivial⟩ Try.func21 (by kernel_rfl) (by kernel_rfl) (e_spec_Swept k)
abbrev ps_impl_Over : List PK := [.val tAlarm (.pair .shr (.pair .leaf (.pair .leaf .leaf))), .val (.int .i64) .leaf]
abbrev rs_impl_Over : List RK := [.val .bool .leaf]
def c_impl_Over (k : Nat) : Con := ⟨ps_impl_Over, rs_impl_Over, F_impl_Over k⟩
def la_impl_Over : Nat → Option Ann := fun _ => none
def ja_impl_Over : Nat → Option Ann := fun _ => none
def cs_impl_Over (k : Nat) : List (FuncId × Con) := []
set_option maxRecDepth 1000000 in
theorem e_impl_Over (k : Nat) (x) : evFn2 (mkCx TT (cs_impl_Over k) la_impl_Over ja_impl_Over k) ps_impl_Over rs_impl_Over Try.f39 x = F_impl_Over k x := by kernel_rfl
theorem m_impl_Over (k : Nat) : Meets Try.prog 39 (c_impl_Over k) := meets_ev TTok mixed (cts := cs_impl_Over k) trivial Try.func39 (by kernel_rfl) (by kernel_rfl) (e_impl_Over k)
abbrev ps_impl_copySet : List PK := [.val (.sl tLabel) .shr]
abbrev rs_impl_copySet : List RK := [.val (.sl tLabel) .own]
def c_impl_copySet (k : Nat) : Con := ⟨ps_impl_copySet, rs_impl_copySet, F_impl_copySet k⟩
def la_impl_copySet : Nat → Option Ann := fun _ => none
def ja_impl_copySet : Nat → Option Ann := fun _ => none
def cs_impl_copySet (k : Nat) : List (FuncId × Con) := []
set_option maxRecDepth 1000000 in
theorem e_impl_copySet (k : Nat) (x) : evFn2 (mkCx TT (cs_impl_copySet k) la_impl_copySet ja_impl_copySet k) ps_impl_copySet rs_impl_copySet Try.f54 x = F_impl_copySet k x := by kernel_rfl
theorem m_impl_copySet (k : Nat) : Meets Try.prog 54 (c_impl_copySet k) := meets_ev TTok mixed (cts := cs_impl_copySet k) trivial Try.func54 (by kernel_rfl) (by kernel_rfl) (e_impl_copySet k)
abbrev ps_impl_copyAlarm : List PK := [.val tAlarm (.pair .shr (.pair .leaf (.pair .leaf .leaf)))]
abbrev rs_impl_copyAlarm : List RK := [.val tAlarm (.pair .own (.pair .leaf (.pair .leaf .leaf)))]
def c_impl_copyAlarm (k : Nat) : Con := ⟨ps_impl_copyAlarm, rs_impl_copyAlarm, F_impl_copyAlarm k⟩
def la_impl_copyAlarm : Nat → Option Ann := fun _ => none
def ja_impl_copyAlarm : Nat → Option Ann := fun _ => none
def cs_impl_copyAlarm (k : Nat) : List (FuncId × Con) := [(54, c_impl_copySet k)]
set_option maxRecDepth 1000000 in
theorem e_impl_copyAlarm (k : Nat) (x) : evFn2 (mkCx TT (cs_impl_copyAlarm k) la_impl_copyAlarm ja_impl_copyAlarm k) ps_impl_copyAlarm rs_impl_copyAlarm Try.f40 x = F_impl_copyAlarm k x := by kernel_rfl
theorem m_impl_copyAlarm (k : Nat) : Meets Try.prog 40 (c_impl_copyAlarm k) := meets_ev TTok mixed (cts := cs_impl_copyAlarm k) ⟨m_impl_copySet k, trivial⟩ Try.func40 (by kernel_rfl) (by kernel_rfl) (e_impl_copyAlarm k)
abbrev ps_impl_Swept : List PK := [.val (.sl tAlarm) .shr, .val (.int .i64) .leaf]
abbrev rs_impl_Swept : List RK := [.val (.sl tAlarm) .own]
def c_impl_Swept (k : Nat) : Con := ⟨ps_impl_Swept, rs_impl_Swept, F_impl_Swept k⟩
def la_impl_Swept : Nat → Option Ann := fun | 3 => some ⟨[(1, .val (.int .i64) .leaf), (5, .val (.sl tAlarm) (.sl (.row 3 [3] true))), (8, .val (.sl tAlarm) (.sl (.sha [1]))), (9, .val (.int .i64) .leaf), (10, .val (.int .i64) .leaf)], 4⟩ | _ => none
def ja_impl_Swept : Nat → Option Ann := fun _ => none
def cs_impl_Swept (k : Nat) : List (FuncId × Con) := [(39, c_impl_Over k), (40, c_impl_copyAlarm k)]
set_option maxRecDepth 1000000 in
theorem e_impl_Swept (k : Nat) (x) : evFn2 (mkCx TT (cs_impl_Swept k) la_impl_Swept ja_impl_Swept k) ps_impl_Swept rs_impl_Swept Try.f22 x = F_impl_Swept k x := by kernel_rfl
theorem m_impl_Swept (k : Nat) : Meets Try.prog 22 (c_impl_Swept k) := meets_ev TTok mixed (cts := cs_impl_Swept k) ⟨m_impl_Over k, m_impl_copyAlarm k, trivial⟩ Try.func22 (by kernel_rfl) (by kernel_rfl) (e_impl_Swept k)
abbrev ps_laws_markText : List PK := [.val (.int .i64) .leaf]
abbrev rs_laws_markText : List RK := [.val .str .leaf]
def c_laws_markText (k : Nat) : Con := ⟨ps_laws_markText, rs_laws_markText, F_laws_markText k⟩
def la_laws_markText : Nat → Option Ann := fun | 4 => some ⟨[(0, .val (.int .i64) .leaf), (3, .val .str .leaf)], 3⟩ | _ => none
def ja_laws_markText : Nat → Option Ann := fun | 7 => some ⟨[(3, .val .str .leaf)], 3⟩ | _ => none
def cs_laws_markText (k : Nat) : List (FuncId × Con) := []
set_option maxRecDepth 1000000 in
theorem e_laws_markText (k : Nat) (x) : evFn2 (mkCx TT (cs_laws_markText k) la_laws_markText ja_laws_markText k) ps_laws_markText rs_laws_markText Try.f42 x = F_laws_markText k x := by kernel_rfl
theorem m_laws_markText (k : Nat) : Meets Try.prog 42 (c_laws_markText k) := meets_ev TTok mixed (cts := cs_laws_markText k) trivial Try.func42 (by kernel_rfl) (by kernel_rfl) (e_laws_markText k)
abbrev ps_laws_markLabelS : List PK := [.val (.sl tLabel) .own, .val (.int .i64) .leaf]
abbrev rs_laws_markLabelS : List RK := [.val (.int .i64) .leaf]
def c_laws_markLabelS (k : Nat) : Con := ⟨ps_laws_markLabelS, rs_laws_markLabelS, F_laws_markLabelS k⟩
def la_laws_markLabelS : Nat → Option Ann := fun | 2 => some ⟨[(0, .val (.sl tLabel) (.sl (.row 3 [3] true))), (1, .val (.int .i64) .leaf), (5, .val (.int .i64) .leaf)], 4⟩ | _ => none
def ja_laws_markLabelS : Nat → Option Ann := fun _ => none
def cs_laws_markLabelS (k : Nat) : List (FuncId × Con) := [(42, c_laws_markText k)]
set_option maxRecDepth 1000000 in
theorem e_laws_markLabelS (k : Nat) (x) : evFn2 (mkCx TT (cs_laws_markLabelS k) la_laws_markLabelS ja_laws_markLabelS k) ps_laws_markLabelS rs_laws_markLabelS Try.f41 x = F_laws_markLabelS k x := by kernel_rfl
theorem m_laws_markLabelS (k : Nat) : Meets Try.prog 41 (c_laws_markLabelS k) := meets_ev TTok mixed (cts := cs_laws_markLabelS k) ⟨m_laws_markText k, trivial⟩ Try.func41 (by kernel_rfl) (by kernel_rfl) (e_laws_markLabelS k)
abbrev ps_laws_heldLabelS : List PK := [.val (.sl tLabel) .shr, .val (.int .i64) .leaf]
abbrev rs_laws_heldLabelS : List RK := [.val (.int .i64) .leaf]
def c_laws_heldLabelS (k : Nat) : Con := ⟨ps_laws_heldLabelS, rs_laws_heldLabelS, F_laws_heldLabelS k⟩
def la_laws_heldLabelS : Nat → Option Ann := fun | 2 => some ⟨[(0, .val (.sl tLabel) (.sl (.sha [1]))), (1, .val (.int .i64) .leaf), (5, .val (.int .i64) .leaf)], 3⟩ | _ => none
def ja_laws_heldLabelS : Nat → Option Ann := fun _ => none
def cs_laws_heldLabelS (k : Nat) : List (FuncId × Con) := [(42, c_laws_markText k)]
set_option maxRecDepth 1000000 in
theorem e_laws_heldLabelS (k : Nat) (x) : evFn2 (mkCx TT (cs_laws_heldLabelS k) la_laws_heldLabelS ja_laws_heldLabelS k) ps_laws_heldLabelS rs_laws_heldLabelS Try.f43 x = F_laws_heldLabelS k x := by kernel_rfl
theorem m_laws_heldLabelS (k : Nat) : Meets Try.prog 43 (c_laws_heldLabelS k) := meets_ev TTok mixed (cts := cs_laws_heldLabelS k) ⟨m_laws_markText k, trivial⟩ Try.func43 (by kernel_rfl) (by kernel_rfl) (e_laws_heldLabelS k)
abbrev ps_laws_heldAlarmS : List PK := [.val (.sl tAlarm) .shr, .val (.int .i64) .leaf]
abbrev rs_laws_heldAlarmS : List RK := [.val (.int .i64) .leaf]
def c_laws_heldAlarmS (k : Nat) : Con := ⟨ps_laws_heldAlarmS, rs_laws_heldAlarmS, F_laws_heldAlarmS k⟩
def la_laws_heldAlarmS : Nat → Option Ann := fun | 2 => some ⟨[(0, .val (.sl tAlarm) (.sl (.sha [1]))), (1, .val (.int .i64) .leaf), (5, .val (.int .i64) .leaf)], 3⟩ | _ => none
def ja_laws_heldAlarmS : Nat → Option Ann := fun _ => none
def cs_laws_heldAlarmS (k : Nat) : List (FuncId × Con) := [(43, c_laws_heldLabelS k), (42, c_laws_markText k)]
set_option maxRecDepth 1000000 in
theorem e_laws_heldAlarmS (k : Nat) (x) : evFn2 (mkCx TT (cs_laws_heldAlarmS k) la_laws_heldAlarmS ja_laws_heldAlarmS k) ps_laws_heldAlarmS rs_laws_heldAlarmS Try.f24 x = F_laws_heldAlarmS k x := by kernel_rfl
theorem m_laws_heldAlarmS (k : Nat) : Meets Try.prog 24 (c_laws_heldAlarmS k) := meets_ev TTok mixed (cts := cs_laws_heldAlarmS k) ⟨m_laws_heldLabelS k, m_laws_markText k, trivial⟩ Try.func24 (by kernel_rfl) (by kernel_rfl) (e_laws_heldAlarmS k)
abbrev ps_spec_SameAlarm : List PK := [.val tAlarm (.pair .shr (.pair .leaf (.pair .leaf .leaf))), .val tAlarm (.pair .shr (.pair .leaf (.pair .leaf .leaf)))]
abbrev rs_spec_SameAlarm : List RK := [.val .bool .leaf]
def c_spec_SameAlarm (k : Nat) : Con := ⟨ps_spec_SameAlarm, rs_spec_SameAlarm, F_spec_SameAlarm k⟩
def la_spec_SameAlarm : Nat → Option Ann := fun _ => none
def ja_spec_SameAlarm : Nat → Option Ann := fun _ => none
def cs_spec_SameAlarm (k : Nat) : List (FuncId × Con) := [(31, c_spec_SameSet k)]
set_option maxRecDepth 1000000 in
theorem e_spec_SameAlarm (k : Nat) (x) : evFn2 (mkCx TT (cs_spec_SameAlarm k) la_spec_SameAlarm ja_spec_SameAlarm k) ps_spec_SameAlarm rs_spec_SameAlarm Try.f44 x = F_spec_SameAlarm k x := by kernel_rfl
theorem m_spec_SameAlarm (k : Nat) : Meets Try.prog 44 (c_spec_SameAlarm k) := meets_ev TTok mixed (cts := cs_spec_SameAlarm k) ⟨m_spec_SameSet k, trivial⟩ Try.func44 (by kernel_rfl) (by kernel_rfl) (e_spec_SameAlarm k)
abbrev ps_spec_l4Same : List PK := [.val (.sl tAlarm) .shr, .val (.sl tAlarm) .shr]
abbrev rs_spec_l4Same : List RK := [.val .bool .leaf]
def c_spec_l4Same (k : Nat) : Con := ⟨ps_spec_l4Same, rs_spec_l4Same, F_spec_l4Same k⟩
def la_spec_l4Same : Nat → Option Ann := fun | 4 => some ⟨[(0, .val (.sl tAlarm) (.sl (.sha [1]))), (1, .val (.sl tAlarm) (.sl (.sha [1]))), (5, .val (.int .i64) .leaf)], 3⟩ | _ => none
def ja_spec_l4Same : Nat → Option Ann := fun _ => none
def cs_spec_l4Same (k : Nat) : List (FuncId × Con) := [(44, c_spec_SameAlarm k)]
set_option maxRecDepth 1000000 in
theorem e_spec_l4Same (k : Nat) (x) : evFn2 (mkCx TT (cs_spec_l4Same k) la_spec_l4Same ja_spec_l4Same k) ps_spec_l4Same rs_spec_l4Same Try.f45 x = F_spec_l4Same k x := by kernel_rfl
theorem m_spec_l4Same (k : Nat) : Meets Try.prog 45 (c_spec_l4Same k) := meets_ev TTok mixed (cts := cs_spec_l4Same k) ⟨m_spec_SameAlarm k, trivial⟩ Try.func45 (by kernel_rfl) (by kernel_rfl) (e_spec_l4Same k)
abbrev ps_spec_SameDeed : List PK := [.val tDeed (.pair .leaf (.pair .leaf (.pair (.pair .shr (.pair .leaf (.pair .leaf .leaf))) (.pair .shr (.pair .leaf (.pair .leaf (.pair .leaf (.pair .shr (.pair .leaf (.pair .leaf (.pair .leaf .leaf))))))))))), .val tDeed (.pair .leaf (.pair .leaf (.pair (.pair .shr (.pair .leaf (.pair .leaf .leaf))) (.pair .shr (.pair .leaf (.pair .leaf (.pair .leaf (.pair .shr (.pair .leaf (.pair .leaf (.pair .leaf .leaf)))))))))))]
abbrev rs_spec_SameDeed : List RK := [.val .bool .leaf]
def c_spec_SameDeed (k : Nat) : Con := ⟨ps_spec_SameDeed, rs_spec_SameDeed, F_spec_SameDeed k⟩
def la_spec_SameDeed : Nat → Option Ann := fun _ => none
def ja_spec_SameDeed : Nat → Option Ann := fun _ => none
def cs_spec_SameDeed (k : Nat) : List (FuncId × Con) := [(44, c_spec_SameAlarm k), (31, c_spec_SameSet k), (45, c_spec_l4Same k)]
set_option maxRecDepth 1000000 in
theorem e_spec_SameDeed (k : Nat) (x) : evFn2 (mkCx TT (cs_spec_SameDeed k) la_spec_SameDeed ja_spec_SameDeed k) ps_spec_SameDeed rs_spec_SameDeed Try.f25 x = F_spec_SameDeed k x := by kernel_rfl
theorem m_spec_SameDeed (k : Nat) : Meets Try.prog 25 (c_spec_SameDeed k) := meets_ev TTok mixed (cts := cs_spec_SameDeed k) ⟨m_spec_SameAlarm k, m_spec_SameSet k, m_spec_l4Same k, trivial⟩ Try.func25 (by kernel_rfl) (by kernel_rfl) (e_spec_SameDeed k)
abbrev ps_impl_SameAlarm : List PK := [.val tAlarm (.pair .shr (.pair .leaf (.pair .leaf .leaf))), .val tAlarm (.pair .shr (.pair .leaf (.pair .leaf .leaf)))]
abbrev rs_impl_SameAlarm : List RK := [.val .bool .leaf]
def c_impl_SameAlarm (k : Nat) : Con := ⟨ps_impl_SameAlarm, rs_impl_SameAlarm, F_impl_SameAlarm k⟩
def la_impl_SameAlarm : Nat → Option Ann := fun _ => none
def ja_impl_SameAlarm : Nat → Option Ann := fun _ => none
def cs_impl_SameAlarm (k : Nat) : List (FuncId × Con) := [(47, c_impl_SameSet k)]
set_option maxRecDepth 1000000 in
theorem e_impl_SameAlarm (k : Nat) (x) : evFn2 (mkCx TT (cs_impl_SameAlarm k) la_impl_SameAlarm ja_impl_SameAlarm k) ps_impl_SameAlarm rs_impl_SameAlarm Try.f46 x = F_impl_SameAlarm k x := by kernel_rfl
theorem m_impl_SameAlarm (k : Nat) : Meets Try.prog 46 (c_impl_SameAlarm k) := meets_ev TTok mixed (cts := cs_impl_SameAlarm k) ⟨m_impl_SameSet k, trivial⟩ Try.func46 (by kernel_rfl) (by kernel_rfl) (e_impl_SameAlarm k)
abbrev ps_impl_sameAlarms : List PK := [.val (.sl tAlarm) .shr, .val (.sl tAlarm) .shr]
abbrev rs_impl_sameAlarms : List RK := [.val .bool .leaf]
def c_impl_sameAlarms (k : Nat) : Con := ⟨ps_impl_sameAlarms, rs_impl_sameAlarms, F_impl_sameAlarms k⟩
def la_impl_sameAlarms : Nat → Option Ann := fun | 4 => some ⟨[(0, .val (.sl tAlarm) (.sl (.sha [1]))), (1, .val (.sl tAlarm) (.sl (.sha [1]))), (12, .val (.int .i64) .leaf), (13, .val (.int .i64) .leaf)], 3⟩ | _ => none
def ja_impl_sameAlarms : Nat → Option Ann := fun _ => none
def cs_impl_sameAlarms (k : Nat) : List (FuncId × Con) := [(46, c_impl_SameAlarm k)]
set_option maxRecDepth 1000000 in
theorem e_impl_sameAlarms (k : Nat) (x) : evFn2 (mkCx TT (cs_impl_sameAlarms k) la_impl_sameAlarms ja_impl_sameAlarms k) ps_impl_sameAlarms rs_impl_sameAlarms Try.f48 x = F_impl_sameAlarms k x := by kernel_rfl
theorem m_impl_sameAlarms (k : Nat) : Meets Try.prog 48 (c_impl_sameAlarms k) := meets_ev TTok mixed (cts := cs_impl_sameAlarms k) ⟨m_impl_SameAlarm k, trivial⟩ Try.func48 (by kernel_rfl) (by kernel_rfl) (e_impl_sameAlarms k)
abbrev ps_impl_SameDeed : List PK := [.val tDeed (.pair .leaf (.pair .leaf (.pair (.pair .shr (.pair .leaf (.pair .leaf .leaf))) (.pair .shr (.pair .leaf (.pair .leaf (.pair .leaf (.pair .shr (.pair .leaf (.pair .leaf (.pair .leaf .leaf))))))))))), .val tDeed (.pair .leaf (.pair .leaf (.pair (.pair .shr (.pair .leaf (.pair .leaf .leaf))) (.pair .shr (.pair .leaf (.pair .leaf (.pair .leaf (.pair .shr (.pair .leaf (.pair .leaf (.pair .leaf .leaf)))))))))))]
abbrev rs_impl_SameDeed : List RK := [.val .bool .leaf]
def c_impl_SameDeed (k : Nat) : Con := ⟨ps_impl_SameDeed, rs_impl_SameDeed, F_impl_SameDeed k⟩
def la_impl_SameDeed : Nat → Option Ann := fun _ => none
def ja_impl_SameDeed : Nat → Option Ann := fun _ => none
def cs_impl_SameDeed (k : Nat) : List (FuncId × Con) := [(46, c_impl_SameAlarm k), (47, c_impl_SameSet k), (48, c_impl_sameAlarms k)]
set_option maxRecDepth 1000000 in
theorem e_impl_SameDeed (k : Nat) (x) : evFn2 (mkCx TT (cs_impl_SameDeed k) la_impl_SameDeed ja_impl_SameDeed k) ps_impl_SameDeed rs_impl_SameDeed Try.f26 x = F_impl_SameDeed k x := by kernel_rfl
theorem m_impl_SameDeed (k : Nat) : Meets Try.prog 26 (c_impl_SameDeed k) := meets_ev TTok mixed (cts := cs_impl_SameDeed k) ⟨m_impl_SameAlarm k, m_impl_SameSet k, m_impl_sameAlarms k, trivial⟩ Try.func26 (by kernel_rfl) (by kernel_rfl) (e_impl_SameDeed k)
abbrev ps_laws_FnExactSameDeed : List PK := [.val tDeed (.pair .leaf (.pair .leaf (.pair (.pair .shr (.pair .leaf (.pair .leaf .leaf))) (.pair .shr (.pair .leaf (.pair .leaf (.pair .leaf (.pair .shr (.pair .leaf (.pair .leaf (.pair .leaf .leaf))))))))))), .val tDeed (.pair .leaf (.pair .leaf (.pair (.pair .shr (.pair .leaf (.pair .leaf .leaf))) (.pair .shr (.pair .leaf (.pair .leaf (.pair .leaf (.pair .shr (.pair .leaf (.pair .leaf (.pair .leaf .leaf)))))))))))]
abbrev rs_laws_FnExactSameDeed : List RK := [.val .bool .leaf]
def c_laws_FnExactSameDeed (k : Nat) : Con := ⟨ps_laws_FnExactSameDeed, rs_laws_FnExactSameDeed, F_laws_FnExactSameDeed k⟩
def la_laws_FnExactSameDeed : Nat → Option Ann := fun _ => none
def ja_laws_FnExactSameDeed : Nat → Option Ann := fun _ => none
def cs_laws_FnExactSameDeed (k : Nat) : List (FuncId × Con) := [(16, c_laws_szDeed k), (18, c_laws_toDeed k), (25, c_spec_SameDeed k), (26, c_impl_SameDeed k), (20, c_laws_eqDeed k)]
set_option maxRecDepth 1000000 in
theorem e_laws_FnExactSameDeed (k : Nat) (x) : evFn2 (mkCx TT (cs_laws_FnExactSameDeed k) la_laws_FnExactSameDeed ja_laws_FnExactSameDeed k) ps_laws_FnExactSameDeed rs_laws_FnExactSameDeed Try.f6 x = F_laws_FnExactSameDeed k x := by kernel_rfl
theorem m_laws_FnExactSameDeed (k : Nat) : Meets Try.prog 6 (c_laws_FnExactSameDeed k) := meets_ev TTok mixed (cts := cs_laws_FnExactSameDeed k) ⟨m_laws_szDeed k, m_laws_toDeed k, m_spec_SameDeed k, m_impl_SameDeed k, m_laws_eqDeed k, trivial⟩ Try.func6 (by kernel_rfl) (by kernel_rfl) (e_laws_FnExactSameDeed k)
abbrev ps_spec_l1In : List PK := [.val (.int .i64) .leaf, .val (.int .i64) .leaf, .val (.int .i64) .leaf]
abbrev rs_spec_l1In : List RK := [.val .bool .leaf]
def c_spec_l1In (k : Nat) : Con := ⟨ps_spec_l1In, rs_spec_l1In, F_spec_l1In k⟩
def la_spec_l1In : Nat → Option Ann := fun _ => none
def ja_spec_l1In : Nat → Option Ann := fun _ => none
def cs_spec_l1In (k : Nat) : List (FuncId × Con) := []
set_option maxRecDepth 1000000 in
theorem e_spec_l1In (k : Nat) (x) : evFn2 (mkCx TT (cs_spec_l1In k) la_spec_l1In ja_spec_l1In k) ps_spec_l1In rs_spec_l1In Try.f49 x = F_spec_l1In k x := by kernel_rfl
theorem m_spec_l1In (k : Nat) : Meets Try.prog 49 (c_spec_l1In k) := meets_ev TTok mixed (cts := cs_spec_l1In k) trivial Try.func49 (by kernel_rfl) (by kernel_rfl) (e_spec_l1In k)
abbrev ps_spec_l15Codes : List PK := [.val (.int .i64) .leaf]
abbrev rs_spec_l15Codes : List RK := [.val (.sl (.int .i64)) .own]
def c_spec_l15Codes (k : Nat) : Con := ⟨ps_spec_l15Codes, rs_spec_l15Codes, F_spec_l15Codes k⟩
def la_spec_l15Codes : Nat → Option Ann := fun _ => none
def ja_spec_l15Codes : Nat → Option Ann := fun _ => none
def cs_spec_l15Codes (k : Nat) : List (FuncId × Con) := []
set_option maxRecDepth 1000000 in
theorem e_spec_l15Codes (k : Nat) (x) : evFn2 (mkCx TT (cs_spec_l15Codes k) la_spec_l15Codes ja_spec_l15Codes k) ps_spec_l15Codes rs_spec_l15Codes Try.f51 x = F_spec_l15Codes k x := by kernel_rfl
theorem m_spec_l15Codes (k : Nat) : Meets Try.prog 51 (c_spec_l15Codes k) := meets_ev TTok mixed (cts := cs_spec_l15Codes k) trivial Try.func51 (by kernel_rfl) (by kernel_rfl) (e_spec_l15Codes k)
abbrev ps_spec_l15Has : List PK := [.val (.sl (.int .i64)) .shr, .val (.int .i64) .leaf]
abbrev rs_spec_l15Has : List RK := [.val .bool .leaf]
def c_spec_l15Has (k : Nat) : Con := ⟨ps_spec_l15Has, rs_spec_l15Has, F_spec_l15Has k⟩
def la_spec_l15Has : Nat → Option Ann := fun | 2 => some ⟨[(0, .val (.sl (.int .i64)) (.sl (.sha [1]))), (1, .val (.int .i64) .leaf), (5, .val (.int .i64) .leaf)], 3⟩ | _ => none
def ja_spec_l15Has : Nat → Option Ann := fun _ => none
def cs_spec_l15Has (k : Nat) : List (FuncId × Con) := []
set_option maxRecDepth 1000000 in
theorem e_spec_l15Has (k : Nat) (x) : evFn2 (mkCx TT (cs_spec_l15Has k) la_spec_l15Has ja_spec_l15Has k) ps_spec_l15Has rs_spec_l15Has Try.f50 x = F_spec_l15Has k x := by kernel_rfl
theorem m_spec_l15Has (k : Nat) : Meets Try.prog 50 (c_spec_l15Has k) := meets_ev TTok mixed (cts := cs_spec_l15Has k) trivial Try.func50 (by kernel_rfl) (by kernel_rfl) (e_spec_l15Has k)
abbrev ps_spec_DeedOk : List PK := [.val tDeed (.pair .leaf (.pair .leaf (.pair (.pair .shr (.pair .leaf (.pair .leaf .leaf))) (.pair .shr (.pair .leaf (.pair .leaf (.pair .leaf (.pair .shr (.pair .leaf (.pair .leaf (.pair .leaf .leaf)))))))))))]
abbrev rs_spec_DeedOk : List RK := [.val .bool .leaf]
def c_spec_DeedOk (k : Nat) : Con := ⟨ps_spec_DeedOk, rs_spec_DeedOk, F_spec_DeedOk k⟩
def la_spec_DeedOk : Nat → Option Ann := fun _ => none
def ja_spec_DeedOk : Nat → Option Ann := fun _ => none
def cs_spec_DeedOk (k : Nat) : List (FuncId × Con) := [(49, c_spec_l1In k), (51, c_spec_l15Codes k), (50, c_spec_l15Has k)]
set_option maxRecDepth 1000000 in
theorem e_spec_DeedOk (k : Nat) (x) : evFn2 (mkCx TT (cs_spec_DeedOk k) la_spec_DeedOk ja_spec_DeedOk k) ps_spec_DeedOk rs_spec_DeedOk Try.f27 x = F_spec_DeedOk k x := by kernel_rfl
theorem m_spec_DeedOk (k : Nat) : Meets Try.prog 27 (c_spec_DeedOk k) := meets_ev TTok mixed (cts := cs_spec_DeedOk k) ⟨m_spec_l1In k, m_spec_l15Codes k, m_spec_l15Has k, trivial⟩ Try.func27 (by kernel_rfl) (by kernel_rfl) (e_spec_DeedOk k)
abbrev ps_impl_in : List PK := [.val (.int .i64) .leaf, .val (.int .i64) .leaf, .val (.int .i64) .leaf]
abbrev rs_impl_in : List RK := [.val .bool .leaf]
def c_impl_in (k : Nat) : Con := ⟨ps_impl_in, rs_impl_in, F_impl_in k⟩
def la_impl_in : Nat → Option Ann := fun _ => none
def ja_impl_in : Nat → Option Ann := fun _ => none
def cs_impl_in (k : Nat) : List (FuncId × Con) := []
set_option maxRecDepth 1000000 in
theorem e_impl_in (k : Nat) (x) : evFn2 (mkCx TT (cs_impl_in k) la_impl_in ja_impl_in k) ps_impl_in rs_impl_in Try.f52 x = F_impl_in k x := by kernel_rfl
theorem m_impl_in (k : Nat) : Meets Try.prog 52 (c_impl_in k) := meets_ev TTok mixed (cts := cs_impl_in k) trivial Try.func52 (by kernel_rfl) (by kernel_rfl) (e_impl_in k)
abbrev ps_impl_codeFits : List PK := [.val (.int .i64) .leaf, .val (.int .i64) .leaf]
abbrev rs_impl_codeFits : List RK := [.val .bool .leaf]
def c_impl_codeFits (k : Nat) : Con := ⟨ps_impl_codeFits, rs_impl_codeFits, F_impl_codeFits k⟩
def la_impl_codeFits : Nat → Option Ann := fun _ => none
def ja_impl_codeFits : Nat → Option Ann := fun _ => none
def cs_impl_codeFits (k : Nat) : List (FuncId × Con) := [(52, c_impl_in k)]
set_option maxRecDepth 1000000 in
theorem e_impl_codeFits (k : Nat) (x) : evFn2 (mkCx TT (cs_impl_codeFits k) la_impl_codeFits ja_impl_codeFits k) ps_impl_codeFits rs_impl_codeFits Try.f53 x = F_impl_codeFits k x := by kernel_rfl
theorem m_impl_codeFits (k : Nat) : Meets Try.prog 53 (c_impl_codeFits k) := meets_ev TTok mixed (cts := cs_impl_codeFits k) ⟨m_impl_in k, trivial⟩ Try.func53 (by kernel_rfl) (by kernel_rfl) (e_impl_codeFits k)
abbrev ps_impl_DeedOk : List PK := [.val tDeed (.pair .leaf (.pair .leaf (.pair (.pair .shr (.pair .leaf (.pair .leaf .leaf))) (.pair .shr (.pair .leaf (.pair .leaf (.pair .leaf (.pair .shr (.pair .leaf (.pair .leaf (.pair .leaf .leaf)))))))))))]
abbrev rs_impl_DeedOk : List RK := [.val .bool .leaf]
def c_impl_DeedOk (k : Nat) : Con := ⟨ps_impl_DeedOk, rs_impl_DeedOk, F_impl_DeedOk k⟩
def la_impl_DeedOk : Nat → Option Ann := fun _ => none
def ja_impl_DeedOk : Nat → Option Ann := fun _ => none
def cs_impl_DeedOk (k : Nat) : List (FuncId × Con) := [(52, c_impl_in k), (53, c_impl_codeFits k)]
set_option maxRecDepth 1000000 in
theorem e_impl_DeedOk (k : Nat) (x) : evFn2 (mkCx TT (cs_impl_DeedOk k) la_impl_DeedOk ja_impl_DeedOk k) ps_impl_DeedOk rs_impl_DeedOk Try.f28 x = F_impl_DeedOk k x := by kernel_rfl
theorem m_impl_DeedOk (k : Nat) : Meets Try.prog 28 (c_impl_DeedOk k) := meets_ev TTok mixed (cts := cs_impl_DeedOk k) ⟨m_impl_in k, m_impl_codeFits k, trivial⟩ Try.func28 (by kernel_rfl) (by kernel_rfl) (e_impl_DeedOk k)
abbrev ps_laws_FnExactDeedOk : List PK := [.val tDeed (.pair .leaf (.pair .leaf (.pair (.pair .shr (.pair .leaf (.pair .leaf .leaf))) (.pair .shr (.pair .leaf (.pair .leaf (.pair .leaf (.pair .shr (.pair .leaf (.pair .leaf (.pair .leaf .leaf)))))))))))]
abbrev rs_laws_FnExactDeedOk : List RK := [.val .bool .leaf]
def c_laws_FnExactDeedOk (k : Nat) : Con := ⟨ps_laws_FnExactDeedOk, rs_laws_FnExactDeedOk, F_laws_FnExactDeedOk k⟩
def la_laws_FnExactDeedOk : Nat → Option Ann := fun _ => none
def ja_laws_FnExactDeedOk : Nat → Option Ann := fun _ => none
def cs_laws_FnExactDeedOk (k : Nat) : List (FuncId × Con) := [(16, c_laws_szDeed k), (18, c_laws_toDeed k), (27, c_spec_DeedOk k), (28, c_impl_DeedOk k), (20, c_laws_eqDeed k)]
set_option maxRecDepth 1000000 in
theorem e_laws_FnExactDeedOk (k : Nat) (x) : evFn2 (mkCx TT (cs_laws_FnExactDeedOk k) la_laws_FnExactDeedOk ja_laws_FnExactDeedOk k) ps_laws_FnExactDeedOk rs_laws_FnExactDeedOk Try.f7 x = F_laws_FnExactDeedOk k x := by kernel_rfl
theorem m_laws_FnExactDeedOk (k : Nat) : Meets Try.prog 7 (c_laws_FnExactDeedOk k) := meets_ev TTok mixed (cts := cs_laws_FnExactDeedOk k) ⟨m_laws_szDeed k, m_laws_toDeed k, m_spec_DeedOk k, m_impl_DeedOk k, m_laws_eqDeed k, trivial⟩ Try.func7 (by kernel_rfl) (by kernel_rfl) (e_laws_FnExactDeedOk k)
end Vg.Try
