/- What the functions compute is what the evaluator says; their contracts. -/
import Derived.Test.YtcobjindoakgmaaF
import Derived.Test.YtcobjindoakgmaaProg
namespace Vg.Try
open Go Vg Go.Proofs
set_option linter.unusedVariables false
def TT : List (Nat × TI) := [(3, ⟨(.int .i64), [], 0⟩), (4, ⟨.bool, [], 0⟩), (5, ⟨(.int .u8), [], 0⟩), (9, ⟨.str, [], 0⟩), (22, ⟨(.sl tAlarm), [], 35⟩), (23, ⟨(.sl tLabel), [], 54⟩), (27, ⟨(.sl tAlarm), [], 41⟩), (29, ⟨(.sl tLabel), [], 56⟩), (35, ⟨tAlarm, [23, 3, 3, 9], 0⟩), (41, ⟨tAlarm, [29, 3, 3, 9], 0⟩), (54, ⟨tLabel, [9, 9], 0⟩), (56, ⟨tLabel, [9, 9], 0⟩), (70, ⟨(.sl (.int .u8)), [], 5⟩)]
theorem TTok : TT.all (fun p => tyB Try.prog p.1 p.2) = true := by kernel_rfl
theorem mixed : Try.prog.follows .mixedOrders = true := by kernel_rfl
abbrev ps_laws_szLabel : List PK := [.val tLabel (.pair .leaf .leaf), .val (.int .i64) .leaf]
abbrev rs_laws_szLabel : List RK := [.val (.int .i64) .leaf]
def c_laws_szLabel (k : Nat) : Con := ⟨ps_laws_szLabel, rs_laws_szLabel, F_laws_szLabel k⟩
def la_laws_szLabel : Nat → Option Ann := fun _ => none
def ja_laws_szLabel : Nat → Option Ann := fun _ => none
def cs_laws_szLabel (k : Nat) : List (FuncId × Con) := []
set_option maxRecDepth 1000000 in
theorem e_laws_szLabel (k : Nat) (x) : evFn2 (mkCx TT (cs_laws_szLabel k) la_laws_szLabel ja_laws_szLabel k) ps_laws_szLabel rs_laws_szLabel Try.f30 x = F_laws_szLabel k x := by kernel_rfl
set_option maxRecDepth 1000000 in
theorem m_laws_szLabel (k : Nat) : Meets Try.prog 30 (c_laws_szLabel k) := meets_ev TTok mixed (cts := cs_laws_szLabel k) trivial Try.func30 (by kernel_rfl) (by kernel_rfl) (e_laws_szLabel k)
abbrev ps_laws_szLabelS : List PK := [.val (.sl tLabel) .shr, .val (.int .i64) .leaf]
abbrev rs_laws_szLabelS : List RK := [.val (.int .i64) .leaf]
def c_laws_szLabelS (k : Nat) : Con := ⟨ps_laws_szLabelS, rs_laws_szLabelS, F_laws_szLabelS k⟩
def la_laws_szLabelS : Nat → Option Ann := fun | 5 => some ⟨[(0, .val (.sl tLabel) (.sl (.sha [1]))), (1, .val (.int .i64) .leaf), (5, .val (.int .i64) .leaf)], 3⟩ | _ => none
def ja_laws_szLabelS : Nat → Option Ann := fun _ => none
def cs_laws_szLabelS (k : Nat) : List (FuncId × Con) := [(30, c_laws_szLabel k)]
set_option maxRecDepth 1000000 in
theorem e_laws_szLabelS (k : Nat) (x) : evFn2 (mkCx TT (cs_laws_szLabelS k) la_laws_szLabelS ja_laws_szLabelS k) ps_laws_szLabelS rs_laws_szLabelS Try.f9 x = F_laws_szLabelS k x := by kernel_rfl
set_option maxRecDepth 1000000 in
theorem m_laws_szLabelS (k : Nat) : Meets Try.prog 9 (c_laws_szLabelS k) := meets_ev TTok mixed (cts := cs_laws_szLabelS k) ⟨m_laws_szLabel k, trivial⟩ Try.func9 (by kernel_rfl) (by kernel_rfl) (e_laws_szLabelS k)
abbrev ps_laws_szAlarm : List PK := [.val tAlarm (.pair .shr (.pair .leaf (.pair .leaf .leaf))), .val (.int .i64) .leaf]
abbrev rs_laws_szAlarm : List RK := [.val (.int .i64) .leaf]
def c_laws_szAlarm (k : Nat) : Con := ⟨ps_laws_szAlarm, rs_laws_szAlarm, F_laws_szAlarm k⟩
def la_laws_szAlarm : Nat → Option Ann := fun _ => none
def ja_laws_szAlarm : Nat → Option Ann := fun _ => none
def cs_laws_szAlarm (k : Nat) : List (FuncId × Con) := [(9, c_laws_szLabelS k)]
set_option maxRecDepth 1000000 in
theorem e_laws_szAlarm (k : Nat) (x) : evFn2 (mkCx TT (cs_laws_szAlarm k) la_laws_szAlarm ja_laws_szAlarm k) ps_laws_szAlarm rs_laws_szAlarm Try.f29 x = F_laws_szAlarm k x := by kernel_rfl
set_option maxRecDepth 1000000 in
theorem m_laws_szAlarm (k : Nat) : Meets Try.prog 29 (c_laws_szAlarm k) := meets_ev TTok mixed (cts := cs_laws_szAlarm k) ⟨m_laws_szLabelS k, trivial⟩ Try.func29 (by kernel_rfl) (by kernel_rfl) (e_laws_szAlarm k)
abbrev ps_laws_szAlarmS : List PK := [.val (.sl tAlarm) .shr, .val (.int .i64) .leaf]
abbrev rs_laws_szAlarmS : List RK := [.val (.int .i64) .leaf]
def c_laws_szAlarmS (k : Nat) : Con := ⟨ps_laws_szAlarmS, rs_laws_szAlarmS, F_laws_szAlarmS k⟩
def la_laws_szAlarmS : Nat → Option Ann := fun | 5 => some ⟨[(0, .val (.sl tAlarm) (.sl (.sha [1]))), (1, .val (.int .i64) .leaf), (5, .val (.int .i64) .leaf)], 3⟩ | _ => none
def ja_laws_szAlarmS : Nat → Option Ann := fun _ => none
def cs_laws_szAlarmS (k : Nat) : List (FuncId × Con) := [(29, c_laws_szAlarm k)]
set_option maxRecDepth 1000000 in
theorem e_laws_szAlarmS (k : Nat) (x) : evFn2 (mkCx TT (cs_laws_szAlarmS k) la_laws_szAlarmS ja_laws_szAlarmS k) ps_laws_szAlarmS rs_laws_szAlarmS Try.f8 x = F_laws_szAlarmS k x := by kernel_rfl
set_option maxRecDepth 1000000 in
theorem m_laws_szAlarmS (k : Nat) : Meets Try.prog 8 (c_laws_szAlarmS k) := meets_ev TTok mixed (cts := cs_laws_szAlarmS k) ⟨m_laws_szAlarm k, trivial⟩ Try.func8 (by kernel_rfl) (by kernel_rfl) (e_laws_szAlarmS k)
abbrev ps_laws_toLabel : List PK := [.val tLabel (.pair .leaf .leaf)]
abbrev rs_laws_toLabel : List RK := [.val tLabel (.pair .leaf .leaf)]
def c_laws_toLabel (k : Nat) : Con := ⟨ps_laws_toLabel, rs_laws_toLabel, F_laws_toLabel k⟩
def la_laws_toLabel : Nat → Option Ann := fun _ => none
def ja_laws_toLabel : Nat → Option Ann := fun _ => none
def cs_laws_toLabel (k : Nat) : List (FuncId × Con) := []
set_option maxRecDepth 1000000 in
theorem e_laws_toLabel (k : Nat) (x) : evFn2 (mkCx TT (cs_laws_toLabel k) la_laws_toLabel ja_laws_toLabel k) ps_laws_toLabel rs_laws_toLabel Try.f33 x = F_laws_toLabel k x := by kernel_rfl
set_option maxRecDepth 1000000 in
theorem m_laws_toLabel (k : Nat) : Meets Try.prog 33 (c_laws_toLabel k) := meets_ev TTok mixed (cts := cs_laws_toLabel k) trivial Try.func33 (by kernel_rfl) (by kernel_rfl) (e_laws_toLabel k)
abbrev ps_laws_toLabelS : List PK := [.val (.sl tLabel) .shr]
abbrev rs_laws_toLabelS : List RK := [.val (.sl tLabel) .own]
def c_laws_toLabelS (k : Nat) : Con := ⟨ps_laws_toLabelS, rs_laws_toLabelS, F_laws_toLabelS k⟩
def la_laws_toLabelS : Nat → Option Ann := fun | 3 => some ⟨[(0, .val (.sl tLabel) (.sl (.sha [1]))), (3, .val (.sl tLabel) (.sl (.row 3 [3] true))), (4, .val (.int .i64) .leaf)], 4⟩ | _ => none
def ja_laws_toLabelS : Nat → Option Ann := fun _ => none
def cs_laws_toLabelS (k : Nat) : List (FuncId × Con) := [(33, c_laws_toLabel k)]
set_option maxRecDepth 1000000 in
theorem e_laws_toLabelS (k : Nat) (x) : evFn2 (mkCx TT (cs_laws_toLabelS k) la_laws_toLabelS ja_laws_toLabelS k) ps_laws_toLabelS rs_laws_toLabelS Try.f12 x = F_laws_toLabelS k x := by kernel_rfl
set_option maxRecDepth 1000000 in
theorem m_laws_toLabelS (k : Nat) : Meets Try.prog 12 (c_laws_toLabelS k) := meets_ev TTok mixed (cts := cs_laws_toLabelS k) ⟨m_laws_toLabel k, trivial⟩ Try.func12 (by kernel_rfl) (by kernel_rfl) (e_laws_toLabelS k)
abbrev ps_laws_toAlarm : List PK := [.val tAlarm (.pair .shr (.pair .leaf (.pair .leaf .leaf)))]
abbrev rs_laws_toAlarm : List RK := [.val tAlarm (.pair .own (.pair .leaf (.pair .leaf .leaf)))]
def c_laws_toAlarm (k : Nat) : Con := ⟨ps_laws_toAlarm, rs_laws_toAlarm, F_laws_toAlarm k⟩
def la_laws_toAlarm : Nat → Option Ann := fun _ => none
def ja_laws_toAlarm : Nat → Option Ann := fun _ => none
def cs_laws_toAlarm (k : Nat) : List (FuncId × Con) := [(12, c_laws_toLabelS k)]
set_option maxRecDepth 1000000 in
theorem e_laws_toAlarm (k : Nat) (x) : evFn2 (mkCx TT (cs_laws_toAlarm k) la_laws_toAlarm ja_laws_toAlarm k) ps_laws_toAlarm rs_laws_toAlarm Try.f32 x = F_laws_toAlarm k x := by kernel_rfl
set_option maxRecDepth 1000000 in
theorem m_laws_toAlarm (k : Nat) : Meets Try.prog 32 (c_laws_toAlarm k) := meets_ev TTok mixed (cts := cs_laws_toAlarm k) ⟨m_laws_toLabelS k, trivial⟩ Try.func32 (by kernel_rfl) (by kernel_rfl) (e_laws_toAlarm k)
abbrev ps_laws_toAlarmS : List PK := [.val (.sl tAlarm) .shr]
abbrev rs_laws_toAlarmS : List RK := [.val (.sl tAlarm) .own]
def c_laws_toAlarmS (k : Nat) : Con := ⟨ps_laws_toAlarmS, rs_laws_toAlarmS, F_laws_toAlarmS k⟩
def la_laws_toAlarmS : Nat → Option Ann := fun | 3 => some ⟨[(0, .val (.sl tAlarm) (.sl (.sha [1]))), (3, .val (.sl tAlarm) (.sl (.row 3 [3] true))), (4, .val (.int .i64) .leaf)], 4⟩ | _ => none
def ja_laws_toAlarmS : Nat → Option Ann := fun _ => none
def cs_laws_toAlarmS (k : Nat) : List (FuncId × Con) := [(32, c_laws_toAlarm k)]
set_option maxRecDepth 1000000 in
theorem e_laws_toAlarmS (k : Nat) (x) : evFn2 (mkCx TT (cs_laws_toAlarmS k) la_laws_toAlarmS ja_laws_toAlarmS k) ps_laws_toAlarmS rs_laws_toAlarmS Try.f11 x = F_laws_toAlarmS k x := by kernel_rfl
set_option maxRecDepth 1000000 in
theorem m_laws_toAlarmS (k : Nat) : Meets Try.prog 11 (c_laws_toAlarmS k) := meets_ev TTok mixed (cts := cs_laws_toAlarmS k) ⟨m_laws_toAlarm k, trivial⟩ Try.func11 (by kernel_rfl) (by kernel_rfl) (e_laws_toAlarmS k)
abbrev ps_spec_Over : List PK := [.val tAlarm (.pair .shr (.pair .leaf (.pair .leaf .leaf))), .val (.int .i64) .leaf]
abbrev rs_spec_Over : List RK := [.val .bool .leaf]
def c_spec_Over (k : Nat) : Con := ⟨ps_spec_Over, rs_spec_Over, F_spec_Over k⟩
def la_spec_Over : Nat → Option Ann := fun _ => none
def ja_spec_Over : Nat → Option Ann := fun _ => none
def cs_spec_Over (k : Nat) : List (FuncId × Con) := []
set_option maxRecDepth 1000000 in
theorem e_spec_Over (k : Nat) (x) : evFn2 (mkCx TT (cs_spec_Over k) la_spec_Over ja_spec_Over k) ps_spec_Over rs_spec_Over Try.f37 x = F_spec_Over k x := by kernel_rfl
set_option maxRecDepth 1000000 in
theorem m_spec_Over (k : Nat) : Meets Try.prog 37 (c_spec_Over k) := meets_ev TTok mixed (cts := cs_spec_Over k) trivial Try.func37 (by kernel_rfl) (by kernel_rfl) (e_spec_Over k)
abbrev ps_spec_l4Copy : List PK := [.val tAlarm (.pair .shr (.pair .leaf (.pair .leaf .leaf)))]
abbrev rs_spec_l4Copy : List RK := [.val tAlarm (.pair .own (.pair .leaf (.pair .leaf .leaf)))]
def c_spec_l4Copy (k : Nat) : Con := ⟨ps_spec_l4Copy, rs_spec_l4Copy, F_spec_l4Copy k⟩
def la_spec_l4Copy : Nat → Option Ann := fun _ => none
def ja_spec_l4Copy : Nat → Option Ann := fun _ => none
def cs_spec_l4Copy (k : Nat) : List (FuncId × Con) := []
set_option maxRecDepth 1000000 in
theorem e_spec_l4Copy (k : Nat) (x) : evFn2 (mkCx TT (cs_spec_l4Copy k) la_spec_l4Copy ja_spec_l4Copy k) ps_spec_l4Copy rs_spec_l4Copy Try.f38 x = F_spec_l4Copy k x := by kernel_rfl
set_option maxRecDepth 1000000 in
theorem m_spec_l4Copy (k : Nat) : Meets Try.prog 38 (c_spec_l4Copy k) := meets_ev TTok mixed (cts := cs_spec_l4Copy k) trivial Try.func38 (by kernel_rfl) (by kernel_rfl) (e_spec_l4Copy k)
abbrev ps_spec_Swept : List PK := [.val (.sl tAlarm) .shr, .val (.int .i64) .leaf]
abbrev rs_spec_Swept : List RK := [.val (.sl tAlarm) .own]
def c_spec_Swept (k : Nat) : Con := ⟨ps_spec_Swept, rs_spec_Swept, F_spec_Swept k⟩
def la_spec_Swept : Nat → Option Ann := fun | 3 => some ⟨[(0, .val (.sl tAlarm) (.sl (.sha [1]))), (1, .val (.int .i64) .leaf), (5, .val (.sl tAlarm) (.sl (.row 3 [3] true))), (6, .val (.int .i64) .leaf)], 4⟩ | _ => none
def ja_spec_Swept : Nat → Option Ann := fun _ => none
def cs_spec_Swept (k : Nat) : List (FuncId × Con) := [(37, c_spec_Over k), (38, c_spec_l4Copy k)]
set_option maxRecDepth 1000000 in
theorem e_spec_Swept (k : Nat) (x) : evFn2 (mkCx TT (cs_spec_Swept k) la_spec_Swept ja_spec_Swept k) ps_spec_Swept rs_spec_Swept Try.f21 x = F_spec_Swept k x := by kernel_rfl
set_option maxRecDepth 1000000 in
theorem m_spec_Swept (k : Nat) : Meets Try.prog 21 (c_spec_Swept k) := meets_ev TTok mixed (cts := cs_spec_Swept k) ⟨m_spec_Over k, m_spec_l4Copy k, trivial⟩ Try.func21 (by kernel_rfl) (by kernel_rfl) (e_spec_Swept k)
abbrev ps_impl_Over : List PK := [.val tAlarm (.pair .shr (.pair .leaf (.pair .leaf .leaf))), .val (.int .i64) .leaf]
abbrev rs_impl_Over : List RK := [.val .bool .leaf]
def c_impl_Over (k : Nat) : Con := ⟨ps_impl_Over, rs_impl_Over, F_impl_Over k⟩
def la_impl_Over : Nat → Option Ann := fun _ => none
def ja_impl_Over : Nat → Option Ann := fun _ => none
def cs_impl_Over (k : Nat) : List (FuncId × Con) := []
set_option maxRecDepth 1000000 in
theorem e_impl_Over (k : Nat) (x) : evFn2 (mkCx TT (cs_impl_Over k) la_impl_Over ja_impl_Over k) ps_impl_Over rs_impl_Over Try.f39 x = F_impl_Over k x := by kernel_rfl
set_option maxRecDepth 1000000 in
theorem m_impl_Over (k : Nat) : Meets Try.prog 39 (c_impl_Over k) := meets_ev TTok mixed (cts := cs_impl_Over k) trivial Try.func39 (by kernel_rfl) (by kernel_rfl) (e_impl_Over k)
abbrev ps_impl_copySet : List PK := [.val (.sl tLabel) .shr]
abbrev rs_impl_copySet : List RK := [.val (.sl tLabel) .own]
def c_impl_copySet (k : Nat) : Con := ⟨ps_impl_copySet, rs_impl_copySet, F_impl_copySet k⟩
def la_impl_copySet : Nat → Option Ann := fun _ => none
def ja_impl_copySet : Nat → Option Ann := fun _ => none
def cs_impl_copySet (k : Nat) : List (FuncId × Con) := []
set_option maxRecDepth 1000000 in
theorem e_impl_copySet (k : Nat) (x) : evFn2 (mkCx TT (cs_impl_copySet k) la_impl_copySet ja_impl_copySet k) ps_impl_copySet rs_impl_copySet Try.f54 x = F_impl_copySet k x := by kernel_rfl
set_option maxRecDepth 1000000 in
theorem m_impl_copySet (k : Nat) : Meets Try.prog 54 (c_impl_copySet k) := meets_ev TTok mixed (cts := cs_impl_copySet k) trivial Try.func54 (by kernel_rfl) (by kernel_rfl) (e_impl_copySet k)
abbrev ps_impl_copyAlarm : List PK := [.val tAlarm (.pair .shr (.pair .leaf (.pair .leaf .leaf)))]
abbrev rs_impl_copyAlarm : List RK := [.val tAlarm (.pair .own (.pair .leaf (.pair .leaf .leaf)))]
def c_impl_copyAlarm (k : Nat) : Con := ⟨ps_impl_copyAlarm, rs_impl_copyAlarm, F_impl_copyAlarm k⟩
def la_impl_copyAlarm : Nat → Option Ann := fun _ => none
def ja_impl_copyAlarm : Nat → Option Ann := fun _ => none
def cs_impl_copyAlarm (k : Nat) : List (FuncId × Con) := [(54, c_impl_copySet k)]
set_option maxRecDepth 1000000 in
theorem e_impl_copyAlarm (k : Nat) (x) : evFn2 (mkCx TT (cs_impl_copyAlarm k) la_impl_copyAlarm ja_impl_copyAlarm k) ps_impl_copyAlarm rs_impl_copyAlarm Try.f40 x = F_impl_copyAlarm k x := by kernel_rfl
set_option maxRecDepth 1000000 in
theorem m_impl_copyAlarm (k : Nat) : Meets Try.prog 40 (c_impl_copyAlarm k) := meets_ev TTok mixed (cts := cs_impl_copyAlarm k) ⟨m_impl_copySet k, trivial⟩ Try.func40 (by kernel_rfl) (by kernel_rfl) (e_impl_copyAlarm k)
abbrev ps_impl_Swept : List PK := [.val (.sl tAlarm) .shr, .val (.int .i64) .leaf]
abbrev rs_impl_Swept : List RK := [.val (.sl tAlarm) .own]
def c_impl_Swept (k : Nat) : Con := ⟨ps_impl_Swept, rs_impl_Swept, F_impl_Swept k⟩
def la_impl_Swept : Nat → Option Ann := fun | 3 => some ⟨[(1, .val (.int .i64) .leaf), (5, .val (.sl tAlarm) (.sl (.row 3 [3] true))), (8, .val (.sl tAlarm) (.sl (.sha [1]))), (9, .val (.int .i64) .leaf), (10, .val (.int .i64) .leaf)], 4⟩ | _ => none
def ja_impl_Swept : Nat → Option Ann := fun _ => none
def cs_impl_Swept (k : Nat) : List (FuncId × Con) := [(39, c_impl_Over k), (40, c_impl_copyAlarm k)]
set_option maxRecDepth 1000000 in
theorem e_impl_Swept (k : Nat) (x) : evFn2 (mkCx TT (cs_impl_Swept k) la_impl_Swept ja_impl_Swept k) ps_impl_Swept rs_impl_Swept Try.f22 x = F_impl_Swept k x := by kernel_rfl
set_option maxRecDepth 1000000 in
theorem m_impl_Swept (k : Nat) : Meets Try.prog 22 (c_impl_Swept k) := meets_ev TTok mixed (cts := cs_impl_Swept k) ⟨m_impl_Over k, m_impl_copyAlarm k, trivial⟩ Try.func22 (by kernel_rfl) (by kernel_rfl) (e_impl_Swept k)
abbrev ps_laws_eqLabel : List PK := [.val tLabel (.pair .leaf .leaf), .val tLabel (.pair .leaf .leaf)]
abbrev rs_laws_eqLabel : List RK := [.val .bool .leaf]
def c_laws_eqLabel (k : Nat) : Con := ⟨ps_laws_eqLabel, rs_laws_eqLabel, F_laws_eqLabel k⟩
def la_laws_eqLabel : Nat → Option Ann := fun _ => none
def ja_laws_eqLabel : Nat → Option Ann := fun _ => none
def cs_laws_eqLabel (k : Nat) : List (FuncId × Con) := []
set_option maxRecDepth 1000000 in
theorem e_laws_eqLabel (k : Nat) (x) : evFn2 (mkCx TT (cs_laws_eqLabel k) la_laws_eqLabel ja_laws_eqLabel k) ps_laws_eqLabel rs_laws_eqLabel Try.f36 x = F_laws_eqLabel k x := by kernel_rfl
set_option maxRecDepth 1000000 in
theorem m_laws_eqLabel (k : Nat) : Meets Try.prog 36 (c_laws_eqLabel k) := meets_ev TTok mixed (cts := cs_laws_eqLabel k) trivial Try.func36 (by kernel_rfl) (by kernel_rfl) (e_laws_eqLabel k)
abbrev ps_laws_eqLabelS : List PK := [.val (.sl tLabel) .shr, .val (.sl tLabel) .shr]
abbrev rs_laws_eqLabelS : List RK := [.val .bool .leaf]
def c_laws_eqLabelS (k : Nat) : Con := ⟨ps_laws_eqLabelS, rs_laws_eqLabelS, F_laws_eqLabelS k⟩
def la_laws_eqLabelS : Nat → Option Ann := fun | 4 => some ⟨[(0, .val (.sl tLabel) (.sl (.sha [1]))), (1, .val (.sl tLabel) (.sl (.sha [1]))), (5, .val (.int .i64) .leaf)], 3⟩ | _ => none
def ja_laws_eqLabelS : Nat → Option Ann := fun _ => none
def cs_laws_eqLabelS (k : Nat) : List (FuncId × Con) := [(36, c_laws_eqLabel k)]
set_option maxRecDepth 1000000 in
theorem e_laws_eqLabelS (k : Nat) (x) : evFn2 (mkCx TT (cs_laws_eqLabelS k) la_laws_eqLabelS ja_laws_eqLabelS k) ps_laws_eqLabelS rs_laws_eqLabelS Try.f15 x = F_laws_eqLabelS k x := by kernel_rfl
set_option maxRecDepth 1000000 in
theorem m_laws_eqLabelS (k : Nat) : Meets Try.prog 15 (c_laws_eqLabelS k) := meets_ev TTok mixed (cts := cs_laws_eqLabelS k) ⟨m_laws_eqLabel k, trivial⟩ Try.func15 (by kernel_rfl) (by kernel_rfl) (e_laws_eqLabelS k)
abbrev ps_laws_eqAlarm : List PK := [.val tAlarm (.pair .shr (.pair .leaf (.pair .leaf .leaf))), .val tAlarm (.pair .shr (.pair .leaf (.pair .leaf .leaf)))]
abbrev rs_laws_eqAlarm : List RK := [.val .bool .leaf]
def c_laws_eqAlarm (k : Nat) : Con := ⟨ps_laws_eqAlarm, rs_laws_eqAlarm, F_laws_eqAlarm k⟩
def la_laws_eqAlarm : Nat → Option Ann := fun _ => none
def ja_laws_eqAlarm : Nat → Option Ann := fun _ => none
def cs_laws_eqAlarm (k : Nat) : List (FuncId × Con) := [(15, c_laws_eqLabelS k)]
set_option maxRecDepth 1000000 in
theorem e_laws_eqAlarm (k : Nat) (x) : evFn2 (mkCx TT (cs_laws_eqAlarm k) la_laws_eqAlarm ja_laws_eqAlarm k) ps_laws_eqAlarm rs_laws_eqAlarm Try.f35 x = F_laws_eqAlarm k x := by kernel_rfl
set_option maxRecDepth 1000000 in
theorem m_laws_eqAlarm (k : Nat) : Meets Try.prog 35 (c_laws_eqAlarm k) := meets_ev TTok mixed (cts := cs_laws_eqAlarm k) ⟨m_laws_eqLabelS k, trivial⟩ Try.func35 (by kernel_rfl) (by kernel_rfl) (e_laws_eqAlarm k)
abbrev ps_laws_eqAlarmS : List PK := [.val (.sl tAlarm) .shr, .val (.sl tAlarm) .shr]
abbrev rs_laws_eqAlarmS : List RK := [.val .bool .leaf]
def c_laws_eqAlarmS (k : Nat) : Con := ⟨ps_laws_eqAlarmS, rs_laws_eqAlarmS, F_laws_eqAlarmS k⟩
def la_laws_eqAlarmS : Nat → Option Ann := fun | 4 => some ⟨[(0, .val (.sl tAlarm) (.sl (.sha [1]))), (1, .val (.sl tAlarm) (.sl (.sha [1]))), (5, .val (.int .i64) .leaf)], 3⟩ | _ => none
def ja_laws_eqAlarmS : Nat → Option Ann := fun _ => none
def cs_laws_eqAlarmS (k : Nat) : List (FuncId × Con) := [(35, c_laws_eqAlarm k)]
set_option maxRecDepth 1000000 in
theorem e_laws_eqAlarmS (k : Nat) (x) : evFn2 (mkCx TT (cs_laws_eqAlarmS k) la_laws_eqAlarmS ja_laws_eqAlarmS k) ps_laws_eqAlarmS rs_laws_eqAlarmS Try.f14 x = F_laws_eqAlarmS k x := by kernel_rfl
set_option maxRecDepth 1000000 in
theorem m_laws_eqAlarmS (k : Nat) : Meets Try.prog 14 (c_laws_eqAlarmS k) := meets_ev TTok mixed (cts := cs_laws_eqAlarmS k) ⟨m_laws_eqAlarm k, trivial⟩ Try.func14 (by kernel_rfl) (by kernel_rfl) (e_laws_eqAlarmS k)
abbrev ps_laws_markText : List PK := [.val (.int .i64) .leaf]
abbrev rs_laws_markText : List RK := [.val .str .leaf]
def c_laws_markText (k : Nat) : Con := ⟨ps_laws_markText, rs_laws_markText, F_laws_markText k⟩
def la_laws_markText : Nat → Option Ann := fun | 4 => some ⟨[(0, .val (.int .i64) .leaf), (3, .val .str .leaf)], 3⟩ | _ => none
def ja_laws_markText : Nat → Option Ann := fun | 7 => some ⟨[(3, .val .str .leaf)], 3⟩ | _ => none
def cs_laws_markText (k : Nat) : List (FuncId × Con) := []
set_option maxRecDepth 1000000 in
theorem e_laws_markText (k : Nat) (x) : evFn2 (mkCx TT (cs_laws_markText k) la_laws_markText ja_laws_markText k) ps_laws_markText rs_laws_markText Try.f42 x = F_laws_markText k x := by kernel_rfl
set_option maxRecDepth 1000000 in
theorem m_laws_markText (k : Nat) : Meets Try.prog 42 (c_laws_markText k) := meets_ev TTok mixed (cts := cs_laws_markText k) trivial Try.func42 (by kernel_rfl) (by kernel_rfl) (e_laws_markText k)
def c_laws_markLabelS (k : Nat) : MCon := ⟨(.sl tLabel), F_laws_markLabelS k⟩
def la_laws_markLabelS : Nat → Option Ann := fun | 2 => some ⟨[(0, .val (.sl tLabel) (.sl (.row 3 [3] true))), (1, .val (.int .i64) .leaf), (5, .val (.int .i64) .leaf)], 4⟩ | _ => none
def ja_laws_markLabelS : Nat → Option Ann := fun _ => none
def cs_laws_markLabelS (k : Nat) : List (FuncId × Con) := [(42, c_laws_markText k)]
def ms_laws_markLabelS (k : Nat) : List (FuncId × MCon) := []
set_option maxRecDepth 1000000 in
theorem e_laws_markLabelS (k : Nat) (x) (n : Int) : evMk (mkCx TT (cs_laws_markLabelS k) la_laws_markLabelS ja_laws_markLabelS k) (fun f => (ms_laws_markLabelS k).lookup f) (.sl tLabel) Try.f41 x n = F_laws_markLabelS k x n := by kernel_rfl
set_option maxRecDepth 1000000 in
theorem m_laws_markLabelS (k : Nat) : MMeets Try.prog 41 (c_laws_markLabelS k) := mmeets_ev TTok mixed (cts := cs_laws_markLabelS k) ⟨m_laws_markText k, trivial⟩ (mts := ms_laws_markLabelS k) trivial Try.func41 (by kernel_rfl) (by kernel_rfl) (e_laws_markLabelS k)
def c_laws_markAlarmS (k : Nat) : MCon := ⟨(.sl tAlarm), F_laws_markAlarmS k⟩
def la_laws_markAlarmS : Nat → Option Ann := fun | 2 => some ⟨[(0, .val (.sl tAlarm) (.sl (.row 3 [3] true))), (1, .val (.int .i64) .leaf), (5, .val (.int .i64) .leaf)], 4⟩ | _ => none
def ja_laws_markAlarmS : Nat → Option Ann := fun _ => none
def cs_laws_markAlarmS (k : Nat) : List (FuncId × Con) := [(42, c_laws_markText k)]
def ms_laws_markAlarmS (k : Nat) : List (FuncId × MCon) := [(41, c_laws_markLabelS k)]
set_option maxRecDepth 1000000 in
theorem e_laws_markAlarmS (k : Nat) (x) (n : Int) : evMk (mkCx TT (cs_laws_markAlarmS k) la_laws_markAlarmS ja_laws_markAlarmS k) (fun f => (ms_laws_markAlarmS k).lookup f) (.sl tAlarm) Try.f23 x n = F_laws_markAlarmS k x n := by kernel_rfl
set_option maxRecDepth 1000000 in
theorem m_laws_markAlarmS (k : Nat) : MMeets Try.prog 23 (c_laws_markAlarmS k) := mmeets_ev TTok mixed (cts := cs_laws_markAlarmS k) ⟨m_laws_markText k, trivial⟩ (mts := ms_laws_markAlarmS k) ⟨m_laws_markLabelS k, trivial⟩ Try.func23 (by kernel_rfl) (by kernel_rfl) (e_laws_markAlarmS k)
abbrev ps_laws_heldLabelS : List PK := [.val (.sl tLabel) .shr, .val (.int .i64) .leaf]
abbrev rs_laws_heldLabelS : List RK := [.val (.int .i64) .leaf]
def c_laws_heldLabelS (k : Nat) : Con := ⟨ps_laws_heldLabelS, rs_laws_heldLabelS, F_laws_heldLabelS k⟩
def la_laws_heldLabelS : Nat → Option Ann := fun | 2 => some ⟨[(0, .val (.sl tLabel) (.sl (.sha [1]))), (1, .val (.int .i64) .leaf), (5, .val (.int .i64) .leaf)], 3⟩ | _ => none
def ja_laws_heldLabelS : Nat → Option Ann := fun _ => none
def cs_laws_heldLabelS (k : Nat) : List (FuncId × Con) := [(42, c_laws_markText k)]
set_option maxRecDepth 1000000 in
theorem e_laws_heldLabelS (k : Nat) (x) : evFn2 (mkCx TT (cs_laws_heldLabelS k) la_laws_heldLabelS ja_laws_heldLabelS k) ps_laws_heldLabelS rs_laws_heldLabelS Try.f43 x = F_laws_heldLabelS k x := by kernel_rfl
set_option maxRecDepth 1000000 in
theorem m_laws_heldLabelS (k : Nat) : Meets Try.prog 43 (c_laws_heldLabelS k) := meets_ev TTok mixed (cts := cs_laws_heldLabelS k) ⟨m_laws_markText k, trivial⟩ Try.func43 (by kernel_rfl) (by kernel_rfl) (e_laws_heldLabelS k)
abbrev ps_laws_heldAlarmS : List PK := [.val (.sl tAlarm) .shr, .val (.int .i64) .leaf]
abbrev rs_laws_heldAlarmS : List RK := [.val (.int .i64) .leaf]
def c_laws_heldAlarmS (k : Nat) : Con := ⟨ps_laws_heldAlarmS, rs_laws_heldAlarmS, F_laws_heldAlarmS k⟩
def la_laws_heldAlarmS : Nat → Option Ann := fun | 2 => some ⟨[(0, .val (.sl tAlarm) (.sl (.sha [1]))), (1, .val (.int .i64) .leaf), (5, .val (.int .i64) .leaf)], 3⟩ | _ => none
def ja_laws_heldAlarmS : Nat → Option Ann := fun _ => none
def cs_laws_heldAlarmS (k : Nat) : List (FuncId × Con) := [(43, c_laws_heldLabelS k), (42, c_laws_markText k)]
set_option maxRecDepth 1000000 in
theorem e_laws_heldAlarmS (k : Nat) (x) : evFn2 (mkCx TT (cs_laws_heldAlarmS k) la_laws_heldAlarmS ja_laws_heldAlarmS k) ps_laws_heldAlarmS rs_laws_heldAlarmS Try.f24 x = F_laws_heldAlarmS k x := by kernel_rfl
set_option maxRecDepth 1000000 in
theorem m_laws_heldAlarmS (k : Nat) : Meets Try.prog 24 (c_laws_heldAlarmS k) := meets_ev TTok mixed (cts := cs_laws_heldAlarmS k) ⟨m_laws_heldLabelS k, m_laws_markText k, trivial⟩ Try.func24 (by kernel_rfl) (by kernel_rfl) (e_laws_heldAlarmS k)
abbrev ps_laws_FnExactSwept : List PK := [.val (.sl tAlarm) .shr, .val (.int .i64) .leaf]
abbrev rs_laws_FnExactSwept : List RK := [.val .bool .leaf]
def c_laws_FnExactSwept (k : Nat) : Con := ⟨ps_laws_FnExactSwept, rs_laws_FnExactSwept, F_laws_FnExactSwept k⟩
def la_laws_FnExactSwept : Nat → Option Ann := fun _ => none
def ja_laws_FnExactSwept : Nat → Option Ann := fun _ => none
def cs_laws_FnExactSwept (k : Nat) : List (FuncId × Con) := [(8, c_laws_szAlarmS k), (11, c_laws_toAlarmS k), (21, c_spec_Swept k), (22, c_impl_Swept k), (14, c_laws_eqAlarmS k), (24, c_laws_heldAlarmS k)]
def ms_laws_FnExactSwept (k : Nat) : List (FuncId × MCon) := [(23, c_laws_markAlarmS k)]
set_option maxRecDepth 1000000 in
theorem e_laws_FnExactSwept (k : Nat) (x) : evFnM (mkCx TT (cs_laws_FnExactSwept k) la_laws_FnExactSwept ja_laws_FnExactSwept k) (fun f => (ms_laws_FnExactSwept k).lookup f) ps_laws_FnExactSwept rs_laws_FnExactSwept Try.f5 x = F_laws_FnExactSwept k x := by kernel_rfl
set_option maxRecDepth 1000000 in
theorem m_laws_FnExactSwept (k : Nat) : Meets Try.prog 5 (c_laws_FnExactSwept k) := meetsM_ev TTok mixed (cts := cs_laws_FnExactSwept k) ⟨m_laws_szAlarmS k, m_laws_toAlarmS k, m_spec_Swept k, m_impl_Swept k, m_laws_eqAlarmS k, m_laws_heldAlarmS k, trivial⟩ (mts := ms_laws_FnExactSwept k) ⟨m_laws_markAlarmS k, trivial⟩ Try.func5 (by kernel_rfl) (by kernel_rfl) (e_laws_FnExactSwept k)
end Vg.Try
