/- What the functions compute is what the evaluator says; their contracts. -/
import Derived.Test.YtcobjindoakgmaaF
import Derived.Test.YtcobjindoakgmaaProg
namespace Vg.Try
open Go Vg Go.Proofs
set_option linter.unusedVariables false
def TT : List (Nat × TI) := [(3, ⟨(.int .i64), [], 0⟩), (4, ⟨.bool, [], 0⟩), (5, ⟨(.int .u8), [], 0⟩), (9, ⟨.str, [], 0⟩), (22, ⟨(.sl tAlarm), [], 35⟩), (23, ⟨(.sl tLabel), [], 54⟩), (27, ⟨(.sl tAlarm), [], 41⟩), (29, ⟨(.sl tLabel), [], 56⟩), (35, ⟨tAlarm, [23, 3, 3, 9], 0⟩), (37, ⟨tDeed, [3, 3, 35, 23, 3, 3, 3, 22, 3, 3, 3, 3], 0⟩), (41, ⟨tAlarm, [29, 3, 3, 9], 0⟩), (43, ⟨tDeed, [3, 3, 41, 29, 3, 3, 3, 27, 3, 3, 3, 3], 0⟩), (54, ⟨tLabel, [9, 9], 0⟩), (56, ⟨tLabel, [9, 9], 0⟩), (66, ⟨(.sl (.int .i64)), [], 3⟩), (70, ⟨(.sl (.int .u8)), [], 5⟩)]
theorem TTok : TT.all (fun p => tyB Try.prog p.1 p.2) = true := by kernel_rfl
theorem mixed : Try.prog.follows .mixedOrders = true := by kernel_rfl
abbrev ps_laws_szLabel : List PK := [.val tLabel (.pair .leaf .leaf), .val (.int .i64) .leaf]
abbrev rs_laws_szLabel : List RK := [.val (.int .i64) .leaf]
def c_laws_szLabel (k : Nat) : Con := ⟨ps_laws_szLabel, rs_laws_szLabel, F_laws_szLabel k⟩
def la_laws_szLabel : Nat → Option Ann := fun _ => none
def ja_laws_szLabel : Nat → Option Ann := fun _ => none
def cs_laws_szLabel (k : Nat) : List (FuncId × Con) := []
set_option maxRecDepth 1000000 in
theorem e_laws_szLabel (k : Nat) (x) : evFn2 (mkCx TT (cs_laws_szLabel k) la_laws_szLabel ja_laws_szLabel k) ps_laws_szLabel rs_laws_szLabel Try.f30 x = F_laws_szLabel k x := by kernel_rfl
theorem m_laws_szLabel (k : Nat) : Meets Try.prog 30 (c_laws_szLabel k) := meets_ev TTok mixed (cts := cs_laws_szLabel k) trivial Try.func30 (by kernel_rfl) (by kernel_rfl) (e_laws_szLabel k)
abbrev ps_laws_szLabelS : List PK := [.val (.sl tLabel) .shr, .val (.int .i64) .leaf]
abbrev rs_laws_szLabelS : List RK := [.val (.int .i64) .leaf]
def c_laws_szLabelS (k : Nat) : Con := ⟨ps_laws_szLabelS, rs_laws_szLabelS, F_laws_szLabelS k⟩
def la_laws_szLabelS : Nat → Option Ann := fun | 5 => some ⟨[(0, .val (.sl tLabel) (.sl (.sha [1]))), (1, .val (.int .i64) .leaf), (5, .val (.int .i64) .leaf)], 3⟩ | _ => none
def ja_laws_szLabelS : Nat → Option Ann := fun _ => none
def cs_laws_szLabelS (k : Nat) : List (FuncId × Con) := [(30, c_laws_szLabel k)]
set_option maxRecDepth 1000000 in
theorem e_laws_szLabelS (k : Nat) (x) : evFn2 (mkCx TT (cs_laws_szLabelS k) la_laws_szLabelS ja_laws_szLabelS k) ps_laws_szLabelS rs_laws_szLabelS Try.f9 x = F_laws_szLabelS k x := by kernel_rfl
theorem m_laws_szLabelS (k : Nat) : Meets Try.prog 9 (c_laws_szLabelS k) := meets_ev TTok mixed (cts := cs_laws_szLabelS k) ⟨m_laws_szLabel k, trivial⟩ Try.func9 (by kernel_rfl) (by kernel_rfl) (e_laws_szLabelS k)
abbrev ps_laws_szAlarm : List PK := [.val tAlarm (.pair .shr (.pair .leaf (.pair .leaf .leaf))), .val (.int .i64) .leaf]
abbrev rs_laws_szAlarm : List RK := [.val (.int .i64) .leaf]
def c_laws_szAlarm (k : Nat) : Con := ⟨ps_laws_szAlarm, rs_laws_szAlarm, F_laws_szAlarm k⟩
def la_laws_szAlarm : Nat → Option Ann := fun _ => none
def ja_laws_szAlarm : Nat → Option Ann := fun _ => none
def cs_laws_szAlarm (k : Nat) : List (FuncId × Con) := [(9, c_laws_szLabelS k)]
set_option maxRecDepth 1000000 in
theorem e_laws_szAlarm (k : Nat) (x) : evFn2 (mkCx TT (cs_laws_szAlarm k) la_laws_szAlarm ja_laws_szAlarm k) ps_laws_szAlarm rs_laws_szAlarm Try.f29 x = F_laws_szAlarm k x := by kernel_rfl
theorem m_laws_szAlarm (k : Nat) : Meets Try.prog 29 (c_laws_szAlarm k) := meets_ev TTok mixed (cts := cs_laws_szAlarm k) ⟨m_laws_szLabelS k, trivial⟩ Try.func29 (by kernel_rfl) (by kernel_rfl) (e_laws_szAlarm k)
abbrev ps_laws_szAlarmS : List PK := [.val (.sl tAlarm) .shr, .val (.int .i64) .leaf]
abbrev rs_laws_szAlarmS : List RK := [.val (.int .i64) .leaf]
def c_laws_szAlarmS (k : Nat) : Con := ⟨ps_laws_szAlarmS, rs_laws_szAlarmS, F_laws_szAlarmS k⟩
def la_laws_szAlarmS : Nat → Option Ann := fun | 5 => some ⟨[(0, .val (.sl tAlarm) (.sl (.sha [1]))), (1, .val (.int .i64) .leaf), (5, .val (.int .i64) .leaf)], 3⟩ | _ => none
def ja_laws_szAlarmS : Nat → Option Ann := fun _ => none
def cs_laws_szAlarmS (k : Nat) : List (FuncId × Con) := [(29, c_laws_szAlarm k)]
set_option maxRecDepth 1000000 in
theorem e_laws_szAlarmS (k : Nat) (x) : evFn2 (mkCx TT (cs_laws_szAlarmS k) la_laws_szAlarmS ja_laws_szAlarmS k) ps_laws_szAlarmS rs_laws_szAlarmS Try.f8 x = F_laws_szAlarmS k x := by kernel_rfl
theorem m_laws_szAlarmS (k : Nat) : Meets Try.prog 8 (c_laws_szAlarmS k) := meets_ev TTok mixed (cts := cs_laws_szAlarmS k) ⟨m_laws_szAlarm k, trivial⟩ Try.func8 (by kernel_rfl) (by kernel_rfl) (e_laws_szAlarmS k)
abbrev ps_laws_toLabel : List PK := [.val tLabel (.pair .leaf .leaf)]
abbrev rs_laws_toLabel : List RK := [.val tLabel (.pair .leaf .leaf)]
def c_laws_toLabel (k : Nat) : Con := ⟨ps_laws_toLabel, rs_laws_toLabel, F_laws_toLabel k⟩
def la_laws_toLabel : Nat → Option Ann := fun _ => none
def ja_laws_toLabel : Nat → Option Ann := fun _ => none
def cs_laws_toLabel (k : Nat) : List (FuncId × Con) := []
set_option maxRecDepth 1000000 in
theorem e_laws_toLabel (k : Nat) (x) : evFn2 (mkCx TT (cs_laws_toLabel k) la_laws_toLabel ja_laws_toLabel k) ps_laws_toLabel rs_laws_toLabel Try.f33 x = F_laws_toLabel k x := by kernel_rfl
theorem m_laws_toLabel (k : Nat) : Meets Try.prog 33 (c_laws_toLabel k) := meets_ev TTok mixed (cts := cs_laws_toLabel k) trivial Try.func33 (by kernel_rfl) (by kernel_rfl) (e_laws_toLabel k)
abbrev ps_laws_toLabelS : List PK := [.val (.sl tLabel) .shr]
abbrev rs_laws_toLabelS : List RK := [.val (.sl tLabel) .own]
def c_laws_toLabelS (k : Nat) : Con := ⟨ps_laws_toLabelS, rs_laws_toLabelS, F_laws_toLabelS k⟩
def la_laws_toLabelS : Nat → Option Ann := fun | 3 => some ⟨[(0, .val (.sl tLabel) (.sl (.sha [1]))), (3, .val (.sl tLabel) (.sl (.row 3 [3] true))), (4, .val (.int .i64) .leaf)], 4⟩ | _ => none
def ja_laws_toLabelS : Nat → Option Ann := fun _ => none
def cs_laws_toLabelS (k : Nat) : List (FuncId × Con) := [(33, c_laws_toLabel k)]
set_option maxRecDepth 1000000 in
theorem e_laws_toLabelS (k : Nat) (x) : evFn2 (mkCx TT (cs_laws_toLabelS k) la_laws_toLabelS ja_laws_toLabelS k) ps_laws_toLabelS rs_laws_toLabelS Try.f12 x = F_laws_toLabelS k x := by kernel_rfl
theorem m_laws_toLabelS (k : Nat) : Meets Try.prog 12 (c_laws_toLabelS k) := meets_ev TTok mixed (cts := cs_laws_toLabelS k) ⟨m_laws_toLabel k, trivial⟩ Try.func12 (by kernel_rfl) (by kernel_rfl) (e_laws_toLabelS k)
abbrev ps_laws_toAlarm : List PK := [.val tAlarm (.pair .shr (.pair .leaf (.pair .leaf .leaf)))]
abbrev rs_laws_toAlarm : List RK := [.val tAlarm (.pair .own (.pair .leaf (.pair .leaf .leaf)))]
def c_laws_toAlarm (k : Nat) : Con := ⟨ps_laws_toAlarm, rs_laws_toAlarm, F_laws_toAlarm k⟩
def la_laws_toAlarm : Nat → Option Ann := fun _ => none
def ja_laws_toAlarm : Nat → Option Ann := fun _ => none
def cs_laws_toAlarm (k : Nat) : List (FuncId × Con) := [(12, c_laws_toLabelS k)]
set_option maxRecDepth 1000000 in
theorem e_laws_toAlarm (k : Nat) (x) : evFn2 (mkCx TT (cs_laws_toAlarm k) la_laws_toAlarm ja_laws_toAlarm k) ps_laws_toAlarm rs_laws_toAlarm Try.f32 x = F_laws_toAlarm k x := by kernel_rfl
theorem m_laws_toAlarm (k : Nat) : Meets Try.prog 32 (c_laws_toAlarm k) := meets_ev TTok mixed (cts := cs_laws_toAlarm k) ⟨m_laws_toLabelS k, trivial⟩ Try.func32 (by kernel_rfl) (by kernel_rfl) (e_laws_toAlarm k)
abbrev ps_laws_toAlarmS : List PK := [.val (.sl tAlarm) .shr]
abbrev rs_laws_toAlarmS : List RK := [.val (.sl tAlarm) .own]
def c_laws_toAlarmS (k : Nat) : Con := ⟨ps_laws_toAlarmS, rs_laws_toAlarmS, F_laws_toAlarmS k⟩
def la_laws_toAlarmS : Nat → Option Ann := fun | 3 => some ⟨[(0, .val (.sl tAlarm) (.sl (.sha [1]))), (3, .val (.sl tAlarm) (.sl (.row 3 [3] true))), (4, .val (.int .i64) .leaf)], 4⟩ | _ => none
def ja_laws_toAlarmS : Nat → Option Ann := fun _ => none
def cs_laws_toAlarmS (k : Nat) : List (FuncId × Con) := [(32, c_laws_toAlarm k)]
set_option maxRecDepth 1000000 in
theorem e_laws_toAlarmS (k : Nat) (x) : evFn2 (mkCx TT (cs_laws_toAlarmS k) la_laws_toAlarmS ja_laws_toAlarmS k) ps_laws_toAlarmS rs_laws_toAlarmS Try.f11 x = F_laws_toAlarmS k x := by kernel_rfl
theorem m_laws_toAlarmS (k : Nat) : Meets Try.prog 11 (c_laws_toAlarmS k) := meets_ev TTok mixed (cts := cs_laws_toAlarmS k) ⟨m_laws_toAlarm k, trivial⟩ Try.func11 (by kernel_rfl) (by kernel_rfl) (e_laws_toAlarmS k)
abbrev ps_spec_SameSet : List PK := [.val (.sl tLabel) .shr, .val (.sl tLabel) .shr]
abbrev rs_spec_SameSet : List RK := [.val .bool .leaf]
def c_spec_SameSet (k : Nat) : Con := ⟨ps_spec_SameSet, rs_spec_SameSet, F_spec_SameSet k⟩
def la_spec_SameSet : Nat → Option Ann := fun | 4 => some ⟨[(0, .val (.sl tLabel) (.sl (.sha [1]))), (1, .val (.sl tLabel) (.sl (.sha [1]))), (5, .val (.int .i64) .leaf)], 3⟩ | _ => none
def ja_spec_SameSet : Nat → Option Ann := fun _ => none
def cs_spec_SameSet (k : Nat) : List (FuncId × Con) := []
set_option maxRecDepth 1000000 in
theorem e_spec_SameSet (k : Nat) (x) : evFn2 (mkCx TT (cs_spec_SameSet k) la_spec_SameSet ja_spec_SameSet k) ps_spec_SameSet rs_spec_SameSet Try.f31 x = F_spec_SameSet k x := by kernel_rfl
theorem m_spec_SameSet (k : Nat) : Meets Try.prog 31 (c_spec_SameSet k) := meets_ev TTok mixed (cts := cs_spec_SameSet k) trivial Try.func31 (by kernel_rfl) (by kernel_rfl) (e_spec_SameSet k)
abbrev ps_spec_StandsIn : List PK := [.val (.sl tAlarm) .shr, .val (.sl tLabel) .shr]
abbrev rs_spec_StandsIn : List RK := [.val (.int .i64) .leaf]
def c_spec_StandsIn (k : Nat) : Con := ⟨ps_spec_StandsIn, rs_spec_StandsIn, F_spec_StandsIn k⟩
def la_spec_StandsIn : Nat → Option Ann := fun | 2 => some ⟨[(0, .val (.sl tAlarm) (.sl (.sha [1]))), (1, .val (.sl tLabel) (.sl (.sha [1]))), (5, .val (.int .i64) .leaf)], 3⟩ | _ => none
def ja_spec_StandsIn : Nat → Option Ann := fun _ => none
def cs_spec_StandsIn (k : Nat) : List (FuncId × Con) := [(31, c_spec_SameSet k)]
set_option maxRecDepth 1000000 in
theorem e_spec_StandsIn (k : Nat) (x) : evFn2 (mkCx TT (cs_spec_StandsIn k) la_spec_StandsIn ja_spec_StandsIn k) ps_spec_StandsIn rs_spec_StandsIn Try.f10 x = F_spec_StandsIn k x := by kernel_rfl
theorem m_spec_StandsIn (k : Nat) : Meets Try.prog 10 (c_spec_StandsIn k) := meets_ev TTok mixed (cts := cs_spec_StandsIn k) ⟨m_spec_SameSet k, trivial⟩ Try.func10 (by kernel_rfl) (by kernel_rfl) (e_spec_StandsIn k)
abbrev ps_impl_SameSet : List PK := [.val (.sl tLabel) .shr, .val (.sl tLabel) .shr]
abbrev rs_impl_SameSet : List RK := [.val .bool .leaf]
def c_impl_SameSet (k : Nat) : Con := ⟨ps_impl_SameSet, rs_impl_SameSet, F_impl_SameSet k⟩
def la_impl_SameSet : Nat → Option Ann := fun | 4 => some ⟨[(0, .val (.sl tLabel) (.sl (.sha [1]))), (1, .val (.sl tLabel) (.sl (.sha [1]))), (12, .val (.int .i64) .leaf), (13, .val (.int .i64) .leaf)], 3⟩ | _ => none
def ja_impl_SameSet : Nat → Option Ann := fun _ => none
def cs_impl_SameSet (k : Nat) : List (FuncId × Con) := []
set_option maxRecDepth 1000000 in
theorem e_impl_SameSet (k : Nat) (x) : evFn2 (mkCx TT (cs_impl_SameSet k) la_impl_SameSet ja_impl_SameSet k) ps_impl_SameSet rs_impl_SameSet Try.f47 x = F_impl_SameSet k x := by kernel_rfl
theorem m_impl_SameSet (k : Nat) : Meets Try.prog 47 (c_impl_SameSet k) := meets_ev TTok mixed (cts := cs_impl_SameSet k) trivial Try.func47 (by kernel_rfl) (by kernel_rfl) (e_impl_SameSet k)
abbrev ps_impl_labelsAt : List PK := [.val (.sl tAlarm) .shr, .val (.sl tLabel) .shr]
abbrev rs_impl_labelsAt : List RK := [.val (.int .i64) .leaf]
def c_impl_labelsAt (k : Nat) : Con := ⟨ps_impl_labelsAt, rs_impl_labelsAt, F_impl_labelsAt k⟩
def la_impl_labelsAt : Nat → Option Ann := fun | 2 => some ⟨[(1, .val (.sl tLabel) (.sl (.sha [1]))), (7, .val (.sl tAlarm) (.sl (.sha [1]))), (8, .val (.int .i64) .leaf), (9, .val (.int .i64) .leaf)], 3⟩ | _ => none
def ja_impl_labelsAt : Nat → Option Ann := fun _ => none
def cs_impl_labelsAt (k : Nat) : List (FuncId × Con) := [(47, c_impl_SameSet k)]
set_option maxRecDepth 1000000 in
theorem e_impl_labelsAt (k : Nat) (x) : evFn2 (mkCx TT (cs_impl_labelsAt k) la_impl_labelsAt ja_impl_labelsAt k) ps_impl_labelsAt rs_impl_labelsAt Try.f34 x = F_impl_labelsAt k x := by kernel_rfl
theorem m_impl_labelsAt (k : Nat) : Meets Try.prog 34 (c_impl_labelsAt k) := meets_ev TTok mixed (cts := cs_impl_labelsAt k) ⟨m_impl_SameSet k, trivial⟩ Try.func34 (by kernel_rfl) (by kernel_rfl) (e_impl_labelsAt k)
abbrev ps_impl_StandsIn : List PK := [.val (.sl tAlarm) .shr, .val (.sl tLabel) .shr]
abbrev rs_impl_StandsIn : List RK := [.val (.int .i64) .leaf]
def c_impl_StandsIn (k : Nat) : Con := ⟨ps_impl_StandsIn, rs_impl_StandsIn, F_impl_StandsIn k⟩
def la_impl_StandsIn : Nat → Option Ann := fun _ => none
def ja_impl_StandsIn : Nat → Option Ann := fun _ => none
def cs_impl_StandsIn (k : Nat) : List (FuncId × Con) := [(34, c_impl_labelsAt k)]
set_option maxRecDepth 1000000 in
theorem e_impl_StandsIn (k : Nat) (x) : evFn2 (mkCx TT (cs_impl_StandsIn k) la_impl_StandsIn ja_impl_StandsIn k) ps_impl_StandsIn rs_impl_StandsIn Try.f13 x = F_impl_StandsIn k x := by kernel_rfl
theorem m_impl_StandsIn (k : Nat) : Meets Try.prog 13 (c_impl_StandsIn k) := meets_ev TTok mixed (cts := cs_impl_StandsIn k) ⟨m_impl_labelsAt k, trivial⟩ Try.func13 (by kernel_rfl) (by kernel_rfl) (e_impl_StandsIn k)
abbrev ps_laws_eqLabel : List PK := [.val tLabel (.pair .leaf .leaf), .val tLabel (.pair .leaf .leaf)]
abbrev rs_laws_eqLabel : List RK := [.val .bool .leaf]
def c_laws_eqLabel (k : Nat) : Con := ⟨ps_laws_eqLabel, rs_laws_eqLabel, F_laws_eqLabel k⟩
def la_laws_eqLabel : Nat → Option Ann := fun _ => none
def ja_laws_eqLabel : Nat → Option Ann := fun _ => none
def cs_laws_eqLabel (k : Nat) : List (FuncId × Con) := []
set_option maxRecDepth 1000000 in
theorem e_laws_eqLabel (k : Nat) (x) : evFn2 (mkCx TT (cs_laws_eqLabel k) la_laws_eqLabel ja_laws_eqLabel k) ps_laws_eqLabel rs_laws_eqLabel Try.f36 x = F_laws_eqLabel k x := by kernel_rfl
theorem m_laws_eqLabel (k : Nat) : Meets Try.prog 36 (c_laws_eqLabel k) := meets_ev TTok mixed (cts := cs_laws_eqLabel k) trivial Try.func36 (by kernel_rfl) (by kernel_rfl) (e_laws_eqLabel k)
abbrev ps_laws_eqLabelS : List PK := [.val (.sl tLabel) .shr, .val (.sl tLabel) .shr]
abbrev rs_laws_eqLabelS : List RK := [.val .bool .leaf]
def c_laws_eqLabelS (k : Nat) : Con := ⟨ps_laws_eqLabelS, rs_laws_eqLabelS, F_laws_eqLabelS k⟩
def la_laws_eqLabelS : Nat → Option Ann := fun | 4 => some ⟨[(0, .val (.sl tLabel) (.sl (.sha [1]))), (1, .val (.sl tLabel) (.sl (.sha [1]))), (5, .val (.int .i64) .leaf)], 3⟩ | _ => none
def ja_laws_eqLabelS : Nat → Option Ann := fun _ => none
def cs_laws_eqLabelS (k : Nat) : List (FuncId × Con) := [(36, c_laws_eqLabel k)]
set_option maxRecDepth 1000000 in
theorem e_laws_eqLabelS (k : Nat) (x) : evFn2 (mkCx TT (cs_laws_eqLabelS k) la_laws_eqLabelS ja_laws_eqLabelS k) ps_laws_eqLabelS rs_laws_eqLabelS Try.f15 x = F_laws_eqLabelS k x := by kernel_rfl
theorem m_laws_eqLabelS (k : Nat) : Meets Try.prog 15 (c_laws_eqLabelS k) := meets_ev TTok mixed (cts := cs_laws_eqLabelS k) ⟨m_laws_eqLabel k, trivial⟩ Try.func15 (by kernel_rfl) (by kernel_rfl) (e_laws_eqLabelS k)
abbrev ps_laws_eqAlarm : List PK := [.val tAlarm (.pair .shr (.pair .leaf (.pair .leaf .leaf))), .val tAlarm (.pair .shr (.pair .leaf (.pair .leaf .leaf)))]
abbrev rs_laws_eqAlarm : List RK := [.val .bool .leaf]
def c_laws_eqAlarm (k : Nat) : Con := ⟨ps_laws_eqAlarm, rs_laws_eqAlarm, F_laws_eqAlarm k⟩
def la_laws_eqAlarm : Nat → Option Ann := fun _ => none
def ja_laws_eqAlarm : Nat → Option Ann := fun _ => none
def cs_laws_eqAlarm (k : Nat) : List (FuncId × Con) := [(15, c_laws_eqLabelS k)]
set_option maxRecDepth 1000000 in
theorem e_laws_eqAlarm (k : Nat) (x) : evFn2 (mkCx TT (cs_laws_eqAlarm k) la_laws_eqAlarm ja_laws_eqAlarm k) ps_laws_eqAlarm rs_laws_eqAlarm Try.f35 x = F_laws_eqAlarm k x := by kernel_rfl
theorem m_laws_eqAlarm (k : Nat) : Meets Try.prog 35 (c_laws_eqAlarm k) := meets_ev TTok mixed (cts := cs_laws_eqAlarm k) ⟨m_laws_eqLabelS k, trivial⟩ Try.func35 (by kernel_rfl) (by kernel_rfl) (e_laws_eqAlarm k)
abbrev ps_laws_eqAlarmS : List PK := [.val (.sl tAlarm) .shr, .val (.sl tAlarm) .shr]
abbrev rs_laws_eqAlarmS : List RK := [.val .bool .leaf]
def c_laws_eqAlarmS (k : Nat) : Con := ⟨ps_laws_eqAlarmS, rs_laws_eqAlarmS, F_laws_eqAlarmS k⟩
def la_laws_eqAlarmS : Nat → Option Ann := fun | 4 => some ⟨[(0, .val (.sl tAlarm) (.sl (.sha [1]))), (1, .val (.sl tAlarm) (.sl (.sha [1]))), (5, .val (.int .i64) .leaf)], 3⟩ | _ => none
def ja_laws_eqAlarmS : Nat → Option Ann := fun _ => none
def cs_laws_eqAlarmS (k : Nat) : List (FuncId × Con) := [(35, c_laws_eqAlarm k)]
set_option maxRecDepth 1000000 in
theorem e_laws_eqAlarmS (k : Nat) (x) : evFn2 (mkCx TT (cs_laws_eqAlarmS k) la_laws_eqAlarmS ja_laws_eqAlarmS k) ps_laws_eqAlarmS rs_laws_eqAlarmS Try.f14 x = F_laws_eqAlarmS k x := by kernel_rfl
theorem m_laws_eqAlarmS (k : Nat) : Meets Try.prog 14 (c_laws_eqAlarmS k) := meets_ev TTok mixed (cts := cs_laws_eqAlarmS k) ⟨m_laws_eqAlarm k, trivial⟩ Try.func14 (by kernel_rfl) (by kernel_rfl) (e_laws_eqAlarmS k)
abbrev ps_laws_FnExactStandsIn : List PK := [.val (.sl tAlarm) .shr, .val (.sl tLabel) .shr]
abbrev rs_laws_FnExactStandsIn : List RK := [.val .bool .leaf]
def c_laws_FnExactStandsIn (k : Nat) : Con := ⟨ps_laws_FnExactStandsIn, rs_laws_FnExactStandsIn, F_laws_FnExactStandsIn k⟩
def la_laws_FnExactStandsIn : Nat → Option Ann := fun _ => none
def ja_laws_FnExactStandsIn : Nat → Option Ann := fun _ => none
def cs_laws_FnExactStandsIn (k : Nat) : List (FuncId × Con) := [(8, c_laws_szAlarmS k), (9, c_laws_szLabelS k), (11, c_laws_toAlarmS k), (12, c_laws_toLabelS k), (10, c_spec_StandsIn k), (13, c_impl_StandsIn k), (14, c_laws_eqAlarmS k), (15, c_laws_eqLabelS k)]
set_option maxRecDepth 1000000 in
theorem e_laws_FnExactStandsIn (k : Nat) (x) : evFn2 (mkCx TT (cs_laws_FnExactStandsIn k) la_laws_FnExactStandsIn ja_laws_FnExactStandsIn k) ps_laws_FnExactStandsIn rs_laws_FnExactStandsIn Try.f3 x = F_laws_FnExactStandsIn k x := by kernel_rfl
theorem m_laws_FnExactStandsIn (k : Nat) : Meets Try.prog 3 (c_laws_FnExactStandsIn k) := meets_ev TTok mixed (cts := cs_laws_FnExactStandsIn k) ⟨m_laws_szAlarmS k, m_laws_szLabelS k, m_laws_toAlarmS k, m_laws_toLabelS k, m_spec_StandsIn k, m_impl_StandsIn k, m_laws_eqAlarmS k, m_laws_eqLabelS k, trivial⟩ Try.func3 (by kernel_rfl) (by kernel_rfl) (e_laws_FnExactStandsIn k)
abbrev ps_laws_szDeed : List PK := [.val tDeed (.pair .leaf (.pair .leaf (.pair (.pair .shr (.pair .leaf (.pair .leaf .leaf))) (.pair .shr (.pair .leaf (.pair .leaf (.pair .leaf (.pair .shr (.pair .leaf (.pair .leaf (.pair .leaf .leaf))))))))))), .val (.int .i64) .leaf]
abbrev rs_laws_szDeed : List RK := [.val (.int .i64) .leaf]
def c_laws_szDeed (k : Nat) : Con := ⟨ps_laws_szDeed, rs_laws_szDeed, F_laws_szDeed k⟩
def la_laws_szDeed : Nat → Option Ann := fun _ => none
def ja_laws_szDeed : Nat → Option Ann := fun _ => none
def cs_laws_szDeed (k : Nat) : List (FuncId × Con) := [(29, c_laws_szAlarm k), (9, c_laws_szLabelS k), (8, c_laws_szAlarmS k)]
set_option maxRecDepth 1000000 in
theorem e_laws_szDeed (k : Nat) (x) : evFn2 (mkCx TT (cs_laws_szDeed k) la_laws_szDeed ja_laws_szDeed k) ps_laws_szDeed rs_laws_szDeed Try.f16 x = F_laws_szDeed k x := by kernel_rfl
theorem m_laws_szDeed (k : Nat) : Meets Try.prog 16 (c_laws_szDeed k) := meets_ev TTok mixed (cts := cs_laws_szDeed k) ⟨m_laws_szAlarm k, m_laws_szLabelS k, m_laws_szAlarmS k, trivial⟩ Try.func16 (by kernel_rfl) (by kernel_rfl) (e_laws_szDeed k)
abbrev ps_laws_toDeed : List PK := [.val tDeed (.pair .leaf (.pair .leaf (.pair (.pair .shr (.pair .leaf (.pair .leaf .leaf))) (.pair .shr (.pair .leaf (.pair .leaf (.pair .leaf (.pair .shr (.pair .leaf (.pair .leaf (.pair .leaf .leaf)))))))))))]
abbrev rs_laws_toDeed : List RK := [.val tDeed (.pair .leaf (.pair .leaf (.pair (.pair .own (.pair .leaf (.pair .leaf .leaf))) (.pair .own (.pair .leaf (.pair .leaf (.pair .leaf (.pair .own (.pair .leaf (.pair .leaf (.pair .leaf .leaf)))))))))))]
def c_laws_toDeed (k : Nat) : Con := ⟨ps_laws_toDeed, rs_laws_toDeed, F_laws_toDeed k⟩
def la_laws_toDeed : Nat → Option Ann := fun _ => none
def ja_laws_toDeed : Nat → Option Ann := fun _ => none
def cs_laws_toDeed (k : Nat) : List (FuncId × Con) := [(32, c_laws_toAlarm k), (12, c_laws_toLabelS k), (11, c_laws_toAlarmS k)]
set_option maxRecDepth 1000000 in
theorem e_laws_toDeed (k : Nat) (x) : evFn2 (mkCx TT (cs_laws_toDeed k) la_laws_toDeed ja_laws_toDeed k) ps_laws_toDeed rs_laws_toDeed Try.f18 x = F_laws_toDeed k x := by kernel_rfl
theorem m_laws_toDeed (k : Nat) : Meets Try.prog 18 (c_laws_toDeed k) := meets_ev TTok mixed (cts := cs_laws_toDeed k) ⟨m_laws_toAlarm k, m_laws_toLabelS k, m_laws_toAlarmS k, trivial⟩ Try.func18 (by kernel_rfl) (by kernel_rfl) (e_laws_toDeed k)
abbrev ps_spec_Ahead : List PK := [.val tDeed (.pair .leaf (.pair .leaf (.pair (.pair .shr (.pair .leaf (.pair .leaf .leaf))) (.pair .shr (.pair .leaf (.pair .leaf (.pair .leaf (.pair .shr (.pair .leaf (.pair .leaf (.pair .leaf .leaf))))))))))), .val tDeed (.pair .leaf (.pair .leaf (.pair (.pair .shr (.pair .leaf (.pair .leaf .leaf))) (.pair .shr (.pair .leaf (.pair .leaf (.pair .leaf (.pair .shr (.pair .leaf (.pair .leaf (.pair .leaf .leaf)))))))))))]
abbrev rs_spec_Ahead : List RK := [.val .bool .leaf]
def c_spec_Ahead (k : Nat) : Con := ⟨ps_spec_Ahead, rs_spec_Ahead, F_spec_Ahead k⟩
def la_spec_Ahead : Nat → Option Ann := fun _ => none
def ja_spec_Ahead : Nat → Option Ann := fun _ => none
def cs_spec_Ahead (k : Nat) : List (FuncId × Con) := []
set_option maxRecDepth 1000000 in
theorem e_spec_Ahead (k : Nat) (x) : evFn2 (mkCx TT (cs_spec_Ahead k) la_spec_Ahead ja_spec_Ahead k) ps_spec_Ahead rs_spec_Ahead Try.f17 x = F_spec_Ahead k x := by kernel_rfl
theorem m_spec_Ahead (k : Nat) : Meets Try.prog 17 (c_spec_Ahead k) := meets_ev TTok mixed (cts := cs_spec_Ahead k) trivial Try.func17 (by kernel_rfl) (by kernel_rfl) (e_spec_Ahead k)
abbrev ps_impl_Ahead : List PK := [.val tDeed (.pair .leaf (.pair .leaf (.pair (.pair .shr (.pair .leaf (.pair .leaf .leaf))) (.pair .shr (.pair .leaf (.pair .leaf (.pair .leaf (.pair .shr (.pair .leaf (.pair .leaf (.pair .leaf .leaf))))))))))), .val tDeed (.pair .leaf (.pair .leaf (.pair (.pair .shr (.pair .leaf (.pair .leaf .leaf))) (.pair .shr (.pair .leaf (.pair .leaf (.pair .leaf (.pair .shr (.pair .leaf (.pair .leaf (.pair .leaf .leaf)))))))))))]
abbrev rs_impl_Ahead : List RK := [.val .bool .leaf]
def c_impl_Ahead (k : Nat) : Con := ⟨ps_impl_Ahead, rs_impl_Ahead, F_impl_Ahead k⟩
def la_impl_Ahead : Nat → Option Ann := fun _ => none
def ja_impl_Ahead : Nat → Option Ann := fun _ => none
def cs_impl_Ahead (k : Nat) : List (FuncId × Con) := []
set_option maxRecDepth 1000000 in
theorem e_impl_Ahead (k : Nat) (x) : evFn2 (mkCx TT (cs_impl_Ahead k) la_impl_Ahead ja_impl_Ahead k) ps_impl_Ahead rs_impl_Ahead Try.f19 x = F_impl_Ahead k x := by kernel_rfl
theorem m_impl_Ahead (k : Nat) : Meets Try.prog 19 (c_impl_Ahead k) := meets_ev TTok mixed (cts := cs_impl_Ahead k) trivial Try.func19 (by kernel_rfl) (by kernel_rfl) (e_impl_Ahead k)
abbrev ps_laws_eqDeed : List PK := [.val tDeed (.pair .leaf (.pair .leaf (.pair (.pair .shr (.pair .leaf (.pair .leaf .leaf))) (.pair .shr (.pair .leaf (.pair .leaf (.pair .leaf (.pair .shr (.pair .leaf (.pair .leaf (.pair .leaf .leaf))))))))))), .val tDeed (.pair .leaf (.pair .leaf (.pair (.pair .shr (.pair .leaf (.pair .leaf .leaf))) (.pair .shr (.pair .leaf (.pair .leaf (.pair .leaf (.pair .shr (.pair .leaf (.pair .leaf (.pair .leaf .leaf)))))))))))]
abbrev rs_laws_eqDeed : List RK := [.val .bool .leaf]
def c_laws_eqDeed (k : Nat) : Con := ⟨ps_laws_eqDeed, rs_laws_eqDeed, F_laws_eqDeed k⟩
def la_laws_eqDeed : Nat → Option Ann := fun _ => none
def ja_laws_eqDeed : Nat → Option Ann := fun _ => none
def cs_laws_eqDeed (k : Nat) : List (FuncId × Con) := [(35, c_laws_eqAlarm k), (15, c_laws_eqLabelS k), (14, c_laws_eqAlarmS k)]
set_option maxRecDepth 1000000 in
theorem e_laws_eqDeed (k : Nat) (x) : evFn2 (mkCx TT (cs_laws_eqDeed k) la_laws_eqDeed ja_laws_eqDeed k) ps_laws_eqDeed rs_laws_eqDeed Try.f20 x = F_laws_eqDeed k x := by kernel_rfl
theorem m_laws_eqDeed (k : Nat) : Meets Try.prog 20 (c_laws_eqDeed k) := meets_ev TTok mixed (cts := cs_laws_eqDeed k) ⟨m_laws_eqAlarm k, m_laws_eqLabelS k, m_laws_eqAlarmS k, trivial⟩ Try.func20 (by kernel_rfl) (by kernel_rfl) (e_laws_eqDeed k)
abbrev ps_laws_FnExactAhead : List PK := [.val tDeed (.pair .leaf (.pair .leaf (.pair (.pair .shr (.pair .leaf (.pair .leaf .leaf))) (.pair .shr (.pair .leaf (.pair .leaf (.pair .leaf (.pair .shr (.pair .leaf (.pair .leaf (.pair .leaf .leaf))))))))))), .val tDeed (.pair .leaf (.pair .leaf (.pair (.pair .shr (.pair .leaf (.pair .leaf .leaf))) (.pair .shr (.pair .leaf (.pair .leaf (.pair .leaf (.pair .shr (.pair .leaf (.pair .leaf (.pair .leaf .leaf)))))))))))]
abbrev rs_laws_FnExactAhead : List RK := [.val .bool .leaf]
def c_laws_FnExactAhead (k : Nat) : Con := ⟨ps_laws_FnExactAhead, rs_laws_FnExactAhead, F_laws_FnExactAhead k⟩
def la_laws_FnExactAhead : Nat → Option Ann := fun _ => none
def ja_laws_FnExactAhead : Nat → Option Ann := fun _ => none
def cs_laws_FnExactAhead (k : Nat) : List (FuncId × Con) := [(16, c_laws_szDeed k), (18, c_laws_toDeed k), (17, c_spec_Ahead k), (19, c_impl_Ahead k), (20, c_laws_eqDeed k)]
set_option maxRecDepth 1000000 in
theorem e_laws_FnExactAhead (k : Nat) (x) : evFn2 (mkCx TT (cs_laws_FnExactAhead k) la_laws_FnExactAhead ja_laws_FnExactAhead k) ps_laws_FnExactAhead rs_laws_FnExactAhead Try.f4 x = F_laws_FnExactAhead k x := by kernel_rfl
theorem m_laws_FnExactAhead (k : Nat) : Meets Try.prog 4 (c_laws_FnExactAhead k) := meets_ev TTok mixed (cts := cs_laws_FnExactAhead k) ⟨m_laws_szDeed k, m_laws_toDeed k, m_spec_Ahead k, m_impl_Ahead k, m_laws_eqDeed k, trivial⟩ Try.func4 (by kernel_rfl) (by kernel_rfl) (e_laws_FnExactAhead k)
abbrev ps_spec_Over : List PK := [.val tAlarm (.pair .shr (.pair .leaf (.pair .leaf .leaf))), .val (.int .i64) .leaf]
abbrev rs_spec_Over : List RK := [.val .bool .leaf]
def c_spec_Over (k : Nat) : Con := ⟨ps_spec_Over, rs_spec_Over, F_spec_Over k⟩
def la_spec_Over : Nat → Option Ann := fun _ => none
def ja_spec_Over : Nat → Option Ann := fun _ => none
def cs_spec_Over (k : Nat) : List (FuncId × Con) := []
set_option maxRecDepth 1000000 in
theorem e_spec_Over (k : Nat) (x) : evFn2 (mkCx TT (cs_spec_Over k) la_spec_Over ja_spec_Over k) ps_spec_Over rs_spec_Over Try.f37 x = F_spec_Over k x := by kernel_rfl
theorem m_spec_Over (k : Nat) : Meets Try.prog 37 (c_spec_Over k) := meets_ev TTok mixed (cts := cs_spec_Over k) trivial Try.func37 (by kernel_rfl) (by kernel_rfl) (e_spec_Over k)
end Vg.Try
