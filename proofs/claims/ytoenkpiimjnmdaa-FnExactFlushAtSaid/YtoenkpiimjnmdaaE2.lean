/- What the functions compute is what the evaluator says; their contracts. -/
import Derived.Test.YtoenkpiimjnmdaaE1
namespace Vg.Try
open Go Vg Go.Proofs
set_option linter.unusedVariables false
abbrev ps_laws_eqAlarm : List PK := [.val tAlarm (.pair .shr (.pair .leaf (.pair .leaf .leaf))), .val tAlarm (.pair .shr (.pair .leaf (.pair .leaf .leaf)))]
abbrev rs_laws_eqAlarm : List RK := [.val .bool .leaf]
def c_laws_eqAlarm (k : Nat) : Con := ⟨ps_laws_eqAlarm, rs_laws_eqAlarm, F_laws_eqAlarm k⟩
def la_laws_eqAlarm : Nat → Option Ann := fun _ => none
def ja_laws_eqAlarm : Nat → Option Ann := fun _ => none
def cs_laws_eqAlarm (k : Nat) : List (FuncId × Con) := [(50, c_laws_eqLabelS k)]
set_option maxRecDepth 1000000 in
theorem e_laws_eqAlarm (k : Nat) (x) : evFn2 (mkCx TT (cs_laws_eqAlarm k) la_laws_eqAlarm ja_laws_eqAlarm k) ps_laws_eqAlarm rs_laws_eqAlarm Try.f97 x = F_laws_eqAlarm k x := by kernel_rfl
set_option maxRecDepth 1000000 in
theorem m_laws_eqAlarm (k : Nat) : Meets Try.prog 97 (c_laws_eqAlarm k) := meets_ev TTok mixed (cts := cs_laws_eqAlarm k) ⟨m_laws_eqLabelS k, trivial⟩ Try.func97 (by kernel_rfl) (by kernel_rfl) (e_laws_eqAlarm k)
abbrev ps_laws_eqAlarmS : List PK := [.val (.sl tAlarm) .shr, .val (.sl tAlarm) .shr]
abbrev rs_laws_eqAlarmS : List RK := [.val .bool .leaf]
def c_laws_eqAlarmS (k : Nat) : Con := ⟨ps_laws_eqAlarmS, rs_laws_eqAlarmS, F_laws_eqAlarmS k⟩
def la_laws_eqAlarmS : Nat → Option Ann := fun | 4 => some ⟨[(0, .val (.sl tAlarm) (.sl (.sha [1]))), (1, .val (.sl tAlarm) (.sl (.sha [1]))), (5, .val (.int .i64) .leaf)], 3⟩ | _ => none
def ja_laws_eqAlarmS : Nat → Option Ann := fun _ => none
def cs_laws_eqAlarmS (k : Nat) : List (FuncId × Con) := [(97, c_laws_eqAlarm k)]
set_option maxRecDepth 1000000 in
theorem e_laws_eqAlarmS (k : Nat) (x) : evFn2 (mkCx TT (cs_laws_eqAlarmS k) la_laws_eqAlarmS ja_laws_eqAlarmS k) ps_laws_eqAlarmS rs_laws_eqAlarmS Try.f51 x = F_laws_eqAlarmS k x := by kernel_rfl
set_option maxRecDepth 1000000 in
theorem m_laws_eqAlarmS (k : Nat) : Meets Try.prog 51 (c_laws_eqAlarmS k) := meets_ev TTok mixed (cts := cs_laws_eqAlarmS k) ⟨m_laws_eqAlarm k, trivial⟩ Try.func51 (by kernel_rfl) (by kernel_rfl) (e_laws_eqAlarmS k)
abbrev ps_laws_eqGroup : List PK := [.val tGroup (.pair .leaf (.pair .shr (.pair .leaf (.pair .leaf .shr)))), .val tGroup (.pair .leaf (.pair .shr (.pair .leaf (.pair .leaf .shr))))]
abbrev rs_laws_eqGroup : List RK := [.val .bool .leaf]
def c_laws_eqGroup (k : Nat) : Con := ⟨ps_laws_eqGroup, rs_laws_eqGroup, F_laws_eqGroup k⟩
def la_laws_eqGroup : Nat → Option Ann := fun _ => none
def ja_laws_eqGroup : Nat → Option Ann := fun _ => none
def cs_laws_eqGroup (k : Nat) : List (FuncId × Con) := [(50, c_laws_eqLabelS k), (51, c_laws_eqAlarmS k)]
set_option maxRecDepth 1000000 in
theorem e_laws_eqGroup (k : Nat) (x) : evFn2 (mkCx TT (cs_laws_eqGroup k) la_laws_eqGroup ja_laws_eqGroup k) ps_laws_eqGroup rs_laws_eqGroup Try.f11 x = F_laws_eqGroup k x := by kernel_rfl
set_option maxRecDepth 1000000 in
theorem m_laws_eqGroup (k : Nat) : Meets Try.prog 11 (c_laws_eqGroup k) := meets_ev TTok mixed (cts := cs_laws_eqGroup k) ⟨m_laws_eqLabelS k, m_laws_eqAlarmS k, trivial⟩ Try.func11 (by kernel_rfl) (by kernel_rfl) (e_laws_eqGroup k)
abbrev ps_laws_eqBatch : List PK := [.val tBatch (.pair .leaf (.pair .shr (.pair .leaf .shr))), .val tBatch (.pair .leaf (.pair .shr (.pair .leaf .shr)))]
abbrev rs_laws_eqBatch : List RK := [.val .bool .leaf]
def c_laws_eqBatch (k : Nat) : Con := ⟨ps_laws_eqBatch, rs_laws_eqBatch, F_laws_eqBatch k⟩
def la_laws_eqBatch : Nat → Option Ann := fun _ => none
def ja_laws_eqBatch : Nat → Option Ann := fun _ => none
def cs_laws_eqBatch (k : Nat) : List (FuncId × Con) := [(50, c_laws_eqLabelS k), (51, c_laws_eqAlarmS k)]
set_option maxRecDepth 1000000 in
theorem e_laws_eqBatch (k : Nat) (x) : evFn2 (mkCx TT (cs_laws_eqBatch k) la_laws_eqBatch ja_laws_eqBatch k) ps_laws_eqBatch rs_laws_eqBatch Try.f12 x = F_laws_eqBatch k x := by kernel_rfl
set_option maxRecDepth 1000000 in
theorem m_laws_eqBatch (k : Nat) : Meets Try.prog 12 (c_laws_eqBatch k) := meets_ev TTok mixed (cts := cs_laws_eqBatch k) ⟨m_laws_eqLabelS k, m_laws_eqAlarmS k, trivial⟩ Try.func12 (by kernel_rfl) (by kernel_rfl) (e_laws_eqBatch k)
abbrev ps_laws_markText : List PK := [.val (.int .i64) .leaf]
abbrev rs_laws_markText : List RK := [.val .str .leaf]
def c_laws_markText (k : Nat) : Con := ⟨ps_laws_markText, rs_laws_markText, F_laws_markText k⟩
def la_laws_markText : Nat → Option Ann := fun | 4 => some ⟨[(0, .val (.int .i64) .leaf), (3, .val .str .leaf)], 3⟩ | _ => none
def ja_laws_markText : Nat → Option Ann := fun | 7 => some ⟨[(3, .val .str .leaf)], 3⟩ | _ => none
def cs_laws_markText (k : Nat) : List (FuncId × Con) := []
set_option maxRecDepth 1000000 in
theorem e_laws_markText (k : Nat) (x) : evFn2 (mkCx TT (cs_laws_markText k) la_laws_markText ja_laws_markText k) ps_laws_markText rs_laws_markText Try.f98 x = F_laws_markText k x := by kernel_rfl
set_option maxRecDepth 1000000 in
theorem m_laws_markText (k : Nat) : Meets Try.prog 98 (c_laws_markText k) := meets_ev TTok mixed (cts := cs_laws_markText k) trivial Try.func98 (by kernel_rfl) (by kernel_rfl) (e_laws_markText k)
def c_laws_markLabelS (k : Nat) : MCon := ⟨(.sl tLabel), F_laws_markLabelS k⟩
def la_laws_markLabelS : Nat → Option Ann := fun | 2 => some ⟨[(0, .val (.sl tLabel) (.sl (.row 3 [3] true))), (1, .val (.int .i64) .leaf), (5, .val (.int .i64) .leaf)], 4⟩ | _ => none
def ja_laws_markLabelS : Nat → Option Ann := fun _ => none
def cs_laws_markLabelS (k : Nat) : List (FuncId × Con) := [(98, c_laws_markText k)]
def ms_laws_markLabelS (k : Nat) : List (FuncId × MCon) := []
set_option maxRecDepth 1000000 in
theorem e_laws_markLabelS (k : Nat) (x) (n : Int) : evMk (mkCx TT (cs_laws_markLabelS k) la_laws_markLabelS ja_laws_markLabelS k) (fun f => (ms_laws_markLabelS k).lookup f) (.sl tLabel) Try.f52 x n = F_laws_markLabelS k x n := by kernel_rfl
set_option maxRecDepth 1000000 in
theorem m_laws_markLabelS (k : Nat) : MMeets Try.prog 52 (c_laws_markLabelS k) := mmeets_ev TTok mixed (cts := cs_laws_markLabelS k) ⟨m_laws_markText k, trivial⟩ (mts := ms_laws_markLabelS k) trivial Try.func52 (by kernel_rfl) (by kernel_rfl) (e_laws_markLabelS k)
def c_laws_markAlarmS (k : Nat) : MCon := ⟨(.sl tAlarm), F_laws_markAlarmS k⟩
def la_laws_markAlarmS : Nat → Option Ann := fun | 2 => some ⟨[(0, .val (.sl tAlarm) (.sl (.row 3 [3] true))), (1, .val (.int .i64) .leaf), (5, .val (.int .i64) .leaf)], 4⟩ | _ => none
def ja_laws_markAlarmS : Nat → Option Ann := fun _ => none
def cs_laws_markAlarmS (k : Nat) : List (FuncId × Con) := [(98, c_laws_markText k)]
def ms_laws_markAlarmS (k : Nat) : List (FuncId × MCon) := [(52, c_laws_markLabelS k)]
set_option maxRecDepth 1000000 in
theorem e_laws_markAlarmS (k : Nat) (x) (n : Int) : evMk (mkCx TT (cs_laws_markAlarmS k) la_laws_markAlarmS ja_laws_markAlarmS k) (fun f => (ms_laws_markAlarmS k).lookup f) (.sl tAlarm) Try.f53 x n = F_laws_markAlarmS k x n := by kernel_rfl
set_option maxRecDepth 1000000 in
theorem m_laws_markAlarmS (k : Nat) : MMeets Try.prog 53 (c_laws_markAlarmS k) := mmeets_ev TTok mixed (cts := cs_laws_markAlarmS k) ⟨m_laws_markText k, trivial⟩ (mts := ms_laws_markAlarmS k) ⟨m_laws_markLabelS k, trivial⟩ Try.func53 (by kernel_rfl) (by kernel_rfl) (e_laws_markAlarmS k)
def c_laws_markGroup (k : Nat) : MCon := ⟨tGroup, F_laws_markGroup k⟩
def la_laws_markGroup : Nat → Option Ann := fun _ => none
def ja_laws_markGroup : Nat → Option Ann := fun _ => none
def cs_laws_markGroup (k : Nat) : List (FuncId × Con) := []
def ms_laws_markGroup (k : Nat) : List (FuncId × MCon) := [(52, c_laws_markLabelS k), (53, c_laws_markAlarmS k)]
set_option maxRecDepth 1000000 in
theorem e_laws_markGroup (k : Nat) (x) (n : Int) : evMk (mkCx TT (cs_laws_markGroup k) la_laws_markGroup ja_laws_markGroup k) (fun f => (ms_laws_markGroup k).lookup f) tGroup Try.f13 x n = F_laws_markGroup k x n := by kernel_rfl
set_option maxRecDepth 1000000 in
theorem m_laws_markGroup (k : Nat) : MMeets Try.prog 13 (c_laws_markGroup k) := mmeets_ev TTok mixed (cts := cs_laws_markGroup k) trivial (mts := ms_laws_markGroup k) ⟨m_laws_markLabelS k, m_laws_markAlarmS k, trivial⟩ Try.func13 (by kernel_rfl) (by kernel_rfl) (e_laws_markGroup k)
def c_laws_markBatch (k : Nat) : MCon := ⟨tBatch, F_laws_markBatch k⟩
def la_laws_markBatch : Nat → Option Ann := fun _ => none
def ja_laws_markBatch : Nat → Option Ann := fun _ => none
def cs_laws_markBatch (k : Nat) : List (FuncId × Con) := []
def ms_laws_markBatch (k : Nat) : List (FuncId × MCon) := [(52, c_laws_markLabelS k), (53, c_laws_markAlarmS k)]
set_option maxRecDepth 1000000 in
theorem e_laws_markBatch (k : Nat) (x) (n : Int) : evMk (mkCx TT (cs_laws_markBatch k) la_laws_markBatch ja_laws_markBatch k) (fun f => (ms_laws_markBatch k).lookup f) tBatch Try.f14 x n = F_laws_markBatch k x n := by kernel_rfl
set_option maxRecDepth 1000000 in
theorem m_laws_markBatch (k : Nat) : MMeets Try.prog 14 (c_laws_markBatch k) := mmeets_ev TTok mixed (cts := cs_laws_markBatch k) trivial (mts := ms_laws_markBatch k) ⟨m_laws_markLabelS k, m_laws_markAlarmS k, trivial⟩ Try.func14 (by kernel_rfl) (by kernel_rfl) (e_laws_markBatch k)
abbrev ps_laws_heldLabelS : List PK := [.val (.sl tLabel) .shr, .val (.int .i64) .leaf]
abbrev rs_laws_heldLabelS : List RK := [.val (.int .i64) .leaf]
def c_laws_heldLabelS (k : Nat) : Con := ⟨ps_laws_heldLabelS, rs_laws_heldLabelS, F_laws_heldLabelS k⟩
def la_laws_heldLabelS : Nat → Option Ann := fun | 2 => some ⟨[(0, .val (.sl tLabel) (.sl (.sha [1]))), (1, .val (.int .i64) .leaf), (5, .val (.int .i64) .leaf)], 3⟩ | _ => none
def ja_laws_heldLabelS : Nat → Option Ann := fun _ => none
def cs_laws_heldLabelS (k : Nat) : List (FuncId × Con) := [(98, c_laws_markText k)]
set_option maxRecDepth 1000000 in
theorem e_laws_heldLabelS (k : Nat) (x) : evFn2 (mkCx TT (cs_laws_heldLabelS k) la_laws_heldLabelS ja_laws_heldLabelS k) ps_laws_heldLabelS rs_laws_heldLabelS Try.f54 x = F_laws_heldLabelS k x := by kernel_rfl
set_option maxRecDepth 1000000 in
theorem m_laws_heldLabelS (k : Nat) : Meets Try.prog 54 (c_laws_heldLabelS k) := meets_ev TTok mixed (cts := cs_laws_heldLabelS k) ⟨m_laws_markText k, trivial⟩ Try.func54 (by kernel_rfl) (by kernel_rfl) (e_laws_heldLabelS k)
abbrev ps_laws_heldAlarmS : List PK := [.val (.sl tAlarm) .shr, .val (.int .i64) .leaf]
abbrev rs_laws_heldAlarmS : List RK := [.val (.int .i64) .leaf]
def c_laws_heldAlarmS (k : Nat) : Con := ⟨ps_laws_heldAlarmS, rs_laws_heldAlarmS, F_laws_heldAlarmS k⟩
def la_laws_heldAlarmS : Nat → Option Ann := fun | 2 => some ⟨[(0, .val (.sl tAlarm) (.sl (.sha [1]))), (1, .val (.int .i64) .leaf), (5, .val (.int .i64) .leaf)], 3⟩ | _ => none
def ja_laws_heldAlarmS : Nat → Option Ann := fun _ => none
def cs_laws_heldAlarmS (k : Nat) : List (FuncId × Con) := [(54, c_laws_heldLabelS k), (98, c_laws_markText k)]
set_option maxRecDepth 1000000 in
theorem e_laws_heldAlarmS (k : Nat) (x) : evFn2 (mkCx TT (cs_laws_heldAlarmS k) la_laws_heldAlarmS ja_laws_heldAlarmS k) ps_laws_heldAlarmS rs_laws_heldAlarmS Try.f55 x = F_laws_heldAlarmS k x := by kernel_rfl
set_option maxRecDepth 1000000 in
theorem m_laws_heldAlarmS (k : Nat) : Meets Try.prog 55 (c_laws_heldAlarmS k) := meets_ev TTok mixed (cts := cs_laws_heldAlarmS k) ⟨m_laws_heldLabelS k, m_laws_markText k, trivial⟩ Try.func55 (by kernel_rfl) (by kernel_rfl) (e_laws_heldAlarmS k)
abbrev ps_laws_heldGroup : List PK := [.val tGroup (.pair .leaf (.pair .shr (.pair .leaf (.pair .leaf .shr)))), .val (.int .i64) .leaf]
abbrev rs_laws_heldGroup : List RK := [.val (.int .i64) .leaf]
def c_laws_heldGroup (k : Nat) : Con := ⟨ps_laws_heldGroup, rs_laws_heldGroup, F_laws_heldGroup k⟩
def la_laws_heldGroup : Nat → Option Ann := fun _ => none
def ja_laws_heldGroup : Nat → Option Ann := fun _ => none
def cs_laws_heldGroup (k : Nat) : List (FuncId × Con) := [(54, c_laws_heldLabelS k), (55, c_laws_heldAlarmS k)]
set_option maxRecDepth 1000000 in
theorem e_laws_heldGroup (k : Nat) (x) : evFn2 (mkCx TT (cs_laws_heldGroup k) la_laws_heldGroup ja_laws_heldGroup k) ps_laws_heldGroup rs_laws_heldGroup Try.f15 x = F_laws_heldGroup k x := by kernel_rfl
set_option maxRecDepth 1000000 in
theorem m_laws_heldGroup (k : Nat) : Meets Try.prog 15 (c_laws_heldGroup k) := meets_ev TTok mixed (cts := cs_laws_heldGroup k) ⟨m_laws_heldLabelS k, m_laws_heldAlarmS k, trivial⟩ Try.func15 (by kernel_rfl) (by kernel_rfl) (e_laws_heldGroup k)
abbrev ps_laws_heldBatch : List PK := [.val tBatch (.pair .leaf (.pair .shr (.pair .leaf .shr))), .val (.int .i64) .leaf]
abbrev rs_laws_heldBatch : List RK := [.val (.int .i64) .leaf]
def c_laws_heldBatch (k : Nat) : Con := ⟨ps_laws_heldBatch, rs_laws_heldBatch, F_laws_heldBatch k⟩
def la_laws_heldBatch : Nat → Option Ann := fun _ => none
def ja_laws_heldBatch : Nat → Option Ann := fun _ => none
def cs_laws_heldBatch (k : Nat) : List (FuncId × Con) := [(54, c_laws_heldLabelS k), (55, c_laws_heldAlarmS k)]
set_option maxRecDepth 1000000 in
theorem e_laws_heldBatch (k : Nat) (x) : evFn2 (mkCx TT (cs_laws_heldBatch k) la_laws_heldBatch ja_laws_heldBatch k) ps_laws_heldBatch rs_laws_heldBatch Try.f16 x = F_laws_heldBatch k x := by kernel_rfl
set_option maxRecDepth 1000000 in
theorem m_laws_heldBatch (k : Nat) : Meets Try.prog 16 (c_laws_heldBatch k) := meets_ev TTok mixed (cts := cs_laws_heldBatch k) ⟨m_laws_heldLabelS k, m_laws_heldAlarmS k, trivial⟩ Try.func16 (by kernel_rfl) (by kernel_rfl) (e_laws_heldBatch k)
abbrev ps_laws_FnExactFlush : List PK := [.val tGroup (.pair .leaf (.pair .shr (.pair .leaf (.pair .leaf .shr)))), .val (.int .i64) .leaf]
abbrev rs_laws_FnExactFlush : List RK := [.val .bool .leaf]
def c_laws_FnExactFlush (k : Nat) : Con := ⟨ps_laws_FnExactFlush, rs_laws_FnExactFlush, F_laws_FnExactFlush k⟩
def la_laws_FnExactFlush : Nat → Option Ann := fun _ => none
def ja_laws_FnExactFlush : Nat → Option Ann := fun _ => none
def cs_laws_FnExactFlush (k : Nat) : List (FuncId × Con) := [(7, c_laws_szGroup k), (9, c_laws_toGroup k), (8, c_spec_Flush k), (10, c_impl_Flush k), (11, c_laws_eqGroup k), (12, c_laws_eqBatch k), (15, c_laws_heldGroup k), (16, c_laws_heldBatch k)]
def ms_laws_FnExactFlush (k : Nat) : List (FuncId × MCon) := [(13, c_laws_markGroup k), (14, c_laws_markBatch k)]
set_option maxRecDepth 1000000 in
theorem e_laws_FnExactFlush (k : Nat) (x) : evFnM (mkCx TT (cs_laws_FnExactFlush k) la_laws_FnExactFlush ja_laws_FnExactFlush k) (fun f => (ms_laws_FnExactFlush k).lookup f) ps_laws_FnExactFlush rs_laws_FnExactFlush Try.f3 x = F_laws_FnExactFlush k x := by kernel_rfl
set_option maxRecDepth 1000000 in
theorem m_laws_FnExactFlush (k : Nat) : Meets Try.prog 3 (c_laws_FnExactFlush k) := meetsM_ev TTok mixed (cts := cs_laws_FnExactFlush k) ⟨m_laws_szGroup k, m_laws_toGroup k, m_spec_Flush k, m_impl_Flush k, m_laws_eqGroup k, m_laws_eqBatch k, m_laws_heldGroup k, m_laws_heldBatch k, trivial⟩ (mts := ms_laws_FnExactFlush k) ⟨m_laws_markGroup k, m_laws_markBatch k, trivial⟩ Try.func3 (by kernel_rfl) (by kernel_rfl) (e_laws_FnExactFlush k)
abbrev ps_laws_szGroupS : List PK := [.val (.sl tGroup) .shr, .val (.int .i64) .leaf]
abbrev rs_laws_szGroupS : List RK := [.val (.int .i64) .leaf]
def c_laws_szGroupS (k : Nat) : Con := ⟨ps_laws_szGroupS, rs_laws_szGroupS, F_laws_szGroupS k⟩
def la_laws_szGroupS : Nat → Option Ann := fun | 5 => some ⟨[(0, .val (.sl tGroup) (.sl (.sha [1]))), (1, .val (.int .i64) .leaf), (5, .val (.int .i64) .leaf)], 3⟩ | _ => none
def ja_laws_szGroupS : Nat → Option Ann := fun _ => none
def cs_laws_szGroupS (k : Nat) : List (FuncId × Con) := [(7, c_laws_szGroup k)]
set_option maxRecDepth 1000000 in
theorem e_laws_szGroupS (k : Nat) (x) : evFn2 (mkCx TT (cs_laws_szGroupS k) la_laws_szGroupS ja_laws_szGroupS k) ps_laws_szGroupS rs_laws_szGroupS Try.f17 x = F_laws_szGroupS k x := by kernel_rfl
set_option maxRecDepth 1000000 in
theorem m_laws_szGroupS (k : Nat) : Meets Try.prog 17 (c_laws_szGroupS k) := meets_ev TTok mixed (cts := cs_laws_szGroupS k) ⟨m_laws_szGroup k, trivial⟩ Try.func17 (by kernel_rfl) (by kernel_rfl) (e_laws_szGroupS k)
abbrev ps_laws_toGroupS : List PK := [.val (.sl tGroup) .shr]
abbrev rs_laws_toGroupS : List RK := [.val (.sl tGroup) .own]
def c_laws_toGroupS (k : Nat) : Con := ⟨ps_laws_toGroupS, rs_laws_toGroupS, F_laws_toGroupS k⟩
def la_laws_toGroupS : Nat → Option Ann := fun | 3 => some ⟨[(0, .val (.sl tGroup) (.sl (.sha [1]))), (3, .val (.sl tGroup) (.sl (.row 3 [3] true))), (4, .val (.int .i64) .leaf)], 4⟩ | _ => none
def ja_laws_toGroupS : Nat → Option Ann := fun _ => none
def cs_laws_toGroupS (k : Nat) : List (FuncId × Con) := [(9, c_laws_toGroup k)]
set_option maxRecDepth 1000000 in
theorem e_laws_toGroupS (k : Nat) (x) : evFn2 (mkCx TT (cs_laws_toGroupS k) la_laws_toGroupS ja_laws_toGroupS k) ps_laws_toGroupS rs_laws_toGroupS Try.f19 x = F_laws_toGroupS k x := by kernel_rfl
set_option maxRecDepth 1000000 in
theorem m_laws_toGroupS (k : Nat) : Meets Try.prog 19 (c_laws_toGroupS k) := meets_ev TTok mixed (cts := cs_laws_toGroupS k) ⟨m_laws_toGroup k, trivial⟩ Try.func19 (by kernel_rfl) (by kernel_rfl) (e_laws_toGroupS k)
abbrev ps_spec_l12Copy : List PK := [.val (.sl tGroup) .shr]
abbrev rs_spec_l12Copy : List RK := [.val (.sl tGroup) .own]
def c_spec_l12Copy (k : Nat) : Con := ⟨ps_spec_l12Copy, rs_spec_l12Copy, F_spec_l12Copy k⟩
def la_spec_l12Copy : Nat → Option Ann := fun | 3 => some ⟨[(0, .val (.sl tGroup) (.sl (.sha [1]))), (3, .val (.sl tGroup) (.sl (.row 3 [3] true))), (4, .val (.int .i64) .leaf)], 4⟩ | _ => none
def ja_spec_l12Copy : Nat → Option Ann := fun _ => none
def cs_spec_l12Copy (k : Nat) : List (FuncId × Con) := [(40, c_spec_l11Copy k)]
set_option maxRecDepth 1000000 in
theorem e_spec_l12Copy (k : Nat) (x) : evFn2 (mkCx TT (cs_spec_l12Copy k) la_spec_l12Copy ja_spec_l12Copy k) ps_spec_l12Copy rs_spec_l12Copy Try.f56 x = F_spec_l12Copy k x := by kernel_rfl
set_option maxRecDepth 1000000 in
theorem m_spec_l12Copy (k : Nat) : Meets Try.prog 56 (c_spec_l12Copy k) := meets_ev TTok mixed (cts := cs_spec_l12Copy k) ⟨m_spec_l11Copy k, trivial⟩ Try.func56 (by kernel_rfl) (by kernel_rfl) (e_spec_l12Copy k)
abbrev ps_spec_GroupAt : List PK := [.val (.sl tGroup) .shr, .val (.int .i64) .leaf]
abbrev rs_spec_GroupAt : List RK := [.val (.int .i64) .leaf]
def c_spec_GroupAt (k : Nat) : Con := ⟨ps_spec_GroupAt, rs_spec_GroupAt, F_spec_GroupAt k⟩
def la_spec_GroupAt : Nat → Option Ann := fun | 2 => some ⟨[(0, .val (.sl tGroup) (.sl (.sha [1]))), (1, .val (.int .i64) .leaf), (5, .val (.int .i64) .leaf)], 3⟩ | _ => none
def ja_spec_GroupAt : Nat → Option Ann := fun _ => none
def cs_spec_GroupAt (k : Nat) : List (FuncId × Con) := []
set_option maxRecDepth 1000000 in
theorem e_spec_GroupAt (k : Nat) (x) : evFn2 (mkCx TT (cs_spec_GroupAt k) la_spec_GroupAt ja_spec_GroupAt k) ps_spec_GroupAt rs_spec_GroupAt Try.f57 x = F_spec_GroupAt k x := by kernel_rfl
set_option maxRecDepth 1000000 in
theorem m_spec_GroupAt (k : Nat) : Meets Try.prog 57 (c_spec_GroupAt k) := meets_ev TTok mixed (cts := cs_spec_GroupAt k) trivial Try.func57 (by kernel_rfl) (by kernel_rfl) (e_spec_GroupAt k)
abbrev ps_spec_FlushAt : List PK := [.val (.sl tGroup) .shr, .val (.int .i64) .leaf, .val (.int .i64) .leaf]
abbrev rs_spec_FlushAt : List RK := [.val (.sl tGroup) .own, .val tBatch (.pair .leaf (.pair .own (.pair .leaf .own))), .val .bool .leaf]
def c_spec_FlushAt (k : Nat) : Con := ⟨ps_spec_FlushAt, rs_spec_FlushAt, F_spec_FlushAt k⟩
def la_spec_FlushAt : Nat → Option Ann := fun _ => none
def ja_spec_FlushAt : Nat → Option Ann := fun _ => none
def cs_spec_FlushAt (k : Nat) : List (FuncId × Con) := [(56, c_spec_l12Copy k), (57, c_spec_GroupAt k), (8, c_spec_Flush k)]
def ms_spec_FlushAt (k : Nat) : List (FuncId × MCon) := []
set_option maxRecDepth 1000000 in
theorem e_spec_FlushAt (k : Nat) (x) : evFnM (mkCx TT (cs_spec_FlushAt k) la_spec_FlushAt ja_spec_FlushAt k) (fun f => (ms_spec_FlushAt k).lookup f) ps_spec_FlushAt rs_spec_FlushAt Try.f18 x = F_spec_FlushAt k x := by kernel_rfl
set_option maxRecDepth 1000000 in
theorem m_spec_FlushAt (k : Nat) : Meets Try.prog 18 (c_spec_FlushAt k) := meetsM_ev TTok mixed (cts := cs_spec_FlushAt k) ⟨m_spec_l12Copy k, m_spec_GroupAt k, m_spec_Flush k, trivial⟩ (mts := ms_spec_FlushAt k) trivial Try.func18 (by kernel_rfl) (by kernel_rfl) (e_spec_FlushAt k)
abbrev ps_impl_copyGroups : List PK := [.val (.sl tGroup) .shr]
abbrev rs_impl_copyGroups : List RK := [.val (.sl tGroup) .own]
def c_impl_copyGroups (k : Nat) : Con := ⟨ps_impl_copyGroups, rs_impl_copyGroups, F_impl_copyGroups k⟩
def la_impl_copyGroups : Nat → Option Ann := fun | 3 => some ⟨[(3, .val (.sl tGroup) (.sl (.row 3 [3] true))), (6, .val (.sl tGroup) (.sl (.sha [1]))), (7, .val (.int .i64) .leaf), (8, .val (.int .i64) .leaf)], 4⟩ | _ => none
def ja_impl_copyGroups : Nat → Option Ann := fun _ => none
def cs_impl_copyGroups (k : Nat) : List (FuncId × Con) := [(46, c_impl_copyGroup k)]
set_option maxRecDepth 1000000 in
theorem e_impl_copyGroups (k : Nat) (x) : evFn2 (mkCx TT (cs_impl_copyGroups k) la_impl_copyGroups ja_impl_copyGroups k) ps_impl_copyGroups rs_impl_copyGroups Try.f58 x = F_impl_copyGroups k x := by kernel_rfl
set_option maxRecDepth 1000000 in
theorem m_impl_copyGroups (k : Nat) : Meets Try.prog 58 (c_impl_copyGroups k) := meets_ev TTok mixed (cts := cs_impl_copyGroups k) ⟨m_impl_copyGroup k, trivial⟩ Try.func58 (by kernel_rfl) (by kernel_rfl) (e_impl_copyGroups k)
abbrev ps_impl_GroupAt : List PK := [.val (.sl tGroup) .shr, .val (.int .i64) .leaf]
abbrev rs_impl_GroupAt : List RK := [.val (.int .i64) .leaf]
def c_impl_GroupAt (k : Nat) : Con := ⟨ps_impl_GroupAt, rs_impl_GroupAt, F_impl_GroupAt k⟩
def la_impl_GroupAt : Nat → Option Ann := fun | 2 => some ⟨[(1, .val (.int .i64) .leaf), (7, .val (.sl tGroup) (.sl (.sha [1]))), (8, .val (.int .i64) .leaf), (9, .val (.int .i64) .leaf)], 3⟩ | _ => none
def ja_impl_GroupAt : Nat → Option Ann := fun _ => none
def cs_impl_GroupAt (k : Nat) : List (FuncId × Con) := []
set_option maxRecDepth 1000000 in
theorem e_impl_GroupAt (k : Nat) (x) : evFn2 (mkCx TT (cs_impl_GroupAt k) la_impl_GroupAt ja_impl_GroupAt k) ps_impl_GroupAt rs_impl_GroupAt Try.f59 x = F_impl_GroupAt k x := by kernel_rfl
set_option maxRecDepth 1000000 in
theorem m_impl_GroupAt (k : Nat) : Meets Try.prog 59 (c_impl_GroupAt k) := meets_ev TTok mixed (cts := cs_impl_GroupAt k) trivial Try.func59 (by kernel_rfl) (by kernel_rfl) (e_impl_GroupAt k)
abbrev ps_impl_FlushAt : List PK := [.val (.sl tGroup) .shr, .val (.int .i64) .leaf, .val (.int .i64) .leaf]
abbrev rs_impl_FlushAt : List RK := [.val (.sl tGroup) .own, .val tBatch (.pair .leaf (.pair .own (.pair .leaf .own))), .val .bool .leaf]
def c_impl_FlushAt (k : Nat) : Con := ⟨ps_impl_FlushAt, rs_impl_FlushAt, F_impl_FlushAt k⟩
def la_impl_FlushAt : Nat → Option Ann := fun _ => none
def ja_impl_FlushAt : Nat → Option Ann := fun _ => none
def cs_impl_FlushAt (k : Nat) : List (FuncId × Con) := [(58, c_impl_copyGroups k), (59, c_impl_GroupAt k), (10, c_impl_Flush k)]
def ms_impl_FlushAt (k : Nat) : List (FuncId × MCon) := []
set_option maxRecDepth 1000000 in
theorem e_impl_FlushAt (k : Nat) (x) : evFnM (mkCx TT (cs_impl_FlushAt k) la_impl_FlushAt ja_impl_FlushAt k) (fun f => (ms_impl_FlushAt k).lookup f) ps_impl_FlushAt rs_impl_FlushAt Try.f20 x = F_impl_FlushAt k x := by kernel_rfl
set_option maxRecDepth 1000000 in
theorem m_impl_FlushAt (k : Nat) : Meets Try.prog 20 (c_impl_FlushAt k) := meetsM_ev TTok mixed (cts := cs_impl_FlushAt k) ⟨m_impl_copyGroups k, m_impl_GroupAt k, m_impl_Flush k, trivial⟩ (mts := ms_impl_FlushAt k) trivial Try.func20 (by kernel_rfl) (by kernel_rfl) (e_impl_FlushAt k)
abbrev ps_laws_eqGroupS : List PK := [.val (.sl tGroup) .shr, .val (.sl tGroup) .shr]
abbrev rs_laws_eqGroupS : List RK := [.val .bool .leaf]
def c_laws_eqGroupS (k : Nat) : Con := ⟨ps_laws_eqGroupS, rs_laws_eqGroupS, F_laws_eqGroupS k⟩
def la_laws_eqGroupS : Nat → Option Ann := fun | 4 => some ⟨[(0, .val (.sl tGroup) (.sl (.sha [1]))), (1, .val (.sl tGroup) (.sl (.sha [1]))), (5, .val (.int .i64) .leaf)], 3⟩ | _ => none
def ja_laws_eqGroupS : Nat → Option Ann := fun _ => none
def cs_laws_eqGroupS (k : Nat) : List (FuncId × Con) := [(11, c_laws_eqGroup k)]
set_option maxRecDepth 1000000 in
theorem e_laws_eqGroupS (k : Nat) (x) : evFn2 (mkCx TT (cs_laws_eqGroupS k) la_laws_eqGroupS ja_laws_eqGroupS k) ps_laws_eqGroupS rs_laws_eqGroupS Try.f21 x = F_laws_eqGroupS k x := by kernel_rfl
set_option maxRecDepth 1000000 in
theorem m_laws_eqGroupS (k : Nat) : Meets Try.prog 21 (c_laws_eqGroupS k) := meets_ev TTok mixed (cts := cs_laws_eqGroupS k) ⟨m_laws_eqGroup k, trivial⟩ Try.func21 (by kernel_rfl) (by kernel_rfl) (e_laws_eqGroupS k)
def c_laws_markGroupS (k : Nat) : MCon := ⟨(.sl tGroup), F_laws_markGroupS k⟩
def la_laws_markGroupS : Nat → Option Ann := fun | 2 => some ⟨[(0, .val (.sl tGroup) (.sl (.row 3 [3] true))), (1, .val (.int .i64) .leaf), (5, .val (.int .i64) .leaf)], 4⟩ | _ => none
def ja_laws_markGroupS : Nat → Option Ann := fun _ => none
def cs_laws_markGroupS (k : Nat) : List (FuncId × Con) := []
def ms_laws_markGroupS (k : Nat) : List (FuncId × MCon) := [(52, c_laws_markLabelS k), (53, c_laws_markAlarmS k)]
set_option maxRecDepth 1000000 in
theorem e_laws_markGroupS (k : Nat) (x) (n : Int) : evMk (mkCx TT (cs_laws_markGroupS k) la_laws_markGroupS ja_laws_markGroupS k) (fun f => (ms_laws_markGroupS k).lookup f) (.sl tGroup) Try.f22 x n = F_laws_markGroupS k x n := by kernel_rfl
set_option maxRecDepth 1000000 in
theorem m_laws_markGroupS (k : Nat) : MMeets Try.prog 22 (c_laws_markGroupS k) := mmeets_ev TTok mixed (cts := cs_laws_markGroupS k) trivial (mts := ms_laws_markGroupS k) ⟨m_laws_markLabelS k, m_laws_markAlarmS k, trivial⟩ Try.func22 (by kernel_rfl) (by kernel_rfl) (e_laws_markGroupS k)
abbrev ps_laws_heldGroupS : List PK := [.val (.sl tGroup) .shr, .val (.int .i64) .leaf]
abbrev rs_laws_heldGroupS : List RK := [.val (.int .i64) .leaf]
def c_laws_heldGroupS (k : Nat) : Con := ⟨ps_laws_heldGroupS, rs_laws_heldGroupS, F_laws_heldGroupS k⟩
def la_laws_heldGroupS : Nat → Option Ann := fun | 2 => some ⟨[(0, .val (.sl tGroup) (.sl (.sha [1]))), (1, .val (.int .i64) .leaf), (5, .val (.int .i64) .leaf)], 3⟩ | _ => none
def ja_laws_heldGroupS : Nat → Option Ann := fun _ => none
def cs_laws_heldGroupS (k : Nat) : List (FuncId × Con) := [(54, c_laws_heldLabelS k), (55, c_laws_heldAlarmS k)]
set_option maxRecDepth 1000000 in
theorem e_laws_heldGroupS (k : Nat) (x) : evFn2 (mkCx TT (cs_laws_heldGroupS k) la_laws_heldGroupS ja_laws_heldGroupS k) ps_laws_heldGroupS rs_laws_heldGroupS Try.f23 x = F_laws_heldGroupS k x := by kernel_rfl
set_option maxRecDepth 1000000 in
theorem m_laws_heldGroupS (k : Nat) : Meets Try.prog 23 (c_laws_heldGroupS k) := meets_ev TTok mixed (cts := cs_laws_heldGroupS k) ⟨m_laws_heldLabelS k, m_laws_heldAlarmS k, trivial⟩ Try.func23 (by kernel_rfl) (by kernel_rfl) (e_laws_heldGroupS k)
end Vg.Try
