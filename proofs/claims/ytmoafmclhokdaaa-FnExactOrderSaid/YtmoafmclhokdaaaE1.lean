/- What the functions compute is what the evaluator says; their contracts. -/
import Derived.Test.YtmoafmclhokdaaaF
import Derived.Test.YtmoafmclhokdaaaProg
import Derived.Test.YtmoafmclhokdaaaOR
namespace Vg.Try
open Go Vg Go.Proofs
set_option linter.unusedVariables false
def TT : List (Nat × TI) := [(3, ⟨(.int .i64), [], 0⟩), (4, ⟨.bool, [], 0⟩), (5, ⟨(.int .u8), [], 0⟩), (9, ⟨.str, [], 0⟩), (22, ⟨(.sl tDeed), [], 100⟩), (24, ⟨(.sl (.int .i64)), [], 3⟩), (26, ⟨(.sl tDeed), [], 102⟩), (33, ⟨(.sl (.int .u8)), [], 5⟩), (35, ⟨(.sl tLabel), [], 159⟩), (37, ⟨tAlarm, [35, 3, 3, 9], 0⟩), (38, ⟨(.sl tAlarm), [], 37⟩), (95, ⟨(.sl tLabel), [], 176⟩), (97, ⟨tAlarm, [95, 3, 3, 9], 0⟩), (98, ⟨(.sl tAlarm), [], 97⟩), (100, ⟨tDeed, [3, 3, 97, 95, 3, 3, 3, 98, 3, 3, 3, 3], 0⟩), (102, ⟨tDeed, [3, 3, 37, 35, 3, 3, 3, 38, 3, 3, 3, 3], 0⟩), (159, ⟨tLabel, [9, 9], 0⟩), (176, ⟨tLabel, [9, 9], 0⟩)]
theorem TTok : TT.all (fun p => tyB Try.prog p.1 p.2) = true := by kernel_rfl
theorem mixed : Try.prog.follows .mixedOrders = true := by kernel_rfl
set_option maxRecDepth 1000000
def nA : Nat → Option Ann := fun _ => none
def q0 : Pt := (.pair .shr (.pair .leaf (.pair .leaf .leaf)))
def q1 : Pt := (.pair .leaf (.pair .leaf (.pair .leaf .leaf)))
def q2 : Pt := (.pair .shr q1)
def q3 : Pt := (.pair .leaf q2)
def q4 : Pt := (.pair .leaf q3)
def q5 : Pt := (.pair .leaf q4)
def q6 : Pt := (.pair .shr q5)
def q7 : Pt := (.pair q0 q6)
def q8 : Pt := (.pair .leaf q7)
def q9 : Pt := (.pair .leaf q8)
def q10 : Pt := (.pair .own (.pair .leaf (.pair .leaf .leaf)))
def t_impl_Order (k : Nat) : List (FuncId × Con) := (10, c_impl_Order k) :: ([] : List (FuncId × Con))
theorem m_t_impl_Order (k : Nat) : AllM Try.prog (t_impl_Order k) := ⟨m_impl_Order k, (show AllM Try.prog [] from trivial)⟩
def t_laws_szLabel (k : Nat) : List (FuncId × Con) := (166, ⟨[.val tLabel (.pair .leaf .leaf), .val (.int .i64) .leaf], [.val (.int .i64) .leaf], F_laws_szLabel k, []⟩) :: (t_impl_Order k)
theorem m_laws_szLabel (k : Nat) : AllM Try.prog (t_laws_szLabel k) := AllM.ev TTok mixed (m_t_impl_Order k) nA nA k Try.func166 (by kernel_rfl) (fun x => by kernel_rfl)
def la_laws_szLabelS : Nat → Option Ann := fun | 5 => some ⟨[(0, .val (.sl tLabel) (.sl (.sha [1]))), (1, .val (.int .i64) .leaf), (5, .val (.int .i64) .leaf)], 3⟩ | _ => none
def t_laws_szLabelS (k : Nat) : List (FuncId × Con) := (129, ⟨[.val (.sl tLabel) .shr, .val (.int .i64) .leaf], [.val (.int .i64) .leaf], F_laws_szLabelS k, []⟩) :: (t_laws_szLabel k)
theorem m_laws_szLabelS (k : Nat) : AllM Try.prog (t_laws_szLabelS k) := AllM.ev TTok mixed (m_laws_szLabel k) la_laws_szLabelS nA k Try.func129 (by kernel_rfl) (fun x => by kernel_rfl)
def t_laws_szAlarm (k : Nat) : List (FuncId × Con) := (128, ⟨[.val tAlarm q0, .val (.int .i64) .leaf], [.val (.int .i64) .leaf], F_laws_szAlarm k, []⟩) :: (t_laws_szLabelS k)
theorem m_laws_szAlarm (k : Nat) : AllM Try.prog (t_laws_szAlarm k) := AllM.ev TTok mixed (m_laws_szLabelS k) nA nA k Try.func128 (by kernel_rfl) (fun x => by kernel_rfl)
def la_laws_szAlarmS : Nat → Option Ann := fun | 5 => some ⟨[(0, .val (.sl tAlarm) (.sl (.sha [1]))), (1, .val (.int .i64) .leaf), (5, .val (.int .i64) .leaf)], 3⟩ | _ => none
def t_laws_szAlarmS (k : Nat) : List (FuncId × Con) := (130, ⟨[.val (.sl tAlarm) .shr, .val (.int .i64) .leaf], [.val (.int .i64) .leaf], F_laws_szAlarmS k, []⟩) :: (t_laws_szAlarm k)
theorem m_laws_szAlarmS (k : Nat) : AllM Try.prog (t_laws_szAlarmS k) := AllM.ev TTok mixed (m_laws_szAlarm k) la_laws_szAlarmS nA k Try.func130 (by kernel_rfl) (fun x => by kernel_rfl)
def t_laws_szDeed (k : Nat) : List (FuncId × Con) := (73, ⟨[.val tDeed (.pair .leaf (.pair .leaf (.pair q0 (.pair .shr (.pair .leaf (.pair .leaf (.pair .leaf (.pair .shr q1)))))))), .val (.int .i64) .leaf], [.val (.int .i64) .leaf], F_laws_szDeed k, []⟩) :: (t_laws_szAlarmS k)
theorem m_laws_szDeed (k : Nat) : AllM Try.prog (t_laws_szDeed k) := AllM.ev TTok mixed (m_laws_szAlarmS k) nA nA k Try.func73 (by kernel_rfl) (fun x => by kernel_rfl)
def la_laws_szDeedS : Nat → Option Ann := fun | 5 => some ⟨[(0, .val (.sl tDeed) (.sl (.sha [1]))), (1, .val (.int .i64) .leaf), (5, .val (.int .i64) .leaf)], 3⟩ | _ => none
def t_laws_szDeedS (k : Nat) : List (FuncId × Con) := (7, ⟨[.val (.sl tDeed) .shr, .val (.int .i64) .leaf], [.val (.int .i64) .leaf], F_laws_szDeedS k, []⟩) :: (t_laws_szDeed k)
theorem m_laws_szDeedS (k : Nat) : AllM Try.prog (t_laws_szDeedS k) := AllM.ev TTok mixed (m_laws_szDeed k) la_laws_szDeedS nA k Try.func7 (by kernel_rfl) (fun x => by kernel_rfl)
def t_laws_toLabel (k : Nat) : List (FuncId × Con) := (167, ⟨[.val tLabel (.pair .leaf .leaf)], [.val tLabel (.pair .leaf .leaf)], F_laws_toLabel k, []⟩) :: (t_laws_szDeedS k)
theorem m_laws_toLabel (k : Nat) : AllM Try.prog (t_laws_toLabel k) := AllM.ev TTok mixed (m_laws_szDeedS k) nA nA k Try.func167 (by kernel_rfl) (fun x => by kernel_rfl)
def la_laws_toLabelS : Nat → Option Ann := fun | 3 => some ⟨[(0, .val (.sl tLabel) (.sl (.sha [1]))), (3, .val (.sl tLabel) (.sl (.row 3 [3] true))), (4, .val (.int .i64) .leaf)], 4⟩ | _ => none
def t_laws_toLabelS (k : Nat) : List (FuncId × Con) := (132, ⟨[.val (.sl tLabel) .shr], [.val (.sl tLabel) .own], F_laws_toLabelS k, []⟩) :: (t_laws_toLabel k)
theorem m_laws_toLabelS (k : Nat) : AllM Try.prog (t_laws_toLabelS k) := AllM.ev TTok mixed (m_laws_toLabel k) la_laws_toLabelS nA k Try.func132 (by kernel_rfl) (fun x => by kernel_rfl)
def t_laws_toAlarm (k : Nat) : List (FuncId × Con) := (131, ⟨[.val tAlarm q0], [.val tAlarm q10], F_laws_toAlarm k, []⟩) :: (t_laws_toLabelS k)
theorem m_laws_toAlarm (k : Nat) : AllM Try.prog (t_laws_toAlarm k) := AllM.ev TTok mixed (m_laws_toLabelS k) nA nA k Try.func131 (by kernel_rfl) (fun x => by kernel_rfl)
def la_laws_toAlarmS : Nat → Option Ann := fun | 3 => some ⟨[(0, .val (.sl tAlarm) (.sl (.sha [1]))), (3, .val (.sl tAlarm) (.sl (.row 3 [3] true))), (4, .val (.int .i64) .leaf)], 4⟩ | _ => none
def t_laws_toAlarmS (k : Nat) : List (FuncId × Con) := (133, ⟨[.val (.sl tAlarm) .shr], [.val (.sl tAlarm) .own], F_laws_toAlarmS k, []⟩) :: (t_laws_toAlarm k)
theorem m_laws_toAlarmS (k : Nat) : AllM Try.prog (t_laws_toAlarmS k) := AllM.ev TTok mixed (m_laws_toAlarm k) la_laws_toAlarmS nA k Try.func133 (by kernel_rfl) (fun x => by kernel_rfl)
def t_laws_toDeed (k : Nat) : List (FuncId × Con) := (74, ⟨[.val tDeed (.pair .leaf (.pair .leaf (.pair q0 (.pair .shr (.pair .leaf (.pair .leaf (.pair .leaf (.pair .shr q1))))))))], [.val tDeed (.pair .leaf (.pair .leaf (.pair q10 (.pair .own (.pair .leaf (.pair .leaf (.pair .leaf (.pair .own q1))))))))], F_laws_toDeed k, []⟩) :: (t_laws_toAlarmS k)
theorem m_laws_toDeed (k : Nat) : AllM Try.prog (t_laws_toDeed k) := AllM.ev TTok mixed (m_laws_toAlarmS k) nA nA k Try.func74 (by kernel_rfl) (fun x => by kernel_rfl)
def la_laws_toDeedS : Nat → Option Ann := fun | 3 => some ⟨[(0, .val (.sl tDeed) (.sl (.sha [1]))), (3, .val (.sl tDeed) (.sl (.row 3 [3] true))), (4, .val (.int .i64) .leaf)], 4⟩ | _ => none
def t_laws_toDeedS (k : Nat) : List (FuncId × Con) := (9, ⟨[.val (.sl tDeed) .shr], [.val (.sl tDeed) .own], F_laws_toDeedS k, []⟩) :: (t_laws_toDeed k)
theorem m_laws_toDeedS (k : Nat) : AllM Try.prog (t_laws_toDeedS k) := AllM.ev TTok mixed (m_laws_toDeed k) la_laws_toDeedS nA k Try.func9 (by kernel_rfl) (fun x => by kernel_rfl)
def la_spec_Order : Nat → Option Ann := fun | 3 => some ⟨[(0, .val (.sl tDeed) (.sl (.sha [1]))), (3, .val (.sl (.int .i64)) (.sl (.row 3 [] true))), (4, .val (.int .i64) .leaf)], 4⟩ | 7 => some ⟨[(0, .val (.sl tDeed) (.sl (.sha [1]))), (3, .val (.sl (.int .i64)) (.sl (.row 3 [] true))), (4, .val (.int .i64) .leaf), (5, .val (.int .i64) .leaf)], 4⟩ | _ => none
def ja_spec_Order : Nat → Option Ann := fun | 9 => some ⟨[(0, .val (.sl tDeed) (.sl (.sha [1]))), (3, .val (.sl (.int .i64)) (.sl (.row 3 [] true))), (4, .val (.int .i64) .leaf), (5, .val (.int .i64) .leaf)], 4⟩ | _ => none
def t_spec_Order (k : Nat) : List (FuncId × Con) := (8, ⟨[.val (.sl tDeed) .shr], [.val (.sl (.int .i64)) .own], F_spec_Order k, []⟩) :: (t_laws_toDeedS k)
theorem m_spec_Order (k : Nat) : AllM Try.prog (t_spec_Order k) := AllM.ev TTok mixed (m_laws_toDeedS k) la_spec_Order ja_spec_Order k Try.func8 (by kernel_rfl) (fun x => by kernel_rfl)
def la_laws_eqIntS : Nat → Option Ann := fun | 4 => some ⟨[(0, .val (.sl (.int .i64)) (.sl (.sha [1]))), (1, .val (.sl (.int .i64)) (.sl (.sha [1]))), (5, .val (.int .i64) .leaf)], 3⟩ | _ => none
def t_laws_eqIntS (k : Nat) : List (FuncId × Con) := (11, ⟨[.val (.sl (.int .i64)) .shr, .val (.sl (.int .i64)) .shr], [.val .bool .leaf], F_laws_eqIntS k, []⟩) :: (t_spec_Order k)
theorem m_laws_eqIntS (k : Nat) : AllM Try.prog (t_laws_eqIntS k) := AllM.ev TTok mixed (m_spec_Order k) la_laws_eqIntS nA k Try.func11 (by kernel_rfl) (fun x => by kernel_rfl)
def t_laws_eqLabel (k : Nat) : List (FuncId × Con) := (179, ⟨[.val tLabel (.pair .leaf .leaf), .val tLabel (.pair .leaf .leaf)], [.val .bool .leaf], F_laws_eqLabel k, []⟩) :: (t_laws_eqIntS k)
theorem m_laws_eqLabel (k : Nat) : AllM Try.prog (t_laws_eqLabel k) := AllM.ev TTok mixed (m_laws_eqIntS k) nA nA k Try.func179 (by kernel_rfl) (fun x => by kernel_rfl)
def la_laws_eqLabelS : Nat → Option Ann := fun | 4 => some ⟨[(0, .val (.sl tLabel) (.sl (.sha [1]))), (1, .val (.sl tLabel) (.sl (.sha [1]))), (5, .val (.int .i64) .leaf)], 3⟩ | _ => none
def t_laws_eqLabelS (k : Nat) : List (FuncId × Con) := (139, ⟨[.val (.sl tLabel) .shr, .val (.sl tLabel) .shr], [.val .bool .leaf], F_laws_eqLabelS k, []⟩) :: (t_laws_eqLabel k)
theorem m_laws_eqLabelS (k : Nat) : AllM Try.prog (t_laws_eqLabelS k) := AllM.ev TTok mixed (m_laws_eqLabel k) la_laws_eqLabelS nA k Try.func139 (by kernel_rfl) (fun x => by kernel_rfl)
def t_laws_eqAlarm (k : Nat) : List (FuncId × Con) := (138, ⟨[.val tAlarm q0, .val tAlarm q0], [.val .bool .leaf], F_laws_eqAlarm k, []⟩) :: (t_laws_eqLabelS k)
theorem m_laws_eqAlarm (k : Nat) : AllM Try.prog (t_laws_eqAlarm k) := AllM.ev TTok mixed (m_laws_eqLabelS k) nA nA k Try.func138 (by kernel_rfl) (fun x => by kernel_rfl)
def la_laws_eqAlarmS : Nat → Option Ann := fun | 4 => some ⟨[(0, .val (.sl tAlarm) (.sl (.sha [1]))), (1, .val (.sl tAlarm) (.sl (.sha [1]))), (5, .val (.int .i64) .leaf)], 3⟩ | _ => none
def t_laws_eqAlarmS (k : Nat) : List (FuncId × Con) := (140, ⟨[.val (.sl tAlarm) .shr, .val (.sl tAlarm) .shr], [.val .bool .leaf], F_laws_eqAlarmS k, []⟩) :: (t_laws_eqAlarm k)
theorem m_laws_eqAlarmS (k : Nat) : AllM Try.prog (t_laws_eqAlarmS k) := AllM.ev TTok mixed (m_laws_eqAlarm k) la_laws_eqAlarmS nA k Try.func140 (by kernel_rfl) (fun x => by kernel_rfl)
def t_laws_eqDeed (k : Nat) : List (FuncId × Con) := (77, ⟨[.val tDeed (.pair .leaf (.pair .leaf (.pair q0 (.pair .shr (.pair .leaf (.pair .leaf (.pair .leaf (.pair .shr q1)))))))), .val tDeed (.pair .leaf (.pair .leaf (.pair q0 (.pair .shr (.pair .leaf (.pair .leaf (.pair .leaf (.pair .shr q1))))))))], [.val .bool .leaf], F_laws_eqDeed k, []⟩) :: (t_laws_eqAlarmS k)
theorem m_laws_eqDeed (k : Nat) : AllM Try.prog (t_laws_eqDeed k) := AllM.ev TTok mixed (m_laws_eqAlarmS k) nA nA k Try.func77 (by kernel_rfl) (fun x => by kernel_rfl)
def la_laws_eqDeedS : Nat → Option Ann := fun | 4 => some ⟨[(0, .val (.sl tDeed) (.sl (.sha [1]))), (1, .val (.sl tDeed) (.sl (.sha [1]))), (5, .val (.int .i64) .leaf)], 3⟩ | _ => none
def t_laws_eqDeedS (k : Nat) : List (FuncId × Con) := (12, ⟨[.val (.sl tDeed) .shr, .val (.sl tDeed) .shr], [.val .bool .leaf], F_laws_eqDeedS k, []⟩) :: (t_laws_eqDeed k)
theorem m_laws_eqDeedS (k : Nat) : AllM Try.prog (t_laws_eqDeedS k) := AllM.ev TTok mixed (m_laws_eqDeed k) la_laws_eqDeedS nA k Try.func12 (by kernel_rfl) (fun x => by kernel_rfl)
def la_laws_markText : Nat → Option Ann := fun | 4 => some ⟨[(0, .val (.int .i64) .leaf), (3, .val .str .leaf)], 3⟩ | _ => none
def ja_laws_markText : Nat → Option Ann := fun | 7 => some ⟨[(3, .val .str .leaf)], 3⟩ | _ => none
def t_laws_markText (k : Nat) : List (FuncId × Con) := (79, ⟨[.val (.int .i64) .leaf], [.val .str .leaf], F_laws_markText k, []⟩) :: (t_laws_eqDeedS k)
theorem m_laws_markText (k : Nat) : AllM Try.prog (t_laws_markText k) := AllM.ev TTok mixed (m_laws_eqDeedS k) la_laws_markText ja_laws_markText k Try.func79 (by kernel_rfl) (fun x => by kernel_rfl)
def la_laws_markLabelS : Nat → Option Ann := fun | 2 => some ⟨[(0, .val (.sl tLabel) (.sl (.row 3 [3] true))), (1, .val (.int .i64) .leaf), (5, .val (.int .i64) .leaf)], 4⟩ | _ => none
def u_laws_markLabelS (k : Nat) : List (FuncId × MCon) := (78, ⟨(.sl tLabel), F_laws_markLabelS k⟩) :: ([] : List (FuncId × MCon))
theorem w_laws_markLabelS (k : Nat) : AllMM Try.prog (u_laws_markLabelS k) := AllMM.ev TTok mixed (m_laws_markText k) (show AllMM Try.prog [] from trivial) la_laws_markLabelS nA k Try.func78 (by kernel_rfl) (fun x n => by kernel_rfl)
def la_laws_markAlarmS : Nat → Option Ann := fun | 2 => some ⟨[(0, .val (.sl tAlarm) (.sl (.row 3 [3] true))), (1, .val (.int .i64) .leaf), (5, .val (.int .i64) .leaf)], 4⟩ | _ => none
def u_laws_markAlarmS (k : Nat) : List (FuncId × MCon) := (80, ⟨(.sl tAlarm), F_laws_markAlarmS k⟩) :: (u_laws_markLabelS k)
theorem w_laws_markAlarmS (k : Nat) : AllMM Try.prog (u_laws_markAlarmS k) := AllMM.ev TTok mixed (m_laws_markText k) (w_laws_markLabelS k) la_laws_markAlarmS nA k Try.func80 (by kernel_rfl) (fun x n => by kernel_rfl)
def la_laws_markDeedS : Nat → Option Ann := fun | 2 => some ⟨[(0, .val (.sl tDeed) (.sl (.row 3 [3] true))), (1, .val (.int .i64) .leaf), (5, .val (.int .i64) .leaf)], 4⟩ | _ => none
def u_laws_markDeedS (k : Nat) : List (FuncId × MCon) := (13, ⟨(.sl tDeed), F_laws_markDeedS k⟩) :: (u_laws_markAlarmS k)
theorem w_laws_markDeedS (k : Nat) : AllMM Try.prog (u_laws_markDeedS k) := AllMM.ev TTok mixed (m_laws_markText k) (w_laws_markAlarmS k) la_laws_markDeedS nA k Try.func13 (by kernel_rfl) (fun x n => by kernel_rfl)
end Vg.Try
