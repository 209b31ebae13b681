/- What the functions compute is what the evaluator says; their contracts. -/
import Derived.Test.YtmoafmclhokdaaaE1
namespace Vg.Try
open Go Vg Go.Proofs
set_option linter.unusedVariables false
set_option maxRecDepth 1000000
def t_impl_in (k : Nat) : List (FuncId × Con) := (86, ⟨[.val (.int .i64) .leaf, .val (.int .i64) .leaf, .val (.int .i64) .leaf], [.val .bool .leaf], F_impl_in k, []⟩) :: (t_spec_DrawWantsGroups k)
theorem m_impl_in (k : Nat) : AllM Try.prog (t_impl_in k) := AllM.ev TTok mixed (m_spec_DrawWantsGroups k) nA nA k Try.func86 (by kernel_rfl) (fun x => by kernel_rfl)
def la_impl_NameOk : Nat → Option Ann := fun | 4 => some ⟨[(0, .val .str .leaf), (3, .val (.int .i64) .leaf)], 3⟩ | _ => none
def t_impl_NameOk (k : Nat) : List (FuncId × Con) := (184, ⟨[.val .str .leaf], [.val .bool .leaf], F_impl_NameOk k, []⟩) :: (t_impl_in k)
theorem m_impl_NameOk (k : Nat) : AllM Try.prog (t_impl_NameOk k) := AllM.ev TTok mixed (m_impl_in k) la_impl_NameOk nA k Try.func184 (by kernel_rfl) (fun x => by kernel_rfl)
def la_impl_PlainOk : Nat → Option Ann := fun | 4 => some ⟨[(0, .val .str .leaf), (3, .val (.int .i64) .leaf)], 3⟩ | _ => none
def t_impl_PlainOk (k : Nat) : List (FuncId × Con) := (149, ⟨[.val .str .leaf], [.val .bool .leaf], F_impl_PlainOk k, []⟩) :: (t_impl_NameOk k)
theorem m_impl_PlainOk (k : Nat) : AllM Try.prog (t_impl_PlainOk k) := AllM.ev TTok mixed (m_impl_NameOk k) la_impl_PlainOk nA k Try.func149 (by kernel_rfl) (fun x => by kernel_rfl)
def t_impl_LabelOk (k : Nat) : List (FuncId × Con) := (150, ⟨[.val tLabel (.pair .leaf .leaf)], [.val .bool .leaf], F_impl_LabelOk k, []⟩) :: (t_impl_PlainOk k)
theorem m_impl_LabelOk (k : Nat) : AllM Try.prog (t_impl_LabelOk k) := AllM.ev TTok mixed (m_impl_PlainOk k) nA nA k Try.func150 (by kernel_rfl) (fun x => by kernel_rfl)
def la_impl_SetOk : Nat → Option Ann := fun | 2 => some ⟨[(0, .val (.sl tLabel) (.sl (.sha [1]))), (5, .val (.sl tLabel) (.sl (.sha [1]))), (6, .val (.int .i64) .leaf), (7, .val (.int .i64) .leaf)], 3⟩ | _ => none
def t_impl_SetOk (k : Nat) : List (FuncId × Con) := (89, ⟨[.val (.sl tLabel) .shr], [.val .bool .leaf], F_impl_SetOk k, []⟩) :: (t_impl_LabelOk k)
theorem m_impl_SetOk (k : Nat) : AllM Try.prog (t_impl_SetOk k) := AllM.ev TTok mixed (m_impl_LabelOk k) la_impl_SetOk nA k Try.func89 (by kernel_rfl) (fun x => by kernel_rfl)
def la_impl_SetText : Nat → Option Ann := fun | 5 => some ⟨[(3, .val (.sl .str) (.sl (.row 3 [] true))), (9, .val (.sl tLabel) (.sl (.sha [1]))), (10, .val (.int .i64) .leaf), (11, .val (.int .i64) .leaf)], 4⟩ | _ => none
def ja_impl_SetText : Nat → Option Ann := fun | 9 => some ⟨[(3, .val (.sl .str) (.sl (.row 3 [] true)))], 4⟩ | _ => none
def t_impl_SetText (k : Nat) : List (FuncId × Con) := (183, ⟨[.val (.sl tLabel) .shr], [.val .str .leaf], F_impl_SetText k, []⟩) :: (t_impl_SetOk k)
theorem m_impl_SetText (k : Nat) : AllM Try.prog (t_impl_SetText k) := AllM.ev TTok mixed (m_impl_SetOk k) la_impl_SetText ja_impl_SetText k Try.func183 (by kernel_rfl) (fun x => by kernel_rfl)
def la_impl_Sum : Nat → Option Ann := fun | 3 => some ⟨[(0, .val .str .leaf), (3, .val (.int .u32) .leaf), (4, .val (.int .i64) .leaf)], 3⟩ | _ => none
def ja_impl_Sum : Nat → Option Ann := fun | 6 => some ⟨[(3, .val (.int .u32) .leaf)], 3⟩ | _ => none
def t_impl_Sum (k : Nat) : List (FuncId × Con) := (182, ⟨[.val .str .leaf], [.val (.int .i64) .leaf], F_impl_Sum k, []⟩) :: (t_impl_SetText k)
theorem m_impl_Sum (k : Nat) : AllM Try.prog (t_impl_Sum k) := AllM.ev TTok mixed (m_impl_SetText k) la_impl_Sum ja_impl_Sum k Try.func182 (by kernel_rfl) (fun x => by kernel_rfl)
def t_impl_Finger (k : Nat) : List (FuncId × Con) := (147, ⟨[.val (.sl tLabel) .shr], [.val (.int .i64) .leaf], F_impl_Finger k, []⟩) :: (t_impl_Sum k)
theorem m_impl_Finger (k : Nat) : AllM Try.prog (t_impl_Finger k) := AllM.ev TTok mixed (m_impl_Sum k) nA nA k Try.func147 (by kernel_rfl) (fun x => by kernel_rfl)
def t_impl_PartOf (k : Nat) : List (FuncId × Con) := (146, ⟨[.val (.int .i64) .leaf, .val (.int .i64) .leaf], [.val (.int .i64) .leaf], F_impl_PartOf k, []⟩) :: (t_impl_Finger k)
theorem m_impl_PartOf (k : Nat) : AllM Try.prog (t_impl_PartOf k) := AllM.ev TTok mixed (m_impl_Finger k) nA nA k Try.func146 (by kernel_rfl) (fun x => by kernel_rfl)
def t_impl_partAt (k : Nat) : List (FuncId × Con) := (85, ⟨[.val tTask (.pair .leaf (.pair .leaf (.pair q38 (.pair .shr (.pair .leaf q39))))), .val (.int .i64) .leaf, .val .bool .leaf], [.val (.int .i64) .leaf], F_impl_partAt k, []⟩) :: (t_impl_PartOf k)
theorem m_impl_partAt (k : Nat) : AllM Try.prog (t_impl_partAt k) := AllM.ev TTok mixed (m_impl_PartOf k) nA nA k Try.func85 (by kernel_rfl) (fun x => by kernel_rfl)
def t_impl_HoldsPart (k : Nat) : List (FuncId × Con) := (22, ⟨[.val tTask (.pair .leaf (.pair .leaf (.pair q38 (.pair .shr (.pair .leaf q39))))), .val (.int .i64) .leaf], [.val (.int .i64) .leaf], F_impl_HoldsPart k, []⟩) :: (t_impl_partAt k)
theorem m_impl_HoldsPart (k : Nat) : AllM Try.prog (t_impl_HoldsPart k) := AllM.ev TTok mixed (m_impl_partAt k) nA nA k Try.func22 (by kernel_rfl) (fun x => by kernel_rfl)
def la_impl_SameSet : Nat → Option Ann := fun | 4 => some ⟨[(0, .val (.sl tLabel) (.sl (.sha [1]))), (1, .val (.sl tLabel) (.sl (.sha [1]))), (12, .val (.int .i64) .leaf), (13, .val (.int .i64) .leaf)], 3⟩ | _ => none
def t_impl_SameSet (k : Nat) : List (FuncId × Con) := (115, ⟨[.val (.sl tLabel) .shr, .val (.sl tLabel) .shr], [.val .bool .leaf], F_impl_SameSet k, []⟩) :: (t_impl_HoldsPart k)
theorem m_impl_SameSet (k : Nat) : AllM Try.prog (t_impl_SameSet k) := AllM.ev TTok mixed (m_impl_HoldsPart k) la_impl_SameSet nA k Try.func115 (by kernel_rfl) (fun x => by kernel_rfl)
def t_impl_SameAlarm (k : Nat) : List (FuncId × Con) := (50, ⟨[.val tAlarm q38, .val tAlarm q38], [.val .bool .leaf], F_impl_SameAlarm k, []⟩) :: (t_impl_SameSet k)
theorem m_impl_SameAlarm (k : Nat) : AllM Try.prog (t_impl_SameAlarm k) := AllM.ev TTok mixed (m_impl_SameSet k) nA nA k Try.func50 (by kernel_rfl) (fun x => by kernel_rfl)
def la_impl_sameInts : Nat → Option Ann := fun | 4 => some ⟨[(0, .val (.sl (.int .i64)) (.sl (.sha [1]))), (1, .val (.sl (.int .i64)) (.sl (.sha [1]))), (12, .val (.int .i64) .leaf), (13, .val (.int .i64) .leaf)], 3⟩ | _ => none
def t_impl_sameInts (k : Nat) : List (FuncId × Con) := (148, ⟨[.val (.sl (.int .i64)) .shr, .val (.sl (.int .i64)) .shr], [.val .bool .leaf], F_impl_sameInts k, []⟩) :: (t_impl_SameAlarm k)
theorem m_impl_sameInts (k : Nat) : AllM Try.prog (t_impl_sameInts k) := AllM.ev TTok mixed (m_impl_SameAlarm k) la_impl_sameInts nA k Try.func148 (by kernel_rfl) (fun x => by kernel_rfl)
def la_impl_sameAlarms : Nat → Option Ann := fun | 4 => some ⟨[(0, .val (.sl tAlarm) (.sl (.sha [1]))), (1, .val (.sl tAlarm) (.sl (.sha [1]))), (12, .val (.int .i64) .leaf), (13, .val (.int .i64) .leaf)], 3⟩ | _ => none
def t_impl_sameAlarms (k : Nat) : List (FuncId × Con) := (116, ⟨[.val (.sl tAlarm) .shr, .val (.sl tAlarm) .shr], [.val .bool .leaf], F_impl_sameAlarms k, []⟩) :: (t_impl_sameInts k)
theorem m_impl_sameAlarms (k : Nat) : AllM Try.prog (t_impl_sameAlarms k) := AllM.ev TTok mixed (m_impl_sameInts k) la_impl_sameAlarms nA k Try.func116 (by kernel_rfl) (fun x => by kernel_rfl)
def t_impl_sameTask (k : Nat) : List (FuncId × Con) := (87, ⟨[.val tTask (.pair .leaf (.pair .leaf (.pair q38 (.pair .shr (.pair .leaf q39))))), .val tTask (.pair .leaf (.pair .leaf (.pair q38 (.pair .shr (.pair .leaf q39)))))], [.val .bool .leaf], F_impl_sameTask k, []⟩) :: (t_impl_sameAlarms k)
theorem m_impl_sameTask (k : Nat) : AllM Try.prog (t_impl_sameTask k) := AllM.ev TTok mixed (m_impl_sameAlarms k) nA nA k Try.func87 (by kernel_rfl) (fun x => by kernel_rfl)
def t_impl_AlarmOk (k : Nat) : List (FuncId × Con) := (88, ⟨[.val tAlarm q38], [.val .bool .leaf], F_impl_AlarmOk k, []⟩) :: (t_impl_sameTask k)
theorem m_impl_AlarmOk (k : Nat) : AllM Try.prog (t_impl_AlarmOk k) := AllM.ev TTok mixed (m_impl_sameTask k) nA nA k Try.func88 (by kernel_rfl) (fun x => by kernel_rfl)
def la_impl_alarmsOk : Nat → Option Ann := fun | 2 => some ⟨[(5, .val (.sl tAlarm) (.sl (.sha [1]))), (6, .val (.int .i64) .leaf), (7, .val (.int .i64) .leaf)], 3⟩ | _ => none
def t_impl_alarmsOk (k : Nat) : List (FuncId × Con) := (151, ⟨[.val (.sl tAlarm) .shr], [.val .bool .leaf], F_impl_alarmsOk k, []⟩) :: (t_impl_AlarmOk k)
theorem m_impl_alarmsOk (k : Nat) : AllM Try.prog (t_impl_alarmsOk k) := AllM.ev TTok mixed (m_impl_AlarmOk k) la_impl_alarmsOk nA k Try.func151 (by kernel_rfl) (fun x => by kernel_rfl)
def la_impl_snapOk : Nat → Option Ann := fun | 2 => some ⟨[(1, .box 3 tTask (.pair .leaf (.pair .leaf (.pair h45 (.pair (.sl (.sha [1])) (.pair .leaf (.pair (.sl (.sha [1])) h46))))))), (6, .val (.sl (.int .i64)) (.sl (.sha [1]))), (7, .val (.int .i64) .leaf), (8, .val (.int .i64) .leaf)], 4⟩ | _ => none
def ja_impl_snapOk : Nat → Option Ann := fun | 7 => some ⟨[(1, .box 3 tTask (.pair .leaf (.pair .leaf (.pair h45 (.pair (.sl (.sha [1])) (.pair .leaf (.pair (.sl (.sha [1])) h46)))))))], 4⟩ | _ => none
def t_impl_snapOk (k : Nat) : List (FuncId × Con) := (90, ⟨[.val tTask (.pair .leaf (.pair .leaf (.pair q38 (.pair .shr (.pair .leaf q39)))))], [.val .bool .leaf], F_impl_snapOk k, []⟩) :: (t_impl_alarmsOk k)
theorem m_impl_snapOk (k : Nat) : AllM Try.prog (t_impl_snapOk k) := AllM.ev TTok mixed (m_impl_alarmsOk k) la_impl_snapOk ja_impl_snapOk k Try.func90 (by kernel_rfl) (fun x => by kernel_rfl)
def ja_impl_TaskOk : Nat → Option Ann := fun | 25 => some ⟨[(2, .box 3 tTask (.pair .leaf (.pair .leaf (.pair h45 (.pair (.sl (.sha [1])) (.pair .leaf (.pair (.sl (.sha [1])) h46))))))), (5, .box 4 tTask (.pair .leaf (.pair .leaf (.pair h45 (.pair (.sl (.sha [1])) (.pair .leaf (.pair (.sl (.sha [1])) h46))))))), (6, .val .bool .leaf), (7, .val (.int .i64) .leaf)], 5⟩ | _ => none
def t_impl_TaskOk (k : Nat) : List (FuncId × Con) := (23, ⟨[.val tTask (.pair .leaf (.pair .leaf (.pair q38 (.pair .shr (.pair .leaf q39))))), .val (.int .i64) .leaf], [.val .bool .leaf], F_impl_TaskOk k, []⟩) :: (t_impl_snapOk k)
theorem m_impl_TaskOk (k : Nat) : AllM Try.prog (t_impl_TaskOk k) := AllM.ev TTok mixed (m_impl_snapOk k) nA ja_impl_TaskOk k Try.func23 (by kernel_rfl) (fun x => by kernel_rfl)
def t_spec_l1In (k : Nat) : List (FuncId × Con) := (91, ⟨[.val (.int .i64) .leaf, .val (.int .i64) .leaf, .val (.int .i64) .leaf], [.val .bool .leaf], F_spec_l1In k, []⟩) :: (t_impl_TaskOk k)
theorem m_spec_l1In (k : Nat) : AllM Try.prog (t_spec_l1In k) := AllM.ev TTok mixed (m_impl_TaskOk k) nA nA k Try.func91 (by kernel_rfl) (fun x => by kernel_rfl)
def la_spec_NameOk : Nat → Option Ann := fun | 2 => some ⟨[(0, .val .str .leaf), (3, .val (.int .i64) .leaf)], 3⟩ | _ => none
def ja_spec_NameOk : Nat → Option Ann := fun | 6 => some ⟨[(0, .val .str .leaf)], 3⟩ | _ => none
def t_spec_NameOk (k : Nat) : List (FuncId × Con) := (185, ⟨[.val .str .leaf], [.val .bool .leaf], F_spec_NameOk k, []⟩) :: (t_spec_l1In k)
theorem m_spec_NameOk (k : Nat) : AllM Try.prog (t_spec_NameOk k) := AllM.ev TTok mixed (m_spec_l1In k) la_spec_NameOk ja_spec_NameOk k Try.func185 (by kernel_rfl) (fun x => by kernel_rfl)
def la_spec_PlainOk : Nat → Option Ann := fun | 2 => some ⟨[(0, .val .str .leaf), (3, .val (.int .i64) .leaf)], 3⟩ | _ => none
def ja_spec_PlainOk : Nat → Option Ann := fun | 6 => some ⟨[(0, .val .str .leaf)], 3⟩ | _ => none
def t_spec_PlainOk (k : Nat) : List (FuncId × Con) := (153, ⟨[.val .str .leaf], [.val .bool .leaf], F_spec_PlainOk k, []⟩) :: (t_spec_NameOk k)
theorem m_spec_PlainOk (k : Nat) : AllM Try.prog (t_spec_PlainOk k) := AllM.ev TTok mixed (m_spec_NameOk k) la_spec_PlainOk ja_spec_PlainOk k Try.func153 (by kernel_rfl) (fun x => by kernel_rfl)
def t_spec_LabelOk (k : Nat) : List (FuncId × Con) := (154, ⟨[.val tLabel (.pair .leaf .leaf)], [.val .bool .leaf], F_spec_LabelOk k, []⟩) :: (t_spec_PlainOk k)
theorem m_spec_LabelOk (k : Nat) : AllM Try.prog (t_spec_LabelOk k) := AllM.ev TTok mixed (m_spec_PlainOk k) nA nA k Try.func154 (by kernel_rfl) (fun x => by kernel_rfl)
def t_spec_Less (k : Nat) : List (FuncId × Con) := (155, ⟨[.val .str .leaf, .val .str .leaf], [.val .bool .leaf], F_spec_Less k, []⟩) :: (t_spec_LabelOk k)
theorem m_spec_Less (k : Nat) : AllM Try.prog (t_spec_Less k) := AllM.ev TTok mixed (m_spec_LabelOk k) nA nA k Try.func155 (by kernel_rfl) (fun x => by kernel_rfl)
end Vg.Try
