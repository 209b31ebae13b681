/- What the functions compute is what the evaluator says; their contracts. -/
import Derived.Test.YtmoafmclhokdaaaE2
namespace Vg.Try
open Go Vg Go.Proofs
set_option linter.unusedVariables false
set_option maxRecDepth 1000000
def t_spec_DrawSameGroup (k : Nat) : List (FuncId × Con) := (38, ⟨[.val (.sl (.int .u8)) .shr], [.val tGroup (.pair .leaf q5), .val tGroup (.pair .leaf q5)], F_spec_DrawSameGroup k, []⟩) :: (t_spec_DrawGroupOk k)
theorem m_spec_DrawSameGroup (k : Nat) : AllM Try.prog (t_spec_DrawSameGroup k) := AllM.ev TTok mixed (m_spec_DrawGroupOk k) nA nA k Try.func38 (by kernel_rfl) (fun x => by kernel_rfl)
def t_spec_DrawSameBatch (k : Nat) : List (FuncId × Con) := (39, ⟨[.val (.sl (.int .u8)) .shr], [.val tBatch q23, .val tBatch q23], F_spec_DrawSameBatch k, []⟩) :: (t_spec_DrawSameGroup k)
theorem m_spec_DrawSameBatch (k : Nat) : AllM Try.prog (t_spec_DrawSameBatch k) := AllM.ev TTok mixed (m_spec_DrawSameGroup k) nA nA k Try.func39 (by kernel_rfl) (fun x => by kernel_rfl)
def t_spec_DrawNextDue (k : Nat) : List (FuncId × Con) := (40, ⟨[.val (.sl (.int .u8)) .shr], [.val tGroup (.pair .leaf q5), .val (.int .i64) .leaf, .val (.int .i64) .leaf], F_spec_DrawNextDue k, []⟩) :: (t_spec_DrawSameBatch k)
theorem m_spec_DrawNextDue (k : Nat) : AllM Try.prog (t_spec_DrawNextDue k) := AllM.ev TTok mixed (m_spec_DrawSameBatch k) nA nA k Try.func40 (by kernel_rfl) (fun x => by kernel_rfl)
def t_impl_SameAlarm (k : Nat) : List (FuncId × Con) := (50, ⟨[.val tAlarm q2, .val tAlarm q2], [.val .bool .leaf], F_impl_SameAlarm k, []⟩) :: (t_spec_DrawNextDue k)
theorem m_impl_SameAlarm (k : Nat) : AllM Try.prog (t_impl_SameAlarm k) := AllM.ev TTok mixed (m_spec_DrawNextDue k) nA nA k Try.func50 (by kernel_rfl) (fun x => by kernel_rfl)
def la_impl_sameAlarms : Nat → Option Ann := fun | 4 => some ⟨[(0, .val (.sl tAlarm) (.sl (.sha [1]))), (1, .val (.sl tAlarm) (.sl (.sha [1]))), (12, .val (.int .i64) .leaf), (13, .val (.int .i64) .leaf)], 3⟩ | _ => none
def t_impl_sameAlarms (k : Nat) : List (FuncId × Con) := (116, ⟨[.val (.sl tAlarm) .shr, .val (.sl tAlarm) .shr], [.val .bool .leaf], F_impl_sameAlarms k, []⟩) :: (t_impl_SameAlarm k)
theorem m_impl_sameAlarms (k : Nat) : AllM Try.prog (t_impl_sameAlarms k) := AllM.ev TTok mixed (m_impl_SameAlarm k) la_impl_sameAlarms nA k Try.func116 (by kernel_rfl) (fun x => by kernel_rfl)
def t_impl_SameGroup (k : Nat) : List (FuncId × Con) := (41, ⟨[.val tGroup (.pair .leaf q3), .val tGroup (.pair .leaf q3)], [.val .bool .leaf], F_impl_SameGroup k, []⟩) :: (t_impl_sameAlarms k)
theorem m_impl_SameGroup (k : Nat) : AllM Try.prog (t_impl_SameGroup k) := AllM.ev TTok mixed (m_impl_sameAlarms k) nA nA k Try.func41 (by kernel_rfl) (fun x => by kernel_rfl)
def t_impl_SameBatch (k : Nat) : List (FuncId × Con) := (43, ⟨[.val tBatch q24, .val tBatch q24], [.val .bool .leaf], F_impl_SameBatch k, []⟩) :: (t_impl_SameGroup k)
theorem m_impl_SameBatch (k : Nat) : AllM Try.prog (t_impl_SameBatch k) := AllM.ev TTok mixed (m_impl_SameGroup k) nA nA k Try.func43 (by kernel_rfl) (fun x => by kernel_rfl)
def t_impl_in (k : Nat) : List (FuncId × Con) := (86, ⟨[.val (.int .i64) .leaf, .val (.int .i64) .leaf, .val (.int .i64) .leaf], [.val .bool .leaf], F_impl_in k, []⟩) :: (t_impl_SameBatch k)
theorem m_impl_in (k : Nat) : AllM Try.prog (t_impl_in k) := AllM.ev TTok mixed (m_impl_SameBatch k) nA nA k Try.func86 (by kernel_rfl) (fun x => by kernel_rfl)
def la_impl_NameOk : Nat → Option Ann := fun | 4 => some ⟨[(0, .val .str .leaf), (3, .val (.int .i64) .leaf)], 3⟩ | _ => none
def t_impl_NameOk (k : Nat) : List (FuncId × Con) := (184, ⟨[.val .str .leaf], [.val .bool .leaf], F_impl_NameOk k, []⟩) :: (t_impl_in k)
theorem m_impl_NameOk (k : Nat) : AllM Try.prog (t_impl_NameOk k) := AllM.ev TTok mixed (m_impl_in k) la_impl_NameOk nA k Try.func184 (by kernel_rfl) (fun x => by kernel_rfl)
def la_impl_PlainOk : Nat → Option Ann := fun | 4 => some ⟨[(0, .val .str .leaf), (3, .val (.int .i64) .leaf)], 3⟩ | _ => none
def t_impl_PlainOk (k : Nat) : List (FuncId × Con) := (149, ⟨[.val .str .leaf], [.val .bool .leaf], F_impl_PlainOk k, []⟩) :: (t_impl_NameOk k)
theorem m_impl_PlainOk (k : Nat) : AllM Try.prog (t_impl_PlainOk k) := AllM.ev TTok mixed (m_impl_NameOk k) la_impl_PlainOk nA k Try.func149 (by kernel_rfl) (fun x => by kernel_rfl)
def t_impl_LabelOk (k : Nat) : List (FuncId × Con) := (150, ⟨[.val tLabel (.pair .leaf .leaf)], [.val .bool .leaf], F_impl_LabelOk k, []⟩) :: (t_impl_PlainOk k)
theorem m_impl_LabelOk (k : Nat) : AllM Try.prog (t_impl_LabelOk k) := AllM.ev TTok mixed (m_impl_PlainOk k) nA nA k Try.func150 (by kernel_rfl) (fun x => by kernel_rfl)
def la_impl_SetOk : Nat → Option Ann := fun | 2 => some ⟨[(0, .val (.sl tLabel) (.sl (.sha [1]))), (5, .val (.sl tLabel) (.sl (.sha [1]))), (6, .val (.int .i64) .leaf), (7, .val (.int .i64) .leaf)], 3⟩ | _ => none
def t_impl_SetOk (k : Nat) : List (FuncId × Con) := (89, ⟨[.val (.sl tLabel) .shr], [.val .bool .leaf], F_impl_SetOk k, []⟩) :: (t_impl_LabelOk k)
theorem m_impl_SetOk (k : Nat) : AllM Try.prog (t_impl_SetOk k) := AllM.ev TTok mixed (m_impl_LabelOk k) la_impl_SetOk nA k Try.func89 (by kernel_rfl) (fun x => by kernel_rfl)
def t_impl_AlarmOk (k : Nat) : List (FuncId × Con) := (88, ⟨[.val tAlarm q2], [.val .bool .leaf], F_impl_AlarmOk k, []⟩) :: (t_impl_SetOk k)
theorem m_impl_AlarmOk (k : Nat) : AllM Try.prog (t_impl_AlarmOk k) := AllM.ev TTok mixed (m_impl_SetOk k) nA nA k Try.func88 (by kernel_rfl) (fun x => by kernel_rfl)
def la_impl_hasText : Nat → Option Ann := fun | 2 => some ⟨[(1, .val .str .leaf), (7, .val (.sl .str) (.sl (.sha [1]))), (8, .val (.int .i64) .leaf), (9, .val (.int .i64) .leaf)], 3⟩ | _ => none
def t_impl_hasText (k : Nat) : List (FuncId × Con) := (165, ⟨[.val (.sl .str) .shr, .val .str .leaf], [.val .bool .leaf], F_impl_hasText k, []⟩) :: (t_impl_AlarmOk k)
theorem m_impl_hasText (k : Nat) : AllM Try.prog (t_impl_hasText k) := AllM.ev TTok mixed (m_impl_AlarmOk k) la_impl_hasText nA k Try.func165 (by kernel_rfl) (fun x => by kernel_rfl)
def la_impl_Project : Nat → Option Ann := fun | 3 => some ⟨[(1, .val (.sl .str) (.sl (.sha [1]))), (5, .val (.sl tLabel) (.sl (.row 3 [] true))), (8, .val (.sl tLabel) (.sl (.sha [1]))), (9, .val (.int .i64) .leaf), (10, .val (.int .i64) .leaf)], 4⟩ | _ => none
def t_impl_Project (k : Nat) : List (FuncId × Con) := (127, ⟨[.val (.sl tLabel) .shr, .val (.sl .str) .shr], [.val (.sl tLabel) .own], F_impl_Project k, []⟩) :: (t_impl_hasText k)
theorem m_impl_Project (k : Nat) : AllM Try.prog (t_impl_Project k) := AllM.ev TTok mixed (m_impl_hasText k) la_impl_Project nA k Try.func127 (by kernel_rfl) (fun x => by kernel_rfl)
def t_impl_KeyOf (k : Nat) : List (FuncId × Con) := (72, ⟨[.val tAlarm q2, .val (.sl .str) .shr], [.val (.sl tLabel) .own], F_impl_KeyOf k, []⟩) :: (t_impl_Project k)
theorem m_impl_KeyOf (k : Nat) : AllM Try.prog (t_impl_KeyOf k) := AllM.ev TTok mixed (m_impl_Project k) nA nA k Try.func72 (by kernel_rfl) (fun x => by kernel_rfl)
def la_impl_keyedOk : Nat → Option Ann := fun | 2 => some ⟨[(0, .val (.sl tAlarm) (.sl (.sha [1]))), (1, .val (.sl tLabel) (.sl (.sha [1]))), (2, .val (.sl .str) (.sl (.sha [1]))), (9, .val (.sl tAlarm) (.sl (.sha [1]))), (10, .val (.int .i64) .leaf), (11, .val (.int .i64) .leaf)], 3⟩ | _ => none
def t_impl_keyedOk (k : Nat) : List (FuncId × Con) := (120, ⟨[.val (.sl tAlarm) .shr, .val (.sl tLabel) .shr, .val (.sl .str) .shr], [.val .bool .leaf], F_impl_keyedOk k, []⟩) :: (t_impl_KeyOf k)
theorem m_impl_keyedOk (k : Nat) : AllM Try.prog (t_impl_keyedOk k) := AllM.ev TTok mixed (m_impl_KeyOf k) la_impl_keyedOk nA k Try.func120 (by kernel_rfl) (fun x => by kernel_rfl)
def t_impl_GroupOk (k : Nat) : List (FuncId × Con) := (44, ⟨[.val tGroup (.pair .leaf q3), .val (.sl .str) .shr], [.val .bool .leaf], F_impl_GroupOk k, []⟩) :: (t_impl_keyedOk k)
theorem m_impl_GroupOk (k : Nat) : AllM Try.prog (t_impl_GroupOk k) := AllM.ev TTok mixed (m_impl_keyedOk k) nA nA k Try.func44 (by kernel_rfl) (fun x => by kernel_rfl)
def t_spec_l1In (k : Nat) : List (FuncId × Con) := (91, ⟨[.val (.int .i64) .leaf, .val (.int .i64) .leaf, .val (.int .i64) .leaf], [.val .bool .leaf], F_spec_l1In k, []⟩) :: (t_impl_GroupOk k)
theorem m_spec_l1In (k : Nat) : AllM Try.prog (t_spec_l1In k) := AllM.ev TTok mixed (m_impl_GroupOk k) nA nA k Try.func91 (by kernel_rfl) (fun x => by kernel_rfl)
def la_spec_NameOk : Nat → Option Ann := fun | 2 => some ⟨[(0, .val .str .leaf), (3, .val (.int .i64) .leaf)], 3⟩ | _ => none
def ja_spec_NameOk : Nat → Option Ann := fun | 6 => some ⟨[(0, .val .str .leaf)], 3⟩ | _ => none
def t_spec_NameOk (k : Nat) : List (FuncId × Con) := (185, ⟨[.val .str .leaf], [.val .bool .leaf], F_spec_NameOk k, []⟩) :: (t_spec_l1In k)
theorem m_spec_NameOk (k : Nat) : AllM Try.prog (t_spec_NameOk k) := AllM.ev TTok mixed (m_spec_l1In k) la_spec_NameOk ja_spec_NameOk k Try.func185 (by kernel_rfl) (fun x => by kernel_rfl)
def la_spec_PlainOk : Nat → Option Ann := fun | 2 => some ⟨[(0, .val .str .leaf), (3, .val (.int .i64) .leaf)], 3⟩ | _ => none
def ja_spec_PlainOk : Nat → Option Ann := fun | 6 => some ⟨[(0, .val .str .leaf)], 3⟩ | _ => none
def t_spec_PlainOk (k : Nat) : List (FuncId × Con) := (153, ⟨[.val .str .leaf], [.val .bool .leaf], F_spec_PlainOk k, []⟩) :: (t_spec_NameOk k)
theorem m_spec_PlainOk (k : Nat) : AllM Try.prog (t_spec_PlainOk k) := AllM.ev TTok mixed (m_spec_NameOk k) la_spec_PlainOk ja_spec_PlainOk k Try.func153 (by kernel_rfl) (fun x => by kernel_rfl)
def t_spec_LabelOk (k : Nat) : List (FuncId × Con) := (154, ⟨[.val tLabel (.pair .leaf .leaf)], [.val .bool .leaf], F_spec_LabelOk k, []⟩) :: (t_spec_PlainOk k)
theorem m_spec_LabelOk (k : Nat) : AllM Try.prog (t_spec_LabelOk k) := AllM.ev TTok mixed (m_spec_PlainOk k) nA nA k Try.func154 (by kernel_rfl) (fun x => by kernel_rfl)
def la_spec_SetOk : Nat → Option Ann := fun | 2 => some ⟨[(0, .val (.sl tLabel) (.sl (.sha [1]))), (3, .val (.int .i64) .leaf)], 3⟩ | _ => none
def ja_spec_SetOk : Nat → Option Ann := fun | 6 => some ⟨[(0, .val (.sl tLabel) (.sl (.sha [1])))], 3⟩ | _ => none
def t_spec_SetOk (k : Nat) : List (FuncId × Con) := (95, ⟨[.val (.sl tLabel) .shr], [.val .bool .leaf], F_spec_SetOk k, []⟩) :: (t_spec_LabelOk k)
theorem m_spec_SetOk (k : Nat) : AllM Try.prog (t_spec_SetOk k) := AllM.ev TTok mixed (m_spec_LabelOk k) la_spec_SetOk ja_spec_SetOk k Try.func95 (by kernel_rfl) (fun x => by kernel_rfl)
def t_spec_AlarmOk (k : Nat) : List (FuncId × Con) := (94, ⟨[.val tAlarm q2], [.val .bool .leaf], F_spec_AlarmOk k, []⟩) :: (t_spec_SetOk k)
theorem m_spec_AlarmOk (k : Nat) : AllM Try.prog (t_spec_AlarmOk k) := AllM.ev TTok mixed (m_spec_SetOk k) nA nA k Try.func94 (by kernel_rfl) (fun x => by kernel_rfl)
def la_spec_GroupOk : Nat → Option Ann := fun | 2 => some ⟨[(1, .val (.sl .str) (.sl (.sha [1]))), (2, .box 3 tGroup (.pair .leaf (.pair (.sl (.sha [1])) h7))), (5, .val (.int .i64) .leaf)], 4⟩ | _ => none
def ja_spec_GroupOk : Nat → Option Ann := fun | 6 => some ⟨[(2, .box 3 tGroup (.pair .leaf (.pair (.sl (.sha [1])) h7)))], 4⟩ | _ => none
def t_spec_GroupOk (k : Nat) : List (FuncId × Con) := (45, ⟨[.val tGroup (.pair .leaf q3), .val (.sl .str) .shr], [.val .bool .leaf], F_spec_GroupOk k, []⟩) :: (t_spec_AlarmOk k)
theorem m_spec_GroupOk (k : Nat) : AllM Try.prog (t_spec_GroupOk k) := AllM.ev TTok mixed (m_spec_AlarmOk k) la_spec_GroupOk ja_spec_GroupOk k Try.func45 (by kernel_rfl) (fun x => by kernel_rfl)
end Vg.Try
