/- What the functions compute is what the evaluator says; their contracts. -/
import Derived.Test.YtmoafmclhokdaaaE3
namespace Vg.Try
open Go Vg Go.Proofs
set_option linter.unusedVariables false
set_option maxRecDepth 1000000
def la_impl_PlainOk : Nat → Option Ann := fun | 4 => some ⟨[(0, .val .str .leaf), (3, .val (.int .i64) .leaf)], 3⟩ | _ => none
def t_impl_PlainOk (k : Nat) : List (FuncId × Con) := (149, ⟨[.val .str .leaf], [.val .bool .leaf], F_impl_PlainOk k, []⟩) :: (t_impl_NameOk k)
theorem m_impl_PlainOk (k : Nat) : AllM Try.prog (t_impl_PlainOk k) := AllM.ev TTok mixed (m_impl_NameOk k) la_impl_PlainOk nA k Try.func149 (by kernel_rfl) (fun x => by kernel_rfl)
def t_impl_LabelOk (k : Nat) : List (FuncId × Con) := (150, ⟨[.val tLabel (.pair .leaf .leaf)], [.val .bool .leaf], F_impl_LabelOk k, []⟩) :: (t_impl_PlainOk k)
theorem m_impl_LabelOk (k : Nat) : AllM Try.prog (t_impl_LabelOk k) := AllM.ev TTok mixed (m_impl_PlainOk k) nA nA k Try.func150 (by kernel_rfl) (fun x => by kernel_rfl)
def la_impl_SetOk : Nat → Option Ann := fun | 2 => some ⟨[(0, .val (.sl tLabel) (.sl (.sha [1]))), (5, .val (.sl tLabel) (.sl (.sha [1]))), (6, .val (.int .i64) .leaf), (7, .val (.int .i64) .leaf)], 3⟩ | _ => none
def t_impl_SetOk (k : Nat) : List (FuncId × Con) := (89, ⟨[.val (.sl tLabel) .shr], [.val .bool .leaf], F_impl_SetOk k, []⟩) :: (t_impl_LabelOk k)
theorem m_impl_SetOk (k : Nat) : AllM Try.prog (t_impl_SetOk k) := AllM.ev TTok mixed (m_impl_LabelOk k) la_impl_SetOk nA k Try.func89 (by kernel_rfl) (fun x => by kernel_rfl)
def t_impl_AlarmOk (k : Nat) : List (FuncId × Con) := (88, ⟨[.val tAlarm q2], [.val .bool .leaf], F_impl_AlarmOk k, []⟩) :: (t_impl_SetOk k)
theorem m_impl_AlarmOk (k : Nat) : AllM Try.prog (t_impl_AlarmOk k) := AllM.ev TTok mixed (m_impl_SetOk k) nA nA k Try.func88 (by kernel_rfl) (fun x => by kernel_rfl)
def la_impl_keyedOk : Nat → Option Ann := fun | 2 => some ⟨[(0, .val (.sl tAlarm) (.sl (.sha [1]))), (1, .val (.sl tLabel) (.sl (.sha [1]))), (2, .val (.sl .str) (.sl (.sha [1]))), (9, .val (.sl tAlarm) (.sl (.sha [1]))), (10, .val (.int .i64) .leaf), (11, .val (.int .i64) .leaf)], 3⟩ | _ => none
def t_impl_keyedOk (k : Nat) : List (FuncId × Con) := (120, ⟨[.val (.sl tAlarm) .shr, .val (.sl tLabel) .shr, .val (.sl .str) .shr], [.val .bool .leaf], F_impl_keyedOk k, []⟩) :: (t_impl_AlarmOk k)
theorem m_impl_keyedOk (k : Nat) : AllM Try.prog (t_impl_keyedOk k) := AllM.ev TTok mixed (m_impl_AlarmOk k) la_impl_keyedOk nA k Try.func120 (by kernel_rfl) (fun x => by kernel_rfl)
def t_impl_GroupOk (k : Nat) : List (FuncId × Con) := (44, ⟨[.val tGroup (.pair .leaf q3), .val (.sl .str) .shr], [.val .bool .leaf], F_impl_GroupOk k, []⟩) :: (t_impl_keyedOk k)
theorem m_impl_GroupOk (k : Nat) : AllM Try.prog (t_impl_GroupOk k) := AllM.ev TTok mixed (m_impl_keyedOk k) nA nA k Try.func44 (by kernel_rfl) (fun x => by kernel_rfl)
def la_impl_GroupsOk : Nat → Option Ann := fun | 2 => some ⟨[(0, .val (.sl tGroup) (.sl (.sha [1]))), (1, .val (.sl .str) (.sl (.sha [1]))), (7, .val (.sl tGroup) (.sl (.sha [1]))), (8, .val (.int .i64) .leaf), (9, .val (.int .i64) .leaf)], 3⟩ | _ => none
def t_impl_GroupsOk (k : Nat) : List (FuncId × Con) := (64, ⟨[.val (.sl tGroup) .shr, .val (.sl .str) .shr], [.val .bool .leaf], F_impl_GroupsOk k, []⟩) :: (t_impl_GroupOk k)
theorem m_impl_GroupsOk (k : Nat) : AllM Try.prog (t_impl_GroupsOk k) := AllM.ev TTok mixed (m_impl_GroupOk k) la_impl_GroupsOk nA k Try.func64 (by kernel_rfl) (fun x => by kernel_rfl)
def t_spec_l1In (k : Nat) : List (FuncId × Con) := (91, ⟨[.val (.int .i64) .leaf, .val (.int .i64) .leaf, .val (.int .i64) .leaf], [.val .bool .leaf], F_spec_l1In k, []⟩) :: (t_impl_GroupsOk k)
theorem m_spec_l1In (k : Nat) : AllM Try.prog (t_spec_l1In k) := AllM.ev TTok mixed (m_impl_GroupsOk k) nA nA k Try.func91 (by kernel_rfl) (fun x => by kernel_rfl)
def la_spec_NameOk : Nat → Option Ann := fun | 2 => some ⟨[(0, .val .str .leaf), (3, .val (.int .i64) .leaf)], 3⟩ | _ => none
def ja_spec_NameOk : Nat → Option Ann := fun | 6 => some ⟨[(0, .val .str .leaf)], 3⟩ | _ => none
def t_spec_NameOk (k : Nat) : List (FuncId × Con) := (185, ⟨[.val .str .leaf], [.val .bool .leaf], F_spec_NameOk k, []⟩) :: (t_spec_l1In k)
theorem m_spec_NameOk (k : Nat) : AllM Try.prog (t_spec_NameOk k) := AllM.ev TTok mixed (m_spec_l1In k) la_spec_NameOk ja_spec_NameOk k Try.func185 (by kernel_rfl) (fun x => by kernel_rfl)
def la_spec_PlainOk : Nat → Option Ann := fun | 2 => some ⟨[(0, .val .str .leaf), (3, .val (.int .i64) .leaf)], 3⟩ | _ => none
def ja_spec_PlainOk : Nat → Option Ann := fun | 6 => some ⟨[(0, .val .str .leaf)], 3⟩ | _ => none
def t_spec_PlainOk (k : Nat) : List (FuncId × Con) := (153, ⟨[.val .str .leaf], [.val .bool .leaf], F_spec_PlainOk k, []⟩) :: (t_spec_NameOk k)
theorem m_spec_PlainOk (k : Nat) : AllM Try.prog (t_spec_PlainOk k) := AllM.ev TTok mixed (m_spec_NameOk k) la_spec_PlainOk ja_spec_PlainOk k Try.func153 (by kernel_rfl) (fun x => by kernel_rfl)
def t_spec_LabelOk (k : Nat) : List (FuncId × Con) := (154, ⟨[.val tLabel (.pair .leaf .leaf)], [.val .bool .leaf], F_spec_LabelOk k, []⟩) :: (t_spec_PlainOk k)
theorem m_spec_LabelOk (k : Nat) : AllM Try.prog (t_spec_LabelOk k) := AllM.ev TTok mixed (m_spec_PlainOk k) nA nA k Try.func154 (by kernel_rfl) (fun x => by kernel_rfl)
def la_spec_SetOk : Nat → Option Ann := fun | 2 => some ⟨[(0, .val (.sl tLabel) (.sl (.sha [1]))), (3, .val (.int .i64) .leaf)], 3⟩ | _ => none
def ja_spec_SetOk : Nat → Option Ann := fun | 6 => some ⟨[(0, .val (.sl tLabel) (.sl (.sha [1])))], 3⟩ | _ => none
def t_spec_SetOk (k : Nat) : List (FuncId × Con) := (95, ⟨[.val (.sl tLabel) .shr], [.val .bool .leaf], F_spec_SetOk k, []⟩) :: (t_spec_LabelOk k)
theorem m_spec_SetOk (k : Nat) : AllM Try.prog (t_spec_SetOk k) := AllM.ev TTok mixed (m_spec_LabelOk k) la_spec_SetOk ja_spec_SetOk k Try.func95 (by kernel_rfl) (fun x => by kernel_rfl)
def t_spec_AlarmOk (k : Nat) : List (FuncId × Con) := (94, ⟨[.val tAlarm q2], [.val .bool .leaf], F_spec_AlarmOk k, []⟩) :: (t_spec_SetOk k)
theorem m_spec_AlarmOk (k : Nat) : AllM Try.prog (t_spec_AlarmOk k) := AllM.ev TTok mixed (m_spec_SetOk k) nA nA k Try.func94 (by kernel_rfl) (fun x => by kernel_rfl)
def la_spec_GroupOk : Nat → Option Ann := fun | 2 => some ⟨[(1, .val (.sl .str) (.sl (.sha [1]))), (2, .box 3 tGroup (.pair .leaf (.pair (.sl (.sha [1])) h7))), (5, .val (.int .i64) .leaf)], 4⟩ | _ => none
def ja_spec_GroupOk : Nat → Option Ann := fun | 6 => some ⟨[(2, .box 3 tGroup (.pair .leaf (.pair (.sl (.sha [1])) h7)))], 4⟩ | _ => none
def t_spec_GroupOk (k : Nat) : List (FuncId × Con) := (45, ⟨[.val tGroup (.pair .leaf q3), .val (.sl .str) .shr], [.val .bool .leaf], F_spec_GroupOk k, []⟩) :: (t_spec_AlarmOk k)
theorem m_spec_GroupOk (k : Nat) : AllM Try.prog (t_spec_GroupOk k) := AllM.ev TTok mixed (m_spec_AlarmOk k) la_spec_GroupOk ja_spec_GroupOk k Try.func45 (by kernel_rfl) (fun x => by kernel_rfl)
def la_spec_GroupsOk : Nat → Option Ann := fun | 2 => some ⟨[(0, .val (.sl tGroup) (.sl (.sha [1]))), (1, .val (.sl .str) (.sl (.sha [1]))), (5, .val (.int .i64) .leaf)], 3⟩ | 7 => some ⟨[(0, .val (.sl tGroup) (.sl (.sha [1]))), (1, .val (.sl .str) (.sl (.sha [1]))), (5, .val (.int .i64) .leaf), (6, .val (.int .i64) .leaf)], 3⟩ | _ => none
def ja_spec_GroupsOk : Nat → Option Ann := fun | 11 => some ⟨[(0, .val (.sl tGroup) (.sl (.sha [1])))], 3⟩ | _ => none
def t_spec_GroupsOk (k : Nat) : List (FuncId × Con) := (65, ⟨[.val (.sl tGroup) .shr, .val (.sl .str) .shr], [.val .bool .leaf], F_spec_GroupsOk k, []⟩) :: (t_spec_GroupOk k)
theorem m_spec_GroupsOk (k : Nat) : AllM Try.prog (t_spec_GroupsOk k) := AllM.ev TTok mixed (m_spec_GroupOk k) la_spec_GroupsOk ja_spec_GroupsOk k Try.func65 (by kernel_rfl) (fun x => by kernel_rfl)
def la_impl_MemberOf : Nat → Option Ann := fun | 2 => some ⟨[(1, .val (.sl tLabel) (.sl (.sha [1]))), (7, .val (.sl tGroup) (.sl (.sha [1]))), (8, .val (.int .i64) .leaf), (9, .val (.int .i64) .leaf)], 3⟩ | _ => none
def t_impl_MemberOf (k : Nat) : List (FuncId × Con) := (70, ⟨[.val (.sl tGroup) .shr, .val (.sl tLabel) .shr], [.val (.int .i64) .leaf], F_impl_MemberOf k, []⟩) :: (t_spec_GroupsOk k)
theorem m_impl_MemberOf (k : Nat) : AllM Try.prog (t_impl_MemberOf k) := AllM.ev TTok mixed (m_spec_GroupsOk k) la_impl_MemberOf nA k Try.func70 (by kernel_rfl) (fun x => by kernel_rfl)
def la_spec_MemberOf : Nat → Option Ann := fun | 2 => some ⟨[(0, .val (.sl tGroup) (.sl (.sha [1]))), (1, .val (.sl tLabel) (.sl (.sha [1]))), (5, .val (.int .i64) .leaf)], 3⟩ | 5 => some ⟨[(0, .val (.sl tGroup) (.sl (.sha [1]))), (1, .val (.sl tLabel) (.sl (.sha [1]))), (5, .val (.int .i64) .leaf), (6, .val (.int .i64) .leaf)], 3⟩ | _ => none
def t_spec_MemberOf (k : Nat) : List (FuncId × Con) := (71, ⟨[.val (.sl tGroup) .shr, .val (.sl tLabel) .shr], [.val (.int .i64) .leaf], F_spec_MemberOf k, []⟩) :: (t_impl_MemberOf k)
theorem m_spec_MemberOf (k : Nat) : AllM Try.prog (t_spec_MemberOf k) := AllM.ev TTok mixed (m_impl_MemberOf k) la_spec_MemberOf nA k Try.func71 (by kernel_rfl) (fun x => by kernel_rfl)
def t_laws_FnGroups (k : Nat) : List (FuncId × Con) := (6, ⟨[.val (.sl (.int .u8)) .shr], [.val .bool .leaf], F_laws_FnGroups k, []⟩) :: (t_spec_MemberOf k)
theorem m_laws_FnGroups (k : Nat) : AllM Try.prog (t_laws_FnGroups k) := AllM.ev TTok mixed (m_spec_MemberOf k) nA nA k Try.func6 (by kernel_rfl) (fun x => by kernel_rfl)
end Vg.Try
