/- What the functions compute is what the evaluator says; their contracts. -/
import Derived.Test.YtmoafmclhokdaaaE2
namespace Vg.Try
open Go Vg Go.Proofs
set_option linter.unusedVariables false
set_option maxRecDepth 1000000
def t_impl_JoinIn (k : Nat) : List (FuncId × Con) := (33, ⟨[.val tGroup (.pair .leaf q3), .val tAlarm q2], [.val tGroup (.pair .leaf q5)], F_impl_JoinIn k, []⟩) :: (t_impl_inserted k)
theorem m_impl_JoinIn (k : Nat) : AllM Try.prog (t_impl_JoinIn k) := AllM.ev TTok mixed (m_impl_inserted k) nA nA k Try.func33 (by kernel_rfl) (fun x => by kernel_rfl)
def t_impl_JoinAll (k : Nat) : List (FuncId × Con) := (54, ⟨[.val (.sl tGroup) .shr, .val tAlarm q2, .val (.sl .str) .shr, .val (.int .i64) .leaf, .val (.int .i64) .leaf], [.val (.sl tGroup) .own, .val .bool .leaf], F_impl_JoinAll k, []⟩) :: (t_impl_JoinIn k)
theorem m_impl_JoinAll (k : Nat) : AllM Try.prog (t_impl_JoinAll k) := AllM.ev TTok mixed (m_impl_JoinIn k) nA nA k Try.func54 (by kernel_rfl) (fun x => by kernel_rfl)
def t_spec_DrawFlushAt (k : Nat) : List (FuncId × Con) := (56, ⟨[.val (.sl (.int .u8)) .shr], [.val (.sl tGroup) .own, .val (.int .i64) .leaf, .val (.int .i64) .leaf], F_spec_DrawFlushAt k, []⟩) :: (t_impl_JoinAll k)
theorem m_spec_DrawFlushAt (k : Nat) : AllM Try.prog (t_spec_DrawFlushAt k) := AllM.evM TTok mixed (m_impl_JoinAll k) (show AllMM Try.prog [] from trivial) nA nA k Try.func56 (by kernel_rfl) (fun x => by kernel_rfl)
def la_impl_GroupAt : Nat → Option Ann := fun | 2 => some ⟨[(1, .val (.int .i64) .leaf), (7, .val (.sl tGroup) (.sl (.sha [1]))), (8, .val (.int .i64) .leaf), (9, .val (.int .i64) .leaf)], 3⟩ | _ => none
def t_impl_GroupAt (k : Nat) : List (FuncId × Con) := (68, ⟨[.val (.sl tGroup) .shr, .val (.int .i64) .leaf], [.val (.int .i64) .leaf], F_impl_GroupAt k, []⟩) :: (t_spec_DrawFlushAt k)
theorem m_impl_GroupAt (k : Nat) : AllM Try.prog (t_impl_GroupAt k) := AllM.ev TTok mixed (m_spec_DrawFlushAt k) la_impl_GroupAt nA k Try.func68 (by kernel_rfl) (fun x => by kernel_rfl)
def t_impl_Over (k : Nat) : List (FuncId × Con) := (51, ⟨[.val tAlarm q2, .val (.int .i64) .leaf], [.val .bool .leaf], F_impl_Over k, []⟩) :: (t_impl_GroupAt k)
theorem m_impl_Over (k : Nat) : AllM Try.prog (t_impl_Over k) := AllM.ev TTok mixed (m_impl_GroupAt k) nA nA k Try.func51 (by kernel_rfl) (fun x => by kernel_rfl)
def la_impl_Swept : Nat → Option Ann := fun | 3 => some ⟨[(1, .val (.int .i64) .leaf), (5, .val (.sl tAlarm) (.sl (.row 3 [3] true))), (8, .val (.sl tAlarm) (.sl (.sha [1]))), (9, .val (.int .i64) .leaf), (10, .val (.int .i64) .leaf)], 4⟩ | _ => none
def t_impl_Swept (k : Nat) : List (FuncId × Con) := (107, ⟨[.val (.sl tAlarm) .shr, .val (.int .i64) .leaf], [.val (.sl tAlarm) .own], F_impl_Swept k, []⟩) :: (t_impl_Over k)
theorem m_impl_Swept (k : Nat) : AllM Try.prog (t_impl_Swept k) := AllM.ev TTok mixed (m_impl_Over k) la_impl_Swept nA k Try.func107 (by kernel_rfl) (fun x => by kernel_rfl)
def t_impl_Flush (k : Nat) : List (FuncId × Con) := (35, ⟨[.val tGroup (.pair .leaf q3), .val (.int .i64) .leaf], [.val tGroup (.pair .leaf q5), .val tBatch q23], F_impl_Flush k, []⟩) :: (t_impl_Swept k)
theorem m_impl_Flush (k : Nat) : AllM Try.prog (t_impl_Flush k) := AllM.ev TTok mixed (m_impl_Swept k) nA nA k Try.func35 (by kernel_rfl) (fun x => by kernel_rfl)
def t_impl_FlushAt (k : Nat) : List (FuncId × Con) := (57, ⟨[.val (.sl tGroup) .shr, .val (.int .i64) .leaf, .val (.int .i64) .leaf], [.val (.sl tGroup) .own, .val tBatch q23, .val .bool .leaf], F_impl_FlushAt k, []⟩) :: (t_impl_Flush k)
theorem m_impl_FlushAt (k : Nat) : AllM Try.prog (t_impl_FlushAt k) := AllM.evM TTok mixed (m_impl_Flush k) (show AllMM Try.prog [] from trivial) nA nA k Try.func57 (by kernel_rfl) (fun x => by kernel_rfl)
def la_spec_GroupAt : Nat → Option Ann := fun | 2 => some ⟨[(0, .val (.sl tGroup) (.sl (.sha [1]))), (1, .val (.int .i64) .leaf), (5, .val (.int .i64) .leaf)], 3⟩ | _ => none
def t_spec_GroupAt (k : Nat) : List (FuncId × Con) := (69, ⟨[.val (.sl tGroup) .shr, .val (.int .i64) .leaf], [.val (.int .i64) .leaf], F_spec_GroupAt k, []⟩) :: (t_impl_FlushAt k)
theorem m_spec_GroupAt (k : Nat) : AllM Try.prog (t_spec_GroupAt k) := AllM.ev TTok mixed (m_impl_FlushAt k) la_spec_GroupAt nA k Try.func69 (by kernel_rfl) (fun x => by kernel_rfl)
def t_spec_Over (k : Nat) : List (FuncId × Con) := (111, ⟨[.val tAlarm q2, .val (.int .i64) .leaf], [.val .bool .leaf], F_spec_Over k, []⟩) :: (t_spec_GroupAt k)
theorem m_spec_Over (k : Nat) : AllM Try.prog (t_spec_Over k) := AllM.ev TTok mixed (m_spec_GroupAt k) nA nA k Try.func111 (by kernel_rfl) (fun x => by kernel_rfl)
def t_spec_l11Batch (k : Nat) : List (FuncId × Con) := (113, ⟨[.val tBatch q24], [.val tBatch q23], F_spec_l11Batch k, []⟩) :: (t_spec_Over k)
theorem m_spec_l11Batch (k : Nat) : AllM Try.prog (t_spec_l11Batch k) := AllM.ev TTok mixed (m_spec_Over k) nA nA k Try.func113 (by kernel_rfl) (fun x => by kernel_rfl)
def la_spec_Flush : Nat → Option Ann := fun | 5 => some ⟨[(1, .val (.int .i64) .leaf), (2, .box 3 tGroup (.pair .leaf (.pair (.sl (.sha [1])) h7))), (4, .box 4 tGroup (.pair .leaf (.pair (.sl (.sha [])) h11))), (5, .box 5 tBatch (.pair .leaf h25)), (6, .box 6 tGroup (.pair .leaf (.pair (.sl (.row 7 [7] true)) h14))), (7, .val (.int .i64) .leaf)], 9⟩ | _ => none
def ja_spec_Flush : Nat → Option Ann := fun | 10 => some ⟨[(1, .val (.int .i64) .leaf), (2, .box 3 tGroup (.pair .leaf (.pair (.sl (.sha [1])) h7))), (4, .box 4 tGroup (.pair .leaf (.pair (.sl (.sha [])) h11))), (5, .box 5 tBatch (.pair .leaf h25)), (6, .box 6 tGroup (.pair .leaf (.pair (.sl (.row 7 [7] true)) h14)))], 9⟩ | _ => none
def t_spec_Flush (k : Nat) : List (FuncId × Con) := (36, ⟨[.val tGroup (.pair .leaf q3), .val (.int .i64) .leaf], [.val tGroup (.pair .leaf q5), .val tBatch q23], F_spec_Flush k, []⟩) :: (t_spec_l11Batch k)
theorem m_spec_Flush (k : Nat) : AllM Try.prog (t_spec_Flush k) := AllM.ev TTok mixed (m_spec_l11Batch k) la_spec_Flush ja_spec_Flush k Try.func36 (by kernel_rfl) (fun x => by kernel_rfl)
def t_spec_FlushAt (k : Nat) : List (FuncId × Con) := (58, ⟨[.val (.sl tGroup) .shr, .val (.int .i64) .leaf, .val (.int .i64) .leaf], [.val (.sl tGroup) .own, .val tBatch q23, .val .bool .leaf], F_spec_FlushAt k, []⟩) :: (t_spec_Flush k)
theorem m_spec_FlushAt (k : Nat) : AllM Try.prog (t_spec_FlushAt k) := AllM.evM TTok mixed (m_spec_Flush k) (show AllMM Try.prog [] from trivial) nA nA k Try.func58 (by kernel_rfl) (fun x => by kernel_rfl)
def t_spec_DrawGroupsOk (k : Nat) : List (FuncId × Con) := (59, ⟨[.val (.sl (.int .u8)) .shr], [.val (.sl tGroup) .own, .val (.sl .str) .own], F_spec_DrawGroupsOk k, []⟩) :: (t_spec_FlushAt k)
theorem m_spec_DrawGroupsOk (k : Nat) : AllM Try.prog (t_spec_DrawGroupsOk k) := AllM.ev TTok mixed (m_spec_FlushAt k) nA nA k Try.func59 (by kernel_rfl) (fun x => by kernel_rfl)
def t_spec_DrawGroupOf (k : Nat) : List (FuncId × Con) := (60, ⟨[.val (.sl (.int .u8)) .shr], [.val (.sl tGroup) .own, .val (.sl tLabel) .own], F_spec_DrawGroupOf k, []⟩) :: (t_spec_DrawGroupsOk k)
theorem m_spec_DrawGroupOf (k : Nat) : AllM Try.prog (t_spec_DrawGroupOf k) := AllM.evM TTok mixed (m_spec_DrawGroupsOk k) (show AllMM Try.prog [] from trivial) nA nA k Try.func60 (by kernel_rfl) (fun x => by kernel_rfl)
def t_spec_DrawGroupAt (k : Nat) : List (FuncId × Con) := (61, ⟨[.val (.sl (.int .u8)) .shr], [.val (.sl tGroup) .own, .val (.int .i64) .leaf], F_spec_DrawGroupAt k, []⟩) :: (t_spec_DrawGroupOf k)
theorem m_spec_DrawGroupAt (k : Nat) : AllM Try.prog (t_spec_DrawGroupAt k) := AllM.ev TTok mixed (m_spec_DrawGroupOf k) nA nA k Try.func61 (by kernel_rfl) (fun x => by kernel_rfl)
def t_spec_l7Labels (k : Nat) : List (FuncId × Con) := (102, ⟨[.io tL1Cur (.pair .shr (.pair .leaf .leaf)), .val (.sl tAlarm) .shr], [.val (.sl tLabel) .own], F_spec_l7Labels k, []⟩) :: (t_spec_DrawGroupAt k)
theorem m_spec_l7Labels (k : Nat) : AllM Try.prog (t_spec_l7Labels k) := AllM.evM TTok mixed (m_spec_DrawGroupAt k) (show AllMM Try.prog [] from trivial) nA nA k Try.func102 (by kernel_rfl) (fun x => by kernel_rfl)
def t_spec_DrawMemberOf (k : Nat) : List (FuncId × Con) := (62, ⟨[.val (.sl (.int .u8)) .shr], [.val (.sl tGroup) .own, .val (.sl tLabel) .own], F_spec_DrawMemberOf k, []⟩) :: (t_spec_l7Labels k)
theorem m_spec_DrawMemberOf (k : Nat) : AllM Try.prog (t_spec_DrawMemberOf k) := AllM.ev TTok mixed (m_spec_l7Labels k) nA nA k Try.func62 (by kernel_rfl) (fun x => by kernel_rfl)
def t_impl_SameAlarm (k : Nat) : List (FuncId × Con) := (50, ⟨[.val tAlarm q2, .val tAlarm q2], [.val .bool .leaf], F_impl_SameAlarm k, []⟩) :: (t_spec_DrawMemberOf k)
theorem m_impl_SameAlarm (k : Nat) : AllM Try.prog (t_impl_SameAlarm k) := AllM.ev TTok mixed (m_spec_DrawMemberOf k) nA nA k Try.func50 (by kernel_rfl) (fun x => by kernel_rfl)
def la_impl_sameAlarms : Nat → Option Ann := fun | 4 => some ⟨[(0, .val (.sl tAlarm) (.sl (.sha [1]))), (1, .val (.sl tAlarm) (.sl (.sha [1]))), (12, .val (.int .i64) .leaf), (13, .val (.int .i64) .leaf)], 3⟩ | _ => none
def t_impl_sameAlarms (k : Nat) : List (FuncId × Con) := (116, ⟨[.val (.sl tAlarm) .shr, .val (.sl tAlarm) .shr], [.val .bool .leaf], F_impl_sameAlarms k, []⟩) :: (t_impl_SameAlarm k)
theorem m_impl_sameAlarms (k : Nat) : AllM Try.prog (t_impl_sameAlarms k) := AllM.ev TTok mixed (m_impl_SameAlarm k) la_impl_sameAlarms nA k Try.func116 (by kernel_rfl) (fun x => by kernel_rfl)
def t_impl_SameGroup (k : Nat) : List (FuncId × Con) := (41, ⟨[.val tGroup (.pair .leaf q3), .val tGroup (.pair .leaf q3)], [.val .bool .leaf], F_impl_SameGroup k, []⟩) :: (t_impl_sameAlarms k)
theorem m_impl_SameGroup (k : Nat) : AllM Try.prog (t_impl_SameGroup k) := AllM.ev TTok mixed (m_impl_sameAlarms k) nA nA k Try.func41 (by kernel_rfl) (fun x => by kernel_rfl)
def la_laws_sameGroups : Nat → Option Ann := fun | 4 => some ⟨[(0, .val (.sl tGroup) (.sl (.sha [1]))), (1, .val (.sl tGroup) (.sl (.sha [1]))), (5, .val (.int .i64) .leaf)], 3⟩ | _ => none
def t_laws_sameGroups (k : Nat) : List (FuncId × Con) := (63, ⟨[.val (.sl tGroup) .shr, .val (.sl tGroup) .shr], [.val .bool .leaf], F_laws_sameGroups k, []⟩) :: (t_impl_SameGroup k)
theorem m_laws_sameGroups (k : Nat) : AllM Try.prog (t_laws_sameGroups k) := AllM.ev TTok mixed (m_impl_SameGroup k) la_laws_sameGroups nA k Try.func63 (by kernel_rfl) (fun x => by kernel_rfl)
def t_impl_SameBatch (k : Nat) : List (FuncId × Con) := (43, ⟨[.val tBatch q24, .val tBatch q24], [.val .bool .leaf], F_impl_SameBatch k, []⟩) :: (t_laws_sameGroups k)
theorem m_impl_SameBatch (k : Nat) : AllM Try.prog (t_impl_SameBatch k) := AllM.ev TTok mixed (m_laws_sameGroups k) nA nA k Try.func43 (by kernel_rfl) (fun x => by kernel_rfl)
def t_impl_in (k : Nat) : List (FuncId × Con) := (86, ⟨[.val (.int .i64) .leaf, .val (.int .i64) .leaf, .val (.int .i64) .leaf], [.val .bool .leaf], F_impl_in k, []⟩) :: (t_impl_SameBatch k)
theorem m_impl_in (k : Nat) : AllM Try.prog (t_impl_in k) := AllM.ev TTok mixed (m_impl_SameBatch k) nA nA k Try.func86 (by kernel_rfl) (fun x => by kernel_rfl)
def la_impl_NameOk : Nat → Option Ann := fun | 4 => some ⟨[(0, .val .str .leaf), (3, .val (.int .i64) .leaf)], 3⟩ | _ => none
def t_impl_NameOk (k : Nat) : List (FuncId × Con) := (184, ⟨[.val .str .leaf], [.val .bool .leaf], F_impl_NameOk k, []⟩) :: (t_impl_in k)
theorem m_impl_NameOk (k : Nat) : AllM Try.prog (t_impl_NameOk k) := AllM.ev TTok mixed (m_impl_in k) la_impl_NameOk nA k Try.func184 (by kernel_rfl) (fun x => by kernel_rfl)
end Vg.Try
