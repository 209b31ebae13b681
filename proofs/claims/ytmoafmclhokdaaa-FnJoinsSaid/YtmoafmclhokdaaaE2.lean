/- What the functions compute is what the evaluator says; their contracts. -/
import Derived.Test.YtmoafmclhokdaaaE1
namespace Vg.Try
open Go Vg Go.Proofs
set_option linter.unusedVariables false
set_option maxRecDepth 1000000
def t_spec_l1AnyPlain (k : Nat) : List (FuncId × Con) := (180, ⟨[.io tL1Cur (.pair .shr (.pair .leaf .leaf))], [.val .str .leaf], F_spec_l1AnyPlain k, []⟩) :: (t_spec_l1AnyName k)
theorem m_spec_l1AnyPlain (k : Nat) : AllM Try.prog (t_spec_l1AnyPlain k) := AllM.ev TTok mixed (m_spec_l1AnyName k) nA nA k Try.func180 (by kernel_rfl) (fun x => by kernel_rfl)
def t_spec_l2Any (k : Nat) : List (FuncId × Con) := (144, ⟨[.io tL1Cur (.pair .shr (.pair .leaf .leaf))], [.val (.sl tLabel) .own], F_spec_l2Any k, []⟩) :: (t_spec_l1AnyPlain k)
theorem m_spec_l2Any (k : Nat) : AllM Try.prog (t_spec_l2Any k) := AllM.ev TTok mixed (m_spec_l1AnyPlain k) nA nA k Try.func144 (by kernel_rfl) (fun x => by kernel_rfl)
def t_spec_l1Odd (k : Nat) : List (FuncId × Con) := (186, ⟨[.io tL1Cur (.pair .shr (.pair .leaf .leaf))], [.val (.int .i64) .leaf], F_spec_l1Odd k, []⟩) :: (t_spec_l2Any k)
theorem m_spec_l1Odd (k : Nat) : AllM Try.prog (t_spec_l1Odd k) := AllM.ev TTok mixed (m_spec_l2Any k) nA nA k Try.func186 (by kernel_rfl) (fun x => by kernel_rfl)
def t_spec_l1Raw (k : Nat) : List (FuncId × Con) := (158, ⟨[.io tL1Cur (.pair .shr (.pair .leaf .leaf))], [.val (.int .i64) .leaf], F_spec_l1Raw k, []⟩) :: (t_spec_l1Odd k)
theorem m_spec_l1Raw (k : Nat) : AllM Try.prog (t_spec_l1Raw k) := AllM.ev TTok mixed (m_spec_l1Odd k) nA nA k Try.func158 (by kernel_rfl) (fun x => by kernel_rfl)
def t_spec_l4Any (k : Nat) : List (FuncId × Con) := (143, ⟨[.io tL1Cur (.pair .shr (.pair .leaf .leaf))], [.val tAlarm q1], F_spec_l4Any k, []⟩) :: (t_spec_l1Raw k)
theorem m_spec_l4Any (k : Nat) : AllM Try.prog (t_spec_l4Any k) := AllM.ev TTok mixed (m_spec_l1Raw k) nA nA k Try.func143 (by kernel_rfl) (fun x => by kernel_rfl)
def t_spec_l11Any (k : Nat) : List (FuncId × Con) := (99, ⟨[.io tL1Cur (.pair .shr (.pair .leaf .leaf)), .val (.sl .str) .shr], [.val tGroup (.pair .leaf q5)], F_spec_l11Any k, []⟩) :: (t_spec_l4Any k)
theorem m_spec_l11Any (k : Nat) : AllM Try.prog (t_spec_l11Any k) := AllM.ev TTok mixed (m_spec_l4Any k) nA nA k Try.func99 (by kernel_rfl) (fun x => by kernel_rfl)
def t_spec_l7Labels (k : Nat) : List (FuncId × Con) := (102, ⟨[.io tL1Cur (.pair .shr (.pair .leaf .leaf)), .val (.sl tAlarm) .shr], [.val (.sl tLabel) .own], F_spec_l7Labels k, []⟩) :: (t_spec_l11Any k)
theorem m_spec_l7Labels (k : Nat) : AllM Try.prog (t_spec_l7Labels k) := AllM.evM TTok mixed (m_spec_l11Any k) (show AllMM Try.prog [] from trivial) nA nA k Try.func102 (by kernel_rfl) (fun x => by kernel_rfl)
def t_spec_DrawJoinIn (k : Nat) : List (FuncId × Con) := (32, ⟨[.val (.sl (.int .u8)) .shr], [.val tGroup (.pair .leaf q5), .val tAlarm q1], F_spec_DrawJoinIn k, []⟩) :: (t_spec_l7Labels k)
theorem m_spec_DrawJoinIn (k : Nat) : AllM Try.prog (t_spec_DrawJoinIn k) := AllM.ev TTok mixed (m_spec_l7Labels k) nA nA k Try.func32 (by kernel_rfl) (fun x => by kernel_rfl)
def t_impl_copySet (k : Nat) : List (FuncId × Con) := (108, ⟨[.val (.sl tLabel) .shr], [.val (.sl tLabel) .own], F_impl_copySet k, []⟩) :: (t_spec_DrawJoinIn k)
theorem m_impl_copySet (k : Nat) : AllM Try.prog (t_impl_copySet k) := AllM.ev TTok mixed (m_spec_DrawJoinIn k) nA nA k Try.func108 (by kernel_rfl) (fun x => by kernel_rfl)
def t_impl_copyAlarm (k : Nat) : List (FuncId × Con) := (105, ⟨[.val tAlarm q2], [.val tAlarm q1], F_impl_copyAlarm k, []⟩) :: (t_impl_copySet k)
theorem m_impl_copyAlarm (k : Nat) : AllM Try.prog (t_impl_copyAlarm k) := AllM.ev TTok mixed (m_impl_copySet k) nA nA k Try.func105 (by kernel_rfl) (fun x => by kernel_rfl)
def la_impl_copyAlarms : Nat → Option Ann := fun | 3 => some ⟨[(3, .val (.sl tAlarm) (.sl (.row 3 [3] true))), (6, .val (.sl tAlarm) (.sl (.sha [1]))), (7, .val (.int .i64) .leaf), (8, .val (.int .i64) .leaf)], 4⟩ | _ => none
def t_impl_copyAlarms (k : Nat) : List (FuncId × Con) := (109, ⟨[.val (.sl tAlarm) .shr], [.val (.sl tAlarm) .own], F_impl_copyAlarms k, []⟩) :: (t_impl_copyAlarm k)
theorem m_impl_copyAlarms (k : Nat) : AllM Try.prog (t_impl_copyAlarms k) := AllM.ev TTok mixed (m_impl_copyAlarm k) la_impl_copyAlarms nA k Try.func109 (by kernel_rfl) (fun x => by kernel_rfl)
def t_impl_copyGroup (k : Nat) : List (FuncId × Con) := (103, ⟨[.val tGroup (.pair .leaf q3)], [.val tGroup (.pair .leaf q5)], F_impl_copyGroup k, []⟩) :: (t_impl_copyAlarms k)
theorem m_impl_copyGroup (k : Nat) : AllM Try.prog (t_impl_copyGroup k) := AllM.ev TTok mixed (m_impl_copyAlarms k) nA nA k Try.func103 (by kernel_rfl) (fun x => by kernel_rfl)
def la_impl_SameSet : Nat → Option Ann := fun | 4 => some ⟨[(0, .val (.sl tLabel) (.sl (.sha [1]))), (1, .val (.sl tLabel) (.sl (.sha [1]))), (12, .val (.int .i64) .leaf), (13, .val (.int .i64) .leaf)], 3⟩ | _ => none
def t_impl_SameSet (k : Nat) : List (FuncId × Con) := (115, ⟨[.val (.sl tLabel) .shr, .val (.sl tLabel) .shr], [.val .bool .leaf], F_impl_SameSet k, []⟩) :: (t_impl_copyGroup k)
theorem m_impl_SameSet (k : Nat) : AllM Try.prog (t_impl_SameSet k) := AllM.ev TTok mixed (m_impl_copyGroup k) la_impl_SameSet nA k Try.func115 (by kernel_rfl) (fun x => by kernel_rfl)
def la_impl_labelsAt : Nat → Option Ann := fun | 2 => some ⟨[(1, .val (.sl tLabel) (.sl (.sha [1]))), (7, .val (.sl tAlarm) (.sl (.sha [1]))), (8, .val (.int .i64) .leaf), (9, .val (.int .i64) .leaf)], 3⟩ | _ => none
def t_impl_labelsAt (k : Nat) : List (FuncId × Con) := (104, ⟨[.val (.sl tAlarm) .shr, .val (.sl tLabel) .shr], [.val (.int .i64) .leaf], F_impl_labelsAt k, []⟩) :: (t_impl_SameSet k)
theorem m_impl_labelsAt (k : Nat) : AllM Try.prog (t_impl_labelsAt k) := AllM.ev TTok mixed (m_impl_SameSet k) la_impl_labelsAt nA k Try.func104 (by kernel_rfl) (fun x => by kernel_rfl)
def la_impl_SetLess : Nat → Option Ann := fun | 2 => some ⟨[(0, .val (.sl tLabel) (.sl (.sha [1]))), (1, .val (.sl tLabel) (.sl (.sha [1]))), (5, .val (.int .i64) .leaf)], 3⟩ | _ => none
def ja_impl_SetLess : Nat → Option Ann := fun | 8 => some ⟨[(0, .val (.sl tLabel) (.sl (.sha [1]))), (1, .val (.sl tLabel) (.sl (.sha [1])))], 3⟩ | _ => none
def t_impl_SetLess (k : Nat) : List (FuncId × Con) := (160, ⟨[.val (.sl tLabel) .shr, .val (.sl tLabel) .shr], [.val .bool .leaf], F_impl_SetLess k, []⟩) :: (t_impl_labelsAt k)
theorem m_impl_SetLess (k : Nat) : AllM Try.prog (t_impl_SetLess k) := AllM.ev TTok mixed (m_impl_labelsAt k) la_impl_SetLess ja_impl_SetLess k Try.func160 (by kernel_rfl) (fun x => by kernel_rfl)
def la_impl_inserted : Nat → Option Ann := fun | 2 => some ⟨[(0, .val (.sl tAlarm) (.sl (.sha [1]))), (3, .box 3 tAlarm h10), (5, .val (.int .i64) .leaf)], 4⟩ | _ => none
def ja_impl_inserted : Nat → Option Ann := fun | 4 => some ⟨[(0, .val (.sl tAlarm) (.sl (.sha [1]))), (3, .box 3 tAlarm h10), (5, .val (.int .i64) .leaf)], 4⟩ | _ => none
def t_impl_inserted (k : Nat) : List (FuncId × Con) := (106, ⟨[.val (.sl tAlarm) .shr, .val tAlarm q2], [.val (.sl tAlarm) .own], F_impl_inserted k, []⟩) :: (t_impl_SetLess k)
theorem m_impl_inserted (k : Nat) : AllM Try.prog (t_impl_inserted k) := AllM.ev TTok mixed (m_impl_SetLess k) la_impl_inserted ja_impl_inserted k Try.func106 (by kernel_rfl) (fun x => by kernel_rfl)
def t_impl_JoinIn (k : Nat) : List (FuncId × Con) := (33, ⟨[.val tGroup (.pair .leaf q3), .val tAlarm q2], [.val tGroup (.pair .leaf q5)], F_impl_JoinIn k, []⟩) :: (t_impl_inserted k)
theorem m_impl_JoinIn (k : Nat) : AllM Try.prog (t_impl_JoinIn k) := AllM.ev TTok mixed (m_impl_inserted k) nA nA k Try.func33 (by kernel_rfl) (fun x => by kernel_rfl)
def t_spec_DrawFlush (k : Nat) : List (FuncId × Con) := (34, ⟨[.val (.sl (.int .u8)) .shr], [.val tGroup (.pair .leaf q5), .val (.int .i64) .leaf], F_spec_DrawFlush k, []⟩) :: (t_impl_JoinIn k)
theorem m_spec_DrawFlush (k : Nat) : AllM Try.prog (t_spec_DrawFlush k) := AllM.ev TTok mixed (m_impl_JoinIn k) nA nA k Try.func34 (by kernel_rfl) (fun x => by kernel_rfl)
def t_impl_Over (k : Nat) : List (FuncId × Con) := (51, ⟨[.val tAlarm q2, .val (.int .i64) .leaf], [.val .bool .leaf], F_impl_Over k, []⟩) :: (t_spec_DrawFlush k)
theorem m_impl_Over (k : Nat) : AllM Try.prog (t_impl_Over k) := AllM.ev TTok mixed (m_spec_DrawFlush k) nA nA k Try.func51 (by kernel_rfl) (fun x => by kernel_rfl)
def la_impl_Swept : Nat → Option Ann := fun | 3 => some ⟨[(1, .val (.int .i64) .leaf), (5, .val (.sl tAlarm) (.sl (.row 3 [3] true))), (8, .val (.sl tAlarm) (.sl (.sha [1]))), (9, .val (.int .i64) .leaf), (10, .val (.int .i64) .leaf)], 4⟩ | _ => none
def t_impl_Swept (k : Nat) : List (FuncId × Con) := (107, ⟨[.val (.sl tAlarm) .shr, .val (.int .i64) .leaf], [.val (.sl tAlarm) .own], F_impl_Swept k, []⟩) :: (t_impl_Over k)
theorem m_impl_Swept (k : Nat) : AllM Try.prog (t_impl_Swept k) := AllM.ev TTok mixed (m_impl_Over k) la_impl_Swept nA k Try.func107 (by kernel_rfl) (fun x => by kernel_rfl)
def t_impl_Flush (k : Nat) : List (FuncId × Con) := (35, ⟨[.val tGroup (.pair .leaf q3), .val (.int .i64) .leaf], [.val tGroup (.pair .leaf q5), .val tBatch q23], F_impl_Flush k, []⟩) :: (t_impl_Swept k)
theorem m_impl_Flush (k : Nat) : AllM Try.prog (t_impl_Flush k) := AllM.ev TTok mixed (m_impl_Swept k) nA nA k Try.func35 (by kernel_rfl) (fun x => by kernel_rfl)
def t_spec_Over (k : Nat) : List (FuncId × Con) := (111, ⟨[.val tAlarm q2, .val (.int .i64) .leaf], [.val .bool .leaf], F_spec_Over k, []⟩) :: (t_impl_Flush k)
theorem m_spec_Over (k : Nat) : AllM Try.prog (t_spec_Over k) := AllM.ev TTok mixed (m_impl_Flush k) nA nA k Try.func111 (by kernel_rfl) (fun x => by kernel_rfl)
def t_spec_l11Batch (k : Nat) : List (FuncId × Con) := (113, ⟨[.val tBatch q24], [.val tBatch q23], F_spec_l11Batch k, []⟩) :: (t_spec_Over k)
theorem m_spec_l11Batch (k : Nat) : AllM Try.prog (t_spec_l11Batch k) := AllM.ev TTok mixed (m_spec_Over k) nA nA k Try.func113 (by kernel_rfl) (fun x => by kernel_rfl)
def la_spec_Flush : Nat → Option Ann := fun | 5 => some ⟨[(1, .val (.int .i64) .leaf), (2, .box 3 tGroup (.pair .leaf (.pair (.sl (.sha [1])) h7))), (4, .box 4 tGroup (.pair .leaf (.pair (.sl (.sha [])) h11))), (5, .box 5 tBatch (.pair .leaf h25)), (6, .box 6 tGroup (.pair .leaf (.pair (.sl (.row 7 [7] true)) h14))), (7, .val (.int .i64) .leaf)], 9⟩ | _ => none
def ja_spec_Flush : Nat → Option Ann := fun | 10 => some ⟨[(1, .val (.int .i64) .leaf), (2, .box 3 tGroup (.pair .leaf (.pair (.sl (.sha [1])) h7))), (4, .box 4 tGroup (.pair .leaf (.pair (.sl (.sha [])) h11))), (5, .box 5 tBatch (.pair .leaf h25)), (6, .box 6 tGroup (.pair .leaf (.pair (.sl (.row 7 [7] true)) h14)))], 9⟩ | _ => none
def t_spec_Flush (k : Nat) : List (FuncId × Con) := (36, ⟨[.val tGroup (.pair .leaf q3), .val (.int .i64) .leaf], [.val tGroup (.pair .leaf q5), .val tBatch q23], F_spec_Flush k, []⟩) :: (t_spec_l11Batch k)
theorem m_spec_Flush (k : Nat) : AllM Try.prog (t_spec_Flush k) := AllM.ev TTok mixed (m_spec_l11Batch k) la_spec_Flush ja_spec_Flush k Try.func36 (by kernel_rfl) (fun x => by kernel_rfl)
def t_spec_DrawGroupOk (k : Nat) : List (FuncId × Con) := (37, ⟨[.val (.sl (.int .u8)) .shr], [.val tGroup (.pair .leaf q5), .val (.sl .str) .own], F_spec_DrawGroupOk k, []⟩) :: (t_spec_Flush k)
theorem m_spec_DrawGroupOk (k : Nat) : AllM Try.prog (t_spec_DrawGroupOk k) := AllM.ev TTok mixed (m_spec_Flush k) nA nA k Try.func37 (by kernel_rfl) (fun x => by kernel_rfl)
end Vg.Try
