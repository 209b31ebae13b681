/- What the functions compute is what the evaluator says; their contracts. -/
import Derived.Test.YtmoafmclhokdaaaE1
namespace Vg.Try
open Go Vg Go.Proofs
set_option linter.unusedVariables false
set_option maxRecDepth 1000000
def t_spec_Together (k : Nat) : List (FuncId × Con) := (161, ⟨[.val tAlarm q2, .val tAlarm q2, .val (.sl .str) .shr], [.val .bool .leaf], F_spec_Together k, []⟩) :: (t_spec_l12Draw k)
theorem m_spec_Together (k : Nat) : AllM Try.prog (t_spec_Together k) := AllM.ev TTok mixed (m_spec_l12Draw k) nA nA k Try.func161 (by kernel_rfl) (fun x => by kernel_rfl)
def la_spec_l11Draw : Nat → Option Ann := fun | 4 => some ⟨[(0, .box 3 tL1Cur h0), (1, .val (.sl .str) (.sl (.sha [1]))), (4, .box 4 tGroup (.pair .leaf (.pair (.sl (.sha [])) h11))), (5, .box 5 tAlarm h18), (6, .box 7 tGroup (.pair .leaf (.pair (.sl (.row 8 [8] true)) (.pair .leaf h19)))), (7, .val (.int .i64) .leaf)], 10⟩ | _ => none
def ja_spec_l11Draw : Nat → Option Ann := fun | 10 => some ⟨[(0, .box 3 tL1Cur h0), (4, .box 4 tGroup (.pair .leaf (.pair (.sl (.sha [])) h11))), (5, .box 5 tAlarm h18), (6, .box 7 tGroup (.pair .leaf (.pair (.sl (.row 8 [8] true)) (.pair .leaf h19))))], 10⟩ | _ => none
def t_spec_l11Draw (k : Nat) : List (FuncId × Con) := (114, ⟨[.io tL1Cur (.pair .shr (.pair .leaf .leaf)), .val (.sl .str) .shr], [.val tGroup (.pair .leaf q5)], F_spec_l11Draw k, []⟩) :: (t_spec_Together k)
theorem m_spec_l11Draw (k : Nat) : AllM Try.prog (t_spec_l11Draw k) := AllM.ev TTok mixed (m_spec_Together k) la_spec_l11Draw ja_spec_l11Draw k Try.func114 (by kernel_rfl) (fun x => by kernel_rfl)
def t_spec_l1Names (k : Nat) : List (FuncId × Con) := (189, ⟨[.io tL1Cur (.pair .shr (.pair .leaf .leaf))], [.val .str .leaf], F_spec_l1Names k, []⟩) :: (t_spec_l11Draw k)
theorem m_spec_l1Names (k : Nat) : AllM Try.prog (t_spec_l1Names k) := AllM.ev TTok mixed (m_spec_l11Draw k) nA nA k Try.func189 (by kernel_rfl) (fun x => by kernel_rfl)
def t_spec_l1AnyName (k : Nat) : List (FuncId × Con) := (181, ⟨[.io tL1Cur (.pair .shr (.pair .leaf .leaf))], [.val .str .leaf], F_spec_l1AnyName k, []⟩) :: (t_spec_l1Names k)
theorem m_spec_l1AnyName (k : Nat) : AllM Try.prog (t_spec_l1AnyName k) := AllM.ev TTok mixed (m_spec_l1Names k) nA nA k Try.func181 (by kernel_rfl) (fun x => by kernel_rfl)
def t_spec_l1AnyPlain (k : Nat) : List (FuncId × Con) := (180, ⟨[.io tL1Cur (.pair .shr (.pair .leaf .leaf))], [.val .str .leaf], F_spec_l1AnyPlain k, []⟩) :: (t_spec_l1AnyName k)
theorem m_spec_l1AnyPlain (k : Nat) : AllM Try.prog (t_spec_l1AnyPlain k) := AllM.ev TTok mixed (m_spec_l1AnyName k) nA nA k Try.func180 (by kernel_rfl) (fun x => by kernel_rfl)
def t_spec_l2Any (k : Nat) : List (FuncId × Con) := (144, ⟨[.io tL1Cur (.pair .shr (.pair .leaf .leaf))], [.val (.sl tLabel) .own], F_spec_l2Any k, []⟩) :: (t_spec_l1AnyPlain k)
theorem m_spec_l2Any (k : Nat) : AllM Try.prog (t_spec_l2Any k) := AllM.ev TTok mixed (m_spec_l1AnyPlain k) nA nA k Try.func144 (by kernel_rfl) (fun x => by kernel_rfl)
def t_spec_l1Odd (k : Nat) : List (FuncId × Con) := (186, ⟨[.io tL1Cur (.pair .shr (.pair .leaf .leaf))], [.val (.int .i64) .leaf], F_spec_l1Odd k, []⟩) :: (t_spec_l2Any k)
theorem m_spec_l1Odd (k : Nat) : AllM Try.prog (t_spec_l1Odd k) := AllM.ev TTok mixed (m_spec_l2Any k) nA nA k Try.func186 (by kernel_rfl) (fun x => by kernel_rfl)
def t_spec_l1Raw (k : Nat) : List (FuncId × Con) := (158, ⟨[.io tL1Cur (.pair .shr (.pair .leaf .leaf))], [.val (.int .i64) .leaf], F_spec_l1Raw k, []⟩) :: (t_spec_l1Odd k)
theorem m_spec_l1Raw (k : Nat) : AllM Try.prog (t_spec_l1Raw k) := AllM.ev TTok mixed (m_spec_l1Odd k) nA nA k Try.func158 (by kernel_rfl) (fun x => by kernel_rfl)
def t_spec_l4Any (k : Nat) : List (FuncId × Con) := (143, ⟨[.io tL1Cur (.pair .shr (.pair .leaf .leaf))], [.val tAlarm q1], F_spec_l4Any k, []⟩) :: (t_spec_l1Raw k)
theorem m_spec_l4Any (k : Nat) : AllM Try.prog (t_spec_l4Any k) := AllM.ev TTok mixed (m_spec_l1Raw k) nA nA k Try.func143 (by kernel_rfl) (fun x => by kernel_rfl)
def t_spec_l11Any (k : Nat) : List (FuncId × Con) := (99, ⟨[.io tL1Cur (.pair .shr (.pair .leaf .leaf)), .val (.sl .str) .shr], [.val tGroup (.pair .leaf q5)], F_spec_l11Any k, []⟩) :: (t_spec_l4Any k)
theorem m_spec_l11Any (k : Nat) : AllM Try.prog (t_spec_l11Any k) := AllM.ev TTok mixed (m_spec_l4Any k) nA nA k Try.func99 (by kernel_rfl) (fun x => by kernel_rfl)
def t_spec_l12Any (k : Nat) : List (FuncId × Con) := (123, ⟨[.io tL1Cur (.pair .shr (.pair .leaf .leaf)), .val (.sl .str) .shr], [.val (.sl tGroup) .own], F_spec_l12Any k, []⟩) :: (t_spec_l11Any k)
theorem m_spec_l12Any (k : Nat) : AllM Try.prog (t_spec_l12Any k) := AllM.ev TTok mixed (m_spec_l11Any k) nA nA k Try.func123 (by kernel_rfl) (fun x => by kernel_rfl)
def t_spec_DrawJoinAll (k : Nat) : List (FuncId × Con) := (53, ⟨[.val (.sl (.int .u8)) .shr], [.val (.sl tGroup) .own, .val tAlarm q1, .val (.sl .str) .own, .val (.int .i64) .leaf, .val (.int .i64) .leaf], F_spec_DrawJoinAll k, []⟩) :: (t_spec_l12Any k)
theorem m_spec_DrawJoinAll (k : Nat) : AllM Try.prog (t_spec_DrawJoinAll k) := AllM.ev TTok mixed (m_spec_l12Any k) nA nA k Try.func53 (by kernel_rfl) (fun x => by kernel_rfl)
def t_impl_copySet (k : Nat) : List (FuncId × Con) := (108, ⟨[.val (.sl tLabel) .shr], [.val (.sl tLabel) .own], F_impl_copySet k, []⟩) :: (t_spec_DrawJoinAll k)
theorem m_impl_copySet (k : Nat) : AllM Try.prog (t_impl_copySet k) := AllM.ev TTok mixed (m_spec_DrawJoinAll k) nA nA k Try.func108 (by kernel_rfl) (fun x => by kernel_rfl)
def t_impl_copyAlarm (k : Nat) : List (FuncId × Con) := (105, ⟨[.val tAlarm q2], [.val tAlarm q1], F_impl_copyAlarm k, []⟩) :: (t_impl_copySet k)
theorem m_impl_copyAlarm (k : Nat) : AllM Try.prog (t_impl_copyAlarm k) := AllM.ev TTok mixed (m_impl_copySet k) nA nA k Try.func105 (by kernel_rfl) (fun x => by kernel_rfl)
def la_impl_copyAlarms : Nat → Option Ann := fun | 3 => some ⟨[(3, .val (.sl tAlarm) (.sl (.row 3 [3] true))), (6, .val (.sl tAlarm) (.sl (.sha [1]))), (7, .val (.int .i64) .leaf), (8, .val (.int .i64) .leaf)], 4⟩ | _ => none
def t_impl_copyAlarms (k : Nat) : List (FuncId × Con) := (109, ⟨[.val (.sl tAlarm) .shr], [.val (.sl tAlarm) .own], F_impl_copyAlarms k, []⟩) :: (t_impl_copyAlarm k)
theorem m_impl_copyAlarms (k : Nat) : AllM Try.prog (t_impl_copyAlarms k) := AllM.ev TTok mixed (m_impl_copyAlarm k) la_impl_copyAlarms nA k Try.func109 (by kernel_rfl) (fun x => by kernel_rfl)
def t_impl_copyGroup (k : Nat) : List (FuncId × Con) := (103, ⟨[.val tGroup (.pair .leaf q3)], [.val tGroup (.pair .leaf q5)], F_impl_copyGroup k, []⟩) :: (t_impl_copyAlarms k)
theorem m_impl_copyGroup (k : Nat) : AllM Try.prog (t_impl_copyGroup k) := AllM.ev TTok mixed (m_impl_copyAlarms k) nA nA k Try.func103 (by kernel_rfl) (fun x => by kernel_rfl)
def la_impl_copyGroups : Nat → Option Ann := fun | 3 => some ⟨[(3, .val (.sl tGroup) (.sl (.row 3 [3] true))), (6, .val (.sl tGroup) (.sl (.sha [1]))), (7, .val (.int .i64) .leaf), (8, .val (.int .i64) .leaf)], 4⟩ | _ => none
def t_impl_copyGroups (k : Nat) : List (FuncId × Con) := (124, ⟨[.val (.sl tGroup) .shr], [.val (.sl tGroup) .own], F_impl_copyGroups k, []⟩) :: (t_impl_copyGroup k)
theorem m_impl_copyGroups (k : Nat) : AllM Try.prog (t_impl_copyGroups k) := AllM.ev TTok mixed (m_impl_copyGroup k) la_impl_copyGroups nA k Try.func124 (by kernel_rfl) (fun x => by kernel_rfl)
def la_impl_hasText : Nat → Option Ann := fun | 2 => some ⟨[(1, .val .str .leaf), (7, .val (.sl .str) (.sl (.sha [1]))), (8, .val (.int .i64) .leaf), (9, .val (.int .i64) .leaf)], 3⟩ | _ => none
def t_impl_hasText (k : Nat) : List (FuncId × Con) := (165, ⟨[.val (.sl .str) .shr, .val .str .leaf], [.val .bool .leaf], F_impl_hasText k, []⟩) :: (t_impl_copyGroups k)
theorem m_impl_hasText (k : Nat) : AllM Try.prog (t_impl_hasText k) := AllM.ev TTok mixed (m_impl_copyGroups k) la_impl_hasText nA k Try.func165 (by kernel_rfl) (fun x => by kernel_rfl)
def la_impl_Project : Nat → Option Ann := fun | 3 => some ⟨[(1, .val (.sl .str) (.sl (.sha [1]))), (5, .val (.sl tLabel) (.sl (.row 3 [] true))), (8, .val (.sl tLabel) (.sl (.sha [1]))), (9, .val (.int .i64) .leaf), (10, .val (.int .i64) .leaf)], 4⟩ | _ => none
def t_impl_Project (k : Nat) : List (FuncId × Con) := (127, ⟨[.val (.sl tLabel) .shr, .val (.sl .str) .shr], [.val (.sl tLabel) .own], F_impl_Project k, []⟩) :: (t_impl_hasText k)
theorem m_impl_Project (k : Nat) : AllM Try.prog (t_impl_Project k) := AllM.ev TTok mixed (m_impl_hasText k) la_impl_Project nA k Try.func127 (by kernel_rfl) (fun x => by kernel_rfl)
def t_impl_KeyOf (k : Nat) : List (FuncId × Con) := (72, ⟨[.val tAlarm q2, .val (.sl .str) .shr], [.val (.sl tLabel) .own], F_impl_KeyOf k, []⟩) :: (t_impl_Project k)
theorem m_impl_KeyOf (k : Nat) : AllM Try.prog (t_impl_KeyOf k) := AllM.ev TTok mixed (m_impl_Project k) nA nA k Try.func72 (by kernel_rfl) (fun x => by kernel_rfl)
def la_impl_SameSet : Nat → Option Ann := fun | 4 => some ⟨[(0, .val (.sl tLabel) (.sl (.sha [1]))), (1, .val (.sl tLabel) (.sl (.sha [1]))), (12, .val (.int .i64) .leaf), (13, .val (.int .i64) .leaf)], 3⟩ | _ => none
def t_impl_SameSet (k : Nat) : List (FuncId × Con) := (115, ⟨[.val (.sl tLabel) .shr, .val (.sl tLabel) .shr], [.val .bool .leaf], F_impl_SameSet k, []⟩) :: (t_impl_KeyOf k)
theorem m_impl_SameSet (k : Nat) : AllM Try.prog (t_impl_SameSet k) := AllM.ev TTok mixed (m_impl_KeyOf k) la_impl_SameSet nA k Try.func115 (by kernel_rfl) (fun x => by kernel_rfl)
def la_impl_GroupOf : Nat → Option Ann := fun | 2 => some ⟨[(1, .val (.sl tLabel) (.sl (.sha [1]))), (7, .val (.sl tGroup) (.sl (.sha [1]))), (8, .val (.int .i64) .leaf), (9, .val (.int .i64) .leaf)], 3⟩ | _ => none
def t_impl_GroupOf (k : Nat) : List (FuncId × Con) := (66, ⟨[.val (.sl tGroup) .shr, .val (.sl tLabel) .shr], [.val (.int .i64) .leaf], F_impl_GroupOf k, []⟩) :: (t_impl_SameSet k)
theorem m_impl_GroupOf (k : Nat) : AllM Try.prog (t_impl_GroupOf k) := AllM.ev TTok mixed (m_impl_SameSet k) la_impl_GroupOf nA k Try.func66 (by kernel_rfl) (fun x => by kernel_rfl)
def la_impl_labelsAt : Nat → Option Ann := fun | 2 => some ⟨[(1, .val (.sl tLabel) (.sl (.sha [1]))), (7, .val (.sl tAlarm) (.sl (.sha [1]))), (8, .val (.int .i64) .leaf), (9, .val (.int .i64) .leaf)], 3⟩ | _ => none
def t_impl_labelsAt (k : Nat) : List (FuncId × Con) := (104, ⟨[.val (.sl tAlarm) .shr, .val (.sl tLabel) .shr], [.val (.int .i64) .leaf], F_impl_labelsAt k, []⟩) :: (t_impl_GroupOf k)
theorem m_impl_labelsAt (k : Nat) : AllM Try.prog (t_impl_labelsAt k) := AllM.ev TTok mixed (m_impl_GroupOf k) la_impl_labelsAt nA k Try.func104 (by kernel_rfl) (fun x => by kernel_rfl)
def la_impl_SetLess : Nat → Option Ann := fun | 2 => some ⟨[(0, .val (.sl tLabel) (.sl (.sha [1]))), (1, .val (.sl tLabel) (.sl (.sha [1]))), (5, .val (.int .i64) .leaf)], 3⟩ | _ => none
def ja_impl_SetLess : Nat → Option Ann := fun | 8 => some ⟨[(0, .val (.sl tLabel) (.sl (.sha [1]))), (1, .val (.sl tLabel) (.sl (.sha [1])))], 3⟩ | _ => none
def t_impl_SetLess (k : Nat) : List (FuncId × Con) := (160, ⟨[.val (.sl tLabel) .shr, .val (.sl tLabel) .shr], [.val .bool .leaf], F_impl_SetLess k, []⟩) :: (t_impl_labelsAt k)
theorem m_impl_SetLess (k : Nat) : AllM Try.prog (t_impl_SetLess k) := AllM.ev TTok mixed (m_impl_labelsAt k) la_impl_SetLess ja_impl_SetLess k Try.func160 (by kernel_rfl) (fun x => by kernel_rfl)
def la_impl_inserted : Nat → Option Ann := fun | 2 => some ⟨[(0, .val (.sl tAlarm) (.sl (.sha [1]))), (3, .box 3 tAlarm h10), (5, .val (.int .i64) .leaf)], 4⟩ | _ => none
def ja_impl_inserted : Nat → Option Ann := fun | 4 => some ⟨[(0, .val (.sl tAlarm) (.sl (.sha [1]))), (3, .box 3 tAlarm h10), (5, .val (.int .i64) .leaf)], 4⟩ | _ => none
def t_impl_inserted (k : Nat) : List (FuncId × Con) := (106, ⟨[.val (.sl tAlarm) .shr, .val tAlarm q2], [.val (.sl tAlarm) .own], F_impl_inserted k, []⟩) :: (t_impl_SetLess k)
theorem m_impl_inserted (k : Nat) : AllM Try.prog (t_impl_inserted k) := AllM.ev TTok mixed (m_impl_SetLess k) la_impl_inserted ja_impl_inserted k Try.func106 (by kernel_rfl) (fun x => by kernel_rfl)
end Vg.Try
