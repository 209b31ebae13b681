/- What the functions compute is what the evaluator says; their contracts. -/
import Derived.Test.YtmoafmclhokdaaaE2
namespace Vg.Try
open Go Vg Go.Proofs
set_option linter.unusedVariables false
set_option maxRecDepth 1000000
def la_spec_SetOk : Nat → Option Ann := fun | 2 => some ⟨[(0, .val (.sl tLabel) (.sl (.sha [1]))), (3, .val (.int .i64) .leaf)], 3⟩ | _ => none
def ja_spec_SetOk : Nat → Option Ann := fun | 6 => some ⟨[(0, .val (.sl tLabel) (.sl (.sha [1])))], 3⟩ | _ => none
def t_spec_SetOk (k : Nat) : List (FuncId × Con) := (95, ⟨[.val (.sl tLabel) .shr], [.val .bool .leaf], F_spec_SetOk k, []⟩) :: (t_spec_Less k)
theorem m_spec_SetOk (k : Nat) : AllM Try.prog (t_spec_SetOk k) := AllM.ev TTok mixed (m_spec_Less k) la_spec_SetOk ja_spec_SetOk k Try.func95 (by kernel_rfl) (fun x => by kernel_rfl)
def t_spec_AlarmOk (k : Nat) : List (FuncId × Con) := (94, ⟨[.val tAlarm q38], [.val .bool .leaf], F_spec_AlarmOk k, []⟩) :: (t_spec_SetOk k)
theorem m_spec_AlarmOk (k : Nat) : AllM Try.prog (t_spec_AlarmOk k) := AllM.ev TTok mixed (m_spec_SetOk k) nA nA k Try.func94 (by kernel_rfl) (fun x => by kernel_rfl)
def la_spec_l14Got : Nat → Option Ann := fun | 2 => some ⟨[(0, .val (.sl tAlarm) (.sl (.sha [1]))), (3, .val (.int .i64) .leaf)], 3⟩ | _ => none
def t_spec_l14Got (k : Nat) : List (FuncId × Con) := (92, ⟨[.val (.sl tAlarm) .shr], [.val .bool .leaf], F_spec_l14Got k, []⟩) :: (t_spec_AlarmOk k)
theorem m_spec_l14Got (k : Nat) : AllM Try.prog (t_spec_l14Got k) := AllM.ev TTok mixed (m_spec_AlarmOk k) la_spec_l14Got nA k Try.func92 (by kernel_rfl) (fun x => by kernel_rfl)
def la_spec_SameSet : Nat → Option Ann := fun | 4 => some ⟨[(0, .val (.sl tLabel) (.sl (.sha [1]))), (1, .val (.sl tLabel) (.sl (.sha [1]))), (5, .val (.int .i64) .leaf)], 3⟩ | _ => none
def t_spec_SameSet (k : Nat) : List (FuncId × Con) := (117, ⟨[.val (.sl tLabel) .shr, .val (.sl tLabel) .shr], [.val .bool .leaf], F_spec_SameSet k, []⟩) :: (t_spec_l14Got k)
theorem m_spec_SameSet (k : Nat) : AllM Try.prog (t_spec_SameSet k) := AllM.ev TTok mixed (m_spec_l14Got k) la_spec_SameSet nA k Try.func117 (by kernel_rfl) (fun x => by kernel_rfl)
def t_spec_SameAlarm (k : Nat) : List (FuncId × Con) := (152, ⟨[.val tAlarm q38, .val tAlarm q38], [.val .bool .leaf], F_spec_SameAlarm k, []⟩) :: (t_spec_SameSet k)
theorem m_spec_SameAlarm (k : Nat) : AllM Try.prog (t_spec_SameAlarm k) := AllM.ev TTok mixed (m_spec_SameSet k) nA nA k Try.func152 (by kernel_rfl) (fun x => by kernel_rfl)
def t_spec_l14Zero (k : Nat) : List (FuncId × Con) := (93, ⟨[.val tAlarm q38], [.val .bool .leaf], F_spec_l14Zero k, []⟩) :: (t_spec_SameAlarm k)
theorem m_spec_l14Zero (k : Nat) : AllM Try.prog (t_spec_l14Zero k) := AllM.ev TTok mixed (m_spec_SameAlarm k) nA nA k Try.func93 (by kernel_rfl) (fun x => by kernel_rfl)
def la_spec_l14Seen : Nat → Option Ann := fun | 2 => some ⟨[(1, .box 3 tTask (.pair .leaf (.pair .leaf (.pair h45 (.pair (.sl (.sha [1])) (.pair .leaf (.pair (.sl (.sha [1])) h46))))))), (3, .val (.int .i64) .leaf)], 4⟩ | _ => none
def ja_spec_l14Seen : Nat → Option Ann := fun | 6 => some ⟨[(1, .box 3 tTask (.pair .leaf (.pair .leaf (.pair h45 (.pair (.sl (.sha [1])) (.pair .leaf (.pair (.sl (.sha [1])) h46)))))))], 4⟩ | _ => none
def t_spec_l14Seen (k : Nat) : List (FuncId × Con) := (96, ⟨[.val tTask (.pair .leaf (.pair .leaf (.pair q38 (.pair .shr (.pair .leaf q39)))))], [.val .bool .leaf], F_spec_l14Seen k, []⟩) :: (t_spec_l14Zero k)
theorem m_spec_l14Seen (k : Nat) : AllM Try.prog (t_spec_l14Seen k) := AllM.ev TTok mixed (m_spec_l14Zero k) la_spec_l14Seen ja_spec_l14Seen k Try.func96 (by kernel_rfl) (fun x => by kernel_rfl)
def t_spec_TaskOk (k : Nat) : List (FuncId × Con) := (24, ⟨[.val tTask (.pair .leaf (.pair .leaf (.pair q38 (.pair .shr (.pair .leaf q39))))), .val (.int .i64) .leaf], [.val .bool .leaf], F_spec_TaskOk k, []⟩) :: (t_spec_l14Seen k)
theorem m_spec_TaskOk (k : Nat) : AllM Try.prog (t_spec_TaskOk k) := AllM.ev TTok mixed (m_spec_l14Seen k) nA nA k Try.func24 (by kernel_rfl) (fun x => by kernel_rfl)
def la_spec_SetText : Nat → Option Ann := fun | 5 => some ⟨[(0, .val (.sl tLabel) (.sl (.sha [1]))), (3, .val .str .leaf), (4, .val (.int .i64) .leaf)], 3⟩ | _ => none
def ja_spec_SetText : Nat → Option Ann := fun | 9 => some ⟨[(0, .val (.sl tLabel) (.sl (.sha [1]))), (3, .val .str .leaf), (4, .val (.int .i64) .leaf)], 3⟩ | 10 => some ⟨[(3, .val .str .leaf)], 3⟩ | _ => none
def t_spec_SetText (k : Nat) : List (FuncId × Con) := (157, ⟨[.val (.sl tLabel) .shr], [.val .str .leaf], F_spec_SetText k, []⟩) :: (t_spec_TaskOk k)
theorem m_spec_SetText (k : Nat) : AllM Try.prog (t_spec_SetText k) := AllM.ev TTok mixed (m_spec_TaskOk k) la_spec_SetText ja_spec_SetText k Try.func157 (by kernel_rfl) (fun x => by kernel_rfl)
def la_spec_Sum : Nat → Option Ann := fun | 3 => some ⟨[(0, .val .str .leaf), (3, .val (.int .i64) .leaf), (4, .val (.int .i64) .leaf)], 3⟩ | _ => none
def t_spec_Sum (k : Nat) : List (FuncId × Con) := (156, ⟨[.val .str .leaf], [.val (.int .i64) .leaf], F_spec_Sum k, []⟩) :: (t_spec_SetText k)
theorem m_spec_Sum (k : Nat) : AllM Try.prog (t_spec_Sum k) := AllM.ev TTok mixed (m_spec_SetText k) la_spec_Sum nA k Try.func156 (by kernel_rfl) (fun x => by kernel_rfl)
def t_spec_Finger (k : Nat) : List (FuncId × Con) := (98, ⟨[.val (.sl tLabel) .shr], [.val (.int .i64) .leaf], F_spec_Finger k, []⟩) :: (t_spec_Sum k)
theorem m_spec_Finger (k : Nat) : AllM Try.prog (t_spec_Finger k) := AllM.ev TTok mixed (m_spec_Sum k) nA nA k Try.func98 (by kernel_rfl) (fun x => by kernel_rfl)
def t_spec_PartOf (k : Nat) : List (FuncId × Con) := (97, ⟨[.val (.int .i64) .leaf, .val (.int .i64) .leaf], [.val (.int .i64) .leaf], F_spec_PartOf k, []⟩) :: (t_spec_Finger k)
theorem m_spec_PartOf (k : Nat) : AllM Try.prog (t_spec_PartOf k) := AllM.ev TTok mixed (m_spec_Finger k) nA nA k Try.func97 (by kernel_rfl) (fun x => by kernel_rfl)
def t_spec_HoldsPart (k : Nat) : List (FuncId × Con) := (25, ⟨[.val tTask (.pair .leaf (.pair .leaf (.pair q38 (.pair .shr (.pair .leaf q39))))), .val (.int .i64) .leaf], [.val (.int .i64) .leaf], F_spec_HoldsPart k, []⟩) :: (t_spec_PartOf k)
theorem m_spec_HoldsPart (k : Nat) : AllM Try.prog (t_spec_HoldsPart k) := AllM.ev TTok mixed (m_spec_PartOf k) nA nA k Try.func25 (by kernel_rfl) (fun x => by kernel_rfl)
def t_impl_WantsPart (k : Nat) : List (FuncId × Con) := (26, ⟨[.val tTask (.pair .leaf (.pair .leaf (.pair q38 (.pair .shr (.pair .leaf q39))))), .val (.int .i64) .leaf], [.val (.int .i64) .leaf], F_impl_WantsPart k, []⟩) :: (t_spec_HoldsPart k)
theorem m_impl_WantsPart (k : Nat) : AllM Try.prog (t_impl_WantsPart k) := AllM.ev TTok mixed (m_spec_HoldsPart k) nA nA k Try.func26 (by kernel_rfl) (fun x => by kernel_rfl)
def t_spec_WantsPart (k : Nat) : List (FuncId × Con) := (27, ⟨[.val tTask (.pair .leaf (.pair .leaf (.pair q38 (.pair .shr (.pair .leaf q39))))), .val (.int .i64) .leaf], [.val (.int .i64) .leaf], F_spec_WantsPart k, []⟩) :: (t_impl_WantsPart k)
theorem m_spec_WantsPart (k : Nat) : AllM Try.prog (t_spec_WantsPart k) := AllM.ev TTok mixed (m_impl_WantsPart k) nA nA k Try.func27 (by kernel_rfl) (fun x => by kernel_rfl)
def t_impl_HoldsGroups (k : Nat) : List (FuncId × Con) := (28, ⟨[.val tTask (.pair .leaf (.pair .leaf (.pair q38 (.pair .shr (.pair .leaf q39)))))], [.val .bool .leaf], F_impl_HoldsGroups k, []⟩) :: (t_spec_WantsPart k)
theorem m_impl_HoldsGroups (k : Nat) : AllM Try.prog (t_impl_HoldsGroups k) := AllM.ev TTok mixed (m_spec_WantsPart k) nA nA k Try.func28 (by kernel_rfl) (fun x => by kernel_rfl)
def t_spec_HoldsGroups (k : Nat) : List (FuncId × Con) := (29, ⟨[.val tTask (.pair .leaf (.pair .leaf (.pair q38 (.pair .shr (.pair .leaf q39)))))], [.val .bool .leaf], F_spec_HoldsGroups k, []⟩) :: (t_impl_HoldsGroups k)
theorem m_spec_HoldsGroups (k : Nat) : AllM Try.prog (t_spec_HoldsGroups k) := AllM.ev TTok mixed (m_impl_HoldsGroups k) nA nA k Try.func29 (by kernel_rfl) (fun x => by kernel_rfl)
def t_impl_WantsGroups (k : Nat) : List (FuncId × Con) := (30, ⟨[.val tTask (.pair .leaf (.pair .leaf (.pair q38 (.pair .shr (.pair .leaf q39)))))], [.val .bool .leaf], F_impl_WantsGroups k, []⟩) :: (t_spec_HoldsGroups k)
theorem m_impl_WantsGroups (k : Nat) : AllM Try.prog (t_impl_WantsGroups k) := AllM.ev TTok mixed (m_spec_HoldsGroups k) nA nA k Try.func30 (by kernel_rfl) (fun x => by kernel_rfl)
def t_spec_WantsGroups (k : Nat) : List (FuncId × Con) := (31, ⟨[.val tTask (.pair .leaf (.pair .leaf (.pair q38 (.pair .shr (.pair .leaf q39)))))], [.val .bool .leaf], F_spec_WantsGroups k, []⟩) :: (t_impl_WantsGroups k)
theorem m_spec_WantsGroups (k : Nat) : AllM Try.prog (t_spec_WantsGroups k) := AllM.ev TTok mixed (m_impl_WantsGroups k) nA nA k Try.func31 (by kernel_rfl) (fun x => by kernel_rfl)
def t_laws_FnTasks (k : Nat) : List (FuncId × Con) := (4, ⟨[.val (.sl (.int .u8)) .shr], [.val .bool .leaf], F_laws_FnTasks k, []⟩) :: (t_spec_WantsGroups k)
theorem m_laws_FnTasks (k : Nat) : AllM Try.prog (t_laws_FnTasks k) := AllM.ev TTok mixed (m_spec_WantsGroups k) nA nA k Try.func4 (by kernel_rfl) (fun x => by kernel_rfl)
end Vg.Try
