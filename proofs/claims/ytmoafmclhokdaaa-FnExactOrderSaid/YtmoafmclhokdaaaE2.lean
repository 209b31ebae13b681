/- What the functions compute is what the evaluator says; their contracts. -/
import Derived.Test.YtmoafmclhokdaaaE1
namespace Vg.Try
open Go Vg Go.Proofs
set_option linter.unusedVariables false
set_option maxRecDepth 1000000
def la_laws_markIntS : Nat → Option Ann := fun | 2 => some ⟨[(0, .val (.sl (.int .i64)) (.sl (.row 3 [3] true))), (1, .val (.int .i64) .leaf), (5, .val (.int .i64) .leaf)], 4⟩ | _ => none
def u_laws_markIntS (k : Nat) : List (FuncId × MCon) := (14, ⟨(.sl (.int .i64)), F_laws_markIntS k⟩) :: (u_laws_markDeedS k)
theorem w_laws_markIntS (k : Nat) : AllMM Try.prog (u_laws_markIntS k) := AllMM.ev TTok mixed (m_laws_markText k) (w_laws_markDeedS k) la_laws_markIntS nA k Try.func14 (by kernel_rfl) (fun x n => by kernel_rfl)
def la_laws_heldIntS : Nat → Option Ann := fun | 2 => some ⟨[(0, .val (.sl (.int .i64)) (.sl (.sha [1]))), (1, .val (.int .i64) .leaf), (5, .val (.int .i64) .leaf)], 3⟩ | _ => none
def t_laws_heldIntS (k : Nat) : List (FuncId × Con) := (15, ⟨[.val (.sl (.int .i64)) .shr, .val (.int .i64) .leaf], [.val (.int .i64) .leaf], F_laws_heldIntS k, []⟩) :: (t_laws_markText k)
theorem m_laws_heldIntS (k : Nat) : AllM Try.prog (t_laws_heldIntS k) := AllM.ev TTok mixed (m_laws_markText k) la_laws_heldIntS nA k Try.func15 (by kernel_rfl) (fun x => by kernel_rfl)
def t_laws_FnExactOrder (k : Nat) : List (FuncId × Con) := (3, ⟨[.val (.sl tDeed) .shr], [.val .bool .leaf], F_laws_FnExactOrder k, []⟩) :: (t_laws_heldIntS k)
theorem m_laws_FnExactOrder (k : Nat) : AllM Try.prog (t_laws_FnExactOrder k) := AllM.evM TTok mixed (m_laws_heldIntS k) (w_laws_markIntS k) nA nA k Try.func3 (by kernel_rfl) (fun x => by kernel_rfl)
end Vg.Try
