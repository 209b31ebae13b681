/- Plain laws: each task's deed is right. -/
import Derived.Test.YtmoafmclhokdaaaPK
namespace Vg.Try
open Go Vg
set_option linter.unusedVariables false
set_option linter.unusedSectionVars false
set_option linter.unusedSimpArgs false

theorem okTask_kind {t : DTask} {n : Int} (h : okTask t n = true) : 0 ≤ t.2.2.2.2.2.2.2.2 ∧ (t.1 = 0 ∨ t.1 = 1 ∨ t.1 = 2 ∨ t.1 = 3 ∨ t.1 = 4 ∨ t.1 = 5 ∨ t.1 = 6) := by
  unfold okTask at h
  grind

theorem okTask_3 {t : DTask} {n : Int} (h : okTask t n = true) (e : t.1 = 3) : (t.2.2.2.2.2.1.length : Int) = t.2.2.2.2.1 ∧ 0 ≤ t.2.1 ∧ t.2.1 ≤ 2 := by
  unfold okTask inB at h
  grind

theorem okTask_4 {t : DTask} {n : Int} (h : okTask t n = true) (e : t.1 = 4) : t.2.2.2.2.2.1 = [] ∧ t.2.2.2.2.2.2.1 = [] ∧ t.2.1 ≤ 1 := by
  unfold okTask inB at h
  grind

section
variable {k : Nat} (hk : 9223372036854775808 ≤ k)
include hk

theorem any_at {e : Ty} {l : List e.den} (hd : tot e e.dflt = 0) (hs : tot (.sl e) l ≤ 1048576) (n : Nat) : tot e (l.getD n e.dflt) ≤ 1048576 := by
  by_cases h : n < l.length
  · have := tot_at (e := e) (d := e.dflt) h
    omega
  · rw [List.getD_eq_getElem?_getD, List.getElem?_eq_none (by omega), Option.getD_none, hd]
    omega

end
end Vg.Try
