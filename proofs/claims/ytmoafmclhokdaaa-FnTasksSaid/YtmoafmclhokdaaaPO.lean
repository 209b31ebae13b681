/- Plain laws: groups and timers of a world. -/
import Derived.Test.YtmoafmclhokdaaaPN
namespace Vg.Try
open Go Vg
set_option linter.unusedVariables false
set_option linter.unusedSectionVars false
set_option linter.unusedSimpArgs false

section
variable {k : Nat} (hk : 9223372036854775808 ≤ k)
include hk

omit hk in
theorem take_at {α : Type} (d : α) {l : List α} {i j : Nat} (h : j < i) : (l.take i).getD j d = l.getD j d := by
  simp only [List.getD_eq_getElem?_getD, List.getElem?_take, h, if_true]

end
end Vg.Try
