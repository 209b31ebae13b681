/- Plain laws: groups that are copied, found by their number, sent on. -/
import Derived.Test.YtmoafmclhokdaaaPA
import Derived.Test.YtmoafmclhokdaaaVd
namespace Vg.Try
open Go Vg
set_option linter.unusedVariables false
set_option linter.unusedSectionVars false
set_option linter.unusedSimpArgs false

theorem set_take_drop {α : Type} (l : List α) (i : Nat) (x : α) : (l.set i x).take i ++ (l.set i x).drop (i + 1) = l.take i ++ l.drop (i + 1) := by
  rw [List.take_set_of_le (Nat.le_refl _), List.drop_set_of_lt (by omega)]

section
variable {k : Nat} (hk : 9223372036854775808 ≤ k)
include hk

end
end Vg.Try
