/- Plain laws: deeds; what was seen; tasks and deeds fit. -/
import Derived.Test.YtmoafmclhokdaaaPJ
namespace Vg.Try
open Go Vg
set_option linter.unusedVariables false
set_option linter.unusedSectionVars false
set_option linter.unusedSimpArgs false

theorem gt_dec (a b : Int) : decide (a > b) = decide (b < a) := rfl
theorem ge_dec (a b : Int) : decide (a ≥ b) = !decide (a < b) := by by_cases h : a < b <;> simp [h] <;> omega
theorem orElse_true (b c : Bool) : (!(b == true) || c) = (!b || c) := by cases b <;> rfl

section
variable {k : Nat} (hk : 9223372036854775808 ≤ k)
include hk

end
end Vg.Try
