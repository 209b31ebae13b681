/- Plain laws: locks as the plain reading counts them; groups that are timed. -/
import Derived.Test.YtmoafmclhokdaaaPM
namespace Vg.Try
open Go Vg
set_option linter.unusedVariables false
set_option linter.unusedSectionVars false
set_option linter.unusedSimpArgs false

section
variable {k : Nat} (hk : 9223372036854775808 ≤ k)
include hk

end
end Vg.Try
