/- Plain laws: which worlds are right. -/
import Derived.Test.YtmoafmclhokdaaaPO
namespace Vg.Try
open Go Vg
set_option linter.unusedVariables false
set_option linter.unusedSectionVars false
set_option linter.unusedSimpArgs false

section
variable {k : Nat} (hk : 9223372036854775808 ≤ k)
include hk

end
end Vg.Try
