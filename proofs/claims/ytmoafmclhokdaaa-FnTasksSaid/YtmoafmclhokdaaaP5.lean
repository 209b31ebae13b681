/- Plain laws: groups, listeners, models. -/
import Derived.Test.YtmoafmclhokdaaaP4
namespace Vg.Try
open Go Vg
set_option linter.unusedVariables false
set_option linter.unusedSectionVars false
set_option linter.unusedSimpArgs false

section
variable {k : Nat} (hk : 9223372036854775808 ≤ k)
include hk

theorem alarm_at {l : List DAlarm} {i : Nat} (hs : tot (.sl tAlarm) l ≤ 1048576) (hi : i < l.length) : tot tAlarm (l.getD i tAlarm.dflt) ≤ 1048576 ∧ (l.getD i tAlarm.dflt).1.length ≤ 1048576 := by
  have hm : tot tAlarm (l.getD i tAlarm.dflt) ≤ 1048576 := Nat.le_trans (tot_mem (e := tAlarm) (getD_mem hi)) hs
  refine ⟨hm, ?_⟩
  rw [tot_Alarm hk] at hm
  have := tot_len (e := tLabel) (l := (l.getD i tAlarm.dflt).1)
  omega

end
end Vg.Try
