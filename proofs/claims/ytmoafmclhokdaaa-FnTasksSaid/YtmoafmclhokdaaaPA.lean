/- Plain laws: copies; what is swept; a group that is sent on. -/
import Derived.Test.YtmoafmclhokdaaaVd
import Derived.Test.YtmoafmclhokdaaaQ1
namespace Vg.Try
open Go Vg
set_option linter.unusedVariables false
set_option linter.unusedSectionVars false
set_option linter.unusedSimpArgs false

section
variable {k : Nat} (hk : 9223372036854775808 ≤ k)
include hk

def sweptL (now : Int) (l : List DAlarm) : List DAlarm := l.filter fun a => !decide (a.2.2.1 ≤ now)

omit hk in
theorem sweptL_step {now : Int} {l : List DAlarm} {i : Nat} (h : i < l.length) : sweptL now (l.take (i + 1)) = if (!decide ((l.getD i tAlarm.dflt).2.2.1 ≤ now)) = true then sweptL now (l.take i) ++ [l.getD i tAlarm.dflt] else sweptL now (l.take i) := by
  rw [take_getD tAlarm.dflt h, sweptL, sweptL, List.filter_append, filter_one]
  split <;> simp

omit hk in
theorem sweptL_len {now : Int} {l : List DAlarm} : (sweptL now l).length ≤ l.length := List.length_filter_le ..

omit hk in
theorem sweptL_tot {now : Int} {l : List DAlarm} : tot (.sl tAlarm) (sweptL now l) ≤ tot (.sl tAlarm) l := tot_filter (e := tAlarm) _ l

end
end Vg.Try
