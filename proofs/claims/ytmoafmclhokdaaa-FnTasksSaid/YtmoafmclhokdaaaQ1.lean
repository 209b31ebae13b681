/- Plain laws of what the functions compute: sizes, copies, comparisons (printed by famgen.py). -/
import Derived.Test.YtmoafmclhokdaaaVd
import Derived.Test.YtmoafmclhokdaaaF
namespace Vg.Try
open Go Vg
set_option linter.unusedVariables false
set_option linter.unusedSectionVars false
set_option linter.unusedSimpArgs false
section
variable {k : Nat} (hk : 9223372036854775808 ≤ k)
include hk
theorem tot_Label (x : DLabel) : tot tLabel x = x.1.size + x.2.size := by
  obtain ⟨x0, x1⟩ := x
  simp only [tot]
  try omega
theorem tot_Alarm (x : DAlarm) : tot tAlarm x = tot (.sl tLabel) x.1 + x.2.2.2.size := by
  obtain ⟨x0, x1, x2, x3⟩ := x
  simp only [tot]
  try omega
theorem tot_Task (x : DTask) : tot tTask x = tot tAlarm x.2.2.1 + tot (.sl tLabel) x.2.2.2.1 + tot (.sl (.int .i64)) x.2.2.2.2.2.1 + tot (.sl tAlarm) x.2.2.2.2.2.2.1 := by
  obtain ⟨x0, x1, x2, x3, x4, x5, x6, x7, x8⟩ := x
  simp only [tot]
  try omega
end
end Vg.Try
