/- Plain laws: what a task waits for. -/
import Derived.Test.YtmoafmclhokdaaaPR
namespace Vg.Try
open Go Vg
set_option linter.unusedVariables false
set_option linter.unusedSectionVars false
set_option linter.unusedSimpArgs false

def wantsP (k : Nat) (t : DTask) (n : Int) : Int :=
  if n < 1 then -1
  else if ¬ t.2.1 = 0 then -1
  else if t.1 = 1 then partOfI (fing k t.2.2.1.1) n
  else if t.1 = 2 then partOfI (fing k t.2.2.2.1) n
  else if t.1 = 3 ∨ t.1 = 4 then t.2.2.2.2.1
  else -1
def wantsGr (t : DTask) : Bool := (decide (t.1 = 5) || decide (t.1 = 6)) && decide (t.2.1 = 0)
section
variable {k : Nat} (hk : 9223372036854775808 ≤ k)
include hk

theorem spec_WantsP_ok {t : DTask} {n : Int} (hs : tot tTask t ≤ 1048576) : F_spec_WantsPart k (t, n, ()) = some (wantsP k t n, ()) := by
  obtain ⟨t1, t2, t3, t4, t5⟩ := task_parts hk hs
  simp only [F_spec_WantsPart, spec_Finger_ok hk t5, spec_Finger_ok hk t2, spec_PartOf_ok hk, Option.bind_some, beq_dec, bne_dec]
  unfold wantsP
  by_cases hn : n < 1
  · simp [hn]
  · by_cases p1 : t.2.1 = 0
    · by_cases h1 : t.1 = 1
      · simp [hn, p1, h1]
      · by_cases h2 : t.1 = 2
        · simp [hn, p1, h1, h2]
        · by_cases h3 : t.1 = 3
          · simp [hn, p1, h1, h2, h3]
          · by_cases h4 : t.1 = 4 <;> simp [hn, p1, h1, h2, h3, h4]
    · simp [hn, p1]

theorem impl_WantsP_ok {t : DTask} {n : Int} (hs : tot tTask t ≤ 1048576) : F_impl_WantsPart k (t, n, ()) = some (wantsP k t n, ()) := by
  obtain ⟨t1, t2, t3, t4, t5⟩ := task_parts hk hs
  simp only [F_impl_WantsPart, F_impl_partAt, impl_Finger_ok hk t5, impl_Finger_ok hk t2, impl_PartOf_ok hk, Option.bind_some, beq_dec, bne_dec]
  unfold wantsP
  by_cases hn : n < 1
  · simp [hn]
  · by_cases p1 : t.2.1 = 0
    · by_cases h1 : t.1 = 1
      · simp [hn, p1, h1]
      · by_cases h2 : t.1 = 2
        · simp [hn, p1, h1, h2]
        · by_cases h3 : t.1 = 3
          · simp [hn, p1, h1, h2, h3]
          · by_cases h4 : t.1 = 4 <;> simp [hn, p1, h1, h2, h3, h4]
    · simp [hn, p1]

theorem spec_WantsGr_ok {t : DTask} : F_spec_WantsGroups k (t, ()) = some (wantsGr t, ()) := by
  simp only [F_spec_WantsGroups, wantsGr, beq_dec]
  by_cases h1 : t.1 = 5 <;> by_cases h2 : t.1 = 6 <;> simp [h1, h2]

theorem impl_WantsGr_ok {t : DTask} : F_impl_WantsGroups k (t, ()) = some (wantsGr t, ()) := by
  simp only [F_impl_WantsGroups, wantsGr, beq_dec]
  by_cases h1 : t.1 = 5 <;> by_cases h2 : t.1 = 6 <;> simp [h1, h2]

end
end Vg.Try
