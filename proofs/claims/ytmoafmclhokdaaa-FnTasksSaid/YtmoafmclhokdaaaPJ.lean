/- Plain laws: tasks and deeds: which are right, which fit. -/
import Derived.Test.YtmoafmclhokdaaaPI
namespace Vg.Try
open Go Vg
set_option linter.unusedVariables false
set_option linter.unusedSectionVars false
set_option linter.unusedSimpArgs false

/-- As loop_all, where the end is looked at once. -/
theorem loop_alln {σ ρ : Type} {f : (σ → Option ρ) → σ → Option ρ} (st : Nat → σ) (p : Nat → Bool) (n : Nat) {e no : Option ρ}
    (hstep : ∀ G i, i < n → f G (st i) = if p i = true then G (st (i + 1)) else no) (hend : ∀ G, f G (st n) = e) :
    ∀ (k a : Nat), a ≤ n → n - a < k → loopN k f (st a) = if allB a n p = true then e else no
  | 0, _, _, h => by omega
  | k + 1, a, hn, h => by
    show f (loopN k f) (st a) = _
    by_cases ha : a < n
    · rw [hstep _ a ha, allB_step ha, loop_alln st p n hstep hend k (a + 1) (by omega) (by omega)]
      cases p a <;> simp
    · have : a = n := by omega
      subst this
      rw [hend, allB_nil (by omega), if_pos rfl]

theorem allB_last {n : Nat} {p : Nat → Bool} : allB 0 (n + 1) p = (allB 0 n p && p n) := by
  rw [Bool.eq_iff_iff]
  simp only [Bool.and_eq_true, allB_iff]
  constructor
  · intro h; exact ⟨fun i h1 h2 => h i h1 (by omega), h n (by omega) (by omega)⟩
  · rintro ⟨h1, h2⟩ i hi hj
    by_cases he : i = n
    · subst he; exact h2
    · exact h1 i hi (by omega)

section
variable {k : Nat} (hk : 9223372036854775808 ≤ k)
include hk

theorem task_parts {t : DTask} (hs : tot tTask t ≤ 1048576) :
    tot tAlarm t.2.2.1 ≤ 1048576 ∧ tot (.sl tLabel) t.2.2.2.1 ≤ 1048576 ∧ t.2.2.2.2.2.1.length ≤ 1048576 ∧ tot (.sl tAlarm) t.2.2.2.2.2.2.1 ≤ 1048576 ∧ tot (.sl tLabel) t.2.2.1.1 ≤ 1048576 := by
  rw [tot_Task hk] at hs
  have h2 := tot_len (e := .int .i64) (l := t.2.2.2.2.2.1)
  have := tot_Alarm hk t.2.2.1
  omega

theorem spec_TaskOk_ok {t : DTask} {n : Int} (hs : tot tTask t ≤ 1048576) : F_spec_TaskOk k (t, n, ()) = some (okTask t n, ()) := by
  obtain ⟨h1, h2, h3, h4, h5⟩ := task_parts hk hs
  have h6 := alarm_len hk h1
  simp only [F_spec_TaskOk, F_spec_l14Zero, spec_in_ok hk, spec_l14Got_ok hk h4, spec_AlarmOk_ok hk h1, spec_SetOk_ok hk h2, spec_SameAlarm_ok hk h6, spec_l14Seen_ok hk hs, Option.bind_some, ite_some, beq_dec]
  refine congrArg some (Prod.ext ?_ rfl)
  simp only [apply_ite Prod.fst]
  unfold okTask
  obtain ⟨op, pc, a, l, i, seen, got, nn, hh⟩ := t
  obtain ⟨a1, a2, a3, a4⟩ := a
  clear hs h1 h2 h3 h4 h5 h6
  have hA : okAlarms ([] : List DAlarm) = true := rfl
  have hS : okSeen ([] : List Int) = true := rfl
  simp only [zT, zAlarm, inB, bareT, Prod.mk.injEq]
  rw [Bool.eq_iff_iff]
  by_cases e0 : op = 0
  · subst e0; simp; grind
  by_cases e1 : op = 1
  · subst e1; simp; grind
  by_cases e2 : op = 2
  · subst e2; simp; grind
  by_cases e3 : op = 3
  · subst e3; simp; grind
  by_cases e4 : op = 4
  · subst e4; simp; grind
  by_cases e5 : op = 5
  · subst e5; simp; grind
  by_cases e6 : op = 6
  · subst e6; simp; grind
  simp [e0, e1, e2, e3, e4, e5, e6]

theorem impl_TaskOk_ok {t : DTask} {n : Int} (hs : tot tTask t ≤ 1048576) : F_impl_TaskOk k (t, n, ()) = some (okTask t n, ()) := by
  obtain ⟨h1, h2, h3, h4, h5⟩ := task_parts hk hs
  simp only [F_impl_TaskOk, joinC, impl_in_ok hk, impl_snapOk_ok hk hs, impl_AlarmOk_ok hk h1, impl_SetOk_ok hk h2, impl_sameTask_ok hk hs, Option.bind_some, ite_some, beq_dec]
  refine congrArg some (Prod.ext ?_ rfl)
  simp only [apply_ite Prod.fst]
  unfold okTask
  obtain ⟨op, pc, a, l, i, seen, got, nn, hh⟩ := t
  obtain ⟨a1, a2, a3, a4⟩ := a
  clear hs h1 h2 h3 h4 h5
  have hA : okAlarms ([] : List DAlarm) = true := rfl
  have hS : okSeen ([] : List Int) = true := rfl
  simp only [zT, zAlarm, inB, bareT, Prod.mk.injEq]
  rw [Bool.eq_iff_iff]
  by_cases e0 : op = 0
  · subst e0; simp; grind
  by_cases e1 : op = 1
  · subst e1; simp; grind
  by_cases e2 : op = 2
  · subst e2; simp; grind
  by_cases e3 : op = 3
  · subst e3; simp; grind
  by_cases e4 : op = 4
  · subst e4; simp; grind
  by_cases e5 : op = 5
  · subst e5; simp; grind
  by_cases e6 : op = 6
  · subst e6; simp; grind
  simp [e0, e1, e2, e3, e4, e5, e6]

end
end Vg.Try
