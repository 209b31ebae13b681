/- Plain laws: what is the same; deeds; tasks: which are right, what they hold. -/
import Derived.Test.YtmoafmclhokdaaaPH
namespace Vg.Try
open Go Vg
set_option linter.unusedVariables false
set_option linter.unusedSectionVars false
set_option linter.unusedSimpArgs false

theorem allEq_dec {α : Type} [DecidableEq α] : ∀ (l m : List α), allEq (fun a b => decide (a = b)) l m = decide (l = m)
  | [], [] => by simp [allEq]
  | [], _ :: _ => by simp [allEq]
  | _ :: _, [] => by simp [allEq]
  | a :: l, b :: m => by simp only [allEq, allEq_dec l m, List.cons.injEq, Bool.decide_and]

theorem toList_eq_dec (a b : ByteArray) : (a.toList == b.toList) = decide (a = b) := by
  by_cases h : a = b
  · simp [h]
  · have : ¬ a.toList = b.toList := fun e => h (toList_inj e)
    simp [h, this]

instance iLabel : DecidableEq DLabel := inferInstance
instance iLabels : DecidableEq (List DLabel) := inferInstance
instance iAlarm : DecidableEq DAlarm := @instDecidableEqProd _ _ inferInstance inferInstance
instance iAlarms : DecidableEq (List DAlarm) := inferInstance
def okSeen (l : List Int) : Bool := allB 0 l.length (fun i => decide (0 ≤ l.getD i 0))
section
variable {k : Nat} (hk : 9223372036854775808 ≤ k)
include hk

theorem impl_SameAlarm_ok {a b : DAlarm} (ha : a.1.length ≤ 1048576) : F_impl_SameAlarm k (a, b, ()) = some (decide (a = b), ()) := by
  obtain ⟨a1, a2, a3, a4⟩ := a
  obtain ⟨b1, b2, b3, b4⟩ := b
  simp only [F_impl_SameAlarm, impl_SameSet_ok hk ha, Option.bind_some, beq_dec, toList_eq_dec, Prod.mk.injEq, Bool.decide_and]
  by_cases h1 : a1 = b1 <;> by_cases h2 : a2 = b2 <;> by_cases h3 : a3 = b3 <;> simp [h1, h2, h3]

theorem alarm_len {a : DAlarm} (h : tot tAlarm a ≤ 1048576) : a.1.length ≤ 1048576 := by
  rw [tot_Alarm hk] at h
  have := tot_len (e := tLabel) (l := a.1)
  omega

theorem impl_sameAlarms_ok {a b : List DAlarm} (ha : tot (.sl tAlarm) a ≤ 1048576) : F_impl_sameAlarms k (a, b, ()) = some (decide (a = b), ()) := by
  rw [← allEq_dec]
  have hl := tot_len (e := tAlarm) (l := a)
  exact eqR_all (d := tAlarm.dflt) (S := F_impl_SameAlarm k) hk (by omega) (fun x hx y _ => impl_SameAlarm_ok hk (alarm_len hk (Nat.le_trans (tot_mem (e := tAlarm) hx) ha)))

end
end Vg.Try
