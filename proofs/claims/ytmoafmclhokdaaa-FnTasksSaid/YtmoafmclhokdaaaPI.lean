/- Plain laws: what is the same; deeds; tasks: which are right, what they hold. -/
import Derived.Test.YtmoafmclhokdaaaPH
namespace Vg.Try
open Go Vg
set_option linter.unusedVariables false
set_option linter.unusedSectionVars false
set_option linter.unusedSimpArgs false

theorem allEq_dec {α : Type} [DecidableEq α] : ∀ (l m : List α), allEq (fun a b => decide (a = b)) l m = decide (l = m)
  | [], [] => by simp [allEq]
  | [], _ :: _ => by simp [allEq]
  | _ :: _, [] => by simp [allEq]
  | a :: l, b :: m => by simp only [allEq, allEq_dec l m, List.cons.injEq, Bool.decide_and]

theorem toList_eq_dec (a b : ByteArray) : (a.toList == b.toList) = decide (a = b) := by
  by_cases h : a = b
  · simp [h]
  · have : ¬ a.toList = b.toList := fun e => h (toList_inj e)
    simp [h, this]

instance iLabel : DecidableEq DLabel := inferInstance
instance iLabels : DecidableEq (List DLabel) := inferInstance
instance iAlarm : DecidableEq DAlarm := @instDecidableEqProd _ _ inferInstance inferInstance
instance iAlarms : DecidableEq (List DAlarm) := inferInstance
instance iTask : DecidableEq DTask := @instDecidableEqProd _ _ inferInstance (@instDecidableEqProd _ _ inferInstance (@instDecidableEqProd _ _ inferInstance (@instDecidableEqProd _ _ inferInstance (@instDecidableEqProd _ _ inferInstance inferInstance))))
def zT : DTask := (0, 0, zAlarm, [], 0, [], [], 0, 0)
def okSeen (l : List Int) : Bool := allB 0 l.length (fun i => decide (0 ≤ l.getD i 0))
def bareT (t : DTask) : Bool := decide (t.2.2.2.2.1 = 0) && decide (t.2.2.2.2.2.1 = []) && decide (t.2.2.2.2.2.2.1 = [])
/-- A task at the place n. -/
def okTask (t : DTask) (n : Int) : Bool :=
  inB n 0 4 && decide (0 ≤ t.2.2.2.2.2.2.2.2) &&
  ((decide (t.1 = 0) && decide (t = zT)) ||
   (decide (t.1 = 1) && decide (n < 3) && inB t.2.1 0 2 && okAlarm t.2.2.1 && decide (t.2.2.2.1 = []) && bareT t && decide (t.2.2.2.2.2.2.2.1 = 0)) ||
   (decide (t.1 = 2) && decide (n < 3) && inB t.2.1 0 1 && decide (t.2.2.1 = zAlarm) && okSet t.2.2.2.1 && bareT t && decide (t.2.2.2.2.2.2.2.1 = 0)) ||
   (decide (t.1 = 3) && decide (n < 3) && inB t.2.1 0 2 && decide (t.2.2.1 = zAlarm) && decide (t.2.2.2.1 = []) && okSeen t.2.2.2.2.2.1 && decide ((t.2.2.2.2.2.1.length : Int) = t.2.2.2.2.1) && okAlarms t.2.2.2.2.2.2.1 &&
     (if t.2.1 = 2 then inB t.2.2.2.2.1 1 3 else inB t.2.2.2.2.1 0 2) && decide (t.2.2.2.2.2.2.2.1 = 0)) ||
   (decide (t.1 = 4) && decide (n < 3) && inB t.2.1 0 1 && decide (t.2.2.1 = zAlarm) && decide (t.2.2.2.1 = []) && inB t.2.2.2.2.1 0 2 && decide (t.2.2.2.2.2.1 = []) && decide (t.2.2.2.2.2.2.1 = []) && decide (t.2.2.2.2.2.2.2.1 = 0)) ||
   (decide (t.1 = 5) && decide (n = 3) && inB t.2.1 0 1 && okAlarm t.2.2.1 && decide (t.2.2.2.1 = []) && bareT t && decide (t.2.2.2.2.2.2.2.1 = 0)) ||
   (decide (t.1 = 6) && decide (n = 4) && inB t.2.1 0 1 && decide (t.2.2.1 = zAlarm) && decide (t.2.2.2.1 = []) && bareT t && decide (0 ≤ t.2.2.2.2.2.2.2.1)))

def holdsPart (k : Nat) (t : DTask) (n : Int) : Int :=
  if n < 1 then -1
  else if t.1 = 1 ∧ (t.2.1 = 1 ∨ t.2.1 = 2) then partOfI (fing k t.2.2.1.1) n
  else if t.1 = 2 ∧ t.2.1 = 1 then partOfI (fing k t.2.2.2.1) n
  else if (t.1 = 3 ∨ t.1 = 4) ∧ t.2.1 = 1 then t.2.2.2.2.1
  else -1
def holdsGr (t : DTask) : Bool := (decide (t.1 = 5) || decide (t.1 = 6)) && decide (t.2.1 = 1)

section
variable {k : Nat} (hk : 9223372036854775808 ≤ k)
include hk

theorem spec_SameAlarm_ok {a b : DAlarm} (ha : a.1.length ≤ 1048576) : F_spec_SameAlarm k (a, b, ()) = some (decide (a = b), ()) := by
  obtain ⟨a1, a2, a3, a4⟩ := a
  obtain ⟨b1, b2, b3, b4⟩ := b
  simp only [F_spec_SameAlarm, spec_SameSet_ok hk ha, Option.bind_some, beq_dec, toList_eq_dec, Prod.mk.injEq, Bool.decide_and]
  by_cases h1 : a1 = b1 <;> by_cases h2 : a2 = b2 <;> by_cases h3 : a3 = b3 <;> simp [h1, h2, h3]

theorem impl_SameAlarm_ok {a b : DAlarm} (ha : a.1.length ≤ 1048576) : F_impl_SameAlarm k (a, b, ()) = some (decide (a = b), ()) := by
  obtain ⟨a1, a2, a3, a4⟩ := a
  obtain ⟨b1, b2, b3, b4⟩ := b
  simp only [F_impl_SameAlarm, impl_SameSet_ok hk ha, Option.bind_some, beq_dec, toList_eq_dec, Prod.mk.injEq, Bool.decide_and]
  by_cases h1 : a1 = b1 <;> by_cases h2 : a2 = b2 <;> by_cases h3 : a3 = b3 <;> simp [h1, h2, h3]

theorem alarm_len {a : DAlarm} (h : tot tAlarm a ≤ 1048576) : a.1.length ≤ 1048576 := by
  rw [tot_Alarm hk] at h
  have := tot_len (e := tLabel) (l := a.1)
  omega

theorem impl_sameAlarms_ok {a b : List DAlarm} (ha : tot (.sl tAlarm) a ≤ 1048576) : F_impl_sameAlarms k (a, b, ()) = some (decide (a = b), ()) := by
  rw [← allEq_dec]
  have hl := tot_len (e := tAlarm) (l := a)
  exact eqR_all (d := tAlarm.dflt) (S := F_impl_SameAlarm k) hk (by omega) (fun x hx y _ => impl_SameAlarm_ok hk (alarm_len hk (Nat.le_trans (tot_mem (e := tAlarm) hx) ha)))

theorem impl_sameInts_ok {a b : List Int} (ha : a.length ≤ 1048576) : F_impl_sameInts k (a, b, ()) = some (decide (a = b), ()) := by
  rw [← allEq_dec]
  refine Eq.trans ?_ (eqR_all (d := (0 : Int)) (S := fun z => some (decide ((z.1 : Int) = z.2.1), ())) (p := fun a b => decide (a = b)) hk (by omega) (fun x hx y _ => rfl))
  simp only [F_impl_sameInts, eqR, Option.bind_some, bne_dec]

theorem impl_sameTask_ok {a b : DTask} (ha : tot tTask a ≤ 1048576) : F_impl_sameTask k (a, b, ()) = some (decide (a = b), ()) := by
  rw [tot_Task hk] at ha
  have h1 := alarm_len hk (a := a.2.2.1) (by omega)
  have h2 := tot_len (e := tLabel) (l := a.2.2.2.1)
  have h3 := tot_len (e := .int .i64) (l := a.2.2.2.2.2.1)
  have q1 : ∀ b, F_impl_SameAlarm k (a.2.2.1, b, ()) = some (decide (a.2.2.1 = b), ()) := fun b => impl_SameAlarm_ok hk h1
  have q2 : ∀ b, F_impl_SameSet k (a.2.2.2.1, b, ()) = some (decide (a.2.2.2.1 = b), ()) := fun b => impl_SameSet_ok hk (by omega)
  have q3 : ∀ b, F_impl_sameInts k (a.2.2.2.2.2.1, b, ()) = some (decide (a.2.2.2.2.2.1 = b), ()) := fun b => impl_sameInts_ok hk (by omega)
  have q4 : ∀ b, F_impl_sameAlarms k (a.2.2.2.2.2.2.1, b, ()) = some (decide (a.2.2.2.2.2.2.1 = b), ()) := fun b => impl_sameAlarms_ok hk (by omega)
  obtain ⟨a1, a2, a3, a4, a5, a6, a7, a8, a9⟩ := a
  obtain ⟨b1, b2, b3, b4, b5, b6, b7, b8, b9⟩ := b
  simp only at q1 q2 q3 q4
  simp only [F_impl_sameTask, q1, q2, q3, q4, ite_some, Option.bind_some, beq_dec, Prod.mk.injEq, Bool.decide_and]
  by_cases e1 : a1 = b1
  · by_cases e2 : a2 = b2
    · by_cases e3 : a3 = b3
      · by_cases e4 : a4 = b4
        · by_cases e5 : a5 = b5
          · by_cases e6 : a6 = b6
            · by_cases e7 : a7 = b7
              · by_cases e8 : a8 = b8 <;> simp [e1, e2, e3, e4, e5, e6, e7, e8]
              · simp [e1, e2, e3, e4, e5, e6, e7]
            · simp [e1, e2, e3, e4, e5, e6]
          · simp [e1, e2, e3, e4, e5]
        · simp [e1, e2, e3, e4]
      · simp [e1, e2, e3]
    · simp [e1, e2]
  · simp [e1]

theorem impl_HoldsPart_ok {t : DTask} {n : Int} (hs : tot tTask t ≤ 1048576) : F_impl_HoldsPart k (t, n, ()) = some (holdsPart k t n, ()) := by
  rw [tot_Task hk] at hs
  have ha : tot (.sl tLabel) t.2.2.1.1 ≤ 1048576 := by
    have := tot_Alarm hk t.2.2.1
    omega
  simp only [F_impl_HoldsPart, F_impl_partAt, impl_Finger_ok hk ha, impl_Finger_ok hk (l := t.2.2.2.1) (by omega), impl_PartOf_ok hk, Option.bind_some, beq_dec]
  unfold holdsPart
  by_cases hn : n < 1
  · simp [hn]
  · by_cases p1 : t.2.1 = 1
    · by_cases h1 : t.1 = 1
      · simp [hn, p1, h1]
      · by_cases h2 : t.1 = 2
        · simp [hn, p1, h1, h2]
        · by_cases h3 : t.1 = 3
          · simp [hn, p1, h1, h2, h3]
          · by_cases h4 : t.1 = 4 <;> simp [hn, p1, h1, h2, h3, h4]
    · by_cases h1 : t.1 = 1
      · by_cases p2 : t.2.1 = 2 <;> simp [hn, p1, p2, h1]
      · simp [hn, p1, h1]

theorem spec_HoldsPart_ok {t : DTask} {n : Int} (hs : tot tTask t ≤ 1048576) : F_spec_HoldsPart k (t, n, ()) = some (holdsPart k t n, ()) := by
  rw [tot_Task hk] at hs
  have ha : tot (.sl tLabel) t.2.2.1.1 ≤ 1048576 := by
    have := tot_Alarm hk t.2.2.1
    omega
  simp only [F_spec_HoldsPart, spec_Finger_ok hk ha, spec_Finger_ok hk (l := t.2.2.2.1) (by omega), spec_PartOf_ok hk, Option.bind_some, beq_dec]
  unfold holdsPart
  by_cases hn : n < 1
  · simp [hn]
  · by_cases p1 : t.2.1 = 1
    · by_cases h1 : t.1 = 1
      · simp [hn, p1, h1]
      · by_cases h2 : t.1 = 2
        · simp [hn, p1, h1, h2]
        · by_cases h3 : t.1 = 3
          · simp [hn, p1, h1, h2, h3]
          · by_cases h4 : t.1 = 4 <;> simp [hn, p1, h1, h2, h3, h4]
    · by_cases h1 : t.1 = 1
      · by_cases p2 : t.2.1 = 2 <;> simp [hn, p1, p2, h1]
      · simp [hn, p1, h1]

theorem impl_HoldsGroups_ok {t : DTask} : F_impl_HoldsGroups k (t, ()) = some (holdsGr t, ()) := by
  simp only [F_impl_HoldsGroups, holdsGr, beq_dec]
  by_cases h1 : t.1 = 5 <;> by_cases h2 : t.1 = 6 <;> simp [h1, h2]

theorem spec_HoldsGroups_ok {t : DTask} : F_spec_HoldsGroups k (t, ()) = some (holdsGr t, ()) := by
  simp only [F_spec_HoldsGroups, holdsGr, beq_dec]
  by_cases h1 : t.1 = 5 <;> by_cases h2 : t.1 = 6 <;> simp [h1, h2]

theorem impl_snapOk_ok {t : DTask} (hs : tot tTask t ≤ 1048576) : F_impl_snapOk k (t, ()) = some (okSeen t.2.2.2.2.2.1 && (decide ((t.2.2.2.2.2.1.length : Int) = t.2.2.2.2.1) && okAlarms t.2.2.2.2.2.2.1 && (if t.2.1 = 2 then inB t.2.2.2.2.1 1 3 else inB t.2.2.2.2.1 0 2)), ()) := by
  rw [tot_Task hk] at hs
  have h3 := tot_len (e := .int .i64) (l := t.2.2.2.2.2.1)
  simp only [F_impl_snapOk, joinC]
  refine (loop_all (fun i : Nat => (t, t.2.2.2.2.2.1, (t.2.2.2.2.2.1.length : Int), (i : Int), ())) (fun i => decide (0 ≤ t.2.2.2.2.2.1.getD i 0)) t.2.2.2.2.2.1.length
    (e := some (decide ((t.2.2.2.2.2.1.length : Int) = t.2.2.2.2.1) && okAlarms t.2.2.2.2.2.2.1 && (if t.2.1 = 2 then inB t.2.2.2.2.1 1 3 else inB t.2.2.2.2.1 0 2), ())) (no := some (false, ())) ?_ ?_ k 0 (by omega)).trans ?_
  · intro G i hi
    simp only [lt_nat, in_nat hi, hi, decide_true, if_true, Int.toNat_natCast, ge0_dec]
    rw [wrapS (by omega)]
    rcases Bool.eq_false_or_eq_true (decide (t.2.2.2.2.2.1.getD i 0 < 0)) with h | h <;> simp only [h, if_true, Bool.false_eq_true, if_false, Bool.not_true, Bool.not_false]
  · intro G i hi
    simp only [lt_nat]
    rw [if_neg (by simp; omega)]
    simp only [impl_alarmsOk_ok hk (l := t.2.2.2.2.2.2.1) (by omega), impl_in_ok hk, Option.bind_some, bne_dec, beq_dec, ite_some]
    by_cases q : (t.2.2.2.2.2.1.length : Int) = t.2.2.2.2.1 <;> by_cases p : t.2.1 = 2 <;> cases hb : okAlarms t.2.2.2.2.2.2.1 <;> simp [q, p]
  · unfold okSeen
    generalize allB 0 t.2.2.2.2.2.1.length _ = b
    cases b <;> simp

theorem spec_l14Seen_ok {t : DTask} (hs : tot tTask t ≤ 1048576) : F_spec_l14Seen k (t, ()) = some (okSeen t.2.2.2.2.2.1 && (decide ((t.2.2.2.2.2.1.length : Int) = t.2.2.2.2.1) && (if t.2.1 = 2 then inB t.2.2.2.2.1 1 3 else inB t.2.2.2.2.1 0 2)), ()) := by
  rw [tot_Task hk] at hs
  have h3 := tot_len (e := .int .i64) (l := t.2.2.2.2.2.1)
  simp only [F_spec_l14Seen, joinC]
  refine (loop_all (fun i : Nat => (t, (i : Int), ())) (fun i => decide (0 ≤ t.2.2.2.2.2.1.getD i 0)) t.2.2.2.2.2.1.length
    (e := some (decide ((t.2.2.2.2.2.1.length : Int) = t.2.2.2.2.1) && (if t.2.1 = 2 then inB t.2.2.2.2.1 1 3 else inB t.2.2.2.2.1 0 2), ())) (no := some (false, ())) ?_ ?_ k 0 (by omega)).trans ?_
  · intro G i hi
    simp only [lt_nat, in_nat hi, hi, decide_true, if_true, Int.toNat_natCast, ge0_dec]
    rw [wrapS (by omega)]
    rcases Bool.eq_false_or_eq_true (decide (t.2.2.2.2.2.1.getD i 0 < 0)) with h | h <;> simp only [h, if_true, Bool.false_eq_true, if_false, Bool.not_true, Bool.not_false]
  · intro G i hi
    simp only [lt_nat]
    rw [if_neg (by simp; omega)]
    simp only [spec_in_ok hk, Option.bind_some, beq_dec, ite_some]
    generalize t.2.2.2.2.2.1.length = n
    generalize t.2.2.2.2.1 = m
    by_cases p : t.2.1 = 2 <;> by_cases q : (n : Int) = m
    · subst q; simp [p]
    · have q2 : ¬ m = (n : Int) := fun e => q e.symm
      simp [p, q, q2]
    · subst q; simp [p, inB]
    · simp [p, q]
  · unfold okSeen
    generalize allB 0 t.2.2.2.2.2.1.length _ = b
    cases b <;> simp

end
end Vg.Try
