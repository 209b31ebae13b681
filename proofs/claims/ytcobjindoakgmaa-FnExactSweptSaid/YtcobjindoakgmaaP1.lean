/- Plain laws: alarms that are copied; what is swept. -/
import Derived.Test.YtcobjindoakgmaaQ1
namespace Vg.Try
open Go Vg
set_option linter.unusedVariables false
set_option linter.unusedSectionVars false
set_option linter.unusedSimpArgs false

theorem take_getD {α : Type} {l : List α} {i : Nat} (d : α) (h : i < l.length) : l.take (i + 1) = l.take i ++ [l.getD i d] := by
  rw [List.take_succ_eq_append_getElem h, List.getD_eq_getElem?_getD, List.getElem?_eq_getElem h]; rfl

theorem filter_one {α : Type} (p : α → Bool) (a : α) : [a].filter p = if p a = true then [a] else [] := by
  cases h : p a <;> simp [List.filter, h]

section
variable {k : Nat} (hk : 9223372036854775808 ≤ k)
include hk

theorem l4Copy_ok {a : DAlarm} (h : tot tAlarm a ≤ 1073741824) : F_spec_l4Copy k (a, ()) = some (a, ()) := by
  have h1 := tot_Alarm hk a
  have h2 := tot_len (e := tLabel) (l := a.1)
  simp only [F_spec_l4Copy]
  rw [if_pos (by simp; omega)]
  simp

theorem copySet_ok {l : List DLabel} (h : l.length ≤ 1073741824) : F_impl_copySet k (l, ()) = some (l, ()) := by
  simp only [F_impl_copySet]
  rw [if_pos (by simp; omega)]
  simp

theorem copyAlarm_ok {a : DAlarm} (h : tot tAlarm a ≤ 1073741824) : F_impl_copyAlarm k (a, ()) = some (a, ()) := by
  have h1 := tot_Alarm hk a
  have h2 := tot_len (e := tLabel) (l := a.1)
  simp only [F_impl_copyAlarm]
  rw [copySet_ok hk (by omega), Option.bind_some]

def sweptL (now : Int) (l : List DAlarm) : List DAlarm := l.filter fun a => !decide (a.2.2.1 ≤ now)

omit hk in
theorem sweptL_step {now : Int} {l : List DAlarm} {i : Nat} (h : i < l.length) : sweptL now (l.take (i + 1)) = if (!decide ((l.getD i tAlarm.dflt).2.2.1 ≤ now)) = true then sweptL now (l.take i) ++ [l.getD i tAlarm.dflt] else sweptL now (l.take i) := by
  rw [take_getD tAlarm.dflt h, sweptL, sweptL, List.filter_append, filter_one]
  split <;> simp

omit hk in
theorem sweptL_len {now : Int} {l : List DAlarm} : (sweptL now l).length ≤ l.length := List.length_filter_le ..

theorem spec_Swept_ok {l : List DAlarm} {now : Int} (h : tot (.sl tAlarm) l ≤ 1073741824) : F_spec_Swept k (l, now, ()) = some (sweptL now l, ()) := by
  have hl := tot_len (e := tAlarm) (l := l)
  simp only [F_spec_Swept]
  refine loop_run (fun i => (l, now, sweptL now (l.take i), (i : Int), ())) l.length (fun G i hi => ?_) (fun G => ?_) k 0 (by omega) (by omega)
  · have hm := tot_mem (e := tAlarm) (getD_mem (d := tAlarm.dflt) hi)
    have hs := sweptL_len (now := now) (l := l.take i)
    rw [List.length_take] at hs
    simp only [lt_nat, in_nat hi, hi, decide_true, if_true, Int.toNat_natCast, F_spec_Over, Option.bind_some]
    rw [l4Copy_ok hk (by omega), sweptL_step hi, wrapS (by omega)]
    simp only [Option.bind_some]
    split
    · rw [if_pos (by simp; omega)]
    · rfl
  · simp

theorem impl_Swept_ok {l : List DAlarm} {now : Int} (h : tot (.sl tAlarm) l ≤ 1073741824) : F_impl_Swept k (l, now, ()) = some (sweptL now l, ()) := by
  have hl := tot_len (e := tAlarm) (l := l)
  simp only [F_impl_Swept]
  refine loop_run (fun i => (now, sweptL now (l.take i), l, (l.length : Int), (i : Int), ())) l.length (fun G i hi => ?_) (fun G => ?_) k 0 (by omega) (by omega)
  · have hm := tot_mem (e := tAlarm) (getD_mem (d := tAlarm.dflt) hi)
    have hs := sweptL_len (now := now) (l := l.take i)
    rw [List.length_take] at hs
    simp only [lt_nat, in_nat hi, hi, decide_true, if_true, Int.toNat_natCast, F_impl_Over, Option.bind_some]
    rw [copyAlarm_ok hk (by omega), sweptL_step hi, wrapS (by omega)]
    simp only [Option.bind_some]
    split
    · rw [if_pos (by simp; omega)]
    · rfl
  · simp

omit hk in
theorem tot_filter {e : Ty} (p : e.den → Bool) : ∀ (l : List e.den), tot (.sl e) (l.filter p) ≤ tot (.sl e) l
  | [] => Nat.le_refl _
  | x :: l => by
    have := tot_filter p l
    by_cases h : p x = true
    · rw [List.filter_cons_of_pos h]; simp only [tot, List.length_cons, List.map_cons, List.sum_cons] at this ⊢; omega
    · rw [List.filter_cons_of_neg h]; simp only [tot, List.length_cons, List.map_cons, List.sum_cons] at this ⊢; omega

theorem law_Swept {x : List DAlarm × Int × Unit} (hx : Fits (.sl tAlarm) x.1) : F_laws_FnExactSwept k x = some (true, ()) := by
  obtain ⟨a, n, u⟩ := x
  simp only at hx
  simp only [F_laws_FnExactSwept]
  rw [szAlarmS_ok hk hx (by omega) (by omega), Option.bind_some]
  split
  · rfl
  · rename_i h1
    have h1 := szv_some (by simpa using h1)
    have hs : tot (.sl tAlarm) (sweptL n a) ≤ tot (.sl tAlarm) a := tot_filter (e := tAlarm) _ a
    obtain ⟨n1, x1, m1, p1, p2, p3⟩ := markAlarmS_ok hk a 1 (by omega) (by unfold markB; omega)
    obtain ⟨n2, x2, m2, q1, q2, q3⟩ := markAlarmS_ok hk (sweptL n a) 1 (by omega) (by unfold markB; omega)
    have z1 : decide (n1 < 0) = false := by simp; omega
    have z2 : decide (n2 < 0) = false := by simp; omega
    simp only [toAlarmS_ok hk (x := a) (by omega), Option.bind_some, spec_Swept_ok hk (l := a) (now := n) (by omega), impl_Swept_ok hk (l := a) (now := n) (by omega),
      eqAlarmS_ok hk (x := a) (by omega), eqAlarmS_ok hk (x := sweptL n a) (by omega), m1, m2, q3, z1, z2, Bool.not_true, Bool.false_eq_true, if_false, beq_self_eq_true, if_true, bne_self_eq_false]

end
end Vg.Try
