/- Plain laws: each task's deed is right. -/
import Derived.Test.YtlpeoedbginanaaGreatPK
namespace Vg.Tryz
open Go Vg
set_option linter.unusedVariables false
set_option linter.unusedSectionVars false
set_option linter.unusedSimpArgs false

theorem okTask_kind {t : DTask} {n : Int} (h : okTask t n = true) : 0 ≤ t.2.2.2.2.2.2.2.2 ∧ (t.1 = 0 ∨ t.1 = 1 ∨ t.1 = 2 ∨ t.1 = 3 ∨ t.1 = 4 ∨ t.1 = 5 ∨ t.1 = 6) := by
  unfold okTask at h
  grind

theorem okTask_3 {t : DTask} {n : Int} (h : okTask t n = true) (e : t.1 = 3) : (t.2.2.2.2.2.1.length : Int) = t.2.2.2.2.1 ∧ 0 ≤ t.2.1 ∧ t.2.1 ≤ 2 := by
  unfold okTask inB at h
  grind

theorem okTask_4 {t : DTask} {n : Int} (h : okTask t n = true) (e : t.1 = 4) : t.2.2.2.2.2.1 = [] ∧ t.2.2.2.2.2.2.1 = [] ∧ t.2.1 ≤ 1 := by
  unfold okTask inB at h
  grind

section
variable {k : Nat} (hk : 9223372036854775808 ≤ k)
include hk

theorem findAl_len {l : List DPart} {s : List DLabel} (hs : tot (.sl tPart) l ≤ 1048576) : (findAl k l s).1.1.length ≤ 1048576 := by
  unfold findAl
  split
  · simp [zAlarm]
  · rename_i h0
    obtain ⟨_, _, c⟩ := homeOf_lt (k := k) (l := l) (s := s) h0
    have hp := part_at hk hs c
    generalize l.getD (homeOf k l s).toNat tPart.dflt = p at hp ⊢
    unfold findIn
    cases hc : chainAt p (fing k s) with
    | none => simp [zAlarm]
    | some i =>
      obtain ⟨hi, _, _⟩ := idxB_some.1 hc
      obtain ⟨h1, h2⟩ := chain_at hk hp hi
      dsimp only
      cases hq : lblAt (p.2.2.getD i tChain.dflt).2 s with
      | none => simp [zAlarm]
      | some j =>
        obtain ⟨hj, _, _⟩ := idxB_some.1 hq
        have h3 := tot_at (e := tAlarm) (d := tAlarm.dflt) hj
        exact alarm_len hk (a := (p.2.2.getD i tChain.dflt).2.getD j tAlarm.dflt) (by omega)

theorem world_parts {w : DWorld} (hs : tot tWorld w ≤ 1048576) :
    tot tConf w.1 ≤ 1048576 ∧ tot (.sl tPart) w.2.2.2.1 ≤ 1048576 ∧ tot (.sl tSub) w.2.2.2.2.1 ≤ 1048576 ∧ tot (.sl tAlarm) w.2.2.2.2.2.1 ≤ 1048576 ∧ tot (.sl tGroup) w.2.2.2.2.2.2.2.1 ≤ 1048576 ∧
    w.2.2.2.2.2.2.2.2.2.1.length ≤ 1048576 ∧ tot (.sl tAlarm) w.2.2.2.2.2.2.2.2.2.2.2.1 ≤ 1048576 ∧ tot (.sl tTask) w.2.2.2.2.2.2.2.2.2.2.2.2.1 ≤ 1048576 ∧ tot (.sl tDeed) w.2.2.2.2.2.2.2.2.2.2.2.2.2 ≤ 1048576 := by
  rw [tot_World hk] at hs
  have h := tot_len (e := tTimer) (l := w.2.2.2.2.2.2.2.2.2.1)
  omega

theorem any_at {e : Ty} {l : List e.den} (hd : tot e e.dflt = 0) (hs : tot (.sl e) l ≤ 1048576) (n : Nat) : tot e (l.getD n e.dflt) ≤ 1048576 := by
  by_cases h : n < l.length
  · have := tot_at (e := e) (d := e.dflt) h
    omega
  · rw [List.getD_eq_getElem?_getD, List.getElem?_eq_none (by omega), Option.getD_none, hd]
    omega

theorem spec_l16Task_ok {w : DWorld} {i : Nat} (hs : tot tWorld w ≤ 1048576) (hi : i < w.2.2.2.2.2.2.2.2.2.2.2.2.1.length) (hp : (w.2.2.2.1.length : Int) = w.1.1) :
    F_spec_l16Task k (w, (i : Int), ()) = some (rightTask k w (w.2.2.2.2.2.2.2.2.2.2.2.2.1.getD i tTask.dflt) (w.2.2.2.2.2.2.2.2.2.2.2.2.2.getD (w.2.2.2.2.2.2.2.2.2.2.2.2.1.getD i tTask.dflt).2.2.2.2.2.2.2.2.toNat tDeed.dflt) i, ()) := by
  obtain ⟨_, w2, _, _, _, _, _, w8, w9⟩ := world_parts hk hs
  have ht : tot tTask (w.2.2.2.2.2.2.2.2.2.2.2.2.1.getD i tTask.dflt) ≤ 1048576 := any_at hk (e := tTask) rfl w8 i
  have hd : tot tDeed (w.2.2.2.2.2.2.2.2.2.2.2.2.2.getD (w.2.2.2.2.2.2.2.2.2.2.2.2.1.getD i tTask.dflt).2.2.2.2.2.2.2.2.toNat tDeed.dflt) ≤ 1048576 := any_at hk (e := tDeed) rfl w9 (w.2.2.2.2.2.2.2.2.2.2.2.2.1.getD i tTask.dflt).2.2.2.2.2.2.2.2.toNat
  unfold F_spec_l16Task joinC
  dsimp only
  rw [if_pos (in_nat hi), Int.toNat_natCast]
  generalize w.2.2.2.2.2.2.2.2.2.2.2.2.1.getD i tTask.dflt = t at *
  generalize w.2.2.2.2.2.2.2.2.2.2.2.2.2.getD t.2.2.2.2.2.2.2.2.toNat tDeed.dflt = d at *
  rw [spec_TaskOk_ok hk ht, Option.bind_some]
  unfold rightTask
  by_cases hok : okTask t i = true
  rotate_left
  · simp [hok]
  obtain ⟨hH, hkind⟩ := okTask_kind hok
  obtain ⟨t1, t2, t3, t4, t5⟩ := task_parts hk ht
  obtain ⟨d1, d2, d3, d4⟩ := deed_parts hk hd
  have hfl := findAl_len hk (s := t.2.2.1.1) w2
  have t6 := alarm_len hk t1
  have d6 := alarm_len hk d1
  have t7 := tot_len (e := tLabel) (l := t.2.2.1.1)
  have d7 := tot_len (e := tLabel) (l := d.2.2.1.1)
  have d8 := tot_len (e := tLabel) (l := d.2.2.2.1)
  by_cases e0 : t.1 = 0
  · simp [e0, hok]
  by_cases eH : t.2.2.2.2.2.2.2.2 < (w.2.2.2.2.2.2.2.2.2.2.2.2.2.length : Int)
  rotate_left
  · have : decide (t.2.2.2.2.2.2.2.2 ≥ (w.2.2.2.2.2.2.2.2.2.2.2.2.2.length : Int)) = true := by simp only [decide_eq_true_eq]; omega
    simp [e0, this, eH, hok]
  have q1 : decide (t.2.2.2.2.2.2.2.2 ≥ (w.2.2.2.2.2.2.2.2.2.2.2.2.2.length : Int)) = false := by simp only [decide_eq_false_iff_not]; omega
  have q2 : decide (0 ≤ t.2.2.2.2.2.2.2.2 ∧ t.2.2.2.2.2.2.2.2 < (w.2.2.2.2.2.2.2.2.2.2.2.2.2.length : Int)) = true := by simp only [decide_eq_true_eq]; omega
  simp only [hok, q1, q2, hH, and_true, true_and, if_true, Bool.not_true, Bool.false_eq_true, if_false, eH, e0, decide_true, decide_false, Bool.true_and, Bool.false_or, beq_dec, bne_dec]
  have hop : F_spec_l16DeedOp k (t.1, ()) = some (List.getD [0, 1, 3, 4, 6, 7, 8] t.1.toNat 0, ()) := by
    simp only [F_spec_l16DeedOp]
    rw [if_pos (by simp only [decide_eq_true_eq, List.length_cons, List.length_nil]; omega)]
  rw [hop]
  clear hop q1 q2
  by_cases c1 : d.2.1 = i
  rotate_left
  · simp [c1, hok]
  by_cases c2 : d.2.2.2.2.2.2.2.2.2.2.2 = -1
  rotate_left
  · simp [c1, c2, hok]
  simp only [c1, c2, decide_true, Bool.not_true, Bool.false_eq_true, if_false, beq_self_eq_true, if_true, Option.bind_some, Bool.true_and]
  unfold fitsDeed
  rcases hkind with h | h | h | h | h | h | h
  · exact absurd h e0
  all_goals
    have hn : t.1.toNat = t.1.toNat := rfl
    simp only [h] at hn ⊢
  · simp only [spec_FindAlarm_ok hk w2 t5, spec_SameAlarm_ok hk hfl, spec_SameAlarm_ok hk d6, spec_SameSet_ok hk (a := d.2.2.1.1) (by omega), spec_Fits_ok hk t1]
    by_cases b1 : d.1 = 1 <;> by_cases b2 : d.2.2.2.2.2.2.2.2.2.2.1 = -1 <;> by_cases b3 : t.2.1 = 2 <;> simp [b1, b2, b3]
    · by_cases b4 : d.2.2.1 = t.2.2.1 <;> simp [b4]
    · simp only [spec_SameAlarm_ok hk hfl]
      cases (findAl k w.2.2.2.1 t.2.2.1.1).2 <;> by_cases b4 : (findAl k w.2.2.2.1 t.2.2.1.1).1 = t.2.2.1 <;> simp [b4]
  · simp only [spec_SameSet_ok hk (a := d.2.2.2.1) (by omega)]
    by_cases b1 : d.1 = 3 <;> by_cases b2 : d.2.2.2.2.2.2.2.2.2.2.1 = -1 <;> simp [b1, b2]
  · obtain ⟨e1, e2, e3⟩ := okTask_3 hok h
    by_cases b1 : d.1 = 4 <;> by_cases b2 : d.2.2.2.2.2.2.2.2.2.2.1 = -1 <;> by_cases b3 : t.2.1 = 2 <;> simp [b1, b2, b3]
    · by_cases b4 : (t.2.2.2.2.2.1.length : Int) = w.1.1
      · rw [spec_l16Seen_ok hk ht w2 (by omega)]; simp [b4]
      · simp [b4]
    · by_cases b4 : t.2.2.2.2.1 < w.1.1
      · rw [spec_l16Seen_ok hk ht w2 (by omega)]; simp [b4]
      · simp [b4]
  · obtain ⟨e1, e2, e3⟩ := okTask_4 hok h
    have b3 : ¬ t.2.1 = 2 := by have := e3; omega
    by_cases b1 : d.1 = 6 <;> by_cases b2 : d.2.2.2.2.2.2.2.2.2.2.1 = -1 <;> simp [b1, b2, b3]
    have hl : t.2.2.2.2.2.1.length ≤ w.2.2.2.1.length := by rw [e1]; exact Nat.zero_le _
    have hq : seenRight w.2.2.2.1 t = true := by unfold seenRight sawOk; rw [e1, e2]; rfl
    rw [spec_l16Seen_ok hk ht w2 hl, hq]
    by_cases b4 : t.2.2.2.2.1 < w.1.1 <;> simp [b4]
  · simp only [spec_SameAlarm_ok hk d6]
    by_cases b1 : d.1 = 7 <;> by_cases b2 : d.2.2.2.2.2.2.2.2.2.2.1 = -1 <;> simp [b1, b2]
  · by_cases b1 : d.1 = 8 <;> by_cases b2 : d.2.2.2.2.2.2.2.2.2.2.1 = -1 <;> simp [b1, b2]

theorem impl_deedFits_ok {w : DWorld} {t : DTask} {d : DDeed} {n : Int} (hs : tot tWorld w ≤ 1048576) (hp : (w.2.2.2.1.length : Int) = w.1.1) (ht : tot tTask t ≤ 1048576) (hd : tot tDeed d ≤ 1048576) (hok : okTask t n = true) :
    F_impl_deedFits k (w, t, d, ()) = some (fitsDeed k w t d, ()) := by
  obtain ⟨_, w2, _, _, _, _, _, w8, w9⟩ := world_parts hk hs
  obtain ⟨t1, t2, t3, t4, t5⟩ := task_parts hk ht
  obtain ⟨d1, d2, d3, d4⟩ := deed_parts hk hd
  have hfl := findAl_len hk (s := t.2.2.1.1) w2
  have d6 := alarm_len hk d1
  have d7 := tot_len (e := tLabel) (l := d.2.2.1.1)
  have d8 := tot_len (e := tLabel) (l := d.2.2.2.1)
  simp only [F_impl_deedFits, impl_FindAlarm_ok hk w2 t5, impl_SameAlarm_ok hk hfl, impl_SameAlarm_ok hk d6, impl_SameSet_ok hk (a := d.2.2.1.1) (by omega), impl_SameSet_ok hk (a := d.2.2.2.1) (by omega), impl_Fits_ok hk t1, Option.bind_some, beq_dec, ite_some]
  unfold fitsDeed
  by_cases h1 : t.1 = 1
  · by_cases b1 : d.1 = 1 <;> by_cases b3 : t.2.1 = 2 <;> simp [h1, b1, b3]
    · by_cases b5 : d.2.2.1.1 = t.2.2.1.1 <;> cases (findAl k w.2.2.2.1 t.2.2.1.1).2 <;> by_cases b4 : (findAl k w.2.2.2.1 t.2.2.1.1).1 = t.2.2.1 <;> simp [b4, b5]
    · by_cases b4 : d.2.2.1 = t.2.2.1 <;> simp [b4]
  by_cases h2 : t.1 = 2
  · by_cases b1 : d.1 = 3 <;> simp [h2, b1]
  by_cases h3 : t.1 = 3
  · obtain ⟨e1, e2, e3⟩ := okTask_3 hok h3
    have hl : (if t.2.1 = 2 then decide ((t.2.2.2.2.2.1.length : Int) = w.1.1) else decide (t.2.2.2.2.1 < w.1.1)) = true → t.2.2.2.2.2.1.length ≤ w.2.2.2.1.length := by
      by_cases b3 : t.2.1 = 2 <;> simp [b3] <;> intro h <;> omega
    rw [impl_snapRight_ok hk ht w2 hl e3]
    by_cases b1 : d.1 = 4 <;> simp [h3, b1]
  by_cases h4 : t.1 = 4
  · by_cases b1 : d.1 = 6 <;> simp [h4, b1]
  by_cases h5 : t.1 = 5
  · by_cases b1 : d.1 = 7 <;> simp [h5, b1]
  by_cases b1 : d.1 = 8 <;> by_cases b2 : d.2.2.2.2.2.1 = t.2.2.2.2.2.2.2.1 <;> simp [h1, h2, h3, h4, h5, b1, b2]

end
end Vg.Tryz
