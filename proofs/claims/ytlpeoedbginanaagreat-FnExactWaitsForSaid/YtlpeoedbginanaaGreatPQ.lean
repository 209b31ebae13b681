/- Plain laws: which worlds are right. -/
import Derived.Test.YtlpeoedbginanaaGreatPO
namespace Vg.Tryz
open Go Vg
set_option linter.unusedVariables false
set_option linter.unusedSectionVars false
set_option linter.unusedSimpArgs false

def deedRight (k : Nat) (w : DWorld) (d : DDeed) : Bool :=
  okDeed k d && (decide (d.2.2.2.2.2.2.2.2.2.1 < w.2.1) && (decide (d.2.2.2.2.2.2.2.2.2.2.1 < w.2.1) && decide (d.2.2.2.2.2.2.2.2.2.2.2 < w.2.1)))
def okDeeds (k : Nat) (w : DWorld) : Bool := allB 0 w.2.2.2.2.2.2.2.2.2.2.2.2.2.length (fun i => deedRight k w (w.2.2.2.2.2.2.2.2.2.2.2.2.2.getD i tDeed.dflt))
def taskDeed (w : DWorld) (t : DTask) : DDeed := w.2.2.2.2.2.2.2.2.2.2.2.2.2.getD t.2.2.2.2.2.2.2.2.toNat tDeed.dflt
def okTasks (k : Nat) (w : DWorld) : Bool := allB 0 w.2.2.2.2.2.2.2.2.2.2.2.2.1.length (fun i => rightTask k w (w.2.2.2.2.2.2.2.2.2.2.2.2.1.getD i tTask.dflt) (taskDeed w (w.2.2.2.2.2.2.2.2.2.2.2.2.1.getD i tTask.dflt)) i)
def okStoreW (k : Nat) (w : DWorld) : Bool :=
  okStore k w.2.2.2.1 && (decide ((w.2.2.2.1.length : Int) = w.1.1) && (decide ((countL w.2.2.2.1 : Int) ≤ w.1.2.1) && allB 0 (sortL (allIn w.2.2.2.1)).length (fun i => okFits ((sortL (allIn w.2.2.2.1)).getD i tAlarm.dflt))))
def okWorld (k : Nat) (w : DWorld) : Bool :=
  okConf w.1 && (decide (0 ≤ w.2.1) && (decide (0 ≤ w.2.2.2.2.2.2.2.2.1) && (inB w.2.2.1 0 99899 && (okStoreW k w && (decide ((w.2.2.2.2.1.length : Int) = w.1.2.2.1) && (decide ((w.2.2.2.2.2.2.2.2.2.2.2.2.1.length : Int) = 5) && (okAlarms w.2.2.2.2.2.1 && (okAlarms w.2.2.2.2.2.2.2.2.2.2.2.1 &&
  (okSubs w.2.2.2.2.1 && (okDeeds k w && (okTasks k w && (okLocks k w && okTimedGroups w))))))))))))

section
variable {k : Nat} (hk : 9223372036854775808 ≤ k)
include hk

theorem impl_tasksRight_ok {w : DWorld} (hs : tot tWorld w ≤ 1048576) (hp : (w.2.2.2.1.length : Int) = w.1.1) : F_impl_tasksRight k (w, ()) = some (okDeeds k w && okTasks k w, ()) := by
  obtain ⟨w1, w2, _, _, w5, w6, _, w8, w9⟩ := world_parts hk hs
  have hn := tot_len (e := tDeed) (l := w.2.2.2.2.2.2.2.2.2.2.2.2.2)
  have hm := tot_len (e := tTask) (l := w.2.2.2.2.2.2.2.2.2.2.2.2.1)
  have hdeed : ∀ j : Nat, tot tDeed (w.2.2.2.2.2.2.2.2.2.2.2.2.2.getD j tDeed.dflt) ≤ 1048576 := fun j => any_at hk (e := tDeed) rfl w9 j
  have htask : ∀ j : Nat, tot tTask (w.2.2.2.2.2.2.2.2.2.2.2.2.1.getD j tTask.dflt) ≤ 1048576 := fun j => any_at hk (e := tTask) rfl w8 j
  simp only [F_impl_tasksRight, joinC]
  refine (loop_alln (fun i : Nat => (w, w.2.2.2.2.2.2.2.2.2.2.2.2.2, (w.2.2.2.2.2.2.2.2.2.2.2.2.2.length : Int), (i : Int), ())) (fun i => deedRight k w (w.2.2.2.2.2.2.2.2.2.2.2.2.2.getD i tDeed.dflt)) w.2.2.2.2.2.2.2.2.2.2.2.2.2.length
    (e := some (okTasks k w, ())) (no := some (false, ())) ?_ ?_ k 0 (by omega) (by omega)).trans ?_
  · intro G i hi
    dsimp only
    rw [lt_nat, decide_eq_true hi, if_pos rfl, if_pos (in_nat hi), Int.toNat_natCast, impl_DeedOk_ok hk, Option.bind_some, wrapS (by omega)]
    generalize w.2.2.2.2.2.2.2.2.2.2.2.2.2.getD i tDeed.dflt = d
    rw [ge_dec, ge_dec, ge_dec]
    unfold deedRight
    cases okDeed k d <;> cases decide (d.2.2.2.2.2.2.2.2.2.1 < w.2.1) <;> cases decide (d.2.2.2.2.2.2.2.2.2.2.1 < w.2.1) <;> cases decide (d.2.2.2.2.2.2.2.2.2.2.2 < w.2.1) <;> rfl
  · intro G
    simp only [lt_nat, Nat.lt_irrefl, decide_false, Bool.false_eq_true, if_false]
    refine (loop_alln (fun i : Nat => (w, w.2.2.2.2.2.2.2.2.2.2.2.2.1, (w.2.2.2.2.2.2.2.2.2.2.2.2.1.length : Int), (i : Int), ())) (fun i => rightTask k w (w.2.2.2.2.2.2.2.2.2.2.2.2.1.getD i tTask.dflt) (taskDeed w (w.2.2.2.2.2.2.2.2.2.2.2.2.1.getD i tTask.dflt)) i) w.2.2.2.2.2.2.2.2.2.2.2.2.1.length
      (e := some (true, ())) (no := some (false, ())) ?_ ?_ k 0 (by omega) (by omega)).trans ?_
    · intro G2 i hi
      have ht : tot tTask (w.2.2.2.2.2.2.2.2.2.2.2.2.1.getD i tTask.dflt) ≤ 1048576 := htask i
      dsimp only
      rw [lt_nat, decide_eq_true hi, if_pos rfl, if_pos (in_nat hi), Int.toNat_natCast, wrapS (by omega)]
      generalize w.2.2.2.2.2.2.2.2.2.2.2.2.1.getD i tTask.dflt = t at *
      have hd : tot tDeed (taskDeed w t) ≤ 1048576 := hdeed _
      unfold taskDeed at hd ⊢
      generalize w.2.2.2.2.2.2.2.2.2.2.2.2.2.getD t.2.2.2.2.2.2.2.2.toNat tDeed.dflt = d at *
      rw [impl_TaskOk_ok hk ht, Option.bind_some]
      unfold rightTask
      by_cases hok : okTask t i = true
      rotate_left
      · simp [hok]
      obtain ⟨hH, hkind⟩ := okTask_kind hok
      rw [impl_deedFits_ok hk hs hp ht hd hok]
      by_cases e0 : t.1 = 0
      · simp [e0, hok]
      by_cases eH : t.2.2.2.2.2.2.2.2 < (w.2.2.2.2.2.2.2.2.2.2.2.2.2.length : Int)
      rotate_left
      · have : decide (t.2.2.2.2.2.2.2.2 ≥ (w.2.2.2.2.2.2.2.2.2.2.2.2.2.length : Int)) = true := by simp only [decide_eq_true_eq]; omega
        simp [e0, this, eH, hok]
      have q1 : decide (t.2.2.2.2.2.2.2.2 ≥ (w.2.2.2.2.2.2.2.2.2.2.2.2.2.length : Int)) = false := by simp only [decide_eq_false_iff_not]; omega
      simp only [hok, q1, hH, and_true, true_and, if_true, Bool.not_true, Bool.false_eq_true, if_false, eH, e0, decide_true, decide_false, Bool.true_and, Bool.false_or, beq_dec, bne_dec]
      by_cases c1 : d.2.1 = i
      rotate_left
      · simp [c1]
      by_cases c2 : d.2.2.2.2.2.2.2.2.2.2.2 = -1
      rotate_left
      · simp [c1, c2]
      by_cases c3 : d.2.2.2.2.2.2.2.2.2.2.1 = -1 <;> by_cases c4 : t.1 = 1 <;> by_cases c5 : t.2.1 = 2 <;> cases fitsDeed k w t d <;> simp [c1, c2, c3, c4, c5]
    · intro G2
      simp only [lt_nat, Nat.lt_irrefl, decide_false, Bool.false_eq_true, if_false]
    · show (if okTasks k w = true then _ else _) = _
      cases okTasks k w <;> simp
  · show (if okDeeds k w = true then _ else _) = _
    cases okDeeds k w <;> simp

theorem sorted_at {l : List DPart} (hs : tot (.sl tPart) l ≤ 1048576) {i : Nat} (hi : i < (sortL (allIn l)).length) : tot tAlarm ((sortL (allIn l)).getD i tAlarm.dflt) ≤ 1048576 := by
  have h1 := allIn_tot hk l
  have h2 := sortL_tot (allIn l)
  have h3 := tot_at (e := tAlarm) (d := tAlarm.dflt) hi
  omega

omit hk in
theorem sorted_len (l : List DPart) : (sortL (allIn l)).length = countL l := by
  have := sortR_len lessA (allIn l)
  unfold sortL sortBy countL
  rw [List.length_reverse]
  exact this

theorem spec_l16Store_ok {w : DWorld} (hs : tot tWorld w ≤ 1048576) : F_spec_l16Store k (w, ()) = some (okStoreW k w, ()) := by
  obtain ⟨w1, w2, _, _, w5, w6, _, w8, w9⟩ := world_parts hk hs
  have hc := countL_le hk w2
  have hsl := sorted_len w.2.2.2.1
  simp only [F_spec_l16Store, joinC, spec_StoreOk_ok hk w2, spec_AllAlarms_ok hk w2, Option.bind_some, bne_dec]
  unfold okStoreW
  cases okStore k w.2.2.2.1 with
  | false => rfl
  | true =>
    rcases Bool.eq_false_or_eq_true (decide ((w.2.2.2.1.length : Int) = w.1.1)) with hq | hq
    rotate_left
    · rw [hq]; rfl
    · rw [hq]
      simp only [Bool.not_true, Bool.false_eq_true, if_false, Bool.true_and]
      refine (loop_alln (fun i : Nat => (w, sortL (allIn w.2.2.2.1), (i : Int), ())) (fun i => okFits ((sortL (allIn w.2.2.2.1)).getD i tAlarm.dflt)) (sortL (allIn w.2.2.2.1)).length
        (e := some (decide ((countL w.2.2.2.1 : Int) ≤ w.1.2.1), ())) (no := some (false, ())) ?_ ?_ k 0 (by omega) (by omega)).trans ?_
      · intro G i hi
        have h1 := sorted_at hk w2 hi
        dsimp only
        rw [lt_nat, decide_eq_true hi, if_pos rfl, if_pos (in_nat hi), Int.toNat_natCast, spec_Fits_ok hk h1, Option.bind_some, wrapS (by omega)]
        cases okFits ((sortL (allIn w.2.2.2.1)).getD i tAlarm.dflt) <;> rfl
      · intro G
        simp only [lt_nat, Nat.lt_irrefl, decide_false, Bool.false_eq_true, if_false, hsl]
      · cases allB 0 (sortL (allIn w.2.2.2.1)).length (fun i => okFits ((sortL (allIn w.2.2.2.1)).getD i tAlarm.dflt)) <;> simp

theorem impl_storeRight_ok {w : DWorld} (hs : tot tWorld w ≤ 1048576) (h8 : w.1.2.1 ≤ 8) : F_impl_storeRight k (w, ()) = some (okStoreW k w, ()) := by
  obtain ⟨w1, w2, _, _, w5, w6, _, w8, w9⟩ := world_parts hk hs
  have hc := countL_le hk w2
  have hsl := sorted_len w.2.2.2.1
  simp only [F_impl_storeRight, joinC, impl_StoreOk_ok hk w2, impl_CountOf_ok hk w2, Option.bind_some, bne_dec]
  unfold okStoreW
  cases okStore k w.2.2.2.1 with
  | false => rfl
  | true =>
    rcases Bool.eq_false_or_eq_true (decide ((w.2.2.2.1.length : Int) = w.1.1)) with hq | hq
    rotate_left
    · rw [hq]; rfl
    · rw [hq]
      simp only [Bool.not_true, Bool.false_eq_true, if_false, Bool.true_and, beq_self_eq_true, if_true, Option.bind_some]
      by_cases hcap : (countL w.2.2.2.1 : Int) ≤ w.1.2.1
      rotate_left
      · rw [if_pos (by simp only [decide_eq_true_eq]; omega), decide_eq_false hcap]; rfl
      rw [if_neg (by simp only [decide_eq_true_eq]; omega), decide_eq_true hcap, impl_AllAlarms_ok hk w2 (by omega), Option.bind_some]
      refine (loop_alln (fun i : Nat => (w, sortL (allIn w.2.2.2.1), ((sortL (allIn w.2.2.2.1)).length : Int), (i : Int), ())) (fun i => okFits ((sortL (allIn w.2.2.2.1)).getD i tAlarm.dflt)) (sortL (allIn w.2.2.2.1)).length
        (e := some (true, ())) (no := some (false, ())) ?_ ?_ k 0 (by omega) (by omega)).trans ?_
      · intro G i hi
        have h1 := sorted_at hk w2 hi
        dsimp only
        rw [lt_nat, decide_eq_true hi, if_pos rfl, if_pos (in_nat hi), Int.toNat_natCast, impl_Fits_ok hk h1, Option.bind_some, wrapS (by omega)]
        cases okFits ((sortL (allIn w.2.2.2.1)).getD i tAlarm.dflt) <;> rfl
      · intro G
        simp only [lt_nat, Nat.lt_irrefl, decide_false, Bool.false_eq_true, if_false]
      · cases allB 0 (sortL (allIn w.2.2.2.1)).length (fun i => okFits ((sortL (allIn w.2.2.2.1)).getD i tAlarm.dflt)) <;> simp

omit hk in
theorem okStore_held {l : List DPart} (h : okStore k l = true) : (1 ≤ l.length ∧ l.length ≤ 3) ∧ ∀ i, i < l.length → inB (l.getD i tPart.dflt).1 (-1) 4 = true := by
  unfold okStore at h
  simp only [Bool.and_eq_true, allB_iff] at h
  obtain ⟨h1, h2⟩ := h
  refine ⟨?_, fun i hi => ?_⟩
  · unfold inB at h2
    simp only [Bool.and_eq_true, decide_eq_true_eq] at h2
    omega
  · have := h1 i (by omega) hi
    unfold okPart at this
    simp only [Bool.and_eq_true] at this
    exact this.2.1

omit hk in
theorem hold_lt {w : DWorld} (hp : (w.2.2.2.1.length : Int) = w.1.1) (h1 : 1 ≤ w.2.2.2.1.length) (ho : okTasks k w = true) {j : Nat} (hj : j < w.2.2.2.2.2.2.2.2.2.2.2.2.1.length) : holdAt k w j < w.2.2.2.1.length := by
  unfold okTasks at ho
  have h := allB_iff.1 ho j (by omega) hj
  unfold holdAt holdsPart
  generalize w.2.2.2.2.2.2.2.2.2.2.2.2.1.getD j tTask.dflt = t at *
  have hp1 := fun f : Int => partOfI_lt (f := f) (n := (w.2.2.2.1.length : Int)) (by omega)
  split
  · omega
  split
  · exact (hp1 _).2
  split
  · exact (hp1 _).2
  split
  · rename_i hc
    unfold rightTask fitsDeed at h
    rw [hp]
    grind
  · omega

end
end Vg.Tryz
