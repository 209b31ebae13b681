/- Plain laws: which worlds are right, both readings. -/
import Derived.Test.YtlpeoedbginanaaGreatPQ
namespace Vg.Tryz
open Go Vg
set_option linter.unusedVariables false
set_option linter.unusedSectionVars false
set_option linter.unusedSimpArgs false

section
variable {k : Nat} (hk : 9223372036854775808 ≤ k)
include hk

theorem spec_WorldOk_ok {w : DWorld} (hs : tot tWorld w ≤ 1048576) : F_spec_WorldOk k (w, ()) = some (okWorld k w, ()) := by
  obtain ⟨w1, w2, w3, w4, w5, w6, w7, w8, w9⟩ := world_parts hk hs
  have hn := tot_len (e := tDeed) (l := w.2.2.2.2.2.2.2.2.2.2.2.2.2)
  have hm := tot_len (e := tTask) (l := w.2.2.2.2.2.2.2.2.2.2.2.2.1)
  have hu := tot_len (e := tSub) (l := w.2.2.2.2.1)
  simp only [F_spec_WorldOk, joinC, spec_ConfOk_ok hk w1, spec_in_ok hk, spec_l16Store_ok hk hs, spec_l14Got_ok hk w4, spec_l14Got_ok hk w7, Option.bind_some, bne_dec, ite_some]
  have g0 : ∀ a : Int, decide (a < 0) = !decide (0 ≤ a) := fun a => by by_cases h : a < 0 <;> simp [h] <;> omega
  rw [g0, g0]
  unfold okWorld
  by_cases hall : okConf w.1 = true ∧ 0 ≤ w.2.1 ∧ 0 ≤ w.2.2.2.2.2.2.2.2.1 ∧ inB w.2.2.1 0 99899 = true ∧ okStoreW k w = true ∧ (w.2.2.2.2.1.length : Int) = w.1.2.2.1 ∧ (w.2.2.2.2.2.2.2.2.2.2.2.2.1.length : Int) = 5 ∧ okAlarms w.2.2.2.2.2.1 = true ∧ okAlarms w.2.2.2.2.2.2.2.2.2.2.2.1 = true
  rotate_left
  · have hf : (okConf w.1 && (decide (0 ≤ w.2.1) && (decide (0 ≤ w.2.2.2.2.2.2.2.2.1) && (inB w.2.2.1 0 99899 && (okStoreW k w && (decide ((w.2.2.2.2.1.length : Int) = w.1.2.2.1) && (decide ((w.2.2.2.2.2.2.2.2.2.2.2.2.1.length : Int) = 5) && (okAlarms w.2.2.2.2.2.1 && (okAlarms w.2.2.2.2.2.2.2.2.2.2.2.1 &&
      (okSubs w.2.2.2.2.1 && (okDeeds k w && (okTasks k w && (okLocks k w && okTimedGroups w))))))))))))) = false := by
      rw [Bool.eq_false_iff]
      intro h
      simp only [Bool.and_eq_true, decide_eq_true_eq] at h
      exact hall ⟨h.1, h.2.1, h.2.2.1, h.2.2.2.1, h.2.2.2.2.1, h.2.2.2.2.2.1, h.2.2.2.2.2.2.1, h.2.2.2.2.2.2.2.1, h.2.2.2.2.2.2.2.2.1⟩
    rw [hf]
    refine (if_pos ?_).trans rfl
    have hq : ¬ (okConf w.1 = true ∧ decide (0 ≤ w.2.1) = true ∧ decide (0 ≤ w.2.2.2.2.2.2.2.2.1) = true ∧ inB w.2.2.1 0 99899 = true ∧ okStoreW k w = true ∧ decide ((w.2.2.2.2.1.length : Int) = w.1.2.2.1) = true ∧ decide ((w.2.2.2.2.2.2.2.2.2.2.2.2.1.length : Int) = 5) = true ∧ okAlarms w.2.2.2.2.2.1 = true ∧ okAlarms w.2.2.2.2.2.2.2.2.2.2.2.1 = true) := by
      simpa only [decide_eq_true_eq] using hall
    generalize okConf w.1 = b1 at hq ⊢
    generalize decide (0 ≤ w.2.1) = b2 at hq ⊢
    generalize decide (0 ≤ w.2.2.2.2.2.2.2.2.1) = b3 at hq ⊢
    generalize inB w.2.2.1 0 99899 = b4 at hq ⊢
    generalize okStoreW k w = b5 at hq ⊢
    generalize decide ((w.2.2.2.2.1.length : Int) = w.1.2.2.1) = b6 at hq ⊢
    generalize decide ((w.2.2.2.2.2.2.2.2.2.2.2.2.1.length : Int) = 5) = b7 at hq ⊢
    generalize okAlarms w.2.2.2.2.2.1 = b8 at hq ⊢
    generalize okAlarms w.2.2.2.2.2.2.2.2.2.2.2.1 = b9 at hq ⊢
    clear hall hf
    cases b1
    · rfl
    cases b2
    · rfl
    cases b3
    · rfl
    cases b4
    · rfl
    cases b5
    · rfl
    cases b6
    · rfl
    cases b7
    · rfl
    cases b8
    · rfl
    cases b9
    · rfl
    exact absurd ⟨rfl, rfl, rfl, rfl, rfl, rfl, rfl, rfl, rfl⟩ hq
  obtain ⟨h1, h2, h3, h4, h5, h6, h7, h8, h9⟩ := hall
  have hst : okStore k w.2.2.2.1 = true ∧ (w.2.2.2.1.length : Int) = w.1.1 := by
    unfold okStoreW at h5
    simp only [Bool.and_eq_true, decide_eq_true_eq] at h5
    exact ⟨h5.1, h5.2.1⟩
  obtain ⟨⟨hl1, _⟩, hheld⟩ := okStore_held hst.1
  rw [h1, decide_eq_true h2, decide_eq_true h3, h4, h5, decide_eq_true h6, decide_eq_true h7, h8, h9]
  simp only [Bool.true_and]
  refine (if_noB rfl).trans ?_
  refine (loop_alln (fun i : Nat => (w, (i : Int), ())) (fun i => okSub (w.2.2.2.2.1.getD i tSub.dflt)) w.2.2.2.2.1.length
    (e := some (okDeeds k w && (okTasks k w && (okLocks k w && okTimedGroups w)), ())) (no := some (false, ())) ?_ ?_ k 0 (by omega) (by omega)).trans ?_
  · intro G i hi
    dsimp only
    rw [lt_nat, decide_eq_true hi, if_pos rfl, if_pos (in_nat hi), Int.toNat_natCast, spec_SubOk_ok hk (sub_at hk w3 hi), Option.bind_some, wrapS (by omega)]
    cases okSub (w.2.2.2.2.1.getD i tSub.dflt) <;> rfl
  · intro G
    simp only [lt_nat, Nat.lt_irrefl, decide_false, Bool.false_eq_true, if_false]
    refine (loop_alln (fun i : Nat => (w, (i : Int), ())) (fun i => deedRight k w (w.2.2.2.2.2.2.2.2.2.2.2.2.2.getD i tDeed.dflt)) w.2.2.2.2.2.2.2.2.2.2.2.2.2.length
      (e := some (okTasks k w && (okLocks k w && okTimedGroups w), ())) (no := some (false, ())) ?_ ?_ k 0 (by omega) (by omega)).trans ?_
    · intro G i hi
      dsimp only
      rw [lt_nat, decide_eq_true hi, if_pos rfl, if_pos (in_nat hi), Int.toNat_natCast, spec_DeedOk_ok hk, Option.bind_some, wrapS (by omega)]
      generalize w.2.2.2.2.2.2.2.2.2.2.2.2.2.getD i tDeed.dflt = d
      rw [ge_dec, ge_dec, ge_dec]
      unfold deedRight
      cases okDeed k d <;> cases decide (d.2.2.2.2.2.2.2.2.2.1 < w.2.1) <;> cases decide (d.2.2.2.2.2.2.2.2.2.2.1 < w.2.1) <;> cases decide (d.2.2.2.2.2.2.2.2.2.2.2 < w.2.1) <;> rfl
    · intro G
      simp only [lt_nat, Nat.lt_irrefl, decide_false, Bool.false_eq_true, if_false]
      refine (loop_alln (fun i : Nat => (w, (i : Int), ())) (fun i => rightTask k w (w.2.2.2.2.2.2.2.2.2.2.2.2.1.getD i tTask.dflt) (taskDeed w (w.2.2.2.2.2.2.2.2.2.2.2.2.1.getD i tTask.dflt)) i) w.2.2.2.2.2.2.2.2.2.2.2.2.1.length
        (e := F_spec_l16Locks k (w, ()) >>= fun r => (if (r.1 == true) = true then F_spec_l16Groups k (w, ()) else some (false, ())) >>= fun r2 => some (if r.1 = true then r2.1 else false, ())) (no := some (false, ())) ?_ ?_ k 0 (by omega) (by omega)).trans ?_
      · intro G i hi
        dsimp only
        rw [lt_nat, decide_eq_true hi, if_pos rfl, spec_l16Task_ok hk hs hi hst.2, Option.bind_some, wrapS (by omega)]
        show (if (!rightTask k w (w.2.2.2.2.2.2.2.2.2.2.2.2.1.getD i tTask.dflt) (taskDeed w (w.2.2.2.2.2.2.2.2.2.2.2.2.1.getD i tTask.dflt)) i) = true then _ else _) = _
        cases rightTask k w (w.2.2.2.2.2.2.2.2.2.2.2.2.1.getD i tTask.dflt) (taskDeed w (w.2.2.2.2.2.2.2.2.2.2.2.2.1.getD i tTask.dflt)) i <;> rfl
      · intro G
        simp only [lt_nat, Nat.lt_irrefl, decide_false, Bool.false_eq_true, if_false]
        rfl
      · show (if okTasks k w = true then _ else _) = _
        rcases Bool.eq_false_or_eq_true (okTasks k w) with ho | ho
        rotate_left
        · rw [ho]; rfl
        · rw [ho, if_pos rfl, spec_l16Locks_ok hk hs hheld (by omega) (fun j hj => hold_lt hst.2 hl1 ho (by omega)), spec_l16Groups_ok hk hs (by omega)]
          cases okLocks k w <;> rfl
    · show (if okDeeds k w = true then _ else _) = _
      cases okDeeds k w <;> simp
  · show (if okSubs w.2.2.2.2.1 = true then _ else _) = _
    cases okSubs w.2.2.2.2.1 <;> simp

theorem impl_WorldOk_ok {w : DWorld} (hs : tot tWorld w ≤ 1048576) : F_impl_WorldOk k (w, ()) = some (okWorld k w, ()) := by
  obtain ⟨w1, w2, w3, w4, w5, w6, w7, w8, w9⟩ := world_parts hk hs
  simp only [F_impl_WorldOk, impl_ConfOk_ok hk w1, impl_in_ok hk, Option.bind_some, bne_dec, ite_some]
  have g0 : ∀ a : Int, decide (a < 0) = !decide (0 ≤ a) := fun a => by by_cases h : a < 0 <;> simp [h] <;> omega
  rw [g0, g0]
  unfold okWorld
  by_cases hall : okConf w.1 = true ∧ 0 ≤ w.2.1 ∧ 0 ≤ w.2.2.2.2.2.2.2.2.1 ∧ inB w.2.2.1 0 99899 = true ∧ (w.2.2.2.2.2.2.2.2.2.2.2.2.1.length : Int) = 5
  rotate_left
  · have hf : (okConf w.1 && (decide (0 ≤ w.2.1) && (decide (0 ≤ w.2.2.2.2.2.2.2.2.1) && (inB w.2.2.1 0 99899 && (okStoreW k w && (decide ((w.2.2.2.2.1.length : Int) = w.1.2.2.1) && (decide ((w.2.2.2.2.2.2.2.2.2.2.2.2.1.length : Int) = 5) && (okAlarms w.2.2.2.2.2.1 && (okAlarms w.2.2.2.2.2.2.2.2.2.2.2.1 &&
      (okSubs w.2.2.2.2.1 && (okDeeds k w && (okTasks k w && (okLocks k w && okTimedGroups w))))))))))))) = false := by
      rw [Bool.eq_false_iff]
      intro h
      simp only [Bool.and_eq_true, decide_eq_true_eq] at h
      exact hall ⟨h.1, h.2.1, h.2.2.1, h.2.2.2.1, h.2.2.2.2.2.2.1⟩
    rw [hf]
    refine (if_pos ?_).trans rfl
    have hq : ¬ (okConf w.1 = true ∧ decide (0 ≤ w.2.1) = true ∧ decide (0 ≤ w.2.2.2.2.2.2.2.2.1) = true ∧ inB w.2.2.1 0 99899 = true ∧ decide ((w.2.2.2.2.2.2.2.2.2.2.2.2.1.length : Int) = 5) = true) := by
      simpa only [decide_eq_true_eq] using hall
    generalize okConf w.1 = b1 at hq ⊢
    generalize decide (0 ≤ w.2.1) = b2 at hq ⊢
    generalize decide (0 ≤ w.2.2.2.2.2.2.2.2.1) = b3 at hq ⊢
    generalize inB w.2.2.1 0 99899 = b4 at hq ⊢
    generalize decide ((w.2.2.2.2.2.2.2.2.2.2.2.2.1.length : Int) = 5) = b7 at hq ⊢
    clear hall hf
    cases b1
    · rfl
    cases b2
    · rfl
    cases b3
    · rfl
    cases b4
    · rfl
    cases b7
    · rfl
    exact absurd ⟨rfl, rfl, rfl, rfl, rfl⟩ hq
  obtain ⟨h1, h2, h3, h4, h7⟩ := hall
  have hcap : w.1.2.1 ≤ 8 := by
    unfold okConf inB at h1
    simp only [Bool.and_eq_true, decide_eq_true_eq] at h1
    omega
  rw [h1, decide_eq_true h2, decide_eq_true h3, h4, decide_eq_true h7]
  simp only [Bool.true_and]
  refine (if_noB rfl).trans ?_
  rw [impl_storeRight_ok hk hs hcap, Option.bind_some]
  rcases Bool.eq_false_or_eq_true (okStoreW k w) with h5 | h5
  rotate_left
  · rw [h5]; rfl
  have hst : okStore k w.2.2.2.1 = true ∧ (w.2.2.2.1.length : Int) = w.1.1 := by
    unfold okStoreW at h5
    simp only [Bool.and_eq_true, decide_eq_true_eq] at h5
    exact ⟨h5.1, h5.2.1⟩
  rw [h5, impl_subsRight_ok hk w3, impl_alarmsOk_ok hk w4, impl_alarmsOk_ok hk w7, impl_tasksRight_ok hk hs hst.2, impl_locksRight_ok hk hs, impl_groupsRight_ok hk hs (by omega)]
  generalize decide ((w.2.2.2.2.1.length : Int) = w.1.2.2.1) = c1
  generalize okAlarms w.2.2.2.2.2.1 = c2
  generalize okAlarms w.2.2.2.2.2.2.2.2.2.2.2.1 = c3
  generalize okSubs w.2.2.2.2.1 = c4
  generalize okDeeds k w = c5
  generalize okTasks k w = c6
  generalize okLocks k w = c7
  generalize okTimedGroups w = c8
  clear h5 hst
  cases c4 <;> cases c1 <;> cases c2 <;> cases c3 <;> cases c5 <;> cases c6 <;> cases c7 <;> first | rfl | (cases c8 <;> rfl)

theorem law_WorldOk {x : DWorld × Unit} (hx : Fits tWorld x.1) : F_laws_FnExactWorldOk k x = some (true, ()) := by
  obtain ⟨a, u⟩ := x
  simp only at hx
  simp only [F_laws_FnExactWorldOk]
  rw [szWorld_ok hk hx (by omega) (by omega), Option.bind_some]
  split
  · rfl
  · rename_i h1
    have h1 := szv_some (by simpa using h1)
    rw [toWorld_ok hk (x := a) (by omega)]
    simp only [Option.bind_some]
    rw [spec_WorldOk_ok hk (by omega), impl_WorldOk_ok hk (by omega), eqWorld_ok hk (by omega)]
    simp

end
end Vg.Tryz
