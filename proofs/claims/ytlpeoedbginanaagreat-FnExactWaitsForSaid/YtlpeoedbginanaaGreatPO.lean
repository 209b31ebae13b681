/- Plain laws: groups and timers of a world. -/
import Derived.Test.YtlpeoedbginanaaGreatPN
namespace Vg.Tryz
open Go Vg
set_option linter.unusedVariables false
set_option linter.unusedSectionVars false
set_option linter.unusedSimpArgs false

def okTimers (nn : Int) (h : List DTimer) : Bool :=
  allB 0 h.length (fun i => decide ((h.getD i tTimer.dflt).2 < nn) && allB 0 i (fun j => !decide ((h.getD j tTimer.dflt).2 = (h.getD i tTimer.dflt).2)))
def timedBy (w : DWorld) (g : DGroup) (j : Nat) : Bool :=
  decide ((w.2.2.2.2.2.2.2.2.2.1.getD j tTimer.dflt).2 = g.1) && decide ((w.2.2.2.2.2.2.2.2.2.1.getD j tTimer.dflt).1 = dueOf w.1 g)
def flushing (w : DWorld) (g : DGroup) : Bool :=
  if decide ((w.2.2.2.2.2.2.2.2.2.2.2.2.1.getD 4 tTask.dflt).1 = 6) = true then decide ((w.2.2.2.2.2.2.2.2.2.2.2.2.1.getD 4 tTask.dflt).2.2.2.2.2.2.2.1 = g.1) else false
def thereTill (w : DWorld) (g : DGroup) (n : Nat) : Bool := !allB 0 n (fun j => !timedBy w g j) || flushing w g
def okTimed (w : DWorld) : Bool :=
  allB 0 w.2.2.2.2.2.2.2.1.length (fun i => (decide ((w.2.2.2.2.2.2.2.1.getD i tGroup.dflt).2.2.1 ≤ w.2.2.1) &&
    (decide ((w.2.2.2.2.2.2.2.1.getD i tGroup.dflt).2.2.2.1 ≤ w.2.2.1) && decide ((w.2.2.2.2.2.2.2.1.getD i tGroup.dflt).1 < w.2.2.2.2.2.2.2.2.1))) && thereTill w (w.2.2.2.2.2.2.2.1.getD i tGroup.dflt) w.2.2.2.2.2.2.2.2.2.1.length)
def okTimedGroups (w : DWorld) : Bool :=
  okGroups w.2.2.2.2.2.2.2.1 w.1.2.2.2.2.2 && (okHeap w.2.2.2.2.2.2.2.2.2.1 && (okTimers w.2.2.2.2.2.2.2.2.1 w.2.2.2.2.2.2.2.2.2.1 && okTimed w))

theorem thereTill_next (w : DWorld) (g : DGroup) (n : Nat) : thereTill w g (n + 1) = (if thereTill w g n = true then true else timedBy w g n) := by
  unfold thereTill
  rw [allB_last]
  cases flushing w g <;> cases allB 0 n (fun j => !timedBy w g j) <;> cases timedBy w g n <;> rfl

section
variable {k : Nat} (hk : 9223372036854775808 ≤ k)
include hk

theorem conf_by {c : DConf} (h : tot tConf c ≤ 1048576) : c.2.2.2.2.2.length ≤ 1048576 := by
  rw [tot_Conf hk] at h
  have := tot_len (e := .str) (l := c.2.2.2.2.2)
  omega

theorem spec_l16Groups_ok {w : DWorld} (hs : tot tWorld w ≤ 1048576) (ht : w.2.2.2.2.2.2.2.2.2.2.2.2.1.length = 5) : F_spec_l16Groups k (w, ()) = some (okTimedGroups w, ()) := by
  obtain ⟨w1, w2, _, _, w5, w6, _, w8, w9⟩ := world_parts hk hs
  have hb := conf_by hk w1
  have hn := tot_len (e := tGroup) (l := w.2.2.2.2.2.2.2.1)
  simp only [F_spec_l16Groups, joinC, spec_GroupsOk_ok hk w5 hb, spec_HeapOk_ok hk w6, Option.bind_some]
  unfold okTimedGroups
  cases okGroups w.2.2.2.2.2.2.2.1 w.1.2.2.2.2.2 with
  | false => rfl
  | true =>
    cases okHeap w.2.2.2.2.2.2.2.2.2.1 with
    | false => rfl
    | true =>
      simp only [Bool.not_true, Bool.false_eq_true, if_false, beq_self_eq_true, if_true, Option.bind_some]
      refine (loop_alln (fun i : Nat => (w, (i : Int), ())) (fun i => decide ((w.2.2.2.2.2.2.2.2.2.1.getD i tTimer.dflt).2 < w.2.2.2.2.2.2.2.2.1) && allB 0 i (fun j => !decide ((w.2.2.2.2.2.2.2.2.2.1.getD j tTimer.dflt).2 = (w.2.2.2.2.2.2.2.2.2.1.getD i tTimer.dflt).2))) w.2.2.2.2.2.2.2.2.2.1.length
        (e := some (okTimed w, ())) (no := some (false, ())) ?_ ?_ k 0 (by omega) (by omega)).trans ?_
      · intro G i hi
        simp only [lt_nat, in_nat hi, hi, decide_true, if_true, Int.toNat_natCast, ge_dec]
        rcases Bool.eq_false_or_eq_true (decide ((w.2.2.2.2.2.2.2.2.2.1.getD i tTimer.dflt).2 < w.2.2.2.2.2.2.2.2.1)) with h | h <;> simp only [h, Bool.not_true, Bool.not_false, Bool.false_eq_true, if_false, if_true, Bool.true_and, Bool.false_and]
        refine (loop_alln (fun j : Nat => (w, (i : Int), (j : Int), ())) (fun j => !decide ((w.2.2.2.2.2.2.2.2.2.1.getD j tTimer.dflt).2 = (w.2.2.2.2.2.2.2.2.2.1.getD i tTimer.dflt).2)) i
          (e := G (w, ((i + 1 : Nat) : Int), ())) (no := some (false, ())) ?_ ?_ k 0 (by omega) (by omega)).trans ?_
        · intro G2 j hj
          have hj2 : j < w.2.2.2.2.2.2.2.2.2.1.length := by omega
          simp only [lt_nat, in_nat hj2, in_nat hi, hj, decide_true, if_true, Int.toNat_natCast, beq_dec]
          rw [wrapS (by omega)]
          rcases Bool.eq_false_or_eq_true (decide ((w.2.2.2.2.2.2.2.2.2.1.getD j tTimer.dflt).2 = (w.2.2.2.2.2.2.2.2.2.1.getD i tTimer.dflt).2)) with h2 | h2 <;> simp only [h2, Bool.not_true, Bool.not_false, Bool.false_eq_true, if_false, if_true]
        · intro G2
          simp only [lt_nat, Nat.lt_irrefl, decide_false, Bool.false_eq_true, if_false]
          rw [wrapS (by omega)]
        · rfl
      · intro G
        simp only [lt_nat, Nat.lt_irrefl, decide_false, Bool.false_eq_true, if_false]
        refine (loop_alln (fun i : Nat => (w, (i : Int), ())) (fun i => (decide ((w.2.2.2.2.2.2.2.1.getD i tGroup.dflt).2.2.1 ≤ w.2.2.1) &&
            (decide ((w.2.2.2.2.2.2.2.1.getD i tGroup.dflt).2.2.2.1 ≤ w.2.2.1) && decide ((w.2.2.2.2.2.2.2.1.getD i tGroup.dflt).1 < w.2.2.2.2.2.2.2.2.1))) && thereTill w (w.2.2.2.2.2.2.2.1.getD i tGroup.dflt) w.2.2.2.2.2.2.2.2.2.1.length) w.2.2.2.2.2.2.2.1.length
          (e := some (true, ())) (no := some (false, ())) ?_ ?_ k 0 (by omega) (by omega)).trans ?_
        · intro G2 i hi
          have h5 : decide ((0 : Int) ≤ 4 ∧ (4 : Int) < (w.2.2.2.2.2.2.2.2.2.2.2.2.1.length : Int)) = true := by rw [ht]; rfl
          simp only [lt_nat, in_nat hi, hi, h5, decide_true, if_true, Int.toNat_natCast, Bool.or_true, beq_dec]
          generalize w.2.2.2.2.2.2.2.1.getD i tGroup.dflt = g
          refine loop_run (fun j : Nat => (w, (i : Int), g, thereTill w g j, (j : Int), ())) w.2.2.2.2.2.2.2.2.2.1.length (fun G3 j hj => ?_) (fun G3 => ?_) k 0 (by omega) (by omega)
          · simp only [lt_nat, in_nat hj, hj, decide_true, if_true, Int.toNat_natCast, Bool.or_true, spec_Due_ok hk]
            rw [wrapS (by omega), thereTill_next]
            unfold timedBy
            cases thereTill w g j <;> by_cases h2 : (w.2.2.2.2.2.2.2.2.2.1.getD j tTimer.dflt).2 = g.1 <;> simp only [h2, Bool.not_true, Bool.not_false, Bool.false_eq_true, if_false, if_true, decide_true, decide_false, Bool.true_and, Bool.false_and, Bool.and_true, Bool.and_false, beq_self_eq_true, Option.bind_some, beq_iff_eq] <;> rfl
          · simp only [lt_nat, Nat.lt_irrefl, decide_false, Bool.false_eq_true, if_false]
            rw [wrapS (by omega), ge_dec]
            have q1 : ∀ a b : Int, decide (a > b) = !decide (a ≤ b) := fun a b => by by_cases h : a ≤ b <;> simp [h] <;> omega
            rw [q1, q1]
            cases thereTill w g w.2.2.2.2.2.2.2.2.2.1.length <;> cases decide (g.2.2.1 ≤ w.2.2.1) <;> cases decide (g.2.2.2.1 ≤ w.2.2.1) <;> cases decide (g.1 < w.2.2.2.2.2.2.2.2.1) <;> rfl
        · intro G2
          simp only [lt_nat, Nat.lt_irrefl, decide_false, Bool.false_eq_true, if_false]
        · show (if okTimed w = true then _ else _) = _
          cases okTimed w <;> simp
      · show (if okTimers w.2.2.2.2.2.2.2.2.1 w.2.2.2.2.2.2.2.2.2.1 = true then _ else _) = _
        cases okTimers w.2.2.2.2.2.2.2.2.1 w.2.2.2.2.2.2.2.2.2.1 <;> simp

omit hk in
theorem take_at {α : Type} (d : α) {l : List α} {i j : Nat} (h : j < i) : (l.take i).getD j d = l.getD j d := by
  simp only [List.getD_eq_getElem?_getD, List.getElem?_take, h, if_true]

theorem impl_groupsRight_ok {w : DWorld} (hs : tot tWorld w ≤ 1048576) (ht : w.2.2.2.2.2.2.2.2.2.2.2.2.1.length = 5) : F_impl_groupsRight k (w, ()) = some (okTimedGroups w, ()) := by
  obtain ⟨w1, w2, _, _, w5, w6, _, w8, w9⟩ := world_parts hk hs
  have hb := conf_by hk w1
  have hn := tot_len (e := tGroup) (l := w.2.2.2.2.2.2.2.1)
  simp only [F_impl_groupsRight, joinC, impl_GroupsOk_ok hk w5 hb, impl_HeapOk_ok hk w6, Option.bind_some]
  unfold okTimedGroups
  cases okGroups w.2.2.2.2.2.2.2.1 w.1.2.2.2.2.2 with
  | false => rfl
  | true =>
    cases okHeap w.2.2.2.2.2.2.2.2.2.1 with
    | false => rfl
    | true =>
      simp only [Bool.not_true, Bool.false_eq_true, if_false, beq_self_eq_true, if_true, Option.bind_some]
      refine (loop_alln (fun i : Nat => (w, w.2.2.2.2.2.2.2.1, (w.2.2.2.2.2.2.2.1.length : Int), (i : Int), ())) (fun i => (decide ((w.2.2.2.2.2.2.2.1.getD i tGroup.dflt).2.2.1 ≤ w.2.2.1) &&
            (decide ((w.2.2.2.2.2.2.2.1.getD i tGroup.dflt).2.2.2.1 ≤ w.2.2.1) && decide ((w.2.2.2.2.2.2.2.1.getD i tGroup.dflt).1 < w.2.2.2.2.2.2.2.2.1))) && thereTill w (w.2.2.2.2.2.2.2.1.getD i tGroup.dflt) w.2.2.2.2.2.2.2.2.2.1.length) w.2.2.2.2.2.2.2.1.length
          (e := some (okTimers w.2.2.2.2.2.2.2.2.1 w.2.2.2.2.2.2.2.2.2.1, ())) (no := some (false, ())) ?_ ?_ k 0 (by omega) (by omega)).trans ?_
      · intro G2 i hi
        have h5 : decide ((0 : Int) ≤ 4 ∧ (4 : Int) < (w.2.2.2.2.2.2.2.2.2.2.2.2.1.length : Int)) = true := by rw [ht]; rfl
        dsimp only
        rw [lt_nat, decide_eq_true hi, if_pos rfl, if_pos (in_nat hi), Int.toNat_natCast]
        generalize w.2.2.2.2.2.2.2.1.getD i tGroup.dflt = g
        simp only [h5, decide_true, if_true, Bool.or_true, beq_dec]
        have q1 : ∀ a b : Int, decide (a > b) = !decide (a ≤ b) := fun a b => by by_cases h : a ≤ b <;> simp [h] <;> omega
        rw [show decide (g.1 ≥ w.2.2.2.2.2.2.2.2.1) = !decide (g.1 < w.2.2.2.2.2.2.2.2.1) from ge_dec _ _, q1, q1]
        generalize decide (g.2.2.1 ≤ w.2.2.1) = b1
        generalize decide (g.2.2.2.1 ≤ w.2.2.1) = b2
        generalize decide (g.1 < w.2.2.2.2.2.2.2.2.1) = b3
        by_cases hq : b1 = true ∧ b2 = true ∧ b3 = true
        rotate_left
        · cases b1 <;> cases b2 <;> cases b3 <;> first | rfl | (exact absurd hq (by simp))
        obtain ⟨e1, e2, e3⟩ := hq
        subst e1 e2 e3
        rw [Bool.true_and, Bool.true_and, Bool.true_and]
        refine (if_noB rfl).trans ?_
        refine loop_run (fun j : Nat => (w, g, thereTill w g j, w.2.2.2.2.2.2.2.1, (w.2.2.2.2.2.2.2.1.length : Int), (i : Int), w.2.2.2.2.2.2.2.2.2.1, (w.2.2.2.2.2.2.2.2.2.1.length : Int), (j : Int), ())) w.2.2.2.2.2.2.2.2.2.1.length (fun G3 j hj => ?_) (fun G3 => ?_) k 0 (by omega) (by omega)
        · simp only [lt_nat, in_nat hj, hj, decide_true, if_true, Int.toNat_natCast, Bool.or_true, impl_Due_ok hk]
          rw [wrapS (by omega), thereTill_next]
          unfold timedBy
          cases thereTill w g j <;> by_cases h2 : (w.2.2.2.2.2.2.2.2.2.1.getD j tTimer.dflt).2 = g.1 <;> simp only [h2, Bool.not_true, Bool.not_false, Bool.false_eq_true, if_false, if_true, decide_true, decide_false, Bool.true_and, Bool.false_and, Bool.and_true, Bool.and_false, beq_self_eq_true, Option.bind_some, beq_iff_eq] <;> rfl
        · simp only [lt_nat, Nat.lt_irrefl, decide_false, Bool.false_eq_true, if_false]
          rw [wrapS (by omega)]
          cases thereTill w g w.2.2.2.2.2.2.2.2.2.1.length <;> rfl
      · intro G
        simp only [lt_nat, Nat.lt_irrefl, decide_false, Bool.false_eq_true, if_false]
        refine (loop_alln (fun i : Nat => (w, w.2.2.2.2.2.2.2.2.2.1, (w.2.2.2.2.2.2.2.2.2.1.length : Int), (i : Int), ())) (fun i => decide ((w.2.2.2.2.2.2.2.2.2.1.getD i tTimer.dflt).2 < w.2.2.2.2.2.2.2.2.1) && allB 0 i (fun j => !decide ((w.2.2.2.2.2.2.2.2.2.1.getD j tTimer.dflt).2 = (w.2.2.2.2.2.2.2.2.2.1.getD i tTimer.dflt).2))) w.2.2.2.2.2.2.2.2.2.1.length
          (e := some (true, ())) (no := some (false, ())) ?_ ?_ k 0 (by omega) (by omega)).trans ?_
        · intro G i hi
          have hl : (w.2.2.2.2.2.2.2.2.2.1.take i).length = i := by rw [List.length_take]; omega
          simp only [lt_nat, in_nat hi, hi, decide_true, if_true, Int.toNat_natCast, ge_dec, hl]
          rcases Bool.eq_false_or_eq_true (decide ((w.2.2.2.2.2.2.2.2.2.1.getD i tTimer.dflt).2 < w.2.2.2.2.2.2.2.2.1)) with h | h <;> simp only [h, Bool.not_true, Bool.not_false, Bool.false_eq_true, if_false, if_true, Bool.true_and, Bool.false_and]
          rw [if_pos (by simp only [decide_eq_true_eq]; omega)]
          refine (loop_alln (fun j : Nat => (w, w.2.2.2.2.2.2.2.2.2.1.getD i tTimer.dflt, w.2.2.2.2.2.2.2.2.2.1, (w.2.2.2.2.2.2.2.2.2.1.length : Int), (i : Int), w.2.2.2.2.2.2.2.2.2.1.take i, (i : Int), (j : Int), ())) (fun j => !decide ((w.2.2.2.2.2.2.2.2.2.1.getD j tTimer.dflt).2 = (w.2.2.2.2.2.2.2.2.2.1.getD i tTimer.dflt).2)) i
            (e := G (w, w.2.2.2.2.2.2.2.2.2.1, (w.2.2.2.2.2.2.2.2.2.1.length : Int), ((i + 1 : Nat) : Int), ())) (no := some (false, ())) ?_ ?_ k 0 (by omega) (by omega)).trans ?_
          · intro G2 j hj
            simp only [lt_nat, hl, in_nat hj, hj, decide_true, if_true, Int.toNat_natCast, beq_dec, take_at tTimer.dflt hj]
            rw [wrapS (by omega)]
            rcases Bool.eq_false_or_eq_true (decide ((w.2.2.2.2.2.2.2.2.2.1.getD j tTimer.dflt).2 = (w.2.2.2.2.2.2.2.2.2.1.getD i tTimer.dflt).2)) with h2 | h2 <;> simp only [h2, Bool.not_true, Bool.not_false, Bool.false_eq_true, if_false, if_true]
          · intro G2
            simp only [lt_nat, Nat.lt_irrefl, decide_false, Bool.false_eq_true, if_false]
            rw [wrapS (by omega)]
          · rfl
        · intro G2
          simp only [lt_nat, Nat.lt_irrefl, decide_false, Bool.false_eq_true, if_false]
        · show (if okTimers w.2.2.2.2.2.2.2.2.1 w.2.2.2.2.2.2.2.2.2.1 = true then _ else _) = _
          cases okTimers w.2.2.2.2.2.2.2.2.1 w.2.2.2.2.2.2.2.2.2.1 <;> simp
      · show (if okTimed w = true then _ else _) = _
        cases okTimed w <;> simp

end
end Vg.Tryz
