/- Plain laws: deeds; what was seen; tasks and deeds fit. -/
import Derived.Test.YtlpeoedbginanaaGreatPJ
namespace Vg.Tryz
open Go Vg
set_option linter.unusedVariables false
set_option linter.unusedSectionVars false
set_option linter.unusedSimpArgs false

theorem gt_dec (a b : Int) : decide (a > b) = decide (b < a) := rfl
theorem ge_dec (a b : Int) : decide (a ≥ b) = !decide (a < b) := by by_cases h : a < b <;> simp [h] <;> omega
theorem orElse_true (b c : Bool) : (!(b == true) || c) = (!b || c) := by cases b <;> rfl

section
variable {k : Nat} (hk : 9223372036854775808 ≤ k)
include hk

theorem spec_l15Has_ok {l : List Int} {n : Int} (hl : l.length ≤ 10) : F_spec_l15Has k (l, n, ()) = some (decide (n ∈ l), ()) := by
  simp only [F_spec_l15Has]
  rw [loopN_ix (g := fun (t : List Int × Int × Int × Unit) => some (decide (n ∈ l.drop t.2.2.1.toNat), ())) (m := fun (t : List Int × Int × Int × Unit) => l.length - t.2.2.1.toNat)
    (I := fun (t : List Int × Int × Int × Unit) => t.1 = l ∧ t.2.1 = n ∧ 0 ≤ t.2.2.1 ∧ t.2.2.1 ≤ (l.length : Int))]
  · simp
  · rintro G ⟨l', n', i, u⟩ ⟨e1, e2, hi0, hi1⟩ hG
    change l' = l at e1
    change n' = n at e2
    subst e1 e2
    simp only at hi0 hi1 hG ⊢
    by_cases hi : i < (l'.length : Int)
    · have h1 : i.toNat < l'.length := by omega
      rw [if_pos (by simpa using hi), if_pos (by simpa using ⟨hi0, hi⟩), drop_getD (d := (0 : Int)) h1]
      by_cases he : n' = l'.getD i.toNat 0
      · rw [if_pos (by rw [he]; simp)]
        simp only [List.mem_cons, he, true_or, decide_true]
      · rw [if_neg (by simp only [beq_iff_eq]; exact fun h => he h.symm), wrap64 (by omega) (by omega), hG (l', n', i + 1, ()) ⟨rfl, rfl, by simp only; omega, by simp only; omega⟩ (by simp only; omega)]
        simp only [List.mem_cons, he, false_or]
        rw [show (i + 1).toNat = i.toNat + 1 by omega]
    · rw [if_neg (by simpa using hi), List.drop_eq_nil_of_le (by omega)]
      simp
  · exact ⟨rfl, rfl, by simp, by simp⟩
  · simp only
    omega

theorem codes_ok (op n : Int) : ∃ l, F_spec_l15Codes k (op, ()) = some (l, ()) ∧ l.length ≤ 10 ∧ F_impl_codeFits k (op, n, ()) = some (decide (n ∈ l), ()) := by
  simp only [F_spec_l15Codes, F_impl_codeFits, F_impl_in, Option.bind_some, beq_iff_eq]
  split
  · exact ⟨_, rfl, by simp, by congr 2; rw [Bool.eq_iff_iff]; simp; omega⟩
  split
  · exact ⟨_, rfl, by simp, by congr 2; rw [Bool.eq_iff_iff]; simp; omega⟩
  split
  · exact ⟨_, rfl, by simp, by congr 2; rw [Bool.eq_iff_iff]; simp; omega⟩
  split
  · exact ⟨_, rfl, by simp, by congr 2; rw [Bool.eq_iff_iff]; simp⟩
  split
  · exact ⟨_, rfl, by simp, by congr 2; rw [Bool.eq_iff_iff]; simp; omega⟩
  · exact ⟨_, rfl, by simp, by congr 2; rw [Bool.eq_iff_iff]; simp⟩

theorem deed_ok (d : DDeed) : ∃ r, F_spec_DeedOk k (d, ()) = some r ∧ F_impl_DeedOk k (d, ()) = some r := by
  obtain ⟨op, task, a, l, i, n, code, got, now, inv, lin, res⟩ := d
  obtain ⟨cs, c1, c2, c3⟩ := codes_ok hk op code
  simp only [F_spec_DeedOk, F_impl_DeedOk, F_spec_l1In, F_impl_in, Option.bind_some, ite_some, c1, c3, spec_l15Has_ok hk c2]
  generalize decide (code ∈ cs) = q
  refine ⟨_, rfl, congrArg some (Prod.ext ?_ rfl)⟩
  simp only [apply_ite Prod.fst]
  rw [Bool.eq_iff_iff]
  by_cases hl : lin = -1 <;> by_cases hr : res = -1 <;> by_cases hi : inv ≤ lin <;> by_cases hj : lin ≤ res <;> cases q <;> simp [hl, hr, hi, hj] <;> omega

theorem spec_DeedOk_ok {d : DDeed} : F_spec_DeedOk k (d, ()) = some (okDeed k d, ()) := by
  obtain ⟨r, h1, h2⟩ := deed_ok hk d
  unfold okDeed
  rw [h1]

theorem impl_DeedOk_ok {d : DDeed} : F_impl_DeedOk k (d, ()) = some (okDeed k d, ()) := by
  obtain ⟨r, h1, h2⟩ := deed_ok hk d
  unfold okDeed
  rw [h1, h2]

theorem spec_l16Seen_ok {w : DWorld} {t : DTask} (hs : tot tTask t ≤ 1048576) (hw : tot (.sl tPart) w.2.2.2.1 ≤ 1048576) (hl : t.2.2.2.2.2.1.length ≤ w.2.2.2.1.length) :
    F_spec_l16Seen k (w, t, ()) = some (seenRight w.2.2.2.1 t, ()) := by
  obtain ⟨h1, h2, h3, h4, h5⟩ := task_parts hk hs
  simp only [F_spec_l16Seen, joinC]
  refine (loop_alln (fun i : Nat => (w, t, (w.2.2.2.1.take i).flatMap alarmsIn, allB 0 i (fun i => decide (t.2.2.2.2.2.1.getD i 0 = (w.2.2.2.1.getD i tPart.dflt).2.1)), (i : Int), ()))
    (fun i => !decide (t.2.2.2.2.2.1.getD i 0 > (w.2.2.2.1.getD i tPart.dflt).2.1)) t.2.2.2.2.2.1.length
    (e := some (!sawNow w.2.2.2.1 t.2.2.2.2.2.1 || decide ((w.2.2.2.1.take t.2.2.2.2.2.1.length).flatMap alarmsIn = t.2.2.2.2.2.2.1), ())) (no := some (false, ())) ?_ ?_ k 0 (by omega) (by omega)).trans ?_
  · intro G i hi
    have hi2 : i < w.2.2.2.1.length := by omega
    have hp := part_at hk hw hi2
    have hb := allIn_tot hk (w.2.2.2.1.take i)
    unfold allIn at hb
    have hb1 := alarmsIn_tot hk (w.2.2.2.1.getD i tPart.dflt)
    have hb2 := tot_take (e := tPart) w.2.2.2.1 i
    have hb3 := tot_len (e := tAlarm) (l := (w.2.2.2.1.take i).flatMap alarmsIn)
    have hb4 := tot_len (e := tAlarm) (l := alarmsIn (w.2.2.2.1.getD i tPart.dflt))
    have hb5 : decide (((w.2.2.2.1.take i).flatMap alarmsIn).length + (alarmsIn (w.2.2.2.1.getD i tPart.dflt)).length < 4294967296) = true := by
      simp only [decide_eq_true_eq]; omega
    simp only [lt_nat, in_nat hi, in_nat hi2, hi, decide_true, if_true, Int.toNat_natCast, Bool.or_true, spec_AlarmsIn_ok hk hp, Option.bind_some, hb5]
    rw [wrapS (by omega), flatMap_take tPart.dflt hi2, allB_last]
    rcases Bool.eq_false_or_eq_true (decide (t.2.2.2.2.2.1.getD i 0 > (w.2.2.2.1.getD i tPart.dflt).2.1)) with h | h <;>
      simp only [h, if_true, Bool.not_true, Bool.not_false, Bool.false_eq_true, if_false, beq_dec, and_if]
  · intro G
    simp only [lt_nat, Nat.lt_irrefl, decide_false, Bool.false_eq_true, if_false]
    show Option.bind (if ((!sawNow w.2.2.2.1 t.2.2.2.2.2.1) == false) = true then F_spec_l4Same k ((w.2.2.2.1.take t.2.2.2.2.2.1.length).flatMap alarmsIn, t.2.2.2.2.2.2.1, ()) else some (false, ())) _ = _
    have hb := allIn_tot hk (w.2.2.2.1.take t.2.2.2.2.2.1.length)
    unfold allIn at hb
    have hb2 := tot_take (e := tPart) w.2.2.2.1 t.2.2.2.2.2.1.length
    rw [spec_l4Same_ok hk (by omega)]
    show Option.bind _ (fun r6 : Bool × Unit => some (if (!sawNow w.2.2.2.1 t.2.2.2.2.2.1) = true then true else r6.1, ())) = _
    cases sawNow w.2.2.2.1 t.2.2.2.2.2.1 <;> simp
  · unfold seenRight
    show (if sawOk w.2.2.2.1 t.2.2.2.2.2.1 = true then _ else _) = _
    cases sawOk w.2.2.2.1 t.2.2.2.2.2.1 <;> simp

theorem impl_snapRight_ok {w : DWorld} {t : DTask} (hs : tot tTask t ≤ 1048576) (hw : tot (.sl tPart) w.2.2.2.1 ≤ 1048576) (hl0 : (if t.2.1 = 2 then decide ((t.2.2.2.2.2.1.length : Int) = w.1.1) else decide (t.2.2.2.2.1 < w.1.1)) = true → t.2.2.2.2.2.1.length ≤ w.2.2.2.1.length) (hp : t.2.1 ≤ 2) :
    F_impl_snapRight k (w, t, ()) = some ((if t.2.1 = 2 then decide ((t.2.2.2.2.2.1.length : Int) = w.1.1) else decide (t.2.2.2.2.1 < w.1.1)) && seenRight w.2.2.2.1 t, ()) := by
  obtain ⟨h1, h2, h3, h4, h5⟩ := task_parts hk hs
  simp only [F_impl_snapRight, joinC]
  have hc : (if (if (decide ((t.2.1 : Int) < (2 : Int))) = true then decide ((t.2.2.2.2.1 : Int) ≥ w.1.1) else false) = true then true else if ((t.2.1 : Int) == (2 : Int)) = true then (((List.length t.2.2.2.2.2.1 : Nat) : Int) : Int) != w.1.1 else false)
     = !(if t.2.1 = 2 then decide ((t.2.2.2.2.2.1.length : Int) = w.1.1) else decide (t.2.2.2.2.1 < w.1.1)) := by
    rw [ge_dec, bne_dec]
    by_cases q : t.2.1 = 2
    · simp [q]
    · have q2 : t.2.1 < 2 := by have := hp; omega
      simp [q, q2]
      exact ge_dec _ _
  rw [hc]
  rcases Bool.eq_false_or_eq_true (if t.2.1 = 2 then decide ((t.2.2.2.2.2.1.length : Int) = w.1.1) else decide (t.2.2.2.2.1 < w.1.1)) with hcc | hcc
  rotate_left
  · rw [hcc]; rfl
  have hl := hl0 hcc
  rw [hcc, if_neg (by simp)]
  refine (loop_alln (fun i : Nat => (w, t, allB 0 i (fun i => decide (t.2.2.2.2.2.1.getD i 0 = (w.2.2.2.1.getD i tPart.dflt).2.1)), (w.2.2.2.1.take i).flatMap alarmsIn, t.2.2.2.2.2.1, (t.2.2.2.2.2.1.length : Int), (i : Int), ()))
    (fun i => !decide (t.2.2.2.2.2.1.getD i 0 > (w.2.2.2.1.getD i tPart.dflt).2.1)) t.2.2.2.2.2.1.length
    (e := some (!sawNow w.2.2.2.1 t.2.2.2.2.2.1 || decide ((w.2.2.2.1.take t.2.2.2.2.2.1.length).flatMap alarmsIn = t.2.2.2.2.2.2.1), ())) (no := some (false, ())) ?_ ?_ k 0 (by omega) (by omega)).trans ?_
  · intro G i hi
    have hi2 : i < w.2.2.2.1.length := by omega
    have hp := part_at hk hw hi2
    have hb := allIn_tot hk (w.2.2.2.1.take i)
    unfold allIn at hb
    have hb1 := alarmsIn_tot hk (w.2.2.2.1.getD i tPart.dflt)
    have hb2 := tot_take (e := tPart) w.2.2.2.1 i
    have hb3 := tot_len (e := tAlarm) (l := (w.2.2.2.1.take i).flatMap alarmsIn)
    have hb4 := tot_len (e := tAlarm) (l := alarmsIn (w.2.2.2.1.getD i tPart.dflt))
    have hb5 : decide (((w.2.2.2.1.take i).flatMap alarmsIn).length + (alarmsIn (w.2.2.2.1.getD i tPart.dflt)).length < 4294967296) = true := by
      simp only [decide_eq_true_eq]; omega
    simp only [lt_nat, in_nat hi, in_nat hi2, hi, decide_true, if_true, Int.toNat_natCast, Bool.or_true, impl_AlarmsIn_ok hk hp, Option.bind_some, hb5]
    rw [wrapS (by omega), flatMap_take tPart.dflt hi2, allB_last]
    rcases Bool.eq_false_or_eq_true (decide (t.2.2.2.2.2.1.getD i 0 > (w.2.2.2.1.getD i tPart.dflt).2.1)) with h | h <;>
      simp only [h, if_true, Bool.not_true, Bool.not_false, Bool.false_eq_true, if_false, beq_dec, and_if]
  · intro G
    simp only [lt_nat, Nat.lt_irrefl, decide_false, Bool.false_eq_true, if_false]
    have hb := allIn_tot hk (w.2.2.2.1.take t.2.2.2.2.2.1.length)
    unfold allIn at hb
    have hb2 := tot_take (e := tPart) w.2.2.2.1 t.2.2.2.2.2.1.length
    rw [impl_sameAlarms_ok hk h4]
    show Option.bind (if ((!sawNow w.2.2.2.1 t.2.2.2.2.2.1) == false) = true then some (decide (t.2.2.2.2.2.2.1 = (w.2.2.2.1.take t.2.2.2.2.2.1.length).flatMap alarmsIn), ()) else some (false, ())) (fun r6 : Bool × Unit => some (if (!sawNow w.2.2.2.1 t.2.2.2.2.2.1) = true then true else r6.1, ())) = _
    have he : decide (t.2.2.2.2.2.2.1 = (w.2.2.2.1.take t.2.2.2.2.2.1.length).flatMap alarmsIn) = decide ((w.2.2.2.1.take t.2.2.2.2.2.1.length).flatMap alarmsIn = t.2.2.2.2.2.2.1) := by
      rw [Bool.eq_iff_iff]; simp only [decide_eq_true_eq]; exact eq_comm
    rw [he]
    cases sawNow w.2.2.2.1 t.2.2.2.2.2.1 <;> simp
  · unfold seenRight
    show (if sawOk w.2.2.2.1 t.2.2.2.2.2.1 = true then _ else _) = _
    cases sawOk w.2.2.2.1 t.2.2.2.2.2.1 <;> simp

end
end Vg.Tryz
