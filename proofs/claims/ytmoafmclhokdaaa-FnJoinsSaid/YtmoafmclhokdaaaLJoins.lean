/- The law FnJoins. -/
import Derived.Test.YtmoafmclhokdaaaPY
namespace Vg.Try
open Go Vg
set_option linter.unusedVariables false
set_option linter.unusedSectionVars false
set_option linter.unusedSimpArgs false

section
variable {k : Nat} (hk : 9223372036854775808 ≤ k)
include hk

theorem law0_Joins (x : List Int) : F_laws_FnJoins k (x, ()) = some (true, ()) := by
  simp only [F_laws_FnJoins]
  have hbig : F_laws_big k (x, ()) = some (decide ((x.length : Int) > 1048576), ()) := rfl
  rw [hbig, Option.bind_some]
  by_cases hx : (x.length : Int) > 1048576
  · rw [if_pos (by simpa using hx)]
  rw [if_neg (by simpa using hx)]
  have hx : x.length ≤ 1048576 := by omega
  obtain ⟨⟨g, a, u⟩, e1, h1, h2⟩ := DrawJoinIn_dr hk hx
  obtain ⟨⟨f, now, u⟩, e2, h3⟩ := DrawFlush_dr hk hx
  obtain ⟨⟨o, by_, u⟩, e3, h4, h5⟩ := DrawGroupOk_dr hk hx
  obtain ⟨⟨p, q, u⟩, e4, h6, h7⟩ := DrawSameGroup_dr hk hx
  obtain ⟨⟨b, c, u⟩, e5, h8, h9⟩ := DrawSameBatch_dr hk hx
  obtain ⟨⟨d, wt, ev, u⟩, e6, -⟩ := DrawNextDue_dr hk hx
  dsimp only at h1 h2 h3 h4 h5 h6 h7 h8 h9
  have h10 := joinG_tot hk (g := g) (a := a)
  have h11 := flushG_tot hk (g := f) (now := now)
  have h12 := flushB_tot hk (g := f) (now := now)
  rw [e1, Option.bind_some, impl_JoinIn_ok hk (by dsimp only; omega) (by dsimp only; omega), Option.bind_some, e2, Option.bind_some, impl_Flush_ok hk (by dsimp only; omega), Option.bind_some,
    spec_Flush_ok hk (by dsimp only; omega), Option.bind_some, e3, Option.bind_some, e4, Option.bind_some, e5, Option.bind_some, e6, Option.bind_some, spec_JoinIn_ok hk (by dsimp only; omega) (by dsimp only; omega), Option.bind_some,
    impl_SameGroup_ok hk (by dsimp only; omega), Option.bind_some, decide_eq_true rfl]
  simp only [Bool.not_true, Bool.false_eq_true, if_false, beq_self_eq_true, if_true]
  rw [impl_SameGroup_ok hk (by omega), Option.bind_some, decide_eq_true rfl]
  simp only [Bool.not_true, Bool.false_eq_true, if_false, beq_self_eq_true, if_true]
  rw [impl_SameBatch_ok hk (by omega), Option.bind_some, decide_eq_true rfl]
  simp only [Bool.not_true, Bool.false_eq_true, if_false, beq_self_eq_true, if_true]
  rw [impl_GroupOk_ok hk (by omega) (by omega), Option.bind_some, spec_GroupOk_ok hk (by omega) (by omega), Option.bind_some]
  simp only [Bool.not_true, Bool.false_eq_true, if_false, beq_self_eq_true, if_true]
  rw [impl_SameGroup_ok hk (by omega), Option.bind_some, spec_SameGroup_ok hk (by omega), Option.bind_some]
  simp only [Bool.not_true, Bool.false_eq_true, if_false, beq_self_eq_true, if_true]
  rw [impl_SameBatch_ok hk (by omega), Option.bind_some, spec_SameBatch_ok hk (by omega), Option.bind_some]
  simp only [Bool.not_true, Bool.false_eq_true, if_false, beq_self_eq_true, if_true]
  have hnd : ∃ r : Int, F_impl_NextDue k (d, wt, ev, ()) = some (r, ()) ∧ F_spec_NextDue k (d, wt, ev, ()) = some (r, ()) := by
    rw [spec_NextDue_ok hk]
    simp only [F_impl_NextDue]
    split <;> exact ⟨_, rfl, rfl⟩
  obtain ⟨r, hr1, hr2⟩ := hnd
  rw [hr1, Option.bind_some, hr2, Option.bind_some]
  rw [if_neg (by simp)]
  simp only [joinC]
  have hgt := tot_Group hk (joinG g a)
  have hl1 := tot_len (e := tAlarm) (l := (joinG g a).2.2.2.2)
  have hft := tot_Group hk (flushG f now)
  have hl2 := tot_len (e := tAlarm) (l := (flushG f now).2.2.2.2)
  have hff := tot_Group hk f
  have hl3 := tot_len (e := tAlarm) (l := f.2.2.2.2)
  have hc1 := cntB_le (fun i => decide ((joinG g a).2.2.2.2.getD i tAlarm.dflt = a)) (joinG g a).2.2.2.2.length
  have hc2 := cntB_le (fun i => decide ((f.2.2.2.2.getD i tAlarm.dflt).2.2.1 ≤ now)) f.2.2.2.2.length
  refine (loop_run (fun i : Nat => (g, a, joinG g a, f, now, flushG f now, flushB f now, ((cntB (fun i => decide ((joinG g a).2.2.2.2.getD i tAlarm.dflt = a)) i : Nat) : Int), (i : Int), ())) (joinG g a).2.2.2.2.length (e := some (true, ())) (fun G i hi => ?_) (fun G => ?_) k 0 (by omega) (by omega))
  · have hci := cntB_le (fun i => decide ((joinG g a).2.2.2.2.getD i tAlarm.dflt = a)) i
    simp only [lt_nat, in_nat hi, hi, decide_true, if_true, Int.toNat_natCast]
    rw [wrapS (i := i) (by omega), impl_SameAlarm_ok hk (alarm_at hk (by omega) hi).2, Option.bind_some]
    rw [show cntB (fun i => decide ((joinG g a).2.2.2.2.getD i tAlarm.dflt = a)) (i + 1) = cntB (fun i => decide ((joinG g a).2.2.2.2.getD i tAlarm.dflt = a)) i + (if decide ((joinG g a).2.2.2.2.getD i tAlarm.dflt = a) = true then 1 else 0) from rfl]
    by_cases hp : (joinG g a).2.2.2.2.getD i tAlarm.dflt = a
    · rw [if_pos (decide_eq_true hp), if_pos (decide_eq_true hp), wrapS (by omega)]
    · rw [if_neg (by simpa using hp), if_neg (by simpa using hp)] <;> rfl
  · simp only [lt_nat, Nat.lt_irrefl, decide_false, Bool.false_eq_true, if_false]
    refine (loop_run (fun i : Nat => (g, joinG g a, f, now, flushG f now, flushB f now, ((cntB (fun i => decide ((joinG g a).2.2.2.2.getD i tAlarm.dflt = a)) (joinG g a).2.2.2.2.length : Nat) : Int), (i : Int), ())) (flushG f now).2.2.2.2.length (e := some (true, ())) (fun G i hi => ?_) (fun G => ?_) k 0 (by omega) (by omega))
    · simp only [lt_nat, in_nat hi, hi, decide_true, if_true, Int.toNat_natCast, F_impl_Over, Option.bind_some]
      have hm : (flushG f now).2.2.2.2.getD i tAlarm.dflt ∈ sweptL now f.2.2.2.2 := getD_mem hi
      have hov : ¬ ((flushG f now).2.2.2.2.getD i tAlarm.dflt).2.2.1 ≤ now := by
        have := (List.mem_filter.1 hm).2
        simpa using this
      rw [decide_eq_false hov, wrapS (by omega)]
      simp
    · simp only [lt_nat, Nat.lt_irrefl, decide_false, Bool.false_eq_true, if_false]
      refine (loop_run (fun i : Nat => (g, joinG g a, f, now, flushG f now, flushB f now, ((cntB (fun i => decide ((joinG g a).2.2.2.2.getD i tAlarm.dflt = a)) (joinG g a).2.2.2.2.length : Nat) : Int), ((cntB (fun i => decide ((f.2.2.2.2.getD i tAlarm.dflt).2.2.1 ≤ now)) i : Nat) : Int), (i : Int), ())) f.2.2.2.2.length (e := some (true, ())) (fun G i hi => ?_) (fun G => ?_) k 0 (by omega) (by omega))
      · have hci := cntB_le (fun i => decide ((f.2.2.2.2.getD i tAlarm.dflt).2.2.1 ≤ now)) i
        simp only [lt_nat, in_nat hi, hi, decide_true, if_true, Int.toNat_natCast, F_impl_Over, Option.bind_some]
        rw [wrapS (i := i) (by omega)]
        rw [show cntB (fun i => decide ((f.2.2.2.2.getD i tAlarm.dflt).2.2.1 ≤ now)) (i + 1) = cntB (fun i => decide ((f.2.2.2.2.getD i tAlarm.dflt).2.2.1 ≤ now)) i + (if decide ((f.2.2.2.2.getD i tAlarm.dflt).2.2.1 ≤ now) = true then 1 else 0) from rfl]
        by_cases hp : (f.2.2.2.2.getD i tAlarm.dflt).2.2.1 ≤ now
        · rw [if_pos (decide_eq_true hp), if_pos (decide_eq_true hp), wrapS (by omega)]
        · rw [if_neg (by simpa using hp), if_neg (by simpa using hp)] <;> rfl
      · simp only [lt_nat, Nat.lt_irrefl, decide_false, Bool.false_eq_true, if_false]
        obtain ⟨i, hi, hia⟩ := joinL_has hk (l := g.2.2.2.2) (a := a)
        have hpos := cntB_pos (fun i => decide ((joinG g a).2.2.2.2.getD i tAlarm.dflt = a)) (joinG g a).2.2.2.2.length i hi (decide_eq_true hia)
        have hsw := swept_cnt (now := now) f.2.2.2.2 f.2.2.2.2.length (Nat.le_refl _)
        rw [List.take_length] at hsw
        have hjl := joinL_len hk (l := g.2.2.2.2) (a := a)
        generalize cntB (fun i => decide ((joinG g a).2.2.2.2.getD i tAlarm.dflt = a)) (joinG g a).2.2.2.2.length = n1 at hc1 hpos ⊢
        generalize cntB (fun i => decide ((f.2.2.2.2.getD i tAlarm.dflt).2.2.1 ≤ now)) f.2.2.2.2.length = n2 at hc2 hsw ⊢
        have hn1 : decide ((n1 : Int) ≥ 1) = true := by simp; omega
        rw [hn1, if_pos (by rfl)]
        rw [show (flushB f now).2.2.2 = f.2.2.2.2 from rfl, sameList_ok hk (by omega), Option.bind_some]
        have hgl : tot tGroup g ≤ 1048576 := by omega
        rw [tot_Group hk] at hgl
        have hl0 := tot_len (e := tAlarm) (l := g.2.2.2.2)
        rw [wrap64 (n := ((flushG f now).2.2.2.2.length : Int) + n2) (by omega) (by omega), wrap64 (n := (g.2.2.2.2.length : Int) + 1) (by omega) (by omega)]
        have he : (((flushG f now).2.2.2.2.length : Int) + n2) = (f.2.2.2.2.length : Int) := by
          have : (flushG f now).2.2.2.2.length = (sweptL now f.2.2.2.2).length := rfl
          omega
        have hj : ((joinG g a).2.2.2.2.length : Int) ≤ (g.2.2.2.2.length : Int) + 1 := by
          have : (joinG g a).2.2.2.2.length = (joinL g.2.2.2.2 a).length := rfl
          omega
        rw [he, show (flushB f now).2.2.1 = now from rfl, show (flushG f now).2.2.2.1 = now from rfl]
        simp [hj]

theorem law_Joins {x : List Int × Unit} (hx : Fits (.sl (.int .u8)) x.1) : F_laws_FnJoins k x = some (true, ()) := law0_Joins hk x.1

end
end Vg.Try
