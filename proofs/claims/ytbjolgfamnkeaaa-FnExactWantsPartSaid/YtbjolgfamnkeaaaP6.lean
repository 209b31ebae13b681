/- Plain laws: listeners and models. -/
import Derived.Test.YtbjolgfamnkeaaaP5
namespace Vg.Try
open Go Vg
set_option linter.unusedVariables false
set_option linter.unusedSectionVars false
set_option linter.unusedSimpArgs false

def okSubs (l : List DSub) : Bool := allB 0 l.length (fun i => okSub (l.getD i tSub.dflt))
def okModel (m : DModel) : Bool :=
  okConf m.1 && (decide ((m.2.1.length : Int) ≤ m.1.2.1) && (decide ((m.2.2.1.length : Int) = m.1.2.2.1) && (okSubs m.2.2.1 && (okAlarms m.2.2.2.1 && (decide (0 ≤ m.2.2.2.2.2) && (okGroups m.2.2.2.2.1 m.1.2.2.2.2.2 &&
  (allB 0 m.2.1.length (fun i => okFits (m.2.1.getD i tAlarm.dflt) && ordA m.2.1 i) && allB 0 m.2.2.2.2.1.length (fun i => decide ((m.2.2.2.2.1.getD i tGroup.dflt).1 < m.2.2.2.2.2)))))))))

section
variable {k : Nat} (hk : 9223372036854775808 ≤ k)
include hk

theorem spec_Fits_ok {c : DConf} {a : DAlarm} (hs : tot tAlarm a ≤ 1048576) : F_spec_Fits k (c, a, ()) = some (okFits a, ()) := by
  simp only [F_spec_Fits]
  rw [spec_AlarmOk_ok hk hs]
  simp only [Option.bind_some, okFits, and_if]

theorem impl_Fits_ok {c : DConf} {a : DAlarm} (hs : tot tAlarm a ≤ 1048576) : F_impl_Fits k (c, a, ()) = some (okFits a, ()) := by
  simp only [F_impl_Fits]
  rw [impl_AlarmOk_ok hk hs]
  simp only [Option.bind_some, okFits, and_if]

theorem spec_SubOk_ok {s : DSub} (hs : tot tSub s ≤ 1048576) : F_spec_SubOk k (s, ()) = some (okSub s, ()) := by
  rw [tot_Sub hk] at hs
  have hl := tot_len (e := tAlarm) (l := s.1)
  simp only [F_spec_SubOk, joinC]
  rw [show ((s, (0 : Int), ()) : DSub × Int × Unit) = (fun i : Nat => (s, (i : Int), ())) 0 from rfl]
  rw [loop_all (fun i : Nat => (s, (i : Int), ())) (fun i => okAlarm (s.1.getD i tAlarm.dflt)) s.1.length (e := some (decide (s.1.length ≤ 3) && (!s.2 || decide (s.1.length = 0)), ())) (no := some (false, ())) ?_ ?_ k 0 (by omega)]
  · unfold okSub okAlarms
    cases allB 0 s.1.length (fun i => okAlarm (s.1.getD i tAlarm.dflt)) <;> simp
  · intro G i hi
    simp only [Int.toNat_natCast]
    rw [lt_nat, decide_eq_true hi, if_pos rfl, if_pos (in_nat hi), spec_AlarmOk_ok hk (alarm_at hk hs hi).1, Option.bind_some, wrapS (by omega)]
    cases okAlarm (s.1.getD i tAlarm.dflt) <;> simp
  · intro G i hi
    simp only
    rw [lt_nat, decide_eq_false (by omega), if_neg (by simp)]
    congr 2
    by_cases h : s.1.length ≤ 3
    · have h' : (s.1.length : Int) ≤ 3 := by omega
      by_cases h0 : s.1.length = 0
      · cases s.2 <;> simp [h0]
      · have h0' : ¬ (s.1.length : Int) = 0 := by omega
        cases s.2 <;> simp [h, h', h0] <;> (intro e; rw [e] at h0; exact h0 rfl)
    · have h' : ¬ (s.1.length : Int) ≤ 3 := by omega
      simp [h, h']

theorem impl_SubOk_ok {s : DSub} (hs : tot tSub s ≤ 1048576) : F_impl_SubOk k (s, ()) = some (okSub s, ()) := by
  rw [tot_Sub hk] at hs
  have hl := tot_len (e := tAlarm) (l := s.1)
  simp only [F_impl_SubOk]
  rw [impl_alarmsOk_ok hk hs]
  unfold okSub
  cases s.2 with
  | true =>
    simp only [if_true]
    congr 2
    by_cases h0 : s.1 = []
    · rw [h0]; rfl
    · have h1 : ¬ s.1.length = 0 := fun e => h0 (List.eq_nil_of_length_eq_zero e)
      simp [h0]
  | false =>
    by_cases h : s.1.length ≤ 3
    · have h' : (s.1.length : Int) ≤ 3 := by omega
      simp [h, h']
    · have h' : ¬ (s.1.length : Int) ≤ 3 := by omega
      simp [h, h']

theorem sub_at {l : List DSub} {i : Nat} (hs : tot (.sl tSub) l ≤ 1048576) (hi : i < l.length) : tot tSub (l.getD i tSub.dflt) ≤ 1048576 :=
  Nat.le_trans (tot_mem (e := tSub) (getD_mem hi)) hs

theorem impl_subsRight_ok {l : List DSub} {c : DConf} (hs : tot (.sl tSub) l ≤ 1048576) : F_impl_subsRight k (l, c, ()) = some (okSubs l && decide ((l.length : Int) = c.2.2.1), ()) := by
  have hl := tot_len (e := tSub) (l := l)
  simp only [F_impl_subsRight, joinC]
  rw [show ((l, c, l, (l.length : Int), (0 : Int), ()) : List DSub × DConf × List DSub × Int × Int × Unit) = (fun i : Nat => (l, c, l, (l.length : Int), (i : Int), ())) 0 from rfl]
  rw [loop_all (fun i : Nat => (l, c, l, (l.length : Int), (i : Int), ())) (fun i => okSub (l.getD i tSub.dflt)) l.length (e := some (decide ((l.length : Int) = c.2.2.1), ())) (no := some (false, ())) ?_ ?_ k 0 (by omega)]
  · unfold okSubs
    cases allB 0 l.length (fun i => okSub (l.getD i tSub.dflt)) <;> simp
  · intro G i hi
    simp only [Int.toNat_natCast]
    rw [lt_nat, decide_eq_true hi, if_pos rfl, if_pos (in_nat hi), impl_SubOk_ok hk (sub_at hk hs hi), Option.bind_some, wrapS (by omega)]
    cases okSub (l.getD i tSub.dflt) <;> simp
  · intro G i hi
    simp only
    rw [lt_nat, decide_eq_false (by omega), if_neg (by simp)]
    congr 2

theorem spec_ModelOk_ok {m : DModel} (hs : tot tModel m ≤ 1048576) : F_spec_ModelOk k (m, ()) = some (okModel m, ()) := by
  rw [tot_Model hk] at hs
  have s1 : tot tConf m.1 ≤ 1048576 := by omega
  have s2 : tot (.sl tAlarm) m.2.1 ≤ 1048576 := by omega
  have s3 : tot (.sl tSub) m.2.2.1 ≤ 1048576 := by omega
  have s4 : tot (.sl tAlarm) m.2.2.2.1 ≤ 1048576 := by omega
  have s5 : tot (.sl tGroup) m.2.2.2.2.1 ≤ 1048576 := by omega
  have s6 : m.1.2.2.2.2.2.length ≤ 1048576 := by
    have := tot_len (e := .str) (l := m.1.2.2.2.2.2)
    rw [tot_Conf hk] at s1
    omega
  have l2 := tot_len (e := tAlarm) (l := m.2.1)
  have l3 := tot_len (e := tSub) (l := m.2.2.1)
  have l5 := tot_len (e := tGroup) (l := m.2.2.2.2.1)
  have e1 : decide ((m.2.1.length : Int) > m.1.2.1) = !decide ((m.2.1.length : Int) ≤ m.1.2.1) := by rw [Bool.eq_iff_iff]; simp
  have e2 : (((m.2.2.1.length : Nat) : Int) != m.1.2.2.1) = !decide ((m.2.2.1.length : Int) = m.1.2.2.1) := by rw [Bool.eq_iff_iff]; simp
  have e3 : decide (m.2.2.2.2.2 < (0 : Int)) = !decide (0 ≤ m.2.2.2.2.2) := by rw [Bool.eq_iff_iff]; simp
  simp only [F_spec_ModelOk, joinC]
  rw [spec_ConfOk_ok hk s1, spec_l14Got_ok hk s4, spec_GroupsOk_ok hk s5 s6]
  simp only [ite_some, Option.bind_some]
  rw [show ((m, (0 : Int), ()) : DModel × Int × Unit) = (fun i : Nat => (m, (i : Int), ())) 0 from rfl]
  rw [loop_all (fun i : Nat => (m, (i : Int), ())) (fun i => okFits (m.2.1.getD i tAlarm.dflt) && ordA m.2.1 i) m.2.1.length
    (e := some (okSubs m.2.2.1 && allB 0 m.2.2.2.2.1.length (fun i => decide ((m.2.2.2.2.1.getD i tGroup.dflt).1 < m.2.2.2.2.2)), ())) (no := some (false, ())) ?_ ?_ k 0 (by omega)]
  · rw [e1, e2, e3]
    unfold okModel
    generalize okConf m.1 = b1
    generalize decide ((m.2.1.length : Int) ≤ m.1.2.1) = b2
    generalize decide ((m.2.2.1.length : Int) = m.1.2.2.1) = b3
    generalize okSubs m.2.2.1 = b4
    generalize okAlarms m.2.2.2.1 = b5
    generalize decide (0 ≤ m.2.2.2.2.2) = b6
    generalize okGroups m.2.2.2.2.1 m.1.2.2.2.2.2 = b7
    generalize allB 0 m.2.1.length (fun i => okFits (m.2.1.getD i tAlarm.dflt) && ordA m.2.1 i) = b8
    generalize allB 0 m.2.2.2.2.1.length (fun i => decide ((m.2.2.2.2.1.getD i tGroup.dflt).1 < m.2.2.2.2.2)) = b9
    cases b1 <;> cases b2 <;> cases b3 <;> cases b5 <;> cases b6 <;> cases b7 <;> cases b8 <;> cases b4 <;> simp
  · intro G i hi
    simp only [Int.toNat_natCast]
    obtain ⟨hm, hml⟩ := alarm_at hk s2 hi
    rw [lt_nat, decide_eq_true hi, if_pos rfl, if_pos (in_nat hi), spec_Fits_ok hk hm, Option.bind_some, wrapS (by omega), wrapP (by omega)]
    rw [show ((i : Int) - 1).toNat = i - 1 by omega, if_pos (by simp; omega)]
    simp only [in_nat hi, Bool.or_true, if_true]
    cases okFits (m.2.1.getD i tAlarm.dflt) with
    | false => simp
    | true =>
      by_cases h0 : i = 0
      · subst h0
        simp [ordA, -List.getD_eq_getElem?_getD]
      · have h0' : (0 : Int) < (i : Int) := by omega
        have h0n : 0 < i := by omega
        rw [spec_SetLess_ok hk (alarm_at hk s2 (show i - 1 < m.2.1.length by omega)).2]
        unfold ordA
        cases setLess (m.2.1.getD (i - 1) tAlarm.dflt).1 (m.2.1.getD i tAlarm.dflt).1 <;> simp [h0, h0', h0n]
  · intro G i hi
    simp only
    rw [lt_nat, decide_eq_false (by omega), if_neg (by simp)]
    rw [show ((m, (0 : Int), ()) : DModel × Int × Unit) = (fun i : Nat => (m, (i : Int), ())) 0 from rfl]
    rw [loop_all (fun i : Nat => (m, (i : Int), ())) (fun i => okSub (m.2.2.1.getD i tSub.dflt)) m.2.2.1.length
      (e := some (allB 0 m.2.2.2.2.1.length (fun i => decide ((m.2.2.2.2.1.getD i tGroup.dflt).1 < m.2.2.2.2.2)), ())) (no := some (false, ())) ?_ ?_ k 0 (by omega)]
    · unfold okSubs
      cases allB 0 m.2.2.1.length (fun i => okSub (m.2.2.1.getD i tSub.dflt)) <;> simp
    · intro G i hi
      simp only [Int.toNat_natCast]
      rw [lt_nat, decide_eq_true hi, if_pos rfl, if_pos (in_nat hi), spec_SubOk_ok hk (sub_at hk s3 hi), Option.bind_some, wrapS (by omega)]
      cases okSub (m.2.2.1.getD i tSub.dflt) <;> simp
    · intro G i hi
      simp only
      rw [lt_nat, decide_eq_false (by omega), if_neg (by simp)]
      rw [show ((m, (0 : Int), ()) : DModel × Int × Unit) = (fun i : Nat => (m, (i : Int), ())) 0 from rfl]
      rw [loop_all (fun i : Nat => (m, (i : Int), ())) (fun i => decide ((m.2.2.2.2.1.getD i tGroup.dflt).1 < m.2.2.2.2.2)) m.2.2.2.2.1.length
        (e := some (true, ())) (no := some (false, ())) ?_ ?_ k 0 (by omega)]
      · cases allB 0 m.2.2.2.2.1.length (fun i => decide ((m.2.2.2.2.1.getD i tGroup.dflt).1 < m.2.2.2.2.2)) <;> simp
      · intro G i hi
        simp only [Int.toNat_natCast]
        rw [lt_nat, decide_eq_true hi, if_pos rfl, if_pos (in_nat hi), wrapS (by omega)]
        by_cases h : (m.2.2.2.2.1.getD i tGroup.dflt).1 < m.2.2.2.2.2
        · rw [if_neg (by simp only [decide_eq_true_eq]; omega), if_pos (by simpa using h)]
        · rw [if_pos (by simp only [decide_eq_true_eq]; omega), if_neg (by simpa using h)]
      · intro G i hi
        simp only
        rw [lt_nat, decide_eq_false (by omega), if_neg (by simp)]

theorem impl_ModelOk_ok {m : DModel} (hs : tot tModel m ≤ 1048576) : F_impl_ModelOk k (m, ()) = some (okModel m, ()) := by
  rw [tot_Model hk] at hs
  have s1 : tot tConf m.1 ≤ 1048576 := by omega
  have s2 : tot (.sl tAlarm) m.2.1 ≤ 1048576 := by omega
  have s3 : tot (.sl tSub) m.2.2.1 ≤ 1048576 := by omega
  have s4 : tot (.sl tAlarm) m.2.2.2.1 ≤ 1048576 := by omega
  have s5 : tot (.sl tGroup) m.2.2.2.2.1 ≤ 1048576 := by omega
  have s6 : m.1.2.2.2.2.2.length ≤ 1048576 := by
    have := tot_len (e := .str) (l := m.1.2.2.2.2.2)
    rw [tot_Conf hk] at s1
    omega
  have l2 := tot_len (e := tAlarm) (l := m.2.1)
  have l5 := tot_len (e := tGroup) (l := m.2.2.2.2.1)
  have e1 : decide ((m.2.1.length : Int) > m.1.2.1) = !decide ((m.2.1.length : Int) ≤ m.1.2.1) := by rw [Bool.eq_iff_iff]; simp
  have e3 : decide (m.2.2.2.2.2 < (0 : Int)) = !decide (0 ≤ m.2.2.2.2.2) := by rw [Bool.eq_iff_iff]; simp
  simp only [F_impl_ModelOk, joinC]
  rw [impl_ConfOk_ok hk s1, impl_subsRight_ok hk s3, impl_alarmsOk_ok hk s4, impl_GroupsOk_ok hk s5 s6]
  simp only [ite_some, Option.bind_some]
  rw [show ((m, m.2.1, (m.2.1.length : Int), (0 : Int), ()) : DModel × List DAlarm × Int × Int × Unit) = (fun i : Nat => (m, m.2.1, (m.2.1.length : Int), (i : Int), ())) 0 from rfl]
  rw [loop_all (fun i : Nat => (m, m.2.1, (m.2.1.length : Int), (i : Int), ())) (fun i => okFits (m.2.1.getD i tAlarm.dflt) && ordA m.2.1 i) m.2.1.length
    (e := some (allB 0 m.2.2.2.2.1.length (fun i => decide ((m.2.2.2.2.1.getD i tGroup.dflt).1 < m.2.2.2.2.2)), ())) (no := some (false, ())) ?_ ?_ k 0 (by omega)]
  · rw [e1, e3]
    unfold okModel
    generalize okConf m.1 = b1
    generalize decide ((m.2.1.length : Int) ≤ m.1.2.1) = b2
    generalize decide ((m.2.2.1.length : Int) = m.1.2.2.1) = b3
    generalize okSubs m.2.2.1 = b4
    generalize okAlarms m.2.2.2.1 = b5
    generalize decide (0 ≤ m.2.2.2.2.2) = b6
    generalize okGroups m.2.2.2.2.1 m.1.2.2.2.2.2 = b7
    generalize allB 0 m.2.1.length (fun i => okFits (m.2.1.getD i tAlarm.dflt) && ordA m.2.1 i) = b8
    generalize allB 0 m.2.2.2.2.1.length (fun i => decide ((m.2.2.2.2.1.getD i tGroup.dflt).1 < m.2.2.2.2.2)) = b9
    cases b1 <;> cases b2 <;> cases b3 <;> cases b4 <;> cases b5 <;> cases b6 <;> cases b7 <;> cases b8 <;> simp
  · intro G i hi
    simp only [Int.toNat_natCast]
    obtain ⟨hm, hml⟩ := alarm_at hk s2 hi
    rw [lt_nat, decide_eq_true hi, if_pos rfl, if_pos (in_nat hi), impl_Fits_ok hk hm, Option.bind_some, wrapS (by omega), wrapP (by omega)]
    rw [show ((i : Int) - 1).toNat = i - 1 by omega, if_pos (by simp; omega)]
    cases okFits (m.2.1.getD i tAlarm.dflt) with
    | false => simp
    | true =>
      by_cases h0 : i = 0
      · subst h0
        simp [ordA, -List.getD_eq_getElem?_getD]
      · have h0' : (0 : Int) < (i : Int) := by omega
        have h0n : 0 < i := by omega
        rw [impl_SetLess_ok hk (alarm_at hk s2 (show i - 1 < m.2.1.length by omega)).2]
        unfold ordA
        cases setLess (m.2.1.getD (i - 1) tAlarm.dflt).1 (m.2.1.getD i tAlarm.dflt).1 <;> simp [h0, h0', h0n]
  · intro G i hi
    simp only
    rw [lt_nat, decide_eq_false (by omega), if_neg (by simp)]
    rw [show ((m, m.2.2.2.2.1, (m.2.2.2.2.1.length : Int), (0 : Int), ()) : DModel × List DGroup × Int × Int × Unit) = (fun i : Nat => (m, m.2.2.2.2.1, (m.2.2.2.2.1.length : Int), (i : Int), ())) 0 from rfl]
    rw [loop_all (fun i : Nat => (m, m.2.2.2.2.1, (m.2.2.2.2.1.length : Int), (i : Int), ())) (fun i => decide ((m.2.2.2.2.1.getD i tGroup.dflt).1 < m.2.2.2.2.2)) m.2.2.2.2.1.length
      (e := some (true, ())) (no := some (false, ())) ?_ ?_ k 0 (by omega)]
    · cases allB 0 m.2.2.2.2.1.length (fun i => decide ((m.2.2.2.2.1.getD i tGroup.dflt).1 < m.2.2.2.2.2)) <;> simp
    · intro G i hi
      simp only [Int.toNat_natCast]
      rw [lt_nat, decide_eq_true hi, if_pos rfl, if_pos (in_nat hi), wrapS (by omega)]
      by_cases h : (m.2.2.2.2.1.getD i tGroup.dflt).1 < m.2.2.2.2.2
      · rw [if_neg (by simp only [decide_eq_true_eq]; omega), if_pos (by simpa using h)]
      · rw [if_pos (by simp only [decide_eq_true_eq]; omega), if_neg (by simpa using h)]
    · intro G i hi
      simp only
      rw [lt_nat, decide_eq_false (by omega), if_neg (by simp)]

theorem law_ModelOk {x : DModel × Unit} (hx : Fits tModel x.1) : F_laws_FnExactModelOk k x = some (true, ()) := by
  obtain ⟨a, u⟩ := x
  simp only at hx
  simp only [F_laws_FnExactModelOk]
  rw [szModel_ok hk hx (by omega) (by omega), Option.bind_some]
  split
  · rfl
  · rename_i h1
    have h1 := szv_some (by simpa using h1)
    rw [toModel_ok hk (x := a) (by omega)]
    simp only [Option.bind_some]
    rw [spec_ModelOk_ok hk (by omega), impl_ModelOk_ok hk (by omega), eqModel_ok hk (by omega)]
    simp

end
end Vg.Try
