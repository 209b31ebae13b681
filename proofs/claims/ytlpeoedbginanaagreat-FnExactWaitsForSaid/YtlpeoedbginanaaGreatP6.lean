/- Plain laws: listeners and models. -/
import Derived.Test.YtlpeoedbginanaaGreatP5
namespace Vg.Tryz
open Go Vg
set_option linter.unusedVariables false
set_option linter.unusedSectionVars false
set_option linter.unusedSimpArgs false

def okSubs (l : List DSub) : Bool := allB 0 l.length (fun i => okSub (l.getD i tSub.dflt))
section
variable {k : Nat} (hk : 9223372036854775808 ≤ k)
include hk

theorem spec_Fits_ok {c : DConf} {a : DAlarm} (hs : tot tAlarm a ≤ 1048576) : F_spec_Fits k (c, a, ()) = some (okFits a, ()) := by
  simp only [F_spec_Fits]
  rw [spec_AlarmOk_ok hk hs]
  simp only [Option.bind_some, okFits, and_if]

theorem impl_Fits_ok {c : DConf} {a : DAlarm} (hs : tot tAlarm a ≤ 1048576) : F_impl_Fits k (c, a, ()) = some (okFits a, ()) := by
  simp only [F_impl_Fits]
  rw [impl_AlarmOk_ok hk hs]
  simp only [Option.bind_some, okFits, and_if]

theorem spec_SubOk_ok {s : DSub} (hs : tot tSub s ≤ 1048576) : F_spec_SubOk k (s, ()) = some (okSub s, ()) := by
  rw [tot_Sub hk] at hs
  have hl := tot_len (e := tAlarm) (l := s.1)
  simp only [F_spec_SubOk, joinC]
  rw [show ((s, (0 : Int), ()) : DSub × Int × Unit) = (fun i : Nat => (s, (i : Int), ())) 0 from rfl]
  rw [loop_all (fun i : Nat => (s, (i : Int), ())) (fun i => okAlarm (s.1.getD i tAlarm.dflt)) s.1.length (e := some (decide (s.1.length ≤ 3) && (!s.2 || decide (s.1.length = 0)), ())) (no := some (false, ())) ?_ ?_ k 0 (by omega)]
  · unfold okSub okAlarms
    cases allB 0 s.1.length (fun i => okAlarm (s.1.getD i tAlarm.dflt)) <;> simp
  · intro G i hi
    simp only [Int.toNat_natCast]
    rw [lt_nat, decide_eq_true hi, if_pos rfl, if_pos (in_nat hi), spec_AlarmOk_ok hk (alarm_at hk hs hi).1, Option.bind_some, wrapS (by omega)]
    cases okAlarm (s.1.getD i tAlarm.dflt) <;> simp
  · intro G i hi
    simp only
    rw [lt_nat, decide_eq_false (by omega), if_neg (by simp)]
    congr 2
    by_cases h : s.1.length ≤ 3
    · have h' : (s.1.length : Int) ≤ 3 := by omega
      by_cases h0 : s.1.length = 0
      · cases s.2 <;> simp [h0]
      · have h0' : ¬ (s.1.length : Int) = 0 := by omega
        cases s.2 <;> simp [h, h', h0] <;> (intro e; rw [e] at h0; exact h0 rfl)
    · have h' : ¬ (s.1.length : Int) ≤ 3 := by omega
      simp [h, h']

theorem impl_SubOk_ok {s : DSub} (hs : tot tSub s ≤ 1048576) : F_impl_SubOk k (s, ()) = some (okSub s, ()) := by
  rw [tot_Sub hk] at hs
  have hl := tot_len (e := tAlarm) (l := s.1)
  simp only [F_impl_SubOk]
  rw [impl_alarmsOk_ok hk hs]
  unfold okSub
  cases s.2 with
  | true =>
    simp only [if_true]
    congr 2
    by_cases h0 : s.1 = []
    · rw [h0]; rfl
    · have h1 : ¬ s.1.length = 0 := fun e => h0 (List.eq_nil_of_length_eq_zero e)
      simp [h0]
  | false =>
    by_cases h : s.1.length ≤ 3
    · have h' : (s.1.length : Int) ≤ 3 := by omega
      simp [h, h']
    · have h' : ¬ (s.1.length : Int) ≤ 3 := by omega
      simp [h, h']

theorem sub_at {l : List DSub} {i : Nat} (hs : tot (.sl tSub) l ≤ 1048576) (hi : i < l.length) : tot tSub (l.getD i tSub.dflt) ≤ 1048576 :=
  Nat.le_trans (tot_mem (e := tSub) (getD_mem hi)) hs

theorem impl_subsRight_ok {l : List DSub} {c : DConf} (hs : tot (.sl tSub) l ≤ 1048576) : F_impl_subsRight k (l, c, ()) = some (okSubs l && decide ((l.length : Int) = c.2.2.1), ()) := by
  have hl := tot_len (e := tSub) (l := l)
  simp only [F_impl_subsRight, joinC]
  rw [show ((l, c, l, (l.length : Int), (0 : Int), ()) : List DSub × DConf × List DSub × Int × Int × Unit) = (fun i : Nat => (l, c, l, (l.length : Int), (i : Int), ())) 0 from rfl]
  rw [loop_all (fun i : Nat => (l, c, l, (l.length : Int), (i : Int), ())) (fun i => okSub (l.getD i tSub.dflt)) l.length (e := some (decide ((l.length : Int) = c.2.2.1), ())) (no := some (false, ())) ?_ ?_ k 0 (by omega)]
  · unfold okSubs
    cases allB 0 l.length (fun i => okSub (l.getD i tSub.dflt)) <;> simp
  · intro G i hi
    simp only [Int.toNat_natCast]
    rw [lt_nat, decide_eq_true hi, if_pos rfl, if_pos (in_nat hi), impl_SubOk_ok hk (sub_at hk hs hi), Option.bind_some, wrapS (by omega)]
    cases okSub (l.getD i tSub.dflt) <;> simp
  · intro G i hi
    simp only
    rw [lt_nat, decide_eq_false (by omega), if_neg (by simp)]
    congr 2

end
end Vg.Tryz
