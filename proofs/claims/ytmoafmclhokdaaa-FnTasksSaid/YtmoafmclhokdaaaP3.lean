/- Plain laws: orders, settings, alarms, keys, groups, models. -/
import Derived.Test.YtmoafmclhokdaaaP2
namespace Vg.Try
open Go Vg
set_option linter.unusedVariables false
set_option linter.unusedSectionVars false
set_option linter.unusedSimpArgs false

def inB (n a b : Int) : Bool := decide (a ≤ n) && decide (n ≤ b)
def okOrder (l : List ByteArray) : Bool := allB 1 l.length (fun i => lessB (l.getD (i - 1) ByteArray.empty) (l.getD i ByteArray.empty))
def okBy (l : List ByteArray) : Bool := allB 0 l.length (fun i => okName (l.getD i ByteArray.empty)) && (decide (l.length ≤ 2) && okOrder l)
def okAlarm (a : DAlarm) : Bool := okSet a.1 && decide (0 < a.1.length) && inB a.2.1 0 99999 && inB a.2.2.1 a.2.1 99999 && okPlain a.2.2.2
def okAlarms (l : List DAlarm) : Bool := allB 0 l.length (fun i => okAlarm (l.getD i tAlarm.dflt))

theorem and_if (a b : Bool) : (if a = true then b else false) = (a && b) := by cases a <;> rfl
theorem or_if (a b : Bool) : (if a = true then true else b) = (a || b) := by cases a <;> rfl

section
variable {k : Nat} (hk : 9223372036854775808 ≤ k)
include hk

theorem spec_in_ok (n a b : Int) : F_spec_l1In k (n, a, b, ()) = some (inB n a b, ()) := by
  simp only [F_spec_l1In, inB, and_if]

theorem impl_in_ok (n a b : Int) : F_impl_in k (n, a, b, ()) = some (inB n a b, ()) := by
  simp only [F_impl_in, inB, and_if]

theorem pos_len (l : List DLabel) : decide ((l.length : Int) > 0) = decide (0 < l.length) := by simp

theorem spec_AlarmOk_ok {a : DAlarm} (hs : tot tAlarm a ≤ 1048576) : F_spec_AlarmOk k (a, ()) = some (okAlarm a, ()) := by
  rw [tot_Alarm hk] at hs
  simp only [F_spec_AlarmOk, spec_in_ok hk, spec_SetOk_ok hk (show tot (.sl tLabel) a.1 ≤ 1048576 by omega), spec_PlainOk_ok hk (show a.2.2.2.size ≤ 1048576 by omega), ite_some, Option.bind_some, okAlarm, pos_len hk]
  generalize okSet a.1 = b1
  generalize decide (0 < a.1.length) = b2
  generalize inB a.2.1 0 99999 = b3
  generalize inB a.2.2.1 a.2.1 99999 = b4
  cases b1 <;> cases b2 <;> cases b3 <;> cases b4 <;> simp

theorem impl_AlarmOk_ok {a : DAlarm} (hs : tot tAlarm a ≤ 1048576) : F_impl_AlarmOk k (a, ()) = some (okAlarm a, ()) := by
  rw [tot_Alarm hk] at hs
  simp only [F_impl_AlarmOk, impl_in_ok hk, impl_SetOk_ok hk (show tot (.sl tLabel) a.1 ≤ 1048576 by omega), impl_PlainOk_ok hk (show a.2.2.2.size ≤ 1048576 by omega), ite_some, Option.bind_some, okAlarm, pos_len hk]
  generalize okSet a.1 = b1
  generalize decide (0 < a.1.length) = b2
  generalize inB a.2.1 0 99999 = b3
  generalize inB a.2.2.1 a.2.1 99999 = b4
  cases b1 <;> cases b2 <;> cases b3 <;> cases b4 <;> simp

theorem spec_l14Got_ok {l : List DAlarm} (hs : tot (.sl tAlarm) l ≤ 1048576) : F_spec_l14Got k (l, ()) = some (okAlarms l, ()) := by
  have hl := tot_len (e := tAlarm) (l := l)
  simp only [F_spec_l14Got]
  rw [show ((l, (0 : Int), ()) : List DAlarm × Int × Unit) = (fun i : Nat => (l, (i : Int), ())) 0 from rfl]
  rw [loop_all (fun i : Nat => (l, (i : Int), ())) (fun i => okAlarm (l.getD i tAlarm.dflt)) l.length (e := some (true, ())) (no := some (false, ())) ?_ ?_ k 0 (by omega)]
  · unfold okAlarms
    cases allB 0 l.length (fun i => okAlarm (l.getD i tAlarm.dflt)) <;> simp
  · intro G i hi
    simp only [Int.toNat_natCast]
    have hm : tot tAlarm (l.getD i tAlarm.dflt) ≤ 1048576 := Nat.le_trans (tot_mem (e := tAlarm) (getD_mem hi)) hs
    rw [lt_nat, decide_eq_true hi, if_pos rfl, if_pos (in_nat hi), spec_AlarmOk_ok hk hm, Option.bind_some, wrapS (by omega)]
    cases okAlarm (l.getD i tAlarm.dflt) <;> simp
  · intro G i hi
    simp only
    rw [lt_nat, decide_eq_false (by omega), if_neg (by simp)]

theorem impl_alarmsOk_ok {l : List DAlarm} (hs : tot (.sl tAlarm) l ≤ 1048576) : F_impl_alarmsOk k (l, ()) = some (okAlarms l, ()) := by
  have hl := tot_len (e := tAlarm) (l := l)
  simp only [F_impl_alarmsOk]
  rw [show ((l, (l.length : Int), (0 : Int), ()) : List DAlarm × Int × Int × Unit) = (fun i : Nat => (l, (l.length : Int), (i : Int), ())) 0 from rfl]
  rw [loop_all (fun i : Nat => (l, (l.length : Int), (i : Int), ())) (fun i => okAlarm (l.getD i tAlarm.dflt)) l.length (e := some (true, ())) (no := some (false, ())) ?_ ?_ k 0 (by omega)]
  · unfold okAlarms
    cases allB 0 l.length (fun i => okAlarm (l.getD i tAlarm.dflt)) <;> simp
  · intro G i hi
    simp only [Int.toNat_natCast]
    have hm : tot tAlarm (l.getD i tAlarm.dflt) ≤ 1048576 := Nat.le_trans (tot_mem (e := tAlarm) (getD_mem hi)) hs
    rw [lt_nat, decide_eq_true hi, if_pos rfl, if_pos (in_nat hi), impl_AlarmOk_ok hk hm, Option.bind_some, wrapS (by omega)]
    cases okAlarm (l.getD i tAlarm.dflt) <;> simp
  · intro G i hi
    simp only
    rw [lt_nat, decide_eq_false (by omega), if_neg (by simp)]

end
end Vg.Try
