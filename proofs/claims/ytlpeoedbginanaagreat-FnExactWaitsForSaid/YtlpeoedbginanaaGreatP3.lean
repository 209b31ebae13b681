/- Plain laws: orders, settings, alarms, keys, groups, models. -/
import Derived.Test.YtlpeoedbginanaaGreatP2
namespace Vg.Tryz
open Go Vg
set_option linter.unusedVariables false
set_option linter.unusedSectionVars false
set_option linter.unusedSimpArgs false

def inB (n a b : Int) : Bool := decide (a ≤ n) && decide (n ≤ b)
def okOrder (l : List ByteArray) : Bool := allB 1 l.length (fun i => lessB (l.getD (i - 1) ByteArray.empty) (l.getD i ByteArray.empty))
def okBy (l : List ByteArray) : Bool := allB 0 l.length (fun i => okName (l.getD i ByteArray.empty)) && (decide (l.length ≤ 2) && okOrder l)
def okConf (c : DConf) : Bool := inB c.1 1 3 && inB c.2.1 1 8 && inB c.2.2.1 1 2 && inB c.2.2.2.1 1 9 && inB c.2.2.2.2.1 1 9 && okBy c.2.2.2.2.2
def okAlarm (a : DAlarm) : Bool := okSet a.1 && decide (0 < a.1.length) && inB a.2.1 0 99999 && inB a.2.2.1 a.2.1 99999 && okPlain a.2.2.2
def okAlarms (l : List DAlarm) : Bool := allB 0 l.length (fun i => okAlarm (l.getD i tAlarm.dflt))

theorem and_if (a b : Bool) : (if a = true then b else false) = (a && b) := by cases a <;> rfl
theorem or_if (a b : Bool) : (if a = true then true else b) = (a || b) := by cases a <;> rfl

section
variable {k : Nat} (hk : 9223372036854775808 ≤ k)
include hk

theorem spec_in_ok (n a b : Int) : F_spec_l1In k (n, a, b, ()) = some (inB n a b, ()) := by
  simp only [F_spec_l1In, inB, and_if]

theorem impl_in_ok (n a b : Int) : F_impl_in k (n, a, b, ()) = some (inB n a b, ()) := by
  simp only [F_impl_in, inB, and_if]

theorem spec_InOrder_ok {l : List ByteArray} (hl : l.length ≤ 1048576) : F_spec_InOrder k (l, ()) = some (okOrder l, ()) := by
  simp only [F_spec_InOrder]
  rw [show ((l, (1 : Int), ()) : List ByteArray × Int × Unit) = (fun i : Nat => (l, ((i + 1 : Nat) : Int), ())) 0 from rfl]
  rw [loop_all (fun i : Nat => (l, ((i + 1 : Nat) : Int), ())) (fun i => lessB (l.getD i ByteArray.empty) (l.getD (i + 1) ByteArray.empty)) (l.length - 1) (e := some (true, ())) (no := some (false, ())) ?_ ?_ k 0 (by omega)]
  · have : okOrder l = allB 0 (l.length - 1) (fun i => lessB (l.getD i ByteArray.empty) (l.getD (i + 1) ByteArray.empty)) := by
      unfold okOrder
      rw [Bool.eq_iff_iff, allB_iff, allB_iff]
      constructor
      · intro h i _ h2; have := h (i + 1) (by omega) (by omega); simpa using this
      · intro h i h1 h2; have := h (i - 1) (by omega) (by omega); rw [show i - 1 + 1 = i by omega] at this; exact this
    rw [this]
    cases allB 0 (l.length - 1) (fun i => lessB (l.getD i ByteArray.empty) (l.getD (i + 1) ByteArray.empty)) <;> rfl
  · intro G i hi
    simp only [Int.toNat_natCast]
    rw [lt_nat, decide_eq_true (by omega), if_pos rfl, wrapP (by omega), wrapS (by omega)]
    rw [if_pos (by simp; omega), if_pos (by simp; omega)]
    simp only [F_spec_Less, Option.bind_some]
    rw [show (((i + 1 : Nat) : Int) - 1).toNat = i by omega]
    unfold lessB
    cases Op.bytesLess (ByteArray.toList (l.getD i ByteArray.empty)) (ByteArray.toList (l.getD (i + 1) ByteArray.empty)) <;> simp
  · intro G i hi
    simp only
    rw [lt_nat, decide_eq_false (by omega), if_neg (by simp)]

theorem inOrder_eq (l : List ByteArray) : F_impl_InOrder k (l, ()) = F_spec_InOrder k (l, ()) := by
  simp only [F_spec_InOrder, F_impl_InOrder, F_spec_Less, Option.bind_some]

theorem spec_ByOk_ok {l : List ByteArray} (hs : tot (.sl .str) l ≤ 1048576) : F_spec_ByOk k (l, ()) = some (okBy l, ()) := by
  have hl := tot_len (e := .str) (l := l)
  simp only [F_spec_ByOk, joinC]
  rw [show ((l, (0 : Int), ()) : List ByteArray × Int × Unit) = (fun i : Nat => (l, (i : Int), ())) 0 from rfl]
  rw [loop_all (fun i : Nat => (l, (i : Int), ())) (fun i => okName (l.getD i ByteArray.empty)) l.length (e := some (decide (l.length ≤ 2) && okOrder l, ())) (no := some (false, ())) ?_ ?_ k 0 (by omega)]
  · unfold okBy
    cases allB 0 l.length (fun i => okName (l.getD i ByteArray.empty)) <;> simp
  · intro G i hi
    simp only [Int.toNat_natCast]
    have hm : tot .str (l.getD i ByteArray.empty) ≤ 1048576 := Nat.le_trans (tot_mem (e := .str) (getD_mem hi)) hs
    rw [lt_nat, decide_eq_true hi, if_pos rfl, if_pos (in_nat hi), spec_NameOk_ok hk hm, Option.bind_some, wrapS (by omega)]
    cases okName (l.getD i ByteArray.empty) <;> simp
  · intro G i hi
    simp only
    rw [lt_nat, decide_eq_false (by omega), if_neg (by simp), spec_InOrder_ok hk (by omega)]
    simp only [ite_some, Option.bind_some]
    by_cases h : l.length ≤ 2
    · have h' : (l.length : Int) ≤ 2 := by omega
      simp [h, h']
    · have h' : ¬ (l.length : Int) ≤ 2 := by omega
      simp [h, h']

theorem impl_ByOk_ok {l : List ByteArray} (hs : tot (.sl .str) l ≤ 1048576) : F_impl_ByOk k (l, ()) = some (okBy l, ()) := by
  have hl := tot_len (e := .str) (l := l)
  simp only [F_impl_ByOk, joinC]
  rw [show ((l, l, (l.length : Int), (0 : Int), ()) : List ByteArray × List ByteArray × Int × Int × Unit) = (fun i : Nat => (l, l, (l.length : Int), (i : Int), ())) 0 from rfl]
  rw [loop_all (fun i : Nat => (l, l, (l.length : Int), (i : Int), ())) (fun i => okName (l.getD i ByteArray.empty)) l.length (e := some (decide (l.length ≤ 2) && okOrder l, ())) (no := some (false, ())) ?_ ?_ k 0 (by omega)]
  · unfold okBy
    cases allB 0 l.length (fun i => okName (l.getD i ByteArray.empty)) <;> simp
  · intro G i hi
    simp only [Int.toNat_natCast]
    have hm : tot .str (l.getD i ByteArray.empty) ≤ 1048576 := Nat.le_trans (tot_mem (e := .str) (getD_mem hi)) hs
    rw [lt_nat, decide_eq_true hi, if_pos rfl, if_pos (in_nat hi), impl_NameOk_ok hk hm, Option.bind_some, wrapS (by omega)]
    cases okName (l.getD i ByteArray.empty) <;> simp
  · intro G i hi
    simp only
    rw [lt_nat, decide_eq_false (by omega), if_neg (by simp), inOrder_eq hk, spec_InOrder_ok hk (by omega)]
    simp only [ite_some, Option.bind_some]
    by_cases h : l.length ≤ 2
    · have h' : (l.length : Int) ≤ 2 := by omega
      simp [h, h']
    · have h' : ¬ (l.length : Int) ≤ 2 := by omega
      simp [h, h']

theorem spec_ConfOk_ok {c : DConf} (hs : tot tConf c ≤ 1048576) : F_spec_ConfOk k (c, ()) = some (okConf c, ()) := by
  rw [tot_Conf hk] at hs
  simp only [F_spec_ConfOk, spec_in_ok hk, spec_ByOk_ok hk hs, ite_some, Option.bind_some, okConf]
  generalize inB c.1 1 3 = b1
  generalize inB c.2.1 1 8 = b2
  generalize inB c.2.2.1 1 2 = b3
  generalize inB c.2.2.2.1 1 9 = b4
  generalize inB c.2.2.2.2.1 1 9 = b5
  cases b1 <;> cases b2 <;> cases b3 <;> cases b4 <;> cases b5 <;> simp

theorem impl_ConfOk_ok {c : DConf} (hs : tot tConf c ≤ 1048576) : F_impl_ConfOk k (c, ()) = some (okConf c, ()) := by
  rw [tot_Conf hk] at hs
  simp only [F_impl_ConfOk, impl_in_ok hk, impl_ByOk_ok hk hs, ite_some, Option.bind_some, okConf]
  generalize inB c.1 1 3 = b1
  generalize inB c.2.1 1 8 = b2
  generalize inB c.2.2.1 1 2 = b3
  generalize inB c.2.2.2.1 1 9 = b4
  generalize inB c.2.2.2.2.1 1 9 = b5
  cases b1 <;> cases b2 <;> cases b3 <;> cases b4 <;> cases b5 <;> simp

theorem pos_len (l : List DLabel) : decide ((l.length : Int) > 0) = decide (0 < l.length) := by simp

theorem spec_AlarmOk_ok {a : DAlarm} (hs : tot tAlarm a ≤ 1048576) : F_spec_AlarmOk k (a, ()) = some (okAlarm a, ()) := by
  rw [tot_Alarm hk] at hs
  simp only [F_spec_AlarmOk, spec_in_ok hk, spec_SetOk_ok hk (show tot (.sl tLabel) a.1 ≤ 1048576 by omega), spec_PlainOk_ok hk (show a.2.2.2.size ≤ 1048576 by omega), ite_some, Option.bind_some, okAlarm, pos_len hk]
  generalize okSet a.1 = b1
  generalize decide (0 < a.1.length) = b2
  generalize inB a.2.1 0 99999 = b3
  generalize inB a.2.2.1 a.2.1 99999 = b4
  cases b1 <;> cases b2 <;> cases b3 <;> cases b4 <;> simp

theorem impl_AlarmOk_ok {a : DAlarm} (hs : tot tAlarm a ≤ 1048576) : F_impl_AlarmOk k (a, ()) = some (okAlarm a, ()) := by
  rw [tot_Alarm hk] at hs
  simp only [F_impl_AlarmOk, impl_in_ok hk, impl_SetOk_ok hk (show tot (.sl tLabel) a.1 ≤ 1048576 by omega), impl_PlainOk_ok hk (show a.2.2.2.size ≤ 1048576 by omega), ite_some, Option.bind_some, okAlarm, pos_len hk]
  generalize okSet a.1 = b1
  generalize decide (0 < a.1.length) = b2
  generalize inB a.2.1 0 99999 = b3
  generalize inB a.2.2.1 a.2.1 99999 = b4
  cases b1 <;> cases b2 <;> cases b3 <;> cases b4 <;> simp

theorem spec_l14Got_ok {l : List DAlarm} (hs : tot (.sl tAlarm) l ≤ 1048576) : F_spec_l14Got k (l, ()) = some (okAlarms l, ()) := by
  have hl := tot_len (e := tAlarm) (l := l)
  simp only [F_spec_l14Got]
  rw [show ((l, (0 : Int), ()) : List DAlarm × Int × Unit) = (fun i : Nat => (l, (i : Int), ())) 0 from rfl]
  rw [loop_all (fun i : Nat => (l, (i : Int), ())) (fun i => okAlarm (l.getD i tAlarm.dflt)) l.length (e := some (true, ())) (no := some (false, ())) ?_ ?_ k 0 (by omega)]
  · unfold okAlarms
    cases allB 0 l.length (fun i => okAlarm (l.getD i tAlarm.dflt)) <;> simp
  · intro G i hi
    simp only [Int.toNat_natCast]
    have hm : tot tAlarm (l.getD i tAlarm.dflt) ≤ 1048576 := Nat.le_trans (tot_mem (e := tAlarm) (getD_mem hi)) hs
    rw [lt_nat, decide_eq_true hi, if_pos rfl, if_pos (in_nat hi), spec_AlarmOk_ok hk hm, Option.bind_some, wrapS (by omega)]
    cases okAlarm (l.getD i tAlarm.dflt) <;> simp
  · intro G i hi
    simp only
    rw [lt_nat, decide_eq_false (by omega), if_neg (by simp)]

theorem impl_alarmsOk_ok {l : List DAlarm} (hs : tot (.sl tAlarm) l ≤ 1048576) : F_impl_alarmsOk k (l, ()) = some (okAlarms l, ()) := by
  have hl := tot_len (e := tAlarm) (l := l)
  simp only [F_impl_alarmsOk]
  rw [show ((l, (l.length : Int), (0 : Int), ()) : List DAlarm × Int × Int × Unit) = (fun i : Nat => (l, (l.length : Int), (i : Int), ())) 0 from rfl]
  rw [loop_all (fun i : Nat => (l, (l.length : Int), (i : Int), ())) (fun i => okAlarm (l.getD i tAlarm.dflt)) l.length (e := some (true, ())) (no := some (false, ())) ?_ ?_ k 0 (by omega)]
  · unfold okAlarms
    cases allB 0 l.length (fun i => okAlarm (l.getD i tAlarm.dflt)) <;> simp
  · intro G i hi
    simp only [Int.toNat_natCast]
    have hm : tot tAlarm (l.getD i tAlarm.dflt) ≤ 1048576 := Nat.le_trans (tot_mem (e := tAlarm) (getD_mem hi)) hs
    rw [lt_nat, decide_eq_true hi, if_pos rfl, if_pos (in_nat hi), impl_AlarmOk_ok hk hm, Option.bind_some, wrapS (by omega)]
    cases okAlarm (l.getD i tAlarm.dflt) <;> simp
  · intro G i hi
    simp only
    rw [lt_nat, decide_eq_false (by omega), if_neg (by simp)]

end
end Vg.Tryz
