/- Plain laws: names, texts, labels, sets. -/
import Derived.Test.YtmoafmclhokdaaaVd
import Derived.Test.YtmoafmclhokdaaaQ1
namespace Vg.Try
open Go Vg
set_option linter.unusedVariables false
set_option linter.unusedSectionVars false
set_option linter.unusedSimpArgs false

/-- A small letter. -/
def lowB (s : ByteArray) (i : Nat) : Bool := decide (97 ≤ bt s i) && decide (bt s i ≤ 122)
def okName (s : ByteArray) : Bool := decide (1 ≤ s.size ∧ s.size ≤ 8) && allB 0 s.size (lowB s)
def plainB (s : ByteArray) (i : Nat) : Bool := decide (32 ≤ bt s i ∧ bt s i ≤ 126 ∧ bt s i ≠ 34 ∧ bt s i ≠ 92)
def okPlain (s : ByteArray) : Bool := decide (s.size ≤ 12) && allB 0 s.size (plainB s)
def okLabel (x : DLabel) : Bool := okName x.1 && okPlain x.2
def ordB (l : List DLabel) (i : Nat) : Bool := i == 0 || lessB (l.getD (i - 1) tLabel.dflt).1 (l.getD i tLabel.dflt).1
def okSet (l : List DLabel) : Bool := decide (l.length ≤ 4) && allB 0 l.length (fun i => okLabel (l.getD i tLabel.dflt) && ordB l i)

section
variable {k : Nat} (hk : 9223372036854775808 ≤ k)
include hk

theorem spec_NameOk_ok {s : ByteArray} (hs : s.size ≤ 1048576) : F_spec_NameOk k (s, ()) = some (okName s, ()) := by
  simp only [F_spec_NameOk, joinC]
  rw [show ((s, (0 : Int), ()) : ByteArray × Int × Unit) = (fun i : Nat => (s, (i : Int), ())) 0 from rfl]
  rw [loop_all (fun i : Nat => (s, (i : Int), ())) (lowB s) s.size (e := some (decide (1 ≤ s.size ∧ s.size ≤ 8), ())) (no := some (false, ())) ?_ ?_ k 0 (by omega)]
  · unfold okName
    cases allB 0 s.size (lowB s) <;> simp
  · intro G i hi
    simp only
    rw [lt_nat, decide_eq_true hi, if_pos rfl, if_pos (in_nat hi), in_nat hi, Bool.or_true, if_pos rfl, wrapS (by omega)]
    unfold lowB
    by_cases h1 : bt s i < 97 <;> by_cases h2 : bt s i > 122 <;> simp [h1, h2] <;> omega
  · intro G i hi
    simp only
    rw [lt_nat, decide_eq_false (by omega), if_neg (by simp)]
    simp only [F_spec_l1In, Option.bind_some]
    congr 2
    rw [Bool.eq_iff_iff]
    simp
    omega

theorem impl_NameOk_ok {s : ByteArray} (hs : s.size ≤ 1048576) : F_impl_NameOk k (s, ()) = some (okName s, ()) := by
  simp only [F_impl_NameOk, F_impl_in, Option.bind_some]
  by_cases hb : 1 ≤ s.size ∧ s.size ≤ 8
  · rw [if_neg (by simp; omega)]
    rw [show ((s, (0 : Int), ()) : ByteArray × Int × Unit) = (fun i : Nat => (s, (i : Int), ())) 0 from rfl]
    rw [loop_all (fun i : Nat => (s, (i : Int), ())) (lowB s) s.size (e := some (true, ())) (no := some (false, ())) ?_ ?_ k 0 (by omega)]
    · unfold okName
      cases allB 0 s.size (lowB s) <;> simp [hb]
    · intro G i hi
      simp only
      rw [lt_nat, decide_eq_true hi, if_pos rfl, if_pos (in_nat hi), in_nat hi, Bool.or_true, if_pos rfl, wrapS (by omega)]
      unfold lowB
      by_cases h1 : bt s i < 97 <;> by_cases h2 : bt s i > 122 <;> simp [h1, h2] <;> omega
    · intro G i hi
      simp only
      rw [lt_nat, decide_eq_false (by omega), if_neg (by simp)]
  · rw [if_pos (by simp; omega)]
    unfold okName
    simp [hb]

theorem spec_PlainOk_ok {s : ByteArray} (hs : s.size ≤ 1048576) : F_spec_PlainOk k (s, ()) = some (okPlain s, ()) := by
  simp only [F_spec_PlainOk, joinC]
  rw [show ((s, (0 : Int), ()) : ByteArray × Int × Unit) = (fun i : Nat => (s, (i : Int), ())) 0 from rfl]
  rw [loop_all (fun i : Nat => (s, (i : Int), ())) (plainB s) s.size (e := some (decide (s.size ≤ 12), ())) (no := some (false, ())) ?_ ?_ k 0 (by omega)]
  · unfold okPlain
    cases allB 0 s.size (plainB s) <;> simp
  · intro G i hi
    simp only
    rw [lt_nat, decide_eq_true hi, if_pos rfl, if_pos (in_nat hi), in_nat hi, Bool.or_true, if_pos rfl, Bool.or_true, if_pos rfl, Bool.or_true, if_pos rfl, wrapS (by omega)]
    unfold plainB
    by_cases h1 : bt s i < 32 <;> by_cases h2 : bt s i > 126 <;> by_cases h3 : bt s i = 34 <;> by_cases h4 : bt s i = 92 <;> simp [h1, h2, h3, h4] <;> omega
  · intro G i hi
    simp only
    rw [lt_nat, decide_eq_false (by omega), if_neg (by simp)]
    congr 2
    rw [Bool.eq_iff_iff]
    simp
    omega

theorem impl_PlainOk_ok {s : ByteArray} (hs : s.size ≤ 1048576) : F_impl_PlainOk k (s, ()) = some (okPlain s, ()) := by
  simp only [F_impl_PlainOk]
  by_cases hb : s.size ≤ 12
  · rw [if_neg (by simp; omega)]
    rw [show ((s, (0 : Int), ()) : ByteArray × Int × Unit) = (fun i : Nat => (s, (i : Int), ())) 0 from rfl]
    rw [loop_all (fun i : Nat => (s, (i : Int), ())) (plainB s) s.size (e := some (true, ())) (no := some (false, ())) ?_ ?_ k 0 (by omega)]
    · unfold okPlain
      cases allB 0 s.size (plainB s) <;> simp [hb]
    · intro G i hi
      simp only
      rw [lt_nat, decide_eq_true hi, if_pos rfl, if_pos (in_nat hi), wrapS (by omega)]
      unfold plainB
      by_cases h1 : bt s i < 32 <;> by_cases h2 : bt s i > 126 <;> by_cases h3 : bt s i = 34 <;> by_cases h4 : bt s i = 92 <;> simp [h1, h2, h3, h4] <;> omega
    · intro G i hi
      simp only
      rw [lt_nat, decide_eq_false (by omega), if_neg (by simp)]
  · rw [if_pos (by simp; omega)]
    unfold okPlain
    simp [hb]

theorem spec_LabelOk_ok {x : DLabel} (hs : tot tLabel x ≤ 1048576) : F_spec_LabelOk k (x, ()) = some (okLabel x, ()) := by
  rw [tot_Label hk] at hs
  simp only [F_spec_LabelOk]
  rw [spec_NameOk_ok hk (by omega), spec_PlainOk_ok hk (by omega)]
  simp only [ite_some, Option.bind_some, okLabel]
  cases okName x.1 <;> simp

theorem impl_LabelOk_ok {x : DLabel} (hs : tot tLabel x ≤ 1048576) : F_impl_LabelOk k (x, ()) = some (okLabel x, ()) := by
  rw [tot_Label hk] at hs
  simp only [F_impl_LabelOk]
  rw [impl_NameOk_ok hk (by omega), impl_PlainOk_ok hk (by omega)]
  simp only [ite_some, Option.bind_some, okLabel]
  cases okName x.1 <;> simp

theorem spec_SetOk_ok {l : List DLabel} (hs : tot (.sl tLabel) l ≤ 1048576) : F_spec_SetOk k (l, ()) = some (okSet l, ()) := by
  have hl := tot_len (e := tLabel) (l := l)
  simp only [F_spec_SetOk, joinC]
  rw [show ((l, (0 : Int), ()) : List DLabel × Int × Unit) = (fun i : Nat => (l, (i : Int), ())) 0 from rfl]
  rw [loop_all (fun i : Nat => (l, (i : Int), ())) (fun i => okLabel (l.getD i tLabel.dflt) && ordB l i) l.length (e := some (decide (l.length ≤ 4), ())) (no := some (false, ())) ?_ ?_ k 0 (by omega)]
  · unfold okSet
    cases allB 0 l.length (fun i => okLabel (l.getD i tLabel.dflt) && ordB l i) <;> simp
  · intro G i hi
    simp only [Int.toNat_natCast]
    have hm : tot tLabel (l.getD i tLabel.dflt) ≤ 1048576 := Nat.le_trans (tot_mem (e := tLabel) (getD_mem hi)) hs
    rw [lt_nat, decide_eq_true hi, if_pos rfl, if_pos (in_nat hi), spec_LabelOk_ok hk hm, Option.bind_some, wrapS (by omega), wrapP (by omega)]
    simp only
    rw [if_pos (by simp; omega), if_pos (by simp [hi])]
    simp only [F_spec_Less, ite_some, Option.bind_some]
    rw [show ((i : Int) - 1).toNat = i - 1 by omega]
    unfold ordB lessB
    cases okLabel (l.getD i tLabel.dflt) with
    | false => simp
    | true =>
      by_cases h0 : i = 0
      · subst h0; simp
      · have h0' : (0 : Int) < (i : Int) := by omega
        have h0n : 0 < i := by omega
        cases Op.bytesLess (ByteArray.toList (l.getD (i - 1) tLabel.dflt).1) (ByteArray.toList (l.getD i tLabel.dflt).1) <;> simp [h0, h0', h0n]
  · intro G i hi
    simp only
    rw [lt_nat, decide_eq_false (by omega), if_neg (by simp)]
    congr 2
    rw [Bool.eq_iff_iff]
    simp
    omega

theorem impl_SetOk_ok {l : List DLabel} (hs : tot (.sl tLabel) l ≤ 1048576) : F_impl_SetOk k (l, ()) = some (okSet l, ()) := by
  have hl := tot_len (e := tLabel) (l := l)
  simp only [F_impl_SetOk]
  rw [show ((l, l, (l.length : Int), (0 : Int), ()) : List DLabel × List DLabel × Int × Int × Unit) = (fun i : Nat => (l, l, (l.length : Int), (i : Int), ())) 0 from rfl]
  rw [loop_all (fun i : Nat => (l, l, (l.length : Int), (i : Int), ())) (fun i => decide (i < 4) && (okLabel (l.getD i tLabel.dflt) && ordB l i)) l.length (e := some (true, ())) (no := some (false, ())) ?_ ?_ k 0 (by omega)]
  · unfold okSet
    rw [allB_and, allB_lt]
    cases allB 0 l.length (fun i => okLabel (l.getD i tLabel.dflt) && ordB l i) <;> by_cases h : l.length ≤ 4 <;> simp [h]
  · intro G i hi
    simp only [Int.toNat_natCast]
    have hm : tot tLabel (l.getD i tLabel.dflt) ≤ 1048576 := Nat.le_trans (tot_mem (e := tLabel) (getD_mem hi)) hs
    rw [lt_nat, decide_eq_true hi, if_pos rfl, if_pos (in_nat hi), impl_LabelOk_ok hk hm, wrapS (by omega), wrapP (by omega)]
    simp only [ite_some, Option.bind_some]
    rw [show ((i : Int) - 1).toNat = i - 1 by omega]
    rw [if_pos (by simp; omega)]
    unfold ordB lessB
    by_cases h4 : i < 4
    · have h4' : ¬ (4 : Int) ≤ (i : Int) := by omega
      cases okLabel (l.getD i tLabel.dflt) with
      | false => simp [h4, h4']
      | true =>
        by_cases h0 : i = 0
        · subst h0; simp
        · have h0' : (0 : Int) < (i : Int) := by omega
          have h0n : 0 < i := by omega
          cases Op.bytesLess (ByteArray.toList (l.getD (i - 1) tLabel.dflt).1) (ByteArray.toList (l.getD i tLabel.dflt).1) <;> simp [h0, h0', h0n, h4, h4']
    · have h4' : (4 : Int) ≤ (i : Int) := by omega
      simp [h4, h4']
  · intro G i hi
    simp only
    rw [lt_nat, decide_eq_false (by omega), if_neg (by simp)]

end
end Vg.Try
