/- Plain laws: names, texts, labels, sets. -/
import Derived.Test.YtoenkpiimjnmdaaVc
import Derived.Test.YtoenkpiimjnmdaaQ1
namespace Vg.Try
open Go Vg
set_option linter.unusedVariables false
set_option linter.unusedSectionVars false
set_option linter.unusedSimpArgs false

/-- A small letter. -/
def lowB (s : ByteArray) (i : Nat) : Bool := decide (97 ≤ bt s i) && decide (bt s i ≤ 122)
def okName (s : ByteArray) : Bool := decide (1 ≤ s.size ∧ s.size ≤ 8) && allB 0 s.size (lowB s)
def plainB (s : ByteArray) (i : Nat) : Bool := decide (32 ≤ bt s i ∧ bt s i ≤ 126 ∧ bt s i ≠ 34 ∧ bt s i ≠ 92)
def okPlain (s : ByteArray) : Bool := decide (s.size ≤ 12) && allB 0 s.size (plainB s)
def okLabel (x : DLabel) : Bool := okName x.1 && okPlain x.2
def lessB (a b : ByteArray) : Bool := Op.bytesLess a.toList b.toList
def ordB (l : List DLabel) (i : Nat) : Bool := i == 0 || lessB (l.getD (i - 1) tLabel.dflt).1 (l.getD i tLabel.dflt).1
def okSet (l : List DLabel) : Bool := decide (l.length ≤ 4) && allB 0 l.length (fun i => okLabel (l.getD i tLabel.dflt) && ordB l i)

section
variable {k : Nat} (hk : 9223372036854775808 ≤ k)
include hk

theorem spec_NameOk_ok {s : ByteArray} (hs : s.size ≤ 1048576) : F_spec_NameOk k (s, ()) = some (okName s, ()) := by
  simp only [F_spec_NameOk, joinC]
  rw [show ((s, (0 : Int), ()) : ByteArray × Int × Unit) = (fun i : Nat => (s, (i : Int), ())) 0 from rfl]
  rw [loop_all (fun i : Nat => (s, (i : Int), ())) (lowB s) s.size (e := some (decide (1 ≤ s.size ∧ s.size ≤ 8), ())) (no := some (false, ())) ?_ ?_ k 0 (by omega)]
  · unfold okName
    cases allB 0 s.size (lowB s) <;> simp
  · intro G i hi
    simp only
    rw [lt_nat, decide_eq_true hi, if_pos rfl, if_pos (in_nat hi), in_nat hi, Bool.or_true, if_pos rfl, wrapS (by omega)]
    unfold lowB
    by_cases h1 : bt s i < 97 <;> by_cases h2 : bt s i > 122 <;> simp [h1, h2] <;> omega
  · intro G i hi
    simp only
    rw [lt_nat, decide_eq_false (by omega), if_neg (by simp)]
    simp only [F_spec_l1In, Option.bind_some]
    congr 2
    rw [Bool.eq_iff_iff]
    simp
    omega

theorem impl_NameOk_ok {s : ByteArray} (hs : s.size ≤ 1048576) : F_impl_NameOk k (s, ()) = some (okName s, ()) := by
  simp only [F_impl_NameOk, F_impl_in, Option.bind_some]
  by_cases hb : 1 ≤ s.size ∧ s.size ≤ 8
  · rw [if_neg (by simp; omega)]
    rw [show ((s, (0 : Int), ()) : ByteArray × Int × Unit) = (fun i : Nat => (s, (i : Int), ())) 0 from rfl]
    rw [loop_all (fun i : Nat => (s, (i : Int), ())) (lowB s) s.size (e := some (true, ())) (no := some (false, ())) ?_ ?_ k 0 (by omega)]
    · unfold okName
      cases allB 0 s.size (lowB s) <;> simp [hb]
    · intro G i hi
      simp only
      rw [lt_nat, decide_eq_true hi, if_pos rfl, if_pos (in_nat hi), in_nat hi, Bool.or_true, if_pos rfl, wrapS (by omega)]
      unfold lowB
      by_cases h1 : bt s i < 97 <;> by_cases h2 : bt s i > 122 <;> simp [h1, h2] <;> omega
    · intro G i hi
      simp only
      rw [lt_nat, decide_eq_false (by omega), if_neg (by simp)]
  · rw [if_pos (by simp; omega)]
    unfold okName
    simp [hb]

end
end Vg.Try
