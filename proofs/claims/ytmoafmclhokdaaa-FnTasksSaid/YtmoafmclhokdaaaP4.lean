/- Plain laws: sets in order, keys, groups, listeners, models. -/
import Derived.Test.YtmoafmclhokdaaaP3
namespace Vg.Try
open Go Vg
set_option linter.unusedVariables false
set_option linter.unusedSectionVars false
set_option linter.unusedSimpArgs false

/-- Sets of labels in order. -/
def hasB (by_ : List ByteArray) (s : ByteArray) : Bool := !allB 0 by_.length (fun i => !((by_.getD i ByteArray.empty).toList == s.toList))
def keyOf (a : DAlarm) (by_ : List ByteArray) : List DLabel := a.1.filter (fun x => hasB by_ x.1)
def ordA (l : List DAlarm) (i : Nat) : Bool := i == 0 || setLess (l.getD (i - 1) tAlarm.dflt).1 (l.getD i tAlarm.dflt).1
def okKeyed (l : List DAlarm) (key : List DLabel) (by_ : List ByteArray) : Bool :=
  allB 0 l.length (fun i => okAlarm (l.getD i tAlarm.dflt) && (decide (keyOf (l.getD i tAlarm.dflt) by_ = key) && ordA l i))
def okFits (a : DAlarm) : Bool := okAlarm a && decide (a.2.2.1 ≤ 99899)

section
variable {k : Nat} (hk : 9223372036854775808 ≤ k)
include hk

theorem spec_SameSet_ok {a b : List DLabel} (ha : a.length ≤ 1048576) : F_spec_SameSet k (a, b, ()) = some (decide (a = b), ()) := by
  simp only [F_spec_SameSet]
  by_cases hl : a.length = b.length
  · rw [if_neg (by simp [hl])]
    rw [loopN_ix (g := fun (s : List DLabel × List DLabel × Int × Unit) => some (decide (a.drop s.2.2.1.toNat = b.drop s.2.2.1.toNat), ())) (m := fun (s : List DLabel × List DLabel × Int × Unit) => a.length - s.2.2.1.toNat)
      (I := fun (s : List DLabel × List DLabel × Int × Unit) => s.1 = a ∧ s.2.1 = b ∧ 0 ≤ s.2.2.1 ∧ s.2.2.1 ≤ (a.length : Int))]
    · simp
    · rintro G ⟨a', b', i, u⟩ ⟨e1, e2, hi0, hi1⟩ hG
      change a' = a at e1
      change b' = b at e2
      subst e1 e2
      simp only at hi0 hi1 hG ⊢
      by_cases hi : i < (a'.length : Int)
      · have h1 : i.toNat < a'.length := by omega
        have h2 : i.toNat < b'.length := by omega
        rw [if_pos (by simpa using hi), if_pos (by simpa using ⟨hi0, hi⟩), if_pos (by simpa using ⟨hi0, by omega⟩)]
        rw [drop_getD (d := tLabel.dflt) h1, drop_getD (d := tLabel.dflt) h2]
        by_cases he : a'.getD i.toNat tLabel.dflt = b'.getD i.toNat tLabel.dflt
        · have hq : eqv tLabel (a'.getD i.toNat tLabel.dflt) (b'.getD i.toNat tLabel.dflt) = true := (eqv_iff rfl).2 he
          rw [if_neg (by rw [hq]; simp), wrap64 (by omega) (by omega), hG (a', b', i + 1, ()) ⟨rfl, rfl, by simp only; omega, by simp only; omega⟩ (by simp only; omega)]
          simp only [he, List.cons.injEq, true_and]
          rw [show (i + 1).toNat = i.toNat + 1 by omega]
        · have hq : eqv tLabel (a'.getD i.toNat tLabel.dflt) (b'.getD i.toNat tLabel.dflt) = false := by
            rw [Bool.eq_false_iff]; exact fun h => he ((eqv_iff rfl).1 h)
          rw [if_pos (by rw [hq]; rfl)]
          simp only [List.cons.injEq, he, false_and, decide_false]
      · rw [if_neg (by simpa using hi), List.drop_eq_nil_of_le (by omega), List.drop_eq_nil_of_le (by omega)]
        simp
    · exact ⟨rfl, rfl, by simp, by simp⟩
    · simp only
      omega
  · rw [if_pos (by simp; omega)]
    have : a ≠ b := fun e => hl (by rw [e])
    simp [this]

theorem impl_SameSet_ok {a b : List DLabel} (ha : a.length ≤ 1048576) : F_impl_SameSet k (a, b, ()) = some (decide (a = b), ()) := by
  simp only [F_impl_SameSet]
  by_cases hl : a.length = b.length
  · rw [if_neg (by simp [hl])]
    rw [loopN_ix (g := fun (s : List DLabel × List DLabel × Int × Int × Unit) => some (decide (a.drop s.2.2.2.1.toNat = b.drop s.2.2.2.1.toNat), ())) (m := fun (s : List DLabel × List DLabel × Int × Int × Unit) => a.length - s.2.2.2.1.toNat)
      (I := fun (s : List DLabel × List DLabel × Int × Int × Unit) => s.1 = a ∧ s.2.1 = b ∧ s.2.2.1 = (a.length : Int) ∧ 0 ≤ s.2.2.2.1 ∧ s.2.2.2.1 ≤ (a.length : Int))]
    · simp
    · rintro G ⟨a', b', n, i, u⟩ ⟨e1, e2, e3, hi0, hi1⟩ hG
      change a' = a at e1
      change b' = b at e2
      change n = _ at e3
      subst e1 e2 e3
      simp only at hi0 hi1 hG ⊢
      by_cases hi : i < (a'.length : Int)
      · have h1 : i.toNat < a'.length := by omega
        have h2 : i.toNat < b'.length := by omega
        rw [if_pos (by simpa using hi), if_pos (by simpa using ⟨hi0, hi⟩), if_pos (by simpa using ⟨hi0, by omega⟩)]
        rw [drop_getD (d := tLabel.dflt) h1, drop_getD (d := tLabel.dflt) h2]
        by_cases he : a'.getD i.toNat tLabel.dflt = b'.getD i.toNat tLabel.dflt
        · have hq : eqv tLabel (a'.getD i.toNat tLabel.dflt) (b'.getD i.toNat tLabel.dflt) = true := (eqv_iff rfl).2 he
          rw [if_neg (by rw [hq]; simp), wrap64 (by omega) (by omega), hG (a', b', _, i + 1, ()) ⟨rfl, rfl, rfl, by simp only; omega, by simp only; omega⟩ (by simp only; omega)]
          simp only [he, List.cons.injEq, true_and]
          rw [show (i + 1).toNat = i.toNat + 1 by omega]
        · have hq : eqv tLabel (a'.getD i.toNat tLabel.dflt) (b'.getD i.toNat tLabel.dflt) = false := by
            rw [Bool.eq_false_iff]; exact fun h => he ((eqv_iff rfl).1 h)
          rw [if_pos (by rw [hq]; rfl)]
          simp only [List.cons.injEq, he, false_and, decide_false]
      · rw [if_neg (by simpa using hi), List.drop_eq_nil_of_le (by omega), List.drop_eq_nil_of_le (by omega)]
        simp
    · exact ⟨rfl, rfl, rfl, by simp, by simp⟩
    · simp only
      omega
  · rw [if_pos (by simp; omega)]
    have : a ≠ b := fun e => hl (by rw [e])
    simp [this]

theorem keyOf_len (a : DAlarm) (by_ : List ByteArray) : (keyOf a by_).length ≤ a.1.length := List.length_filter_le ..

end
end Vg.Try
