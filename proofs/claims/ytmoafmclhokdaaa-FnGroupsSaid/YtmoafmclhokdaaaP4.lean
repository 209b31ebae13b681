/- Plain laws: sets in order, keys, groups, listeners, models. -/
import Derived.Test.YtmoafmclhokdaaaP3
namespace Vg.Try
open Go Vg
set_option linter.unusedVariables false
set_option linter.unusedSectionVars false
set_option linter.unusedSimpArgs false

/-- Sets of labels in order. -/
def hasB (by_ : List ByteArray) (s : ByteArray) : Bool := !allB 0 by_.length (fun i => !((by_.getD i ByteArray.empty).toList == s.toList))
def keyOf (a : DAlarm) (by_ : List ByteArray) : List DLabel := a.1.filter (fun x => hasB by_ x.1)
def ordA (l : List DAlarm) (i : Nat) : Bool := i == 0 || setLess (l.getD (i - 1) tAlarm.dflt).1 (l.getD i tAlarm.dflt).1
def okKeyed (l : List DAlarm) (key : List DLabel) (by_ : List ByteArray) : Bool :=
  allB 0 l.length (fun i => okAlarm (l.getD i tAlarm.dflt) && (decide (keyOf (l.getD i tAlarm.dflt) by_ = key) && ordA l i))
def okGroup (g : DGroup) (by_ : List ByteArray) : Bool :=
  decide (0 ≤ g.1) && (okSet g.2.1 && (inB g.2.2.1 0 99999 && ((decide (g.2.2.2.1 = -1) || inB g.2.2.2.1 g.2.2.1 99999) && (decide (0 < g.2.2.2.2.length) && okKeyed g.2.2.2.2 g.2.1 by_))))
def ordG (l : List DGroup) (i : Nat) : Bool := i == 0 || decide ((l.getD (i - 1) tGroup.dflt).1 < (l.getD i tGroup.dflt).1)
def newKey (l : List DGroup) (i : Nat) : Bool := allB 0 i (fun j => !decide ((l.getD j tGroup.dflt).2.1 = (l.getD i tGroup.dflt).2.1))
def okGroups (l : List DGroup) (by_ : List ByteArray) : Bool :=
  decide (l.length ≤ 12) && allB 0 l.length (fun i => okGroup (l.getD i tGroup.dflt) by_ && (ordG l i && newKey l i))
def okFits (a : DAlarm) : Bool := okAlarm a && decide (a.2.2.1 ≤ 99899)

section
variable {k : Nat} (hk : 9223372036854775808 ≤ k)
include hk

theorem spec_SameSet_ok {a b : List DLabel} (ha : a.length ≤ 1048576) : F_spec_SameSet k (a, b, ()) = some (decide (a = b), ()) := by
  simp only [F_spec_SameSet]
  by_cases hl : a.length = b.length
  · rw [if_neg (by simp [hl])]
    rw [loopN_ix (g := fun (s : List DLabel × List DLabel × Int × Unit) => some (decide (a.drop s.2.2.1.toNat = b.drop s.2.2.1.toNat), ())) (m := fun (s : List DLabel × List DLabel × Int × Unit) => a.length - s.2.2.1.toNat)
      (I := fun (s : List DLabel × List DLabel × Int × Unit) => s.1 = a ∧ s.2.1 = b ∧ 0 ≤ s.2.2.1 ∧ s.2.2.1 ≤ (a.length : Int))]
    · simp
    · rintro G ⟨a', b', i, u⟩ ⟨e1, e2, hi0, hi1⟩ hG
      change a' = a at e1
      change b' = b at e2
      subst e1 e2
      simp only at hi0 hi1 hG ⊢
      by_cases hi : i < (a'.length : Int)
      · have h1 : i.toNat < a'.length := by omega
        have h2 : i.toNat < b'.length := by omega
        rw [if_pos (by simpa using hi), if_pos (by simpa using ⟨hi0, hi⟩), if_pos (by simpa using ⟨hi0, by omega⟩)]
        rw [drop_getD (d := tLabel.dflt) h1, drop_getD (d := tLabel.dflt) h2]
        by_cases he : a'.getD i.toNat tLabel.dflt = b'.getD i.toNat tLabel.dflt
        · have hq : eqv tLabel (a'.getD i.toNat tLabel.dflt) (b'.getD i.toNat tLabel.dflt) = true := (eqv_iff rfl).2 he
          rw [if_neg (by rw [hq]; simp), wrap64 (by omega) (by omega), hG (a', b', i + 1, ()) ⟨rfl, rfl, by simp only; omega, by simp only; omega⟩ (by simp only; omega)]
          simp only [he, List.cons.injEq, true_and]
          rw [show (i + 1).toNat = i.toNat + 1 by omega]
        · have hq : eqv tLabel (a'.getD i.toNat tLabel.dflt) (b'.getD i.toNat tLabel.dflt) = false := by
            rw [Bool.eq_false_iff]; exact fun h => he ((eqv_iff rfl).1 h)
          rw [if_pos (by rw [hq]; rfl)]
          simp only [List.cons.injEq, he, false_and, decide_false]
      · rw [if_neg (by simpa using hi), List.drop_eq_nil_of_le (by omega), List.drop_eq_nil_of_le (by omega)]
        simp
    · exact ⟨rfl, rfl, by simp, by simp⟩
    · simp only
      omega
  · rw [if_pos (by simp; omega)]
    have : a ≠ b := fun e => hl (by rw [e])
    simp [this]

theorem impl_SameSet_ok {a b : List DLabel} (ha : a.length ≤ 1048576) : F_impl_SameSet k (a, b, ()) = some (decide (a = b), ()) := by
  simp only [F_impl_SameSet]
  by_cases hl : a.length = b.length
  · rw [if_neg (by simp [hl])]
    rw [loopN_ix (g := fun (s : List DLabel × List DLabel × Int × Int × Unit) => some (decide (a.drop s.2.2.2.1.toNat = b.drop s.2.2.2.1.toNat), ())) (m := fun (s : List DLabel × List DLabel × Int × Int × Unit) => a.length - s.2.2.2.1.toNat)
      (I := fun (s : List DLabel × List DLabel × Int × Int × Unit) => s.1 = a ∧ s.2.1 = b ∧ s.2.2.1 = (a.length : Int) ∧ 0 ≤ s.2.2.2.1 ∧ s.2.2.2.1 ≤ (a.length : Int))]
    · simp
    · rintro G ⟨a', b', n, i, u⟩ ⟨e1, e2, e3, hi0, hi1⟩ hG
      change a' = a at e1
      change b' = b at e2
      change n = _ at e3
      subst e1 e2 e3
      simp only at hi0 hi1 hG ⊢
      by_cases hi : i < (a'.length : Int)
      · have h1 : i.toNat < a'.length := by omega
        have h2 : i.toNat < b'.length := by omega
        rw [if_pos (by simpa using hi), if_pos (by simpa using ⟨hi0, hi⟩), if_pos (by simpa using ⟨hi0, by omega⟩)]
        rw [drop_getD (d := tLabel.dflt) h1, drop_getD (d := tLabel.dflt) h2]
        by_cases he : a'.getD i.toNat tLabel.dflt = b'.getD i.toNat tLabel.dflt
        · have hq : eqv tLabel (a'.getD i.toNat tLabel.dflt) (b'.getD i.toNat tLabel.dflt) = true := (eqv_iff rfl).2 he
          rw [if_neg (by rw [hq]; simp), wrap64 (by omega) (by omega), hG (a', b', _, i + 1, ()) ⟨rfl, rfl, rfl, by simp only; omega, by simp only; omega⟩ (by simp only; omega)]
          simp only [he, List.cons.injEq, true_and]
          rw [show (i + 1).toNat = i.toNat + 1 by omega]
        · have hq : eqv tLabel (a'.getD i.toNat tLabel.dflt) (b'.getD i.toNat tLabel.dflt) = false := by
            rw [Bool.eq_false_iff]; exact fun h => he ((eqv_iff rfl).1 h)
          rw [if_pos (by rw [hq]; rfl)]
          simp only [List.cons.injEq, he, false_and, decide_false]
      · rw [if_neg (by simpa using hi), List.drop_eq_nil_of_le (by omega), List.drop_eq_nil_of_le (by omega)]
        simp
    · exact ⟨rfl, rfl, rfl, by simp, by simp⟩
    · simp only
      omega
  · rw [if_pos (by simp; omega)]
    have : a ≠ b := fun e => hl (by rw [e])
    simp [this]

theorem impl_SetLess_ok {a b : List DLabel} (ha : a.length ≤ 1048576) : F_impl_SetLess k (a, b, ()) = some (setLess a b, ()) := by
  simp only [F_impl_SetLess, joinC]
  rw [loopN_ix (g := fun (s : List DLabel × List DLabel × Int × Unit) => some (setLess (a.drop s.2.2.1.toNat) (b.drop s.2.2.1.toNat), ())) (m := fun (s : List DLabel × List DLabel × Int × Unit) => a.length - s.2.2.1.toNat)
    (I := fun (s : List DLabel × List DLabel × Int × Unit) => s.1 = a ∧ s.2.1 = b ∧ 0 ≤ s.2.2.1 ∧ s.2.2.1 ≤ (a.length : Int) ∧ s.2.2.1 ≤ (b.length : Int))]
  · simp
  · rintro G ⟨a', b', i, u⟩ ⟨e1, e2, hi0, hi1, hi2⟩ hG
    change a' = a at e1
    change b' = b at e2
    subst e1 e2
    simp only at hi0 hi1 hi2 hG ⊢
    by_cases hi : i < (a'.length : Int) ∧ i < (b'.length : Int)
    · have h1 : i.toNat < a'.length := by omega
      have h2 : i.toNat < b'.length := by omega
      have ca : decide (0 ≤ i ∧ i < (a'.length : Int)) = true := by simpa using ⟨hi0, hi.1⟩
      have cb : decide (0 ≤ i ∧ i < (b'.length : Int)) = true := by simpa using ⟨hi0, hi.2⟩
      rw [if_pos (by simp [hi.1, hi.2])]
      simp only [ca, cb, if_true]
      rw [drop_getD (d := tLabel.dflt) h1, drop_getD (d := tLabel.dflt) h2]
      simp only [setLess, lessB]
      rw [wrap64 (by omega) (by omega), hG (a', b', i + 1, ()) ⟨rfl, rfl, by simp only; omega, by simp only; omega, by simp only; omega⟩ (by simp only; omega)]
      simp only
      rw [show (i + 1).toNat = i.toNat + 1 by omega]
      cases (ByteArray.toList (a'.getD i.toNat tLabel.dflt).1 == ByteArray.toList (b'.getD i.toNat tLabel.dflt).1) <;> cases (ByteArray.toList (a'.getD i.toNat tLabel.dflt).2 == ByteArray.toList (b'.getD i.toNat tLabel.dflt).2) <;> simp
    · rw [if_neg (by simp; omega)]
      by_cases ha' : i < (a'.length : Int)
      · have h1 : i.toNat < a'.length := by omega
        rw [drop_getD (d := tLabel.dflt) h1, List.drop_eq_nil_of_le (show b'.length ≤ i.toNat by omega)]
        simp only [setLess]
        congr 2
        simp; omega
      · rw [List.drop_eq_nil_of_le (show a'.length ≤ i.toNat by omega)]
        simp only [setLess]
        congr 2
        by_cases hb' : i < (b'.length : Int)
        · have h2 : i.toNat < b'.length := by omega
          rw [drop_getD (d := tLabel.dflt) h2]
          simp; omega
        · rw [List.drop_eq_nil_of_le (show b'.length ≤ i.toNat by omega)]
          simp; omega
  · exact ⟨rfl, rfl, by simp, by simp, by simp⟩
  · simp only
    omega

theorem spec_SetLess_ok {a b : List DLabel} (ha : a.length ≤ 1048576) : F_spec_SetLess k (a, b, ()) = some (setLess a b, ()) := by
  rw [← impl_SetLess_ok hk ha]
  simp only [F_impl_SetLess, F_spec_SetLess, F_spec_Less, Option.bind_some]

theorem spec_has_ok {l : List ByteArray} {s : ByteArray} (hl : l.length ≤ 1048576) : F_spec_l5Has k (l, s, ()) = some (hasB l s, ()) := by
  simp only [F_spec_l5Has]
  rw [show ((l, s, (0 : Int), ()) : List ByteArray × ByteArray × Int × Unit) = (fun i : Nat => (l, s, (i : Int), ())) 0 from rfl]
  rw [loop_any (fun i : Nat => (l, s, (i : Int), ())) (fun i => (l.getD i ByteArray.empty).toList == s.toList) l.length (e := some (false, ())) (yes := some (true, ())) ?_ ?_ k 0 (by omega)]
  · unfold hasB
    cases allB 0 l.length (fun i => !((l.getD i ByteArray.empty).toList == s.toList)) <;> simp
  · intro G i hi
    simp only [Int.toNat_natCast]
    rw [lt_nat, decide_eq_true hi, if_pos rfl, if_pos (in_nat hi), wrapS (by omega)]
  · intro G i hi
    simp only
    rw [lt_nat, decide_eq_false (by omega), if_neg (by simp)]

theorem impl_has_ok {l : List ByteArray} {s : ByteArray} (hl : l.length ≤ 1048576) : F_impl_hasText k (l, s, ()) = some (hasB l s, ()) := by
  simp only [F_impl_hasText]
  rw [show ((s, l, (l.length : Int), (0 : Int), ()) : ByteArray × List ByteArray × Int × Int × Unit) = (fun i : Nat => (s, l, (l.length : Int), (i : Int), ())) 0 from rfl]
  rw [loop_any (fun i : Nat => (s, l, (l.length : Int), (i : Int), ())) (fun i => (l.getD i ByteArray.empty).toList == s.toList) l.length (e := some (false, ())) (yes := some (true, ())) ?_ ?_ k 0 (by omega)]
  · unfold hasB
    cases allB 0 l.length (fun i => !((l.getD i ByteArray.empty).toList == s.toList)) <;> simp
  · intro G i hi
    simp only [Int.toNat_natCast]
    rw [lt_nat, decide_eq_true hi, if_pos rfl, if_pos (in_nat hi), wrapS (by omega)]
  · intro G i hi
    simp only
    rw [lt_nat, decide_eq_false (by omega), if_neg (by simp)]

theorem spec_KeyOf_ok {a : DAlarm} {by_ : List ByteArray} (ha : tot tAlarm a ≤ 1048576) (hb : by_.length ≤ 1048576) : F_spec_KeyOf k (a, by_, ()) = some (keyOf a by_, ()) := by
  have hl := tot_len (e := tLabel) (l := a.1)
  rw [tot_Alarm hk] at ha
  simp only [F_spec_KeyOf, F_spec_Project]
  rw [loopN_ix (g := fun (s : List DLabel × List ByteArray × List DLabel × Int × Unit) => some (s.2.2.1 ++ (a.1.drop s.2.2.2.1.toNat).filter (fun x => hasB by_ x.1), ())) (m := fun (s : List DLabel × List ByteArray × List DLabel × Int × Unit) => a.1.length - s.2.2.2.1.toNat)
    (I := fun (s : List DLabel × List ByteArray × List DLabel × Int × Unit) => s.1 = a.1 ∧ s.2.1 = by_ ∧ 0 ≤ s.2.2.2.1 ∧ s.2.2.2.1 ≤ (a.1.length : Int) ∧ s.2.2.1.length ≤ s.2.2.2.1.toNat)]
  · simp [keyOf]
  · rintro G ⟨l', y', o, i, u⟩ ⟨e1, e2, hi0, hi1, ho⟩ hG
    change l' = _ at e1
    change y' = by_ at e2
    subst e1 e2
    simp only at hi0 hi1 ho hG ⊢
    by_cases hi : i < (a.1.length : Int)
    · have h1 : i.toNat < a.1.length := by omega
      rw [if_pos (by simpa using hi), if_pos (by simpa using ⟨hi0, hi⟩), spec_has_ok hk hb, Option.bind_some, drop_getD (d := tLabel.dflt) h1, wrap64 (by omega) (by omega)]
      cases hh : hasB y' (a.1.getD i.toNat tLabel.dflt).1 with
      | true =>
        rw [if_pos rfl, if_pos (by simpa using ⟨hi0, hi⟩), if_pos (by simp; omega)]
        rw [hG (a.1, y', o ++ [a.1.getD i.toNat tLabel.dflt], i + 1, ()) ⟨rfl, rfl, by simp only; omega, by simp only; omega, by simp; omega⟩ (by simp only; omega)]
        simp only
        rw [show (i + 1).toNat = i.toNat + 1 by omega, List.filter_cons_of_pos (by simpa using hh)]
        simp
      | false =>
        rw [if_neg (by simp)]
        rw [hG (a.1, y', o, i + 1, ()) ⟨rfl, rfl, by simp only; omega, by simp only; omega, by simp only; omega⟩ (by simp only; omega)]
        simp only
        rw [show (i + 1).toNat = i.toNat + 1 by omega, List.filter_cons_of_neg (by rw [hh]; simp)]
    · rw [if_neg (by simpa using hi), List.drop_eq_nil_of_le (by omega)]
      simp
  · exact ⟨rfl, rfl, by simp, by simp, by simp⟩
  · simp only
    omega

theorem impl_KeyOf_ok {a : DAlarm} {by_ : List ByteArray} (ha : tot tAlarm a ≤ 1048576) (hb : by_.length ≤ 1048576) : F_impl_KeyOf k (a, by_, ()) = some (keyOf a by_, ()) := by
  have hl := tot_len (e := tLabel) (l := a.1)
  rw [tot_Alarm hk] at ha
  simp only [F_impl_KeyOf, F_impl_Project]
  rw [loopN_ix (g := fun (s : List ByteArray × List DLabel × List DLabel × Int × Int × Unit) => some (s.2.1 ++ (a.1.drop s.2.2.2.2.1.toNat).filter (fun x => hasB by_ x.1), ())) (m := fun (s : List ByteArray × List DLabel × List DLabel × Int × Int × Unit) => a.1.length - s.2.2.2.2.1.toNat)
    (I := fun (s : List ByteArray × List DLabel × List DLabel × Int × Int × Unit) => s.1 = by_ ∧ s.2.2.1 = a.1 ∧ s.2.2.2.1 = (a.1.length : Int) ∧ 0 ≤ s.2.2.2.2.1 ∧ s.2.2.2.2.1 ≤ (a.1.length : Int) ∧ s.2.1.length ≤ s.2.2.2.2.1.toNat)]
  · simp [keyOf]
  · rintro G ⟨y', o, l', n, i, u⟩ ⟨e2, e1, e3, hi0, hi1, ho⟩ hG
    change l' = _ at e1
    change y' = by_ at e2
    change n = _ at e3
    subst e1 e2 e3
    simp only at hi0 hi1 ho hG ⊢
    by_cases hi : i < (a.1.length : Int)
    · have h1 : i.toNat < a.1.length := by omega
      rw [if_pos (by simpa using hi), if_pos (by simpa using ⟨hi0, hi⟩), impl_has_ok hk hb, Option.bind_some, drop_getD (d := tLabel.dflt) h1, wrap64 (by omega) (by omega)]
      cases hh : hasB y' (a.1.getD i.toNat tLabel.dflt).1 with
      | true =>
        rw [if_pos rfl, if_pos (by simp; omega)]
        rw [hG (y', o ++ [a.1.getD i.toNat tLabel.dflt], a.1, _, i + 1, ()) ⟨rfl, rfl, rfl, by simp only; omega, by simp only; omega, by simp; omega⟩ (by simp only; omega)]
        simp only
        rw [show (i + 1).toNat = i.toNat + 1 by omega, List.filter_cons_of_pos (by simpa using hh)]
        simp
      | false =>
        rw [if_neg (by simp)]
        rw [hG (y', o, a.1, _, i + 1, ()) ⟨rfl, rfl, rfl, by simp only; omega, by simp only; omega, by simp only; omega⟩ (by simp only; omega)]
        simp only
        rw [show (i + 1).toNat = i.toNat + 1 by omega, List.filter_cons_of_neg (by rw [hh]; simp)]
    · rw [if_neg (by simpa using hi), List.drop_eq_nil_of_le (by omega)]
      simp
  · exact ⟨rfl, rfl, rfl, by simp, by simp, by simp⟩
  · simp only
    omega

theorem keyOf_len (a : DAlarm) (by_ : List ByteArray) : (keyOf a by_).length ≤ a.1.length := List.length_filter_le ..

end
end Vg.Try
