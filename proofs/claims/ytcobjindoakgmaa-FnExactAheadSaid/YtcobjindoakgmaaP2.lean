/- Plain laws: who stands in a list. -/
import Derived.Test.YtcobjindoakgmaaP1
namespace Vg.Try
open Go Vg
set_option linter.unusedVariables false
set_option linter.unusedSectionVars false

section
variable {k : Nat} (hk : 9223372036854775808 ≤ k)
include hk

theorem spec_SameSet_ok {a b : List DLabel} (ha : a.length ≤ 1048576) : F_spec_SameSet k (a, b, ()) = some (decide (a = b), ()) := by
  simp only [F_spec_SameSet]
  by_cases hl : a.length = b.length
  · rw [if_neg (by simp [hl])]
    rw [loopN_ix (g := fun (s : List DLabel × List DLabel × Int × Unit) => some (decide (a.drop s.2.2.1.toNat = b.drop s.2.2.1.toNat), ())) (m := fun (s : List DLabel × List DLabel × Int × Unit) => a.length - s.2.2.1.toNat)
      (I := fun (s : List DLabel × List DLabel × Int × Unit) => s.1 = a ∧ s.2.1 = b ∧ 0 ≤ s.2.2.1 ∧ s.2.2.1 ≤ (a.length : Int))]
    · simp
    · rintro G ⟨a', b', i, u⟩ ⟨e1, e2, hi0, hi1⟩ hG
      change a' = a at e1
      change b' = b at e2
      subst e1 e2
      simp only at hi0 hi1 hG ⊢
      by_cases hi : i < (a'.length : Int)
      · have h1 : i.toNat < a'.length := by omega
        have h2 : i.toNat < b'.length := by omega
        rw [if_pos (by simpa using hi), if_pos (by simpa using ⟨hi0, hi⟩), if_pos (by simpa using ⟨hi0, by omega⟩)]
        rw [drop_getD (d := tLabel.dflt) h1, drop_getD (d := tLabel.dflt) h2]
        by_cases he : a'.getD i.toNat tLabel.dflt = b'.getD i.toNat tLabel.dflt
        · have hq : eqv tLabel (a'.getD i.toNat tLabel.dflt) (b'.getD i.toNat tLabel.dflt) = true := (eqv_iff rfl).2 he
          rw [if_neg (by rw [hq]; simp), wrap64 (by omega) (by omega), hG (a', b', i + 1, ()) ⟨rfl, rfl, by simp only; omega, by simp only; omega⟩ (by simp only; omega)]
          simp only [he, List.cons.injEq, true_and]
          rw [show (i + 1).toNat = i.toNat + 1 by omega]
        · have hq : eqv tLabel (a'.getD i.toNat tLabel.dflt) (b'.getD i.toNat tLabel.dflt) = false := by
            rw [Bool.eq_false_iff]; exact fun h => he ((eqv_iff rfl).1 h)
          rw [if_pos (by rw [hq]; rfl)]
          simp only [List.cons.injEq, he, false_and, decide_false]
      · rw [if_neg (by simpa using hi), List.drop_eq_nil_of_le (by omega), List.drop_eq_nil_of_le (by omega)]
        simp
    · exact ⟨rfl, rfl, by simp, by simp⟩
    · simp only
      omega
  · rw [if_pos (by simp; omega)]
    have : a ≠ b := fun e => hl (by rw [e])
    simp [this]

theorem impl_SameSet_ok {a b : List DLabel} (ha : a.length ≤ 1048576) : F_impl_SameSet k (a, b, ()) = some (decide (a = b), ()) := by
  simp only [F_impl_SameSet]
  by_cases hl : a.length = b.length
  · rw [if_neg (by simp [hl])]
    rw [loopN_ix (g := fun (s : List DLabel × List DLabel × Int × Int × Unit) => some (decide (a.drop s.2.2.2.1.toNat = b.drop s.2.2.2.1.toNat), ())) (m := fun (s : List DLabel × List DLabel × Int × Int × Unit) => a.length - s.2.2.2.1.toNat)
      (I := fun (s : List DLabel × List DLabel × Int × Int × Unit) => s.1 = a ∧ s.2.1 = b ∧ s.2.2.1 = (a.length : Int) ∧ 0 ≤ s.2.2.2.1 ∧ s.2.2.2.1 ≤ (a.length : Int))]
    · simp
    · rintro G ⟨a', b', n, i, u⟩ ⟨e1, e2, e3, hi0, hi1⟩ hG
      change a' = a at e1
      change b' = b at e2
      change n = _ at e3
      subst e1 e2 e3
      simp only at hi0 hi1 hG ⊢
      by_cases hi : i < (a'.length : Int)
      · have h1 : i.toNat < a'.length := by omega
        have h2 : i.toNat < b'.length := by omega
        rw [if_pos (by simpa using hi), if_pos (by simpa using ⟨hi0, hi⟩), if_pos (by simpa using ⟨hi0, by omega⟩)]
        rw [drop_getD (d := tLabel.dflt) h1, drop_getD (d := tLabel.dflt) h2]
        by_cases he : a'.getD i.toNat tLabel.dflt = b'.getD i.toNat tLabel.dflt
        · have hq : eqv tLabel (a'.getD i.toNat tLabel.dflt) (b'.getD i.toNat tLabel.dflt) = true := (eqv_iff rfl).2 he
          rw [if_neg (by rw [hq]; simp), wrap64 (by omega) (by omega), hG (a', b', _, i + 1, ()) ⟨rfl, rfl, rfl, by simp only; omega, by simp only; omega⟩ (by simp only; omega)]
          simp only [he, List.cons.injEq, true_and]
          rw [show (i + 1).toNat = i.toNat + 1 by omega]
        · have hq : eqv tLabel (a'.getD i.toNat tLabel.dflt) (b'.getD i.toNat tLabel.dflt) = false := by
            rw [Bool.eq_false_iff]; exact fun h => he ((eqv_iff rfl).1 h)
          rw [if_pos (by rw [hq]; rfl)]
          simp only [List.cons.injEq, he, false_and, decide_false]
      · rw [if_neg (by simpa using hi), List.drop_eq_nil_of_le (by omega), List.drop_eq_nil_of_le (by omega)]
        simp
    · exact ⟨rfl, rfl, rfl, by simp, by simp⟩
    · simp only
      omega
  · rw [if_pos (by simp; omega)]
    have : a ≠ b := fun e => hl (by rw [e])
    simp [this]

/-- The first place from i on whose labels are these. -/
def standsFrom (s : List DLabel) : List DAlarm → Int → Int
  | [], _ => -1
  | a :: l, i => if a.1 = s then i else standsFrom s l (i + 1)

theorem spec_StandsIn_ok {l : List DAlarm} {s : List DLabel} (hl : tot (.sl tAlarm) l ≤ 1048576) : F_spec_StandsIn k (l, s, ()) = some (standsFrom s l 0, ()) := by
  simp only [F_spec_StandsIn]
  have hlen := Nat.le_trans (tot_len (e := tAlarm) (l := l)) hl
  rw [loopN_ix (g := fun (t : List DAlarm × List DLabel × Int × Unit) => some (standsFrom s (l.drop t.2.2.1.toNat) t.2.2.1, ())) (m := fun (t : List DAlarm × List DLabel × Int × Unit) => l.length - t.2.2.1.toNat)
    (I := fun (t : List DAlarm × List DLabel × Int × Unit) => t.1 = l ∧ t.2.1 = s ∧ 0 ≤ t.2.2.1 ∧ t.2.2.1 ≤ (l.length : Int))]
  · simp
  · rintro G ⟨l', s', i, u⟩ ⟨e1, e2, hi0, hi1⟩ hG
    change l' = l at e1
    change s' = s at e2
    subst e1 e2
    simp only at hi0 hi1 hG ⊢
    by_cases hi : i < (l'.length : Int)
    · have h1 : i.toNat < l'.length := by omega
      have hm := tot_mem (e := tAlarm) (getD_mem (d := tAlarm.dflt) h1)
      have h3 : (l'.getD i.toNat tAlarm.dflt).1.length ≤ 1048576 := by
        have := tot_len (e := tLabel) (l := (l'.getD i.toNat tAlarm.dflt).1)
        simp only [tot] at this hm hl ⊢
        omega
      rw [if_pos (by simpa using hi), if_pos (by simpa using ⟨hi0, hi⟩), spec_SameSet_ok hk h3, Option.bind_some, drop_getD (d := tAlarm.dflt) h1]
      simp only [standsFrom, decide_eq_true_eq]
      split
      · rfl
      · rw [wrap64 (by omega) (by omega), hG (l', s', i + 1, ()) ⟨rfl, rfl, by simp only; omega, by simp only; omega⟩ (by simp only; omega)]
        simp only
        rw [show (i + 1).toNat = i.toNat + 1 by omega]
    · rw [if_neg (by simpa using hi), List.drop_eq_nil_of_le (by omega)]
      rfl
  · exact ⟨rfl, rfl, by simp, by simp⟩
  · simp only
    omega

theorem impl_labelsAt_ok {l : List DAlarm} {s : List DLabel} (hl : tot (.sl tAlarm) l ≤ 1048576) : F_impl_labelsAt k (l, s, ()) = some (standsFrom s l 0, ()) := by
  simp only [F_impl_labelsAt]
  have hlen := Nat.le_trans (tot_len (e := tAlarm) (l := l)) hl
  rw [loopN_ix (g := fun (t : List DLabel × List DAlarm × Int × Int × Unit) => some (standsFrom s (l.drop t.2.2.2.1.toNat) t.2.2.2.1, ())) (m := fun (t : List DLabel × List DAlarm × Int × Int × Unit) => l.length - t.2.2.2.1.toNat)
    (I := fun (t : List DLabel × List DAlarm × Int × Int × Unit) => t.1 = s ∧ t.2.1 = l ∧ t.2.2.1 = (l.length : Int) ∧ 0 ≤ t.2.2.2.1 ∧ t.2.2.2.1 ≤ (l.length : Int))]
  · simp
  · rintro G ⟨s', l', n, i, u⟩ ⟨e2, e1, e3, hi0, hi1⟩ hG
    change l' = l at e1
    change s' = s at e2
    change n = _ at e3
    subst e1 e2 e3
    simp only at hi0 hi1 hG ⊢
    by_cases hi : i < (l'.length : Int)
    · have h1 : i.toNat < l'.length := by omega
      have hm := tot_mem (e := tAlarm) (getD_mem (d := tAlarm.dflt) h1)
      have h3 : (l'.getD i.toNat tAlarm.dflt).1.length ≤ 1048576 := by
        have := tot_len (e := tLabel) (l := (l'.getD i.toNat tAlarm.dflt).1)
        simp only [tot] at this hm hl ⊢
        omega
      rw [if_pos (by simpa using hi), if_pos (by simpa using ⟨hi0, hi⟩), impl_SameSet_ok hk h3, Option.bind_some, drop_getD (d := tAlarm.dflt) h1]
      simp only [standsFrom, decide_eq_true_eq]
      split
      · rfl
      · rw [wrap64 (by omega) (by omega), hG (s', l', _, i + 1, ()) ⟨rfl, rfl, rfl, by simp only; omega, by simp only; omega⟩ (by simp only; omega)]
        simp only
        rw [show (i + 1).toNat = i.toNat + 1 by omega]
    · rw [if_neg (by simpa using hi), List.drop_eq_nil_of_le (by omega)]
      rfl
  · exact ⟨rfl, rfl, rfl, by simp, by simp⟩
  · simp only
    omega

theorem law_StandsIn {x : List DAlarm × List DLabel × Unit} (hx : Fits (.sl tAlarm) x.1 ∧ Fits (.sl tLabel) x.2.1) : F_laws_FnExactStandsIn k x = some (true, ()) := by
  obtain ⟨l, s, u⟩ := x
  simp only at hx
  simp only [F_laws_FnExactStandsIn]
  rw [szAlarmS_ok hk hx.1 (by omega) (by omega), Option.bind_some]
  split
  · rfl
  · rename_i h1
    have h1 := szv_some (by simpa using h1)
    have hle := szv_le (t := tot (.sl tAlarm) l) (left := 1048576) (by omega)
    rw [szLabelS_ok hk hx.2 h1.1 hle, Option.bind_some]
    split
    · rfl
    · rename_i h2
      have h2 := szv_some (by simpa using h2)
      rw [toAlarmS_ok hk (by omega), Option.bind_some, toLabelS_ok hk (by omega), Option.bind_some, spec_StandsIn_ok hk (by simp only; omega), Option.bind_some]
      simp only [F_impl_StandsIn, Option.bind_some]
      rw [impl_labelsAt_ok hk (by omega), eqAlarmS_ok hk (by omega), eqLabelS_ok hk (by omega)]
      simp

end
end Vg.Try
