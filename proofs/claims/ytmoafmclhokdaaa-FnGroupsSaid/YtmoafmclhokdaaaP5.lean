/- Plain laws: groups, listeners, models. -/
import Derived.Test.YtmoafmclhokdaaaP4
namespace Vg.Try
open Go Vg
set_option linter.unusedVariables false
set_option linter.unusedSectionVars false
set_option linter.unusedSimpArgs false

section
variable {k : Nat} (hk : 9223372036854775808 ≤ k)
include hk

theorem alarm_at {l : List DAlarm} {i : Nat} (hs : tot (.sl tAlarm) l ≤ 1048576) (hi : i < l.length) : tot tAlarm (l.getD i tAlarm.dflt) ≤ 1048576 ∧ (l.getD i tAlarm.dflt).1.length ≤ 1048576 := by
  have hm : tot tAlarm (l.getD i tAlarm.dflt) ≤ 1048576 := Nat.le_trans (tot_mem (e := tAlarm) (getD_mem hi)) hs
  refine ⟨hm, ?_⟩
  rw [tot_Alarm hk] at hm
  have := tot_len (e := tLabel) (l := (l.getD i tAlarm.dflt).1)
  omega

theorem impl_keyedOk_ok {l : List DAlarm} {key : List DLabel} {by_ : List ByteArray} (hs : tot (.sl tAlarm) l ≤ 1048576) (hb : by_.length ≤ 1048576) : F_impl_keyedOk k (l, key, by_, ()) = some (okKeyed l key by_, ()) := by
  have hl := tot_len (e := tAlarm) (l := l)
  simp only [F_impl_keyedOk]
  rw [show ((l, key, by_, l, (l.length : Int), (0 : Int), ()) : List DAlarm × List DLabel × List ByteArray × List DAlarm × Int × Int × Unit) = (fun i : Nat => (l, key, by_, l, (l.length : Int), (i : Int), ())) 0 from rfl]
  rw [loop_all (fun i : Nat => (l, key, by_, l, (l.length : Int), (i : Int), ())) (fun i => okAlarm (l.getD i tAlarm.dflt) && (decide (keyOf (l.getD i tAlarm.dflt) by_ = key) && ordA l i)) l.length (e := some (true, ())) (no := some (false, ())) ?_ ?_ k 0 (by omega)]
  · unfold okKeyed
    cases allB 0 l.length (fun i => okAlarm (l.getD i tAlarm.dflt) && (decide (keyOf (l.getD i tAlarm.dflt) by_ = key) && ordA l i)) <;> simp
  · intro G i hi
    simp only [Int.toNat_natCast]
    obtain ⟨hm, hml⟩ := alarm_at hk hs hi
    have hkl := keyOf_len hk (l.getD i tAlarm.dflt) by_
    rw [lt_nat, decide_eq_true hi, if_pos rfl, if_pos (in_nat hi), impl_AlarmOk_ok hk hm, Option.bind_some, impl_KeyOf_ok hk hm hb, wrapS (by omega), wrapP (by omega)]
    simp only [ite_some, Option.bind_some]
    rw [show ((i : Int) - 1).toNat = i - 1 by omega]
    cases okAlarm (l.getD i tAlarm.dflt) with
    | false => simp
    | true =>
      simp only [Bool.not_true, beq_self_eq_true, if_true]
      rw [impl_SameSet_ok hk (by omega)]
      simp only [Option.bind_some]
      by_cases hq : keyOf (l.getD i tAlarm.dflt) by_ = key
      · by_cases h0 : i = 0
        · subst h0
          simp [hq, ordA, -List.getD_eq_getElem?_getD]
        · have h0' : (0 : Int) < (i : Int) := by omega
          have h0n : 0 < i := by omega
          obtain ⟨hm1, hml1⟩ := alarm_at hk hs (show i - 1 < l.length by omega)
          rw [if_pos (by simp; omega), impl_SetLess_ok hk hml1]
          unfold ordA
          cases setLess (l.getD (i - 1) tAlarm.dflt).1 (l.getD i tAlarm.dflt).1 <;> simp [hq, h0, h0', h0n, -List.getD_eq_getElem?_getD]
      · simp [hq, -List.getD_eq_getElem?_getD]
  · intro G i hi
    simp only
    rw [lt_nat, decide_eq_false (by omega), if_neg (by simp)]

theorem impl_GroupOk_ok {g : DGroup} {by_ : List ByteArray} (hs : tot tGroup g ≤ 1048576) (hb : by_.length ≤ 1048576) : F_impl_GroupOk k (g, by_, ()) = some (okGroup g by_, ()) := by
  rw [tot_Group hk] at hs
  simp only [F_impl_GroupOk, impl_in_ok hk, impl_SetOk_ok hk (show tot (.sl tLabel) g.2.1 ≤ 1048576 by omega), impl_keyedOk_ok hk (show tot (.sl tAlarm) g.2.2.2.2 ≤ 1048576 by omega) hb, ite_some, Option.bind_some, okGroup]
  have e1 : decide (g.1 < (0 : Int)) = !decide (0 ≤ g.1) := by rw [Bool.eq_iff_iff]; simp
  have e2 : decide ((g.2.2.2.2.length : Int) > (0 : Int)) = decide (0 < g.2.2.2.2.length) := by simp
  have e3 : ((g.2.2.2.1 : Int) != (-1 : Int)) = !decide (g.2.2.2.1 = -1) := by rw [Bool.eq_iff_iff]; simp
  rw [e1, e2, e3]
  generalize decide (0 ≤ g.1) = b1
  generalize okSet g.2.1 = b2
  generalize inB g.2.2.1 0 99999 = b3
  generalize decide (g.2.2.2.1 = -1) = b4
  generalize inB g.2.2.2.1 g.2.2.1 99999 = b5
  generalize decide (0 < g.2.2.2.2.length) = b6
  generalize okKeyed g.2.2.2.2 g.2.1 by_ = b7
  cases b1 <;> cases b2 <;> cases b3 <;> cases b4 <;> cases b5 <;> cases b6 <;> cases b7 <;> simp

theorem spec_GroupOk_ok {g : DGroup} {by_ : List ByteArray} (hs : tot tGroup g ≤ 1048576) (hb : by_.length ≤ 1048576) : F_spec_GroupOk k (g, by_, ()) = some (okGroup g by_, ()) := by
  rw [tot_Group hk] at hs
  have hs2 : tot (.sl tAlarm) g.2.2.2.2 ≤ 1048576 := by omega
  have hl := tot_len (e := tAlarm) (l := g.2.2.2.2)
  simp only [F_spec_GroupOk, joinC]
  rw [show ((by_, g, (0 : Int), ()) : List ByteArray × DGroup × Int × Unit) = (fun i : Nat => (by_, g, (i : Int), ())) 0 from rfl]
  rw [loop_all (fun i : Nat => (by_, g, (i : Int), ())) (fun i => okAlarm (g.2.2.2.2.getD i tAlarm.dflt) && (decide (keyOf (g.2.2.2.2.getD i tAlarm.dflt) by_ = g.2.1) && ordA g.2.2.2.2 i)) g.2.2.2.2.length
    (e := some (decide (0 ≤ g.1) && (okSet g.2.1 && (inB g.2.2.1 0 99999 && ((decide (g.2.2.2.1 = -1) || inB g.2.2.2.1 g.2.2.1 99999) && decide (0 < g.2.2.2.2.length)))), ())) (no := some (false, ())) ?_ ?_ k 0 (by omega)]
  · unfold okGroup okKeyed
    cases allB 0 g.2.2.2.2.length (fun i => okAlarm (g.2.2.2.2.getD i tAlarm.dflt) && (decide (keyOf (g.2.2.2.2.getD i tAlarm.dflt) by_ = g.2.1) && ordA g.2.2.2.2 i)) <;> simp
  · intro G i hi
    simp only [Int.toNat_natCast]
    obtain ⟨hm, hml⟩ := alarm_at hk hs2 hi
    have hkl := keyOf_len hk (g.2.2.2.2.getD i tAlarm.dflt) by_
    rw [lt_nat, decide_eq_true hi, if_pos rfl, if_pos (in_nat hi), spec_AlarmOk_ok hk hm, Option.bind_some, wrapS (by omega), wrapP (by omega)]
    rw [show ((i : Int) - 1).toNat = i - 1 by omega]
    simp only [in_nat hi, Bool.or_true, if_true]
    rw [if_pos (by simp; omega), spec_KeyOf_ok hk hm hb]
    cases okAlarm (g.2.2.2.2.getD i tAlarm.dflt) with
    | false => simp
    | true =>
      simp only [Bool.not_true, beq_self_eq_true, Bool.true_and]
      by_cases h0 : i = 0
      · subst h0
        have hS := spec_SameSet_ok hk (a := keyOf (g.2.2.2.2.getD 0 tAlarm.dflt) by_) (b := g.2.1) (by omega)
        simp [hS, ordA, -List.getD_eq_getElem?_getD]
      · have h0' : (0 : Int) < (i : Int) := by omega
        have h0n : 0 < i := by omega
        obtain ⟨hm1, hml1⟩ := alarm_at hk hs2 (show i - 1 < g.2.2.2.2.length by omega)
        rw [spec_SetLess_ok hk hml1]
        unfold ordA
        cases setLess (g.2.2.2.2.getD (i - 1) tAlarm.dflt).1 (g.2.2.2.2.getD i tAlarm.dflt).1 with
        | false => simp [h0, h0', h0n, -List.getD_eq_getElem?_getD]
        | true =>
          have hS := spec_SameSet_ok hk (a := keyOf (g.2.2.2.2.getD i tAlarm.dflt) by_) (b := g.2.1) (by omega)
          simp [hS, h0, h0', h0n, -List.getD_eq_getElem?_getD]
  · intro G i hi
    simp only
    rw [lt_nat, decide_eq_false (by omega), if_neg (by simp)]
    simp only [spec_in_ok hk, spec_SetOk_ok hk (show tot (.sl tLabel) g.2.1 ≤ 1048576 by omega), ite_some, Option.bind_some]
    have e1 : decide (g.1 ≥ (0 : Int)) = decide (0 ≤ g.1) := rfl
    have e2 : decide ((g.2.2.2.2.length : Int) > (0 : Int)) = decide (0 < g.2.2.2.2.length) := by simp
    have e3 : ((g.2.2.2.1 : Int) == (-1 : Int)) = decide (g.2.2.2.1 = -1) := by rw [Bool.eq_iff_iff]; simp
    rw [e1, e2, e3]
    generalize decide (0 ≤ g.1) = b1
    generalize okSet g.2.1 = b2
    generalize inB g.2.2.1 0 99999 = b3
    generalize decide (g.2.2.2.1 = -1) = b4
    generalize inB g.2.2.2.1 g.2.2.1 99999 = b5
    generalize decide (0 < g.2.2.2.2.length) = b6
    cases b1 <;> cases b2 <;> cases b3 <;> cases b4 <;> cases b5 <;> cases b6 <;> simp

theorem group_at {l : List DGroup} {i : Nat} (hs : tot (.sl tGroup) l ≤ 1048576) (hi : i < l.length) : tot tGroup (l.getD i tGroup.dflt) ≤ 1048576 ∧ (l.getD i tGroup.dflt).2.1.length ≤ 1048576 := by
  have hm : tot tGroup (l.getD i tGroup.dflt) ≤ 1048576 := Nat.le_trans (tot_mem (e := tGroup) (getD_mem hi)) hs
  refine ⟨hm, ?_⟩
  rw [tot_Group hk] at hm
  have := tot_len (e := tLabel) (l := (l.getD i tGroup.dflt).2.1)
  omega

/-- The first place whose key is this. -/
theorem impl_GroupOf_ok {l : List DGroup} {key : List DLabel} (hs : tot (.sl tGroup) l ≤ 1048576) :
    ∃ r : Int, F_impl_GroupOf k (l, key, ()) = some (r, ()) ∧ (∀ i : Nat, i < l.length → (l.getD i tGroup.dflt).2.1 = key → (r = (i : Int) ↔ ∀ j, j < i → (l.getD j tGroup.dflt).2.1 ≠ key)) := by
  have hl := tot_len (e := tGroup) (l := l)
  simp only [F_impl_GroupOf]
  have main : ∀ (m a : Nat), l.length - a < m → (∀ j, j < a → (l.getD j tGroup.dflt).2.1 ≠ key) → ∃ r : Int, loopN m (fun G1 (t2 : List DLabel × List DGroup × Int × Int × Unit) =>
    if (decide ((t2.2.2.2.1 : Int) < t2.2.2.1)) = true then
      if (decide (0 ≤ t2.2.2.2.1 ∧ t2.2.2.2.1 < ((List.length t2.2.1 : Nat) : Int))) = true then
        Option.bind (F_impl_SameSet k (((List.getD t2.2.1 (Int.toNat t2.2.2.2.1) tGroup.dflt).2).1, t2.1, ())) fun (r3 : Bool × Unit) =>
        if r3.1 = true then
          some (t2.2.2.2.1, ())
        else
          G1 (t2.1, t2.2.1, t2.2.2.1, IntKind.i64.wrap (t2.2.2.2.1 + (1 : Int)), ())
      else
        none
    else
      some ((-1 : Int), ())) (key, l, (l.length : Int), (a : Int), ()) = some (r, ()) ∧ (∀ i : Nat, i < l.length → (l.getD i tGroup.dflt).2.1 = key → (r = (i : Int) ↔ ∀ j, j < i → (l.getD j tGroup.dflt).2.1 ≠ key)) := by
    intro m
    induction m with
    | zero => intro a h; omega
    | succ m ih =>
      intro a h hno
      simp only [loopN, Int.toNat_natCast]
      by_cases ha : a < l.length
      · rw [lt_nat, decide_eq_true ha, if_pos rfl, if_pos (in_nat ha), impl_SameSet_ok hk (group_at hk hs ha).2, Option.bind_some]
        by_cases hq : (l.getD a tGroup.dflt).2.1 = key
        · rw [if_pos (by simpa using hq)]
          refine ⟨_, rfl, fun i hi hik => ?_⟩
          constructor
          · intro e j hj
            exact hno j (by omega)
          · intro hall
            rcases Nat.lt_trichotomy a i with h1 | h1 | h1
            · exact absurd hq (hall a h1)
            · rw [h1]
            · exact absurd hik (hno i h1)
        · rw [if_neg (by simpa using hq), wrapS (by omega)]
          refine ih (a + 1) (by omega) (fun j hj => ?_)
          rcases Nat.lt_or_ge j a with h1 | h1
          · exact hno j h1
          · rw [show j = a by omega]; exact hq
      · rw [lt_nat, decide_eq_false ha, if_neg (by simp)]
        refine ⟨-1, rfl, fun i hi hik => ?_⟩
        exact absurd hik (hno i (by omega))
  exact main k 0 (by omega) (fun j hj => by omega)

theorem newKey_iff (l : List DGroup) (i : Nat) : newKey l i = true ↔ ∀ j, j < i → (l.getD j tGroup.dflt).2.1 ≠ (l.getD i tGroup.dflt).2.1 := by
  unfold newKey
  rw [allB_iff]
  simp only [Bool.not_eq_true', decide_eq_false_iff_not]
  exact ⟨fun h j hj => h j (by omega) hj, fun h j _ hj => h j hj⟩

theorem impl_GroupsOk_ok {l : List DGroup} {by_ : List ByteArray} (hs : tot (.sl tGroup) l ≤ 1048576) (hb : by_.length ≤ 1048576) : F_impl_GroupsOk k (l, by_, ()) = some (okGroups l by_, ()) := by
  have hl := tot_len (e := tGroup) (l := l)
  simp only [F_impl_GroupsOk]
  rw [show ((l, by_, l, (l.length : Int), (0 : Int), ()) : List DGroup × List ByteArray × List DGroup × Int × Int × Unit) = (fun i : Nat => (l, by_, l, (l.length : Int), (i : Int), ())) 0 from rfl]
  rw [loop_all (fun i : Nat => (l, by_, l, (l.length : Int), (i : Int), ())) (fun i => decide (i < 12) && (okGroup (l.getD i tGroup.dflt) by_ && (ordG l i && newKey l i))) l.length (e := some (true, ())) (no := some (false, ())) ?_ ?_ k 0 (by omega)]
  · unfold okGroups
    rw [allB_and, allB_lt]
    cases allB 0 l.length (fun i => okGroup (l.getD i tGroup.dflt) by_ && (ordG l i && newKey l i)) <;> by_cases h : l.length ≤ 12 <;> simp [h]
  · intro G i hi
    simp only [Int.toNat_natCast]
    obtain ⟨hm, hml⟩ := group_at hk hs hi
    obtain ⟨r, hr, hri⟩ := impl_GroupOf_ok hk (key := (l.getD i tGroup.dflt).2.1) hs
    have hri := hri i hi rfl
    rw [← newKey_iff hk] at hri
    rw [lt_nat, decide_eq_true hi, if_pos rfl, if_pos (in_nat hi), impl_GroupOk_ok hk hm hb, wrapS (by omega), wrapP (by omega)]
    simp only [ite_some, Option.bind_some]
    rw [show ((i : Int) - 1).toNat = i - 1 by omega, hr, if_pos (by simp; omega)]
    unfold ordG
    by_cases h12 : i < 12
    · have h12' : ¬ (12 : Int) ≤ (i : Int) := by omega
      cases okGroup (l.getD i tGroup.dflt) by_ with
      | false => simp [h12, h12', -List.getD_eq_getElem?_getD]
      | true =>
        by_cases h0 : i = 0
        · subst h0
          cases hn : newKey l 0 with
          | true => rw [hn] at hri; have := hri.2 rfl; simp [this, -List.getD_eq_getElem?_getD]
          | false => rw [hn] at hri; have : ¬ r = 0 := fun e => by have := hri.1 e; cases this
                     simp [this, -List.getD_eq_getElem?_getD]
        · have h0' : (0 : Int) < (i : Int) := by omega
          have h0n : 0 < i := by omega
          by_cases ho : (l.getD (i - 1) tGroup.dflt).1 < (l.getD i tGroup.dflt).1
          · have ho' : ¬ (l.getD i tGroup.dflt).1 ≤ (l.getD (i - 1) tGroup.dflt).1 := by omega
            cases hn : newKey l i with
            | true => rw [hn] at hri; have := hri.2 rfl; simp [this, h12, h12', h0, h0', h0n, ho, ho', -List.getD_eq_getElem?_getD]
            | false => rw [hn] at hri; have : ¬ r = (i : Int) := fun e => by have := hri.1 e; cases this
                       simp [this, h12, h12', h0, h0', h0n, ho, ho', -List.getD_eq_getElem?_getD]
          · have ho' : (l.getD i tGroup.dflt).1 ≤ (l.getD (i - 1) tGroup.dflt).1 := by omega
            simp [h12, h12', h0, h0', h0n, ho, ho', -List.getD_eq_getElem?_getD]
    · have h12' : (12 : Int) ≤ (i : Int) := by omega
      simp [h12, h12', -List.getD_eq_getElem?_getD]
  · intro G i hi
    simp only
    rw [lt_nat, decide_eq_false (by omega), if_neg (by simp)]

theorem spec_GroupsOk_ok {l : List DGroup} {by_ : List ByteArray} (hs : tot (.sl tGroup) l ≤ 1048576) (hb : by_.length ≤ 1048576) : F_spec_GroupsOk k (l, by_, ()) = some (okGroups l by_, ()) := by
  have hl := tot_len (e := tGroup) (l := l)
  simp only [F_spec_GroupsOk, joinC]
  rw [show ((l, by_, (0 : Int), ()) : List DGroup × List ByteArray × Int × Unit) = (fun i : Nat => (l, by_, (i : Int), ())) 0 from rfl]
  rw [loop_all (fun i : Nat => (l, by_, (i : Int), ())) (fun i => okGroup (l.getD i tGroup.dflt) by_ && (ordG l i && newKey l i)) l.length (e := some (decide (l.length ≤ 12), ())) (no := some (false, ())) ?_ ?_ k 0 (by omega)]
  · unfold okGroups
    cases allB 0 l.length (fun i => okGroup (l.getD i tGroup.dflt) by_ && (ordG l i && newKey l i)) <;> simp
  · intro G i hi
    simp only [Int.toNat_natCast]
    obtain ⟨hm, hml⟩ := group_at hk hs hi
    rw [lt_nat, decide_eq_true hi, if_pos rfl, if_pos (in_nat hi), spec_GroupOk_ok hk hm hb, Option.bind_some, wrapP (by omega)]
    rw [show ((i : Int) - 1).toNat = i - 1 by omega, if_pos (by simp; omega)]
    simp only [in_nat hi, Bool.or_true, if_true]
    have inner : loopN k (fun G6 (t7 : List DGroup × List ByteArray × Int × Int × Unit) =>
                  if (decide ((t7.2.2.2.1 : Int) < t7.2.2.1)) = true then
                    if (decide (0 ≤ t7.2.2.2.1 ∧ t7.2.2.2.1 < ((List.length t7.1 : Nat) : Int))) = true then
                      if (decide (0 ≤ t7.2.2.1 ∧ t7.2.2.1 < ((List.length t7.1 : Nat) : Int))) = true then
                        Option.bind (F_spec_SameSet k (((List.getD t7.1 (Int.toNat t7.2.2.2.1) tGroup.dflt).2).1, ((List.getD t7.1 (Int.toNat t7.2.2.1) tGroup.dflt).2).1, ())) fun (r8 : Bool × Unit) =>
                        if r8.1 = true then
                          some (false, ())
                        else
                          G6 (t7.1, t7.2.1, t7.2.2.1, IntKind.i64.wrap (t7.2.2.2.1 + (1 : Int)), ())
                      else
                        none
                    else
                      none
                  else
                    G (t7.1, t7.2.1, IntKind.i64.wrap (t7.2.2.1 + (1 : Int)), ())) (l, by_, (i : Int), (0 : Int), ()) = if newKey l i = true then G (l, by_, ((i + 1 : Nat) : Int), ()) else some (false, ()) := by
      rw [show ((l, by_, (i : Int), (0 : Int), ()) : List DGroup × List ByteArray × Int × Int × Unit) = (fun j : Nat => (l, by_, (i : Int), (j : Int), ())) 0 from rfl]
      rw [loop_all (fun j : Nat => (l, by_, (i : Int), (j : Int), ())) (fun j => !decide ((l.getD j tGroup.dflt).2.1 = (l.getD i tGroup.dflt).2.1)) i (e := G (l, by_, ((i + 1 : Nat) : Int), ())) (no := some (false, ())) ?_ ?_ k 0 (by omega)]
      · rfl
      · intro G' j hj
        simp only [Int.toNat_natCast]
        rw [lt_nat, decide_eq_true hj, if_pos rfl, if_pos (in_nat (by omega)), if_pos (in_nat hi), spec_SameSet_ok hk (group_at hk hs (show j < l.length by omega)).2, Option.bind_some, wrapS (by omega)]
        by_cases hq : (l.getD j tGroup.dflt).2.1 = (l.getD i tGroup.dflt).2.1 <;> simp [hq, -List.getD_eq_getElem?_getD]
      · intro G' j hj
        simp only
        rw [lt_nat, decide_eq_false (by omega), if_neg (by simp), wrapS (by omega)]
    rw [inner]
    unfold ordG
    cases okGroup (l.getD i tGroup.dflt) by_ with
    | false => simp
    | true =>
      by_cases h0 : i = 0
      · subst h0; simp
      · have h0' : (0 : Int) < (i : Int) := by omega
        have h0n : 0 < i := by omega
        by_cases ho : (l.getD (i - 1) tGroup.dflt).1 < (l.getD i tGroup.dflt).1
        · have ho' : ¬ (l.getD i tGroup.dflt).1 ≤ (l.getD (i - 1) tGroup.dflt).1 := by omega
          simp [h0, h0', h0n, ho, ho', -List.getD_eq_getElem?_getD]
        · have ho' : (l.getD i tGroup.dflt).1 ≤ (l.getD (i - 1) tGroup.dflt).1 := by omega
          simp [h0, h0', h0n, ho, ho', -List.getD_eq_getElem?_getD]
  · intro G i hi
    simp only
    rw [lt_nat, decide_eq_false (by omega), if_neg (by simp)]
    congr 2
    rw [Bool.eq_iff_iff]
    simp
    omega

end
end Vg.Try
