/- Plain laws: who joins a group; groups and messages that are the same; what is due next. -/
import Derived.Test.YtmoafmclhokdaaaP5
import Derived.Test.YtmoafmclhokdaaaPC
import Derived.Test.YtmoafmclhokdaaaPI
namespace Vg.Try
open Go Vg
set_option linter.unusedVariables false
set_option linter.unusedSectionVars false
set_option linter.unusedSimpArgs false

def labIx (l : List DAlarm) (s : List DLabel) : Option Nat := idxB l.length (fun i => decide ((l.getD i tAlarm.dflt).1 = s))
def insIx (l : List DAlarm) (s : List DLabel) : Nat := (idxB l.length (fun i => setLess s (l.getD i tAlarm.dflt).1)).getD l.length
def joinL (l : List DAlarm) (a : DAlarm) : List DAlarm :=
  match labIx l a.1 with
  | some i => l.set i a
  | none => l.take (insIx l a.1) ++ [a] ++ l.drop (insIx l a.1)
def joinG (g : DGroup) (a : DAlarm) : DGroup := (g.1, g.2.1, g.2.2.1, g.2.2.2.1, joinL g.2.2.2.2 a)

theorem insIx_le (l : List DAlarm) (s : List DLabel) : insIx l s ≤ l.length := by
  unfold insIx
  cases h : idxB l.length (fun i => setLess s (l.getD i tAlarm.dflt).1) with
  | none => exact Nat.le_refl _
  | some i => exact Nat.le_of_lt (idxB_some.1 h).1

theorem insIx_split {α : Type} (l : List DAlarm) (s : List DLabel) (f : Nat → α) : (match idxB l.length (fun i => setLess s (l.getD i tAlarm.dflt).1) with | some i => f i | none => f l.length) = f (insIx l s) := by
  unfold insIx
  cases idxB l.length (fun i => setLess s (l.getD i tAlarm.dflt).1) <;> rfl

section
variable {k : Nat} (hk : 9223372036854775808 ≤ k)
include hk

theorem set_eq_le {a b : List DLabel} (hb : b.length ≤ 1048576) (ha : a.length ≤ 1048576) : F_spec_SameSet k (a, b, ()) = some (decide (a = b), ()) := spec_SameSet_ok hk ha

theorem l4All_take {l : List DAlarm} {i : Nat} (h : tot (.sl tAlarm) l ≤ 1073741824) : F_spec_l4All k (l.take i, ()) = some (l.take i, ()) :=
  l4All_ok hk (by have := tot_take (e := tAlarm) l i; omega)
theorem l4All_drop {l : List DAlarm} {i : Nat} (h : tot (.sl tAlarm) l ≤ 1073741824) : F_spec_l4All k (l.drop i, ()) = some (l.drop i, ()) :=
  l4All_ok hk (by have := tot_take (e := tAlarm) l i; omega)
theorem copyAlarms_take {l : List DAlarm} {i : Nat} (h : tot (.sl tAlarm) l ≤ 1073741824) : F_impl_copyAlarms k (l.take i, ()) = some (l.take i, ()) :=
  copyAlarms_ok hk (by have := tot_take (e := tAlarm) l i; omega)
theorem copyAlarms_drop {l : List DAlarm} {i : Nat} (h : tot (.sl tAlarm) l ≤ 1073741824) : F_impl_copyAlarms k (l.drop i, ()) = some (l.drop i, ()) :=
  copyAlarms_ok hk (by have := tot_take (e := tAlarm) l i; omega)

theorem spec_JoinIn_ok {g : DGroup} {a : DAlarm} (hg : tot tGroup g ≤ 1048576) (ha : tot tAlarm a ≤ 1048576) : F_spec_JoinIn k (g, a, ()) = some (joinG g a, ()) := by
  have h1 := tot_Group hk g
  have h2 := tot_len (e := tAlarm) (l := g.2.2.2.2)
  have h3 := tot_Alarm hk a
  have h4 := tot_len (e := tLabel) (l := a.1)
  simp only [F_spec_JoinIn, joinC]
  rw [l11Copy_ok hk (by omega), Option.bind_some, l4Copy_ok hk (by omega), Option.bind_some]
  refine (loop_find (fun i : Nat => (g, a, (0, ([] : List DLabel), 0, 0, ([] : List DAlarm)), g, a, (i : Int), ())) (fun i => decide ((g.2.2.2.2.getD i tAlarm.dflt).1 = a.1)) g.2.2.2.2.length
    (e := some ((g.1, g.2.1, g.2.2.1, g.2.2.2.1, g.2.2.2.2.take (insIx g.2.2.2.2 a.1) ++ [a] ++ g.2.2.2.2.drop (insIx g.2.2.2.2 a.1)), ())) (fun i => some ((g.1, g.2.1, g.2.2.1, g.2.2.2.1, g.2.2.2.2.set i a), ())) (fun G i hi => ?_) (fun G => ?_) k (by omega)).trans ?_
  · simp only [lt_nat, in_nat hi, hi, decide_true, if_true, Int.toNat_natCast]
    rw [wrapS (by omega), spec_SameSet_ok hk (alarm_at hk (by omega) hi).2, Option.bind_some]
  · simp only [lt_nat, Nat.lt_irrefl, decide_false, Bool.false_eq_true, if_false]
    refine (loop_find (fun i : Nat => (g, a, (0, ([] : List DLabel), 0, 0, ([] : List DAlarm)), g, a, (i : Int), ())) (fun i => setLess a.1 (g.2.2.2.2.getD i tAlarm.dflt).1) g.2.2.2.2.length
      (e := some ((g.1, g.2.1, g.2.2.1, g.2.2.2.1, g.2.2.2.2.take g.2.2.2.2.length ++ [a] ++ g.2.2.2.2.drop g.2.2.2.2.length), ())) (fun i => some ((g.1, g.2.1, g.2.2.1, g.2.2.2.1, g.2.2.2.2.take i ++ [a] ++ g.2.2.2.2.drop i), ())) (fun G i hi => ?_) (fun G => ?_) k (by omega)).trans ?_
    · simp only [lt_nat, in_nat hi, hi, decide_true, if_true, Int.toNat_natCast, Bool.or_true]
      rw [if_pos (by simp), spec_SetLess_ok hk (by omega), Option.bind_some]
      cases hq : setLess a.1 (g.2.2.2.2.getD i tAlarm.dflt).1
      · simp only [Bool.not_false, if_true, Bool.false_eq_true, if_false]
        rw [wrapS (by omega)]
      · simp only [Bool.not_true, if_true, Bool.false_eq_true, if_false]
        rw [if_pos (by simp; omega), l4All_take hk (by omega), Option.bind_some, if_pos (by simp; omega), if_pos (by simp; omega), l4All_drop hk (by omega), Option.bind_some, if_pos (by simp; omega)]
    · simp only [lt_nat, Nat.lt_irrefl, decide_false, Bool.false_eq_true, if_false, Int.toNat_natCast]
      rw [if_pos (by simp)]
      simp only [beq_iff_eq, Bool.false_eq_true, if_false, Option.bind_some]
      rw [if_pos (by simp), l4All_take hk (by omega), Option.bind_some, if_pos (by simp; omega), if_pos (by simp), l4All_drop hk (by omega), Option.bind_some, if_pos (by simp; omega)]
    · exact insIx_split g.2.2.2.2 a.1 (fun i => some ((g.1, g.2.1, g.2.2.1, g.2.2.2.1, g.2.2.2.2.take i ++ [a] ++ g.2.2.2.2.drop i), ()))
  · unfold joinG joinL labIx
    cases idxB g.2.2.2.2.length (fun i => decide ((g.2.2.2.2.getD i tAlarm.dflt).1 = a.1)) <;> rfl

theorem impl_labelsAt_ok {l : List DAlarm} {s : List DLabel} (h : tot (.sl tAlarm) l ≤ 1048576) : F_impl_labelsAt k (l, s, ()) = some (posI (labIx l s), ()) := by
  have h2 := tot_len (e := tAlarm) (l := l)
  simp only [F_impl_labelsAt]
  refine (loop_find (fun i : Nat => (s, l, (l.length : Int), (i : Int), ())) (fun i => decide ((l.getD i tAlarm.dflt).1 = s)) l.length (e := some (-1, ())) (fun i => some ((i : Int), ())) (fun G i hi => ?_) (fun G => ?_) k (by omega)).trans ?_
  · simp only [lt_nat, in_nat hi, hi, decide_true, if_true, Int.toNat_natCast]
    rw [wrapS (by omega), impl_SameSet_ok hk (alarm_at hk h hi).2, Option.bind_some]
  · simp
  · unfold labIx
    cases idxB l.length (fun i => decide ((l.getD i tAlarm.dflt).1 = s)) <;> rfl

theorem impl_inserted_ok {l : List DAlarm} {a : DAlarm} (h : tot (.sl tAlarm) l ≤ 1048576) (ha : tot tAlarm a ≤ 1048576) : F_impl_inserted k (l, a, ()) = some (l.take (insIx l a.1) ++ [a] ++ l.drop (insIx l a.1), ()) := by
  have h2 := tot_len (e := tAlarm) (l := l)
  have h3 := tot_Alarm hk a
  have h4 := tot_len (e := tLabel) (l := a.1)
  simp only [F_impl_inserted, joinC]
  refine (loop_find (fun i : Nat => (l, a, (i : Int), ())) (fun i => setLess a.1 (l.getD i tAlarm.dflt).1) l.length
      (e := some (l.take l.length ++ [a] ++ l.drop l.length, ())) (fun i => some (l.take i ++ [a] ++ l.drop i, ())) (fun G i hi => ?_) (fun G => ?_) k (by omega)).trans ?_
  · simp only [lt_nat, in_nat hi, hi, decide_true, if_true, Int.toNat_natCast, Bool.or_true]
    rw [if_pos (by simp), impl_SetLess_ok hk (by omega), Option.bind_some]
    cases hq : setLess a.1 (l.getD i tAlarm.dflt).1
    · simp only [Bool.not_false, if_true, Bool.false_eq_true, if_false]
      rw [wrapS (by omega)]
    · simp only [Bool.not_true, if_true, Bool.false_eq_true, if_false]
      rw [if_pos (by simp; omega), copyAlarms_take hk (by omega), Option.bind_some, copyAlarm_ok hk (by omega), Option.bind_some, if_pos (by simp; omega), if_pos (by simp; omega), copyAlarms_drop hk (by omega), Option.bind_some, if_pos (by simp; omega)]
  · simp only [lt_nat, Nat.lt_irrefl, decide_false, Bool.false_eq_true, if_false, Int.toNat_natCast]
    rw [if_pos (by simp)]
    simp only [beq_iff_eq, Bool.false_eq_true, if_false, Option.bind_some]
    rw [if_pos (by simp), copyAlarms_take hk (by omega), Option.bind_some, copyAlarm_ok hk (by omega), Option.bind_some, if_pos (by simp; omega), if_pos (by simp), copyAlarms_drop hk (by omega), Option.bind_some, if_pos (by simp; omega)]
  · exact insIx_split l a.1 (fun i => some (l.take i ++ [a] ++ l.drop i, ()))

theorem impl_JoinIn_ok {g : DGroup} {a : DAlarm} (hg : tot tGroup g ≤ 1048576) (ha : tot tAlarm a ≤ 1048576) : F_impl_JoinIn k (g, a, ()) = some (joinG g a, ()) := by
  have h1 := tot_Group hk g
  simp only [F_impl_JoinIn]
  rw [copyGroup_ok hk (by omega), Option.bind_some]
  unfold joinG joinL
  cases h : labIx g.2.2.2.2 a.1 with
  | none =>
    have e : F_impl_labelsAt k (g.2.2.2.2, a.1, ()) = some (-1, ()) := by rw [impl_labelsAt_ok hk (by omega), h]; rfl
    rw [e, Option.bind_some, if_neg (by decide), impl_inserted_ok hk (by omega) ha, Option.bind_some]
  | some i =>
    have hi := (idxB_some.1 h).1
    have e : F_impl_labelsAt k (g.2.2.2.2, a.1, ()) = some ((i : Int), ()) := by rw [impl_labelsAt_ok hk (by omega), h]; rfl
    rw [e, Option.bind_some, if_pos (by simp), copyAlarm_ok hk (by omega), Option.bind_some, if_pos (by simp; omega)]
    simp only [Int.toNat_natCast]

theorem joinL_tot {l : List DAlarm} {a : DAlarm} : tot (.sl tAlarm) (joinL l a) ≤ tot (.sl tAlarm) l + tot tAlarm a + 1 := by
  unfold joinL
  cases h : labIx l a.1 with
  | none =>
    dsimp only
    rw [tot_app (e := tAlarm), tot_app (e := tAlarm), tot_cons (e := tAlarm), tot_nil]
    have := tot_take (e := tAlarm) l (insIx l a.1)
    omega
  | some i =>
    have hi := (idxB_some.1 h).1
    have := tot_set (e := tAlarm) l i a hi
    dsimp only
    omega

theorem joinG_tot {g : DGroup} {a : DAlarm} : tot tGroup (joinG g a) ≤ tot tGroup g + tot tAlarm a + 1 := by
  have h1 := tot_Group hk g
  have h2 := tot_Group hk (joinG g a)
  have h3 := joinL_tot hk (l := g.2.2.2.2) (a := a)
  unfold joinG at h2 ⊢
  dsimp only at h2
  omega

theorem joinL_len {l : List DAlarm} {a : DAlarm} : (joinL l a).length ≤ l.length + 1 := by
  unfold joinL
  cases h : labIx l a.1 with
  | none =>
    have := insIx_le l a.1
    simp
    omega
  | some i => simp

theorem joinL_has {l : List DAlarm} {a : DAlarm} : ∃ i, i < (joinL l a).length ∧ (joinL l a).getD i tAlarm.dflt = a := by
  unfold joinL
  cases h : labIx l a.1 with
  | none =>
    have := insIx_le l a.1
    refine ⟨insIx l a.1, by simp; omega, ?_⟩
    simp [List.getD_eq_getElem?_getD, List.getElem?_append, Nat.min_eq_left this]
  | some i =>
    have hi := (idxB_some.1 h).1
    refine ⟨i, by simpa using hi, ?_⟩
    simp [List.getD_eq_getElem?_getD, hi]

theorem spec_Together_ok {a b : DAlarm} {by_ : List ByteArray} (ha : tot tAlarm a ≤ 1048576) (hb : tot tAlarm b ≤ 1048576) (hy : by_.length ≤ 1048576) : F_spec_Together k (a, b, by_, ()) = some (decide (keyOf a by_ = keyOf b by_), ()) := by
  have h1 := keyOf_len hk a by_
  have h2 := tot_Alarm hk a
  have h3 := tot_len (e := tLabel) (l := a.1)
  simp only [F_spec_Together]
  rw [spec_KeyOf_ok hk ha hy, Option.bind_some, spec_KeyOf_ok hk hb hy, Option.bind_some, spec_SameSet_ok hk (by dsimp only; omega), Option.bind_some]

end
end Vg.Try
