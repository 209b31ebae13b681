/- Plain laws: fingers, chains, parts, stores: what is right. -/
import Derived.Test.YtlpeoedbginanaaGreatP7
import Derived.Test.YtlpeoedbginanaaGreatPA
namespace Vg.Tryz
open Go Vg
set_option linter.unusedVariables false
set_option linter.unusedSectionVars false
set_option linter.unusedSimpArgs false

def fing (k : Nat) (l : List DLabel) : Int := match F_spec_Finger k (l, ()) with | some r => r.1 | none => 0
def partOfI (f n : Int) : Int := if n < 1 then 0 else if f < 0 then 0 else Int.tmod f n
def lblAt (l : List DAlarm) (s : List DLabel) : Option Nat := idxB l.length (fun i => decide ((l.getD i tAlarm.dflt).1 = s))
def apartB (l : List DAlarm) : Bool := allB 0 l.length (fun i => allB 0 i (fun j => !decide ((l.getD j tAlarm.dflt).1 = (l.getD i tAlarm.dflt).1)))
def okChain (k : Nat) (c : DChain) : Bool := allB 0 c.2.length (fun i => okAlarm (c.2.getD i tAlarm.dflt) && decide (fing k (c.2.getD i tAlarm.dflt).1 = c.1)) && (decide (0 < c.2.length) && apartB c.2)
def ordC (l : List DChain) (i : Nat) : Bool := i == 0 || decide ((l.getD (i - 1) tChain.dflt).1 < (l.getD i tChain.dflt).1)
def okPart (k : Nat) (p : DPart) (i n : Int) : Bool :=
  allB 0 p.2.2.length (fun j => okChain k (p.2.2.getD j tChain.dflt) && (decide (partOfI (p.2.2.getD j tChain.dflt).1 n = i) && ordC p.2.2 j)) && (inB p.1 (-1) 4 && decide (0 ≤ p.2.1))
def okStore (k : Nat) (l : List DPart) : Bool := allB 0 l.length (fun i => okPart k (l.getD i tPart.dflt) i l.length) && inB l.length 1 3

theorem tot_at {e : Ty} {l : List e.den} {i : Nat} {d : e.den} (hi : i < l.length) : tot e (l.getD i d) + l.length ≤ tot (.sl e) l := by
  have h := le_sum (f := tot e) (getD_mem (d := d) hi)
  simp only [tot]
  omega

section
variable {k : Nat} (hk : 9223372036854775808 ≤ k)
include hk

theorem spec_Finger_ok {l : List DLabel} (hs : tot (.sl tLabel) l ≤ 1048576) : F_spec_Finger k (l, ()) = some (fing k l, ()) := by
  obtain ⟨n, h1, h2⟩ := finger_ok hk hs
  unfold fing
  rw [h1]

theorem impl_Finger_ok {l : List DLabel} (hs : tot (.sl tLabel) l ≤ 1048576) : F_impl_Finger k (l, ()) = some (fing k l, ()) := by
  obtain ⟨n, h1, h2⟩ := finger_ok hk hs
  unfold fing
  rw [h1, h2]

theorem spec_PartOf_ok {f n : Int} : F_spec_PartOf k (f, n, ()) = some (partOfI f n, ()) := by
  simp only [F_spec_PartOf, partOfI]
  by_cases h1 : n < 1
  · simp [h1]
  · by_cases h2 : f < 0
    · simp [h1, h2]
    · have h3 : n ≠ 0 := by omega
      simp [h1, h2, h3]

theorem impl_PartOf_ok {f n : Int} : F_impl_PartOf k (f, n, ()) = some (partOfI f n, ()) := by
  rw [partOf_eq hk, spec_PartOf_ok hk]

omit hk in
theorem partOfI_lt {f n : Int} (h : 1 ≤ n) : 0 ≤ partOfI f n ∧ partOfI f n < n := by
  unfold partOfI
  rw [if_neg (by omega)]
  split
  · omega
  · exact ⟨Int.tmod_nonneg _ (by omega), Int.tmod_lt_of_pos _ (by omega)⟩

theorem labelsAt_ok {l : List DAlarm} {s : List DLabel} (hs : tot (.sl tAlarm) l ≤ 1048576) : F_impl_labelsAt k (l, s, ()) = some (posI (lblAt l s), ()) := by
  have hl := tot_len (e := tAlarm) (l := l)
  simp only [F_impl_labelsAt]
  refine (loop_find (fun i : Nat => (s, l, (l.length : Int), (i : Int), ())) (fun i => decide ((l.getD i tAlarm.dflt).1 = s)) l.length (e := some (-1, ())) (fun i => some ((i : Int), ())) (fun G i hi => ?_) (fun G => ?_) k (by omega)).trans ?_
  · obtain ⟨h1, h2⟩ := alarm_at hk hs hi
    simp only [lt_nat, in_nat hi, hi, decide_true, if_true, Int.toNat_natCast, impl_SameSet_ok hk h2, Option.bind_some]
    rw [wrapS (by omega)]
  · simp
  · unfold lblAt
    cases idxB l.length (fun i => decide ((l.getD i tAlarm.dflt).1 = s)) <;> rfl

theorem spec_InChain_ok {c : DChain} {s : List DLabel} (hs : tot (.sl tAlarm) c.2 ≤ 1048576) : F_spec_InChain k (c, s, ()) = some (posI (lblAt c.2 s), ()) := by
  have hl := tot_len (e := tAlarm) (l := c.2)
  simp only [F_spec_InChain]
  refine (loop_find (fun i : Nat => (s, c, (i : Int), ())) (fun i => decide ((c.2.getD i tAlarm.dflt).1 = s)) c.2.length (e := some (-1, ())) (fun i => some ((i : Int), ())) (fun G i hi => ?_) (fun G => ?_) k (by omega)).trans ?_
  · obtain ⟨h1, h2⟩ := alarm_at hk hs hi
    simp only [lt_nat, in_nat hi, hi, decide_true, if_true, Int.toNat_natCast, spec_SameSet_ok hk h2, Option.bind_some]
    rw [wrapS (by omega)]
  · simp
  · unfold lblAt
    cases idxB c.2.length (fun i => decide ((c.2.getD i tAlarm.dflt).1 = s)) <;> rfl

theorem impl_InChain_ok {c : DChain} {s : List DLabel} (hs : tot (.sl tAlarm) c.2 ≤ 1048576) : F_impl_InChain k (c, s, ()) = some (posI (lblAt c.2 s), ()) := by
  simp only [F_impl_InChain]
  rw [labelsAt_ok hk hs, Option.bind_some]

omit hk in
theorem lblAt_take {l : List DAlarm} {i : Nat} (hi : i < l.length) : (lblAt (l.take i) (l.getD i tAlarm.dflt).1 = none) ↔ allB 0 i (fun j => !decide ((l.getD j tAlarm.dflt).1 = (l.getD i tAlarm.dflt).1)) = true := by
  unfold lblAt
  rw [idxB_none, allB_iff]
  have hl : (l.take i).length = i := by simp; omega
  rw [hl]
  have hg : ∀ j, j < i → (l.take i).getD j tAlarm.dflt = l.getD j tAlarm.dflt := by
    intro j hj
    simp [List.getD_eq_getElem?_getD, List.getElem?_take, hj]
  constructor
  · intro h j _ hj
    have := h j hj
    rw [hg j hj] at this
    simp only [this, Bool.not_false]
  · intro h j hj
    have := h j (by omega) hj
    rw [hg j hj]
    simpa using this

theorem labelsApart_ok {l : List DAlarm} (hs : tot (.sl tAlarm) l ≤ 1048576) : F_impl_labelsApart k (l, ()) = some (apartB l, ()) := by
  have hl := tot_len (e := tAlarm) (l := l)
  simp only [F_impl_labelsApart]
  refine (loop_all (fun i : Nat => (l, l, (l.length : Int), (i : Int), ())) (fun i => allB 0 i (fun j => !decide ((l.getD j tAlarm.dflt).1 = (l.getD i tAlarm.dflt).1))) l.length (e := some (true, ())) (no := some (false, ())) ?_ ?_ k 0 (by omega)).trans ?_
  · intro G i hi
    have ht := tot_take (e := tAlarm) l i
    simp only [lt_nat, in_nat hi, hi, decide_true, if_true, Int.toNat_natCast]
    rw [if_pos (by simp; omega), labelsAt_ok hk (by omega), Option.bind_some, wrapS (by omega)]
    have key := lblAt_take hi
    cases hp : allB 0 i (fun j => !decide ((l.getD j tAlarm.dflt).1 = (l.getD i tAlarm.dflt).1)) with
    | true =>
      rw [key.2 hp]
      rfl
    | false =>
      cases hq : lblAt (l.take i) (l.getD i tAlarm.dflt).1 with
      | none => rw [key.1 hq] at hp; cases hp
      | some j => rw [if_pos (by simp [posI]), if_neg (by simp)]
  · intro G i hi
    simp only [lt_nat]
    rw [if_neg (by simp; omega)]
  · unfold apartB
    split <;> simp_all

theorem impl_ChainOk_ok {c : DChain} (hs : tot tChain c ≤ 1048576) : F_impl_ChainOk k (c, ()) = some (okChain k c, ()) := by
  rw [tot_Chain hk] at hs
  have hl := tot_len (e := tAlarm) (l := c.2)
  simp only [F_impl_ChainOk, joinC]
  refine (loop_all (fun i : Nat => (c, c.2, (c.2.length : Int), (i : Int), ())) (fun i => okAlarm (c.2.getD i tAlarm.dflt) && decide (fing k (c.2.getD i tAlarm.dflt).1 = c.1)) c.2.length
    (e := some (decide (0 < c.2.length) && apartB c.2, ())) (no := some (false, ())) ?_ ?_ k 0 (by omega)).trans ?_
  · intro G i hi
    obtain ⟨h1, h2⟩ := alarm_at hk hs hi
    have h3 := tot_Alarm hk (c.2.getD i tAlarm.dflt)
    simp only [lt_nat, in_nat hi, hi, decide_true, if_true, Int.toNat_natCast, impl_AlarmOk_ok hk h1, impl_Finger_ok hk (l := (c.2.getD i tAlarm.dflt).1) (by omega), Option.bind_some, ite_some]
    rw [wrapS (by omega)]
    generalize okAlarm (c.2.getD i tAlarm.dflt) = b1
    generalize fing k (c.2.getD i tAlarm.dflt).1 = f
    cases b1 <;> by_cases hf : f = c.1 <;> simp [hf]
  · intro G i hi
    simp only [lt_nat]
    rw [if_neg (by simp; omega), labelsApart_ok hk hs]
    by_cases h0 : 0 < c.2.length <;> simp [h0]
  · unfold okChain
    cases allB 0 c.2.length (fun i => okAlarm (c.2.getD i tAlarm.dflt) && decide (fing k (c.2.getD i tAlarm.dflt).1 = c.1)) <;> simp

theorem spec_ChainOk_ok {c : DChain} (hs : tot tChain c ≤ 1048576) : F_spec_ChainOk k (c, ()) = some (okChain k c, ()) := by
  rw [tot_Chain hk] at hs
  have hl := tot_len (e := tAlarm) (l := c.2)
  simp only [F_spec_ChainOk, joinC]
  refine (loop_all (fun i : Nat => (c, (i : Int), ())) (fun i => (okAlarm (c.2.getD i tAlarm.dflt) && decide (fing k (c.2.getD i tAlarm.dflt).1 = c.1)) && allB 0 i (fun j => !decide ((c.2.getD j tAlarm.dflt).1 = (c.2.getD i tAlarm.dflt).1))) c.2.length
    (e := some (decide (0 < c.2.length), ())) (no := some (false, ())) ?_ ?_ k 0 (by omega)).trans ?_
  · intro G i hi
    obtain ⟨h1, h2⟩ := alarm_at hk hs hi
    have h3 := tot_Alarm hk (c.2.getD i tAlarm.dflt)
    simp only [lt_nat, in_nat hi, hi, decide_true, if_true, Int.toNat_natCast, spec_AlarmOk_ok hk h1, spec_Finger_ok hk (l := (c.2.getD i tAlarm.dflt).1) (by omega), Option.bind_some, ite_some, Bool.or_true]
    have hin : loopN k (fun G7 (t8 : DChain × Int × Int × Unit) =>
        if (decide ((t8.2.2.1 : Int) < t8.2.1)) = true then
          if (decide (0 ≤ t8.2.2.1 ∧ t8.2.2.1 < ((List.length t8.1.2 : Nat) : Int))) = true then
            if (decide (0 ≤ t8.2.1 ∧ t8.2.1 < ((List.length t8.1.2 : Nat) : Int))) = true then
              Option.bind (F_spec_SameSet k ((List.getD t8.1.2 (Int.toNat t8.2.2.1) tAlarm.dflt).1, (List.getD t8.1.2 (Int.toNat t8.2.1) tAlarm.dflt).1, ())) fun (r9 : Bool × Unit) =>
              if r9.1 = true then
                some (false, ())
              else
                G7 (t8.1, t8.2.1, IntKind.i64.wrap (t8.2.2.1 + (1 : Int)), ())
            else
              none
          else
            none
        else
          G (t8.1, IntKind.i64.wrap (t8.2.1 + (1 : Int)), ())) (c, (i : Int), (0 : Int), ()) =
        if allB 0 i (fun j => !decide ((c.2.getD j tAlarm.dflt).1 = (c.2.getD i tAlarm.dflt).1)) = true then G (c, ((i + 1 : Nat) : Int), ()) else some (false, ()) := by
      refine loop_all (fun j : Nat => (c, (i : Int), (j : Int), ())) (fun j => !decide ((c.2.getD j tAlarm.dflt).1 = (c.2.getD i tAlarm.dflt).1)) i ?_ ?_ k 0 (by omega)
      · intro G2 j hj
        obtain ⟨h4, h5⟩ := alarm_at hk hs (i := j) (by omega)
        simp only [lt_nat, in_nat hi, in_nat (show j < c.2.length by omega), hi, hj, decide_true, if_true, Int.toNat_natCast, spec_SameSet_ok hk h5, Option.bind_some]
        rw [wrapS (by omega)]
        by_cases hq : (c.2.getD j tAlarm.dflt).1 = (c.2.getD i tAlarm.dflt).1 <;> simp only [hq, decide_true, decide_false, Bool.not_true, Bool.not_false, if_true, Bool.false_eq_true, if_false]
      · intro G2 j hj
        simp only [lt_nat]
        rw [if_neg (by simp; omega), wrapS (by omega)]
    rw [hin]
    generalize okAlarm (c.2.getD i tAlarm.dflt) = b1
    generalize fing k (c.2.getD i tAlarm.dflt).1 = f
    generalize allB 0 i (fun j => !decide ((c.2.getD j tAlarm.dflt).1 = (c.2.getD i tAlarm.dflt).1)) = b3
    cases b1 <;> cases b3 <;> by_cases hf : f = c.1 <;> simp [hf]
  · intro G i hi
    simp only [lt_nat]
    rw [if_neg (by simp; omega)]
    congr 2
    simp
  · rw [allB_and]
    unfold okChain apartB
    cases allB 0 c.2.length (fun i => okAlarm (c.2.getD i tAlarm.dflt) && decide (fing k (c.2.getD i tAlarm.dflt).1 = c.1)) <;>
      cases allB 0 c.2.length (fun i => allB 0 i (fun j => !decide ((c.2.getD j tAlarm.dflt).1 = (c.2.getD i tAlarm.dflt).1))) <;> simp

end
end Vg.Tryz
