/- Plain laws: groups that are copied, found by their number, sent on. -/
import Derived.Test.YtmoafmclhokdaaaPA
import Derived.Test.YtmoafmclhokdaaaVd
namespace Vg.Try
open Go Vg
set_option linter.unusedVariables false
set_option linter.unusedSectionVars false
set_option linter.unusedSimpArgs false

def grpAt (l : List DGroup) (n : Int) : Option Nat := idxB l.length (fun i => decide ((l.getD i tGroup.dflt).1 = n))
def zBatch : DBatch := (0, [], 0, [])
def flushL (l : List DGroup) (n now : Int) : List DGroup :=
  match grpAt l n with
  | none => l
  | some i => if (flushG (l.getD i tGroup.dflt) now).2.2.2.2 = [] then l.take i ++ l.drop (i + 1) else l.set i (flushG (l.getD i tGroup.dflt) now)
def flushLB (l : List DGroup) (n now : Int) : DBatch :=
  match grpAt l n with
  | none => zBatch
  | some i => flushB (l.getD i tGroup.dflt) now
def flushLK (l : List DGroup) (n : Int) : Bool := (grpAt l n).isSome

theorem set_take_drop {α : Type} (l : List α) (i : Nat) (x : α) : (l.set i x).take i ++ (l.set i x).drop (i + 1) = l.take i ++ l.drop (i + 1) := by
  rw [List.take_set_of_le (Nat.le_refl _), List.drop_set_of_lt (by omega)]

section
variable {k : Nat} (hk : 9223372036854775808 ≤ k)
include hk

theorem l12Copy_ok {l : List DGroup} (h : tot (.sl tGroup) l ≤ 1073741824) : F_spec_l12Copy k (l, ()) = some (l, ()) :=
  cpS_id (d := tGroup.dflt) (S := F_spec_l11Copy k) hk (Nat.le_trans (tot_len (e := tGroup)) h) (fun e he => l11Copy_ok hk (Nat.le_trans (tot_mem (e := tGroup) he) h))

theorem copyGroups_ok {l : List DGroup} (h : tot (.sl tGroup) l ≤ 1073741824) : F_impl_copyGroups k (l, ()) = some (l, ()) :=
  cpR_id (d := tGroup.dflt) (S := F_impl_copyGroup k) hk (Nat.le_trans (tot_len (e := tGroup)) h) (fun e he => copyGroup_ok hk (Nat.le_trans (tot_mem (e := tGroup) he) h))

theorem impl_GroupAt_ok {l : List DGroup} {n : Int} (h : l.length ≤ 1073741824) : F_impl_GroupAt k (l, n, ()) = some (posI (grpAt l n), ()) := by
  simp only [F_impl_GroupAt]
  refine (loop_find (fun i : Nat => (n, l, (l.length : Int), (i : Int), ())) (fun i => decide ((l.getD i tGroup.dflt).1 = n)) l.length (e := some (-1, ())) (fun i => some ((i : Int), ())) (fun G i hi => ?_) (fun G => ?_) k (by omega)).trans ?_
  · simp only [lt_nat, in_nat hi, hi, decide_true, if_true, Int.toNat_natCast]
    rw [wrapS (by omega)]
    by_cases hp : (l.getD i tGroup.dflt).1 = n <;> simp [hp]
  · simp
  · unfold grpAt
    cases idxB l.length (fun i => decide ((l.getD i tGroup.dflt).1 = n)) <;> rfl

theorem spec_GroupAt_ok {l : List DGroup} {n : Int} (h : l.length ≤ 1073741824) : F_spec_GroupAt k (l, n, ()) = some (posI (grpAt l n), ()) := by
  simp only [F_spec_GroupAt]
  refine (loop_find (fun i : Nat => (l, n, (i : Int), ())) (fun i => decide ((l.getD i tGroup.dflt).1 = n)) l.length (e := some (-1, ())) (fun i => some ((i : Int), ())) (fun G i hi => ?_) (fun G => ?_) k (by omega)).trans ?_
  · simp only [lt_nat, in_nat hi, hi, decide_true, if_true, Int.toNat_natCast]
    rw [wrapS (by omega)]
    by_cases hp : (l.getD i tGroup.dflt).1 = n <;> simp [hp]
  · simp
  · unfold grpAt
    cases idxB l.length (fun i => decide ((l.getD i tGroup.dflt).1 = n)) <;> rfl

theorem impl_FlushAt_ok {l : List DGroup} {n now : Int} (h : tot (.sl tGroup) l ≤ 1073741824) : F_impl_FlushAt k (l, n, now, ()) = some (flushL l n now, flushLB l n now, flushLK l n, ()) := by
  have hl := tot_len (e := tGroup) (l := l)
  simp only [F_impl_FlushAt]
  rw [copyGroups_ok hk h, Option.bind_some, impl_GroupAt_ok hk (by omega), Option.bind_some]
  unfold flushL flushLB flushLK
  cases hg : grpAt l n with
  | none => rfl
  | some i =>
    obtain ⟨hi, _, _⟩ := idxB_some.1 hg
    have ht := tot_mem (e := tGroup) (getD_mem (d := tGroup.dflt) hi)
    dsimp only
    refine (if_no (decide_eq_false (by simp only [posI]; omega))).trans ?_
    refine (if_pos (by simp [posI]; omega)).trans ?_
    have e0 : (posI (some i)).toNat = i := by simp [posI]
    rw [e0]
    rw [impl_Flush_ok hk (by omega), Option.bind_some]
    refine (if_pos (by simp [posI]; omega)).trans ?_
    by_cases hz : (flushG (l.getD i tGroup.dflt) now).2.2.2.2 = []
    · rw [if_pos (by rw [hz]; rfl)]
      refine (if_pos (by simp [posI]; omega)).trans ?_
      rw [set_take_drop, if_pos hz]
      rfl
    · rw [if_neg (by simpa using hz), if_neg hz]
      rfl

theorem spec_FlushAt_ok {l : List DGroup} {n now : Int} (h : tot (.sl tGroup) l ≤ 1073741824) : F_spec_FlushAt k (l, n, now, ()) = some (flushL l n now, flushLB l n now, flushLK l n, ()) := by
  have hl := tot_len (e := tGroup) (l := l)
  simp only [F_spec_FlushAt]
  rw [l12Copy_ok hk h, Option.bind_some, spec_GroupAt_ok hk (by omega), Option.bind_some]
  unfold flushL flushLB flushLK
  cases hg : grpAt l n with
  | none => rfl
  | some i =>
    obtain ⟨hi, _, _⟩ := idxB_some.1 hg
    have ht := tot_mem (e := tGroup) (getD_mem (d := tGroup.dflt) hi)
    have h1 := tot_take (e := tGroup) l i
    have h2 := tot_take (e := tGroup) l (i + 1)
    dsimp only
    refine (if_no (decide_eq_false (by simp only [posI]; omega))).trans ?_
    refine (if_pos (by simp [posI]; omega)).trans ?_
    have e0 : (posI (some i)).toNat = i := by simp [posI]
    have e1 : IntKind.i64.wrap (posI (some i) + 1) = ((i + 1 : Nat) : Int) := wrapS (by omega)
    rw [e0]
    rw [spec_Flush_ok hk (by omega), Option.bind_some]
    refine (if_pos (by simp [posI]; omega)).trans ?_
    by_cases hz : (flushG (l.getD i tGroup.dflt) now).2.2.2.2 = []
    · rw [if_pos (by rw [hz]; rfl), if_pos hz]
      refine (if_pos (by simp [posI]; omega)).trans ?_
      rw [l12Copy_ok hk (by omega), Option.bind_some, e1]
      refine (if_pos (by simp; omega)).trans ?_
      rw [Int.toNat_natCast, l12Copy_ok hk (by omega), Option.bind_some, if_pos (by simp; omega)]
      rfl
    · rw [if_neg (by simpa using hz), if_neg hz]
      rfl

theorem flushL_tot {l : List DGroup} {n now : Int} : tot (.sl tGroup) (flushL l n now) ≤ tot (.sl tGroup) l := by
  unfold flushL
  cases hg : grpAt l n with
  | none => exact Nat.le_refl _
  | some i =>
    obtain ⟨hi, _, _⟩ := idxB_some.1 hg
    simp only
    split
    · have h1 := tot_take (e := tGroup) l i
      have h2 := tot_take (e := tGroup) (l.drop i) 1
      rw [List.drop_drop] at h2
      rw [tot_app]
      omega
    · have h1 := tot_set (e := tGroup) l i (flushG (l.getD i tGroup.dflt) now) hi
      have h2 := flushG_tot hk (g := l.getD i tGroup.dflt) (now := now)
      omega

theorem flushLB_tot {l : List DGroup} {n now : Int} : tot tBatch (flushLB l n now) ≤ tot (.sl tGroup) l := by
  unfold flushLB
  cases hg : grpAt l n with
  | none => simp [zBatch, tot]
  | some i =>
    obtain ⟨hi, _, _⟩ := idxB_some.1 hg
    have ht := tot_mem (e := tGroup) (getD_mem (d := tGroup.dflt) hi)
    have h2 := flushB_tot hk (g := l.getD i tGroup.dflt) (now := now)
    simp only
    omega

end
end Vg.Try
