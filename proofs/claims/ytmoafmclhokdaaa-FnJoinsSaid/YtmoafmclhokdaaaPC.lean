/- Plain laws: groups that are copied, found by their number, sent on. -/
import Derived.Test.YtmoafmclhokdaaaPA
import Derived.Test.YtmoafmclhokdaaaVd
namespace Vg.Try
open Go Vg
set_option linter.unusedVariables false
set_option linter.unusedSectionVars false
set_option linter.unusedSimpArgs false

def grpAt (l : List DGroup) (n : Int) : Option Nat := idxB l.length (fun i => decide ((l.getD i tGroup.dflt).1 = n))
def zBatch : DBatch := (0, [], 0, [])
def flushL (l : List DGroup) (n now : Int) : List DGroup :=
  match grpAt l n with
  | none => l
  | some i => if (flushG (l.getD i tGroup.dflt) now).2.2.2.2 = [] then l.take i ++ l.drop (i + 1) else l.set i (flushG (l.getD i tGroup.dflt) now)
def flushLB (l : List DGroup) (n now : Int) : DBatch :=
  match grpAt l n with
  | none => zBatch
  | some i => flushB (l.getD i tGroup.dflt) now
def flushLK (l : List DGroup) (n : Int) : Bool := (grpAt l n).isSome

theorem set_take_drop {α : Type} (l : List α) (i : Nat) (x : α) : (l.set i x).take i ++ (l.set i x).drop (i + 1) = l.take i ++ l.drop (i + 1) := by
  rw [List.take_set_of_le (Nat.le_refl _), List.drop_set_of_lt (by omega)]

section
variable {k : Nat} (hk : 9223372036854775808 ≤ k)
include hk

theorem flushL_tot {l : List DGroup} {n now : Int} : tot (.sl tGroup) (flushL l n now) ≤ tot (.sl tGroup) l := by
  unfold flushL
  cases hg : grpAt l n with
  | none => exact Nat.le_refl _
  | some i =>
    obtain ⟨hi, _, _⟩ := idxB_some.1 hg
    simp only
    split
    · have h1 := tot_take (e := tGroup) l i
      have h2 := tot_take (e := tGroup) (l.drop i) 1
      rw [List.drop_drop] at h2
      rw [tot_app]
      omega
    · have h1 := tot_set (e := tGroup) l i (flushG (l.getD i tGroup.dflt) now) hi
      have h2 := flushG_tot hk (g := l.getD i tGroup.dflt) (now := now)
      omega

theorem flushLB_tot {l : List DGroup} {n now : Int} : tot tBatch (flushLB l n now) ≤ tot (.sl tGroup) l := by
  unfold flushLB
  cases hg : grpAt l n with
  | none => simp [zBatch, tot]
  | some i =>
    obtain ⟨hi, _, _⟩ := idxB_some.1 hg
    have ht := tot_mem (e := tGroup) (getD_mem (d := tGroup.dflt) hi)
    have h2 := flushB_tot hk (g := l.getD i tGroup.dflt) (now := now)
    simp only
    omega

end
end Vg.Try
