/- Plain laws: who joins a group; groups and messages that are the same; what is due next. -/
import Derived.Test.YtmoafmclhokdaaaP5
import Derived.Test.YtmoafmclhokdaaaPC
import Derived.Test.YtmoafmclhokdaaaPI
namespace Vg.Try
open Go Vg
set_option linter.unusedVariables false
set_option linter.unusedSectionVars false
set_option linter.unusedSimpArgs false

def labIx (l : List DAlarm) (s : List DLabel) : Option Nat := idxB l.length (fun i => decide ((l.getD i tAlarm.dflt).1 = s))
def insIx (l : List DAlarm) (s : List DLabel) : Nat := (idxB l.length (fun i => setLess s (l.getD i tAlarm.dflt).1)).getD l.length
def joinL (l : List DAlarm) (a : DAlarm) : List DAlarm :=
  match labIx l a.1 with
  | some i => l.set i a
  | none => l.take (insIx l a.1) ++ [a] ++ l.drop (insIx l a.1)
theorem insIx_le (l : List DAlarm) (s : List DLabel) : insIx l s ≤ l.length := by
  unfold insIx
  cases h : idxB l.length (fun i => setLess s (l.getD i tAlarm.dflt).1) with
  | none => exact Nat.le_refl _
  | some i => exact Nat.le_of_lt (idxB_some.1 h).1

theorem insIx_split {α : Type} (l : List DAlarm) (s : List DLabel) (f : Nat → α) : (match idxB l.length (fun i => setLess s (l.getD i tAlarm.dflt).1) with | some i => f i | none => f l.length) = f (insIx l s) := by
  unfold insIx
  cases idxB l.length (fun i => setLess s (l.getD i tAlarm.dflt).1) <;> rfl

section
variable {k : Nat} (hk : 9223372036854775808 ≤ k)
include hk

theorem set_eq_le {a b : List DLabel} (hb : b.length ≤ 1048576) (ha : a.length ≤ 1048576) : F_spec_SameSet k (a, b, ()) = some (decide (a = b), ()) := spec_SameSet_ok hk ha

theorem joinL_tot {l : List DAlarm} {a : DAlarm} : tot (.sl tAlarm) (joinL l a) ≤ tot (.sl tAlarm) l + tot tAlarm a + 1 := by
  unfold joinL
  cases h : labIx l a.1 with
  | none =>
    dsimp only
    rw [tot_app (e := tAlarm), tot_app (e := tAlarm), tot_cons (e := tAlarm), tot_nil]
    have := tot_take (e := tAlarm) l (insIx l a.1)
    omega
  | some i =>
    have hi := (idxB_some.1 h).1
    have := tot_set (e := tAlarm) l i a hi
    dsimp only
    omega

theorem joinL_len {l : List DAlarm} {a : DAlarm} : (joinL l a).length ≤ l.length + 1 := by
  unfold joinL
  cases h : labIx l a.1 with
  | none =>
    have := insIx_le l a.1
    simp
    omega
  | some i => simp

theorem joinL_has {l : List DAlarm} {a : DAlarm} : ∃ i, i < (joinL l a).length ∧ (joinL l a).getD i tAlarm.dflt = a := by
  unfold joinL
  cases h : labIx l a.1 with
  | none =>
    have := insIx_le l a.1
    refine ⟨insIx l a.1, by simp; omega, ?_⟩
    simp [List.getD_eq_getElem?_getD, List.getElem?_append, Nat.min_eq_left this]
  | some i =>
    have hi := (idxB_some.1 h).1
    refine ⟨i, by simpa using hi, ?_⟩
    simp [List.getD_eq_getElem?_getD, hi]

end
end Vg.Try
