/- Plain laws: fingers, chains, parts, stores: what is right. -/
import Derived.Test.YtmoafmclhokdaaaP7
import Derived.Test.YtmoafmclhokdaaaPA
namespace Vg.Try
open Go Vg
set_option linter.unusedVariables false
set_option linter.unusedSectionVars false
set_option linter.unusedSimpArgs false

def fing (k : Nat) (l : List DLabel) : Int := match F_spec_Finger k (l, ()) with | some r => r.1 | none => 0
def partOfI (f n : Int) : Int := if n < 1 then 0 else if f < 0 then 0 else Int.tmod f n
def lblAt (l : List DAlarm) (s : List DLabel) : Option Nat := idxB l.length (fun i => decide ((l.getD i tAlarm.dflt).1 = s))
def apartB (l : List DAlarm) : Bool := allB 0 l.length (fun i => allB 0 i (fun j => !decide ((l.getD j tAlarm.dflt).1 = (l.getD i tAlarm.dflt).1)))
theorem tot_at {e : Ty} {l : List e.den} {i : Nat} {d : e.den} (hi : i < l.length) : tot e (l.getD i d) + l.length ≤ tot (.sl e) l := by
  have h := le_sum (f := tot e) (getD_mem (d := d) hi)
  simp only [tot]
  omega

section
variable {k : Nat} (hk : 9223372036854775808 ≤ k)
include hk

theorem spec_Finger_ok {l : List DLabel} (hs : tot (.sl tLabel) l ≤ 1048576) : F_spec_Finger k (l, ()) = some (fing k l, ()) := by
  obtain ⟨n, h1, h2⟩ := finger_ok hk hs
  unfold fing
  rw [h1]

theorem impl_Finger_ok {l : List DLabel} (hs : tot (.sl tLabel) l ≤ 1048576) : F_impl_Finger k (l, ()) = some (fing k l, ()) := by
  obtain ⟨n, h1, h2⟩ := finger_ok hk hs
  unfold fing
  rw [h1, h2]

theorem spec_PartOf_ok {f n : Int} : F_spec_PartOf k (f, n, ()) = some (partOfI f n, ()) := by
  simp only [F_spec_PartOf, partOfI]
  by_cases h1 : n < 1
  · simp [h1]
  · by_cases h2 : f < 0
    · simp [h1, h2]
    · have h3 : n ≠ 0 := by omega
      simp [h1, h2, h3]

theorem impl_PartOf_ok {f n : Int} : F_impl_PartOf k (f, n, ()) = some (partOfI f n, ()) := by
  rw [partOf_eq hk, spec_PartOf_ok hk]

omit hk in
theorem partOfI_lt {f n : Int} (h : 1 ≤ n) : 0 ≤ partOfI f n ∧ partOfI f n < n := by
  unfold partOfI
  rw [if_neg (by omega)]
  split
  · omega
  · exact ⟨Int.tmod_nonneg _ (by omega), Int.tmod_lt_of_pos _ (by omega)⟩

omit hk in
theorem lblAt_take {l : List DAlarm} {i : Nat} (hi : i < l.length) : (lblAt (l.take i) (l.getD i tAlarm.dflt).1 = none) ↔ allB 0 i (fun j => !decide ((l.getD j tAlarm.dflt).1 = (l.getD i tAlarm.dflt).1)) = true := by
  unfold lblAt
  rw [idxB_none, allB_iff]
  have hl : (l.take i).length = i := by simp; omega
  rw [hl]
  have hg : ∀ j, j < i → (l.take i).getD j tAlarm.dflt = l.getD j tAlarm.dflt := by
    intro j hj
    simp [List.getD_eq_getElem?_getD, List.getElem?_take, hj]
  constructor
  · intro h j _ hj
    have := h j hj
    rw [hg j hj] at this
    simp only [this, Bool.not_false]
  · intro h j hj
    have := h j (by omega) hj
    rw [hg j hj]
    simpa using this

end
end Vg.Try
