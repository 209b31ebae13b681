/- Plain laws: fingers, chains, parts, stores: what is right. -/
import Derived.Test.YtmoafmclhokdaaaP7
import Derived.Test.YtmoafmclhokdaaaPA
namespace Vg.Try
open Go Vg
set_option linter.unusedVariables false
set_option linter.unusedSectionVars false
set_option linter.unusedSimpArgs false

def partOfI (f n : Int) : Int := if n < 1 then 0 else if f < 0 then 0 else Int.tmod f n
def lblAt (l : List DAlarm) (s : List DLabel) : Option Nat := idxB l.length (fun i => decide ((l.getD i tAlarm.dflt).1 = s))
def apartB (l : List DAlarm) : Bool := allB 0 l.length (fun i => allB 0 i (fun j => !decide ((l.getD j tAlarm.dflt).1 = (l.getD i tAlarm.dflt).1)))
theorem tot_at {e : Ty} {l : List e.den} {i : Nat} {d : e.den} (hi : i < l.length) : tot e (l.getD i d) + l.length ≤ tot (.sl e) l := by
  have h := le_sum (f := tot e) (getD_mem (d := d) hi)
  simp only [tot]
  omega

section
variable {k : Nat} (hk : 9223372036854775808 ≤ k)
include hk

omit hk in
theorem partOfI_lt {f n : Int} (h : 1 ≤ n) : 0 ≤ partOfI f n ∧ partOfI f n < n := by
  unfold partOfI
  rw [if_neg (by omega)]
  split
  · omega
  · exact ⟨Int.tmod_nonneg _ (by omega), Int.tmod_lt_of_pos _ (by omega)⟩

theorem labelsAt_ok {l : List DAlarm} {s : List DLabel} (hs : tot (.sl tAlarm) l ≤ 1048576) : F_impl_labelsAt k (l, s, ()) = some (posI (lblAt l s), ()) := by
  have hl := tot_len (e := tAlarm) (l := l)
  simp only [F_impl_labelsAt]
  refine (loop_find (fun i : Nat => (s, l, (l.length : Int), (i : Int), ())) (fun i => decide ((l.getD i tAlarm.dflt).1 = s)) l.length (e := some (-1, ())) (fun i => some ((i : Int), ())) (fun G i hi => ?_) (fun G => ?_) k (by omega)).trans ?_
  · obtain ⟨h1, h2⟩ := alarm_at hk hs hi
    simp only [lt_nat, in_nat hi, hi, decide_true, if_true, Int.toNat_natCast, impl_SameSet_ok hk h2, Option.bind_some]
    rw [wrapS (by omega)]
  · simp
  · unfold lblAt
    cases idxB l.length (fun i => decide ((l.getD i tAlarm.dflt).1 = s)) <;> rfl

omit hk in
theorem lblAt_take {l : List DAlarm} {i : Nat} (hi : i < l.length) : (lblAt (l.take i) (l.getD i tAlarm.dflt).1 = none) ↔ allB 0 i (fun j => !decide ((l.getD j tAlarm.dflt).1 = (l.getD i tAlarm.dflt).1)) = true := by
  unfold lblAt
  rw [idxB_none, allB_iff]
  have hl : (l.take i).length = i := by simp; omega
  rw [hl]
  have hg : ∀ j, j < i → (l.take i).getD j tAlarm.dflt = l.getD j tAlarm.dflt := by
    intro j hj
    simp [List.getD_eq_getElem?_getD, List.getElem?_take, hj]
  constructor
  · intro h j _ hj
    have := h j hj
    rw [hg j hj] at this
    simp only [this, Bool.not_false]
  · intro h j hj
    have := h j (by omega) hj
    rw [hg j hj]
    simpa using this

end
end Vg.Try
