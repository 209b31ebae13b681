/- Plain laws: which locks are held; which groups are timed. -/
import Derived.Test.YtmoafmclhokdaaaPL
namespace Vg.Try
open Go Vg
set_option linter.unusedVariables false
set_option linter.unusedSectionVars false
set_option linter.unusedSimpArgs false

/-- The last before j for whom h holds; -1 for none. -/
def whoF (h : Nat → Bool) : Nat → Int
  | 0 => -1
  | j + 1 => if h j = true then (j : Int) else whoF h j

theorem whoF_none {h : Nat → Bool} : ∀ {j : Nat}, (∀ a, a < j → h a = false) → whoF h j = -1
  | 0, _ => rfl
  | j + 1, H => by
    unfold whoF
    rw [H j (by omega), if_neg (by simp)]
    exact whoF_none (fun a ha => H a (by omega))

theorem whoF_some {h : Nat → Bool} : ∀ {j : Nat}, whoF h j ≠ -1 → ∃ a, a < j ∧ h a = true ∧ whoF h j = (a : Int)
  | 0, H => absurd rfl H
  | j + 1, H => by
    unfold whoF at H ⊢
    by_cases hj : h j = true
    · rw [if_pos hj]; exact ⟨j, by omega, hj, rfl⟩
    · rw [if_neg hj] at H ⊢
      obtain ⟨a, h1, h2, h3⟩ := whoF_some H
      exact ⟨a, by omega, h2, h3⟩

theorem whoF_one {h : Nat → Bool} {m : Nat} (hp : ∀ j, j < m → h j = true → whoF h j = -1) {a : Nat} (ha : a < m) (h2 : h a = true) : whoF h m = (a : Int) := by
  have hm : whoF h m ≠ -1 := by
    intro e
    have : ∀ {j : Nat}, (∀ b, b < j → h b = true → False) ∨ whoF h j ≠ -1 := by
      intro j
      induction j with
      | zero => exact Or.inl (fun b hb _ => by omega)
      | succ j ih =>
        unfold whoF
        by_cases hj : h j = true
        · rw [if_pos hj]; right; omega
        · rw [if_neg hj]
          rcases ih with ih | ih
          · left
            intro b hb hbt
            by_cases hbj : b = j
            · subst hbj; exact hj hbt
            · exact ih b (by omega) hbt
          · exact Or.inr ih
    rcases @this m with H | H
    · exact H a ha h2
    · exact H e
  obtain ⟨b, h3, h4, h5⟩ := whoF_some hm
  rw [h5]
  by_cases hab : a = b
  · rw [hab]
  · exfalso
    have key : ∀ x y : Nat, x < y → y < m → h x = true → h y = true → False := by
      intro x y hxy hy hx hyt
      have e := hp y hy hyt
      have : ∀ {j : Nat}, x < j → whoF h j ≠ -1 := by
        intro j
        induction j with
        | zero => intro q; omega
        | succ j ih =>
          intro q
          unfold whoF
          by_cases hj : h j = true
          · rw [if_pos hj]; omega
          · rw [if_neg hj]
            by_cases hxj : x = j
            · subst hxj; exact absurd hx hj
            · exact ih (by omega)
      exact this hxy e
    rcases Nat.lt_or_ge a b with q | q
    · exact key a b q h3 h2 h4
    · exact key b a (by omega) ha h4 h2

section
variable {k : Nat} (hk : 9223372036854775808 ≤ k)
include hk

end
end Vg.Try
