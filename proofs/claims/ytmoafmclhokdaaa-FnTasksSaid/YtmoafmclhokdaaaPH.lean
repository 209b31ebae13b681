/- Plain laws: all alarms, how many; what is found; heaps; when a group is due. -/
import Derived.Test.YtmoafmclhokdaaaPG
namespace Vg.Try
open Go Vg
set_option linter.unusedVariables false
set_option linter.unusedSectionVars false
set_option linter.unusedSimpArgs false

theorem if_noB {β : Type} {c : Bool} {a b : β} (h : c = false) : (if c = true then a else b) = b := by rw [h]; rfl

theorem wrapA {a b : Nat} (h : a + b < 4611686018427387904) : IntKind.i64.wrap ((a : Int) + (b : Int)) = ((a + b : Nat) : Int) := by
  rw [wrap64 (by omega) (by omega)]; omega

theorem ge0_dec (u : Int) : decide (0 ≤ u) = !decide (u < 0) := by by_cases h : u < 0 <;> simp [h] <;> omega

theorem half_wrap {q : Nat} (h : q < 4611686018427387904) : IntKind.i64.wrap (Int.tdiv (IntKind.i64.wrap (((q + 1 : Nat) : Int) - 1)) 2) = ((q / 2 : Nat) : Int) := by
  rw [wrapQ h, Int.tdiv_eq_ediv_of_nonneg (by omega), wrap64 (by omega) (by omega)]
  omega

section
variable {k : Nat} (hk : 9223372036854775808 ≤ k)
include hk

omit hk in
theorem posI_none : decide (posI none < 0) = true := rfl
omit hk in
theorem posI_some (i : Nat) : decide (posI (some i) < 0) = false := decide_eq_false (by simp only [posI]; omega)
omit hk in
theorem posI_in {i n : Nat} (h : i < n) : decide (0 ≤ posI (some i) ∧ posI (some i) < (n : Int)) = true := by simp only [posI]; exact in_nat h
omit hk in
theorem posI_nat (i : Nat) : (posI (some i)).toNat = i := by simp [posI]

end
end Vg.Try
