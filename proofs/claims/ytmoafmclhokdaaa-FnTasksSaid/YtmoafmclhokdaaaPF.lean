/- Plain laws: parts, stores, heaps: what is right, what is found, what is in them. -/
import Derived.Test.YtmoafmclhokdaaaPE
namespace Vg.Try
open Go Vg
set_option linter.unusedVariables false
set_option linter.unusedSectionVars false
set_option linter.unusedSimpArgs false

theorem wrapQ {j : Nat} (h : j < 4611686018427387904) : IntKind.i64.wrap (((j + 1 : Nat) : Int) - 1) = (j : Int) := by
  rw [wrap64 (by omega) (by omega)]; omega
theorem gtS (j : Nat) : decide ((((j + 1 : Nat) : Int)) > 0) = true := by simp
theorem gtZ : decide ((((0 : Nat) : Int)) > 0) = false := by simp

def zAlarm : DAlarm := ([], 0, 0, ByteArray.empty)
theorem flatMap_take {α β : Type} {f : α → List β} {l : List α} {i : Nat} (d : α) (h : i < l.length) : (l.take (i + 1)).flatMap f = (l.take i).flatMap f ++ f (l.getD i d) := by
  rw [take_getD d h, List.flatMap_append]; simp

section
variable {k : Nat} (hk : 9223372036854775808 ≤ k)
include hk

theorem tot_flat {e f : Ty} {g : e.den → List f.den} (h : ∀ x, tot (.sl f) (g x) ≤ tot e x) : ∀ l : List e.den, tot (.sl f) (l.flatMap g) ≤ tot (.sl e) l
  | [] => by simp [tot]
  | x :: l => by
    have h1 := h x
    have h2 := tot_flat h l
    rw [List.flatMap_cons, tot_app, tot_cons]
    omega

end
end Vg.Try
