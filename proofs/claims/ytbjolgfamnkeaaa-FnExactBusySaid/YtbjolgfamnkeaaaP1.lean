/- Plain laws: who is about something; whose time has come. -/
import Derived.Test.YtbjolgfamnkeaaaQ1
namespace Vg.Try
open Go Vg
set_option linter.unusedVariables false
set_option linter.unusedSectionVars false

section
variable {k : Nat} (hk : 9223372036854775808 ≤ k)
include hk

theorem ripe_ok (w : DWorld) : ∃ r, F_spec_Ripe k (w, ()) = some r ∧ F_impl_Ripe k (w, ()) = some r := by
  simp only [F_spec_Ripe, F_impl_Ripe]
  rw [if_pos (by simp)]
  exact ⟨_, rfl, rfl⟩

theorem law_Ripe {x : DWorld × Unit} (hx : Fits tWorld x.1) : F_laws_FnExactRipe k x = some (true, ()) := by
  obtain ⟨a, u⟩ := x
  simp only at hx
  simp only [F_laws_FnExactRipe]
  rw [szWorld_ok hk hx (by omega) (by omega), Option.bind_some]
  split
  · rfl
  · rename_i h1
    have h1 := szv_some (by simpa using h1)
    rw [toWorld_ok hk (x := a) (by omega)]
    obtain ⟨r, e1, e2⟩ := ripe_ok hk a
    simp only [Option.bind_some]
    rw [e1, e2, eqWorld_ok hk (by omega)]
    simp

theorem idle_ok (w : DWorld) (n : Int) (hw : tot tWorld w ≤ 1048576) : ∃ r, F_spec_Idle k (w, n, ()) = some r ∧ F_impl_Idle k (w, n, ()) = some r := by
  rw [tot_World hk] at hw
  have hl := tot_len (e := tTask) (l := w.2.2.2.2.2.2.2.2.2.2.2.2.1)
  simp only [F_spec_Idle, F_impl_Idle, F_spec_l1In, F_impl_in, Option.bind_some]
  rw [wrap64 (n := (w.2.2.2.2.2.2.2.2.2.2.2.2.1.length : Int) - 1) (by omega) (by omega)]
  rw [if_pos (by simp; omega)]
  exact ⟨_, rfl, rfl⟩

theorem law_Idle {x : DWorld × Int × Unit} (hx : Fits tWorld x.1) : F_laws_FnExactIdle k x = some (true, ()) := by
  obtain ⟨a, n, u⟩ := x
  simp only at hx
  simp only [F_laws_FnExactIdle]
  rw [szWorld_ok hk hx (by omega) (by omega), Option.bind_some]
  split
  · rfl
  · rename_i h1
    have h1 := szv_some (by simpa using h1)
    rw [toWorld_ok hk (x := a) (by omega)]
    obtain ⟨r, e1, e2⟩ := idle_ok hk a n (by omega)
    simp only [Option.bind_some]
    rw [e1, e2, eqWorld_ok hk (by omega)]
    simp

theorem busy_ok (w : DWorld) (hw : tot tWorld w ≤ 1048576) : ∃ r, F_spec_Busy k (w, ()) = some r ∧ F_impl_Busy k (w, ()) = some r := by
  rw [tot_World hk] at hw
  have hl := tot_len (e := tTask) (l := w.2.2.2.2.2.2.2.2.2.2.2.2.1)
  have h1 : ∃ r, F_spec_Busy k (w, ()) = some r ∧ True := by
    simp only [F_spec_Busy]
    refine loopN_tot (fun (s : DWorld × Int × Int × Unit) => w.2.2.2.2.2.2.2.2.2.2.2.2.1.length - s.2.2.1.toNat) (fun (s : DWorld × Int × Int × Unit) => s.1 = w ∧ 0 ≤ s.2.2.1 ∧ s.2.2.1 ≤ (w.2.2.2.2.2.2.2.2.2.2.2.2.1.length : Int)) _ ?_ k _ ⟨rfl, by simp, by simp⟩ (by simp only; omega)
    rintro G ⟨w', n, i, u⟩ ⟨e, hi0, hi1⟩ hG
    change w' = w at e
    subst e
    simp only at hi0 hi1 hG ⊢
    by_cases hi : i < (w'.2.2.2.2.2.2.2.2.2.2.2.2.1.length : Int)
    · rw [if_pos (by simpa using hi), if_pos (by simpa using ⟨hi0, hi⟩), wrap64 (n := i + 1) (by omega) (by omega)]
      split
      · exact hG (w', _, i + 1, ()) ⟨rfl, by simp only; omega, by simp only; omega⟩ (by simp only; omega)
      · exact hG (w', _, i + 1, ()) ⟨rfl, by simp only; omega, by simp only; omega⟩ (by simp only; omega)
    · rw [if_neg (by simpa using hi)]
      exact ⟨_, rfl, trivial⟩
  have h2 : F_spec_Busy k (w, ()) = F_impl_Busy k (w, ()) := by
    simp only [F_spec_Busy, F_impl_Busy]
    refine loop_sim (fun (s : DWorld × Int × Int × Unit) (s' : DWorld × Int × List DTask × Int × Int × Unit) => s.1 = w ∧ s'.2.2.1 = w.2.2.2.2.2.2.2.2.2.2.2.2.1 ∧ s'.2.2.2.1 = (w.2.2.2.2.2.2.2.2.2.2.2.2.1.length : Int) ∧ s.2.1 = s'.2.1 ∧ s.2.2.1 = s'.2.2.2.2.1) (fun a b => a = b) rfl ?_ k _ _ ⟨rfl, rfl, rfl, rfl, rfl⟩
    rintro G G' ⟨w1, n, i, u⟩ ⟨w2, n2, l2, m2, i2, u2⟩ ⟨e1, e2, e3, e4, e5⟩ hG
    simp only at e1 e2 e3 e4 e5
    subst e1 e2 e3 e4 e5
    simp only
    split
    · split
      · split
        · exact hG _ _ ⟨rfl, rfl, rfl, rfl, rfl⟩
        · exact hG _ _ ⟨rfl, rfl, rfl, rfl, rfl⟩
      · rfl
    · rfl
  obtain ⟨r, hr, _⟩ := h1
  exact ⟨r, hr, h2 ▸ hr⟩

theorem law_Busy {x : DWorld × Unit} (hx : Fits tWorld x.1) : F_laws_FnExactBusy k x = some (true, ()) := by
  obtain ⟨a, u⟩ := x
  simp only at hx
  simp only [F_laws_FnExactBusy]
  rw [szWorld_ok hk hx (by omega) (by omega), Option.bind_some]
  split
  · rfl
  · rename_i h1
    have h1 := szv_some (by simpa using h1)
    rw [toWorld_ok hk (x := a) (by omega)]
    obtain ⟨r, e1, e2⟩ := busy_ok hk a (by omega)
    simp only [Option.bind_some]
    rw [e1, e2, eqWorld_ok hk (by omega)]
    simp

end
end Vg.Try
