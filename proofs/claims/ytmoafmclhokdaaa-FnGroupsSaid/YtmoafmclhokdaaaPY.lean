/- Plain laws: groups and messages that are the same; how many of a row. -/
import Derived.Test.YtmoafmclhokdaaaPX
namespace Vg.Try
open Go Vg
set_option linter.unusedVariables false
set_option linter.unusedSectionVars false
set_option linter.unusedSimpArgs false

/-- how many of the first n -/
def cntB (p : Nat → Bool) : Nat → Nat
  | 0 => 0
  | n + 1 => cntB p n + (if p n = true then 1 else 0)

theorem cntB_le (p : Nat → Bool) : ∀ n, cntB p n ≤ n
  | 0 => Nat.le_refl _
  | n + 1 => by
    have := cntB_le p n
    unfold cntB
    split <;> omega

theorem cntB_pos (p : Nat → Bool) : ∀ n i, i < n → p i = true → 1 ≤ cntB p n
  | 0, i, h, _ => by omega
  | n + 1, i, h, hp => by
    unfold cntB
    by_cases hi : i = n
    · subst hi; rw [if_pos hp]; omega
    · have := cntB_pos p n i (by omega) hp; omega

theorem swept_cnt {now : Int} (l : List DAlarm) : ∀ n, n ≤ l.length → (sweptL now (l.take n)).length + cntB (fun i => decide ((l.getD i tAlarm.dflt).2.2.1 ≤ now)) n = n
  | 0, _ => by simp [sweptL, cntB]
  | n + 1, h => by
    have ih := swept_cnt (now := now) l n (by omega)
    rw [List.take_succ_eq_append_getElem (by omega)]
    unfold sweptL at ih ⊢
    rw [List.filter_append, List.length_append]
    unfold cntB
    have hg : l.getD n tAlarm.dflt = l[n] := by rw [List.getD_eq_getElem?_getD, List.getElem?_eq_getElem (by omega)]; rfl
    rw [hg]
    by_cases hp : (l[n]).2.2.1 ≤ now
    · simp [hp]; simp at ih; omega
    · simp [hp]; simp at ih; omega

section
variable {k : Nat} (hk : 9223372036854775808 ≤ k)
include hk

theorem impl_SameGroup_ok {g h : DGroup} (hg : tot tGroup g ≤ 1048576) : F_impl_SameGroup k (g, h, ()) = some (decide (g = h), ()) := by
  rw [tot_Group hk] at hg
  obtain ⟨a, b, c, d, e⟩ := g
  obtain ⟨a', b', c', d', e'⟩ := h
  dsimp only at hg
  have hb := tot_len (e := tLabel) (l := b)
  simp only [F_impl_SameGroup]
  by_cases h1 : a = a'
  · subst h1
    rw [if_pos (by simp), impl_SameSet_ok hk (by omega), Option.bind_some]
    by_cases h2 : b = b' ∧ c = c' ∧ d = d'
    · obtain ⟨rfl, rfl, rfl⟩ := h2
      rw [if_pos (by simp), impl_sameAlarms_ok hk (by omega), Option.bind_some]
      simp
    · rw [if_neg (by simp; exact fun h3 h4 h5 => h2 ⟨h3, h4, h5⟩), Option.bind_some]
      simp
      exact fun h3 h4 h5 => absurd ⟨h3, h4, h5⟩ h2
  · simp [h1]

theorem impl_SameBatch_ok {g h : DBatch} (hg : tot tBatch g ≤ 1048576) : F_impl_SameBatch k (g, h, ()) = some (decide (g = h), ()) := by
  rw [tot_Batch hk] at hg
  obtain ⟨a, b, c, e⟩ := g
  obtain ⟨a', b', c', e'⟩ := h
  dsimp only at hg
  have hb := tot_len (e := tLabel) (l := b)
  simp only [F_impl_SameBatch]
  by_cases h1 : a = a'
  · subst h1
    rw [if_pos (by simp), impl_SameSet_ok hk (by omega), Option.bind_some]
    by_cases h2 : b = b' ∧ c = c'
    · obtain ⟨rfl, rfl⟩ := h2
      rw [if_pos (by simp), impl_sameAlarms_ok hk (by omega), Option.bind_some]
      simp
    · rw [if_neg (by simp; exact fun h3 h4 => h2 ⟨h3, h4⟩), Option.bind_some]
      simp
      exact fun h3 h4 => absurd ⟨h3, h4⟩ h2
  · simp [h1]

end
end Vg.Try
