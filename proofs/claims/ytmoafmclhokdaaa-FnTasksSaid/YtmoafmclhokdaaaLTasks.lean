/- The law FnTasks. -/
import Derived.Test.YtmoafmclhokdaaaPS
import Derived.Test.YtmoafmclhokdaaaD1
namespace Vg.Try
open Go Vg
set_option linter.unusedVariables false
set_option linter.unusedSectionVars false
set_option linter.unusedSimpArgs false

theorem holds_wantsGr {t : DTask} (h : holdsGr t = true) : wantsGr t = false := by
  unfold holdsGr at h
  unfold wantsGr
  simp only [Bool.and_eq_true, decide_eq_true_eq] at h
  rw [h.2]
  simp

theorem holds_wantsP {k : Nat} {t : DTask} {n : Int} (h : holdsPart k t n ≠ -1) : wantsP k t n = -1 := by
  unfold holdsPart at h
  unfold wantsP
  by_cases h1 : n < 1
  · rw [if_pos h1] at h; exact absurd rfl h
  · by_cases h2 : t.2.1 = 0
    · simp [h1, h2] at h
    · simp [h1, h2]

theorem holds_n {k : Nat} {t : DTask} {n : Int} (h : holdsPart k t n ≠ -1) : n ≥ 1 := by
  unfold holdsPart at h
  by_cases h1 : n < 1
  · rw [if_pos h1] at h; exact absurd rfl h
  · omega

section
variable {k : Nat} (hk : 9223372036854775808 ≤ k)
include hk

theorem law0_Tasks (x : List Int) : F_laws_FnTasks k (x, ()) = some (true, ()) := by
  simp only [F_laws_FnTasks]
  have hbig : F_laws_big k (x, ()) = some (decide ((x.length : Int) > 1048576), ()) := rfl
  rw [hbig, Option.bind_some]
  by_cases hx : (x.length : Int) > 1048576
  · rw [if_pos (by simpa using hx)]
  rw [if_neg (by simpa using hx)]
  have hx : x.length ≤ 1048576 := by omega
  obtain ⟨⟨t, n, u⟩, e1, h1⟩ := DrawTaskOk_dr hk hx
  obtain ⟨⟨a, an, u⟩, e2, h2⟩ := DrawHoldsPart_dr hk hx
  obtain ⟨⟨b, bn, u⟩, e3, h3⟩ := DrawWantsPart_dr hk hx
  obtain ⟨⟨g, u⟩, e4, h4⟩ := DrawHoldsGroups_dr hk hx
  obtain ⟨⟨w, u⟩, e5, h5⟩ := DrawWantsGroups_dr hk hx
  dsimp only at h1 h2 h3 h4 h5
  rw [e1, Option.bind_some, e2, Option.bind_some, e3, Option.bind_some, e4, Option.bind_some, e5, Option.bind_some, impl_HoldsPart_ok hk (by dsimp only; omega), Option.bind_some,
    impl_TaskOk_ok hk (by dsimp only; omega), Option.bind_some, spec_TaskOk_ok hk (by dsimp only; omega), Option.bind_some]
  simp only [beq_self_eq_true, if_true]
  rw [spec_HoldsPart_ok hk (by omega), Option.bind_some]
  simp only [beq_self_eq_true, if_true]
  rw [impl_WantsP_ok hk (by omega), Option.bind_some, spec_WantsP_ok hk (by omega), Option.bind_some]
  simp only [beq_self_eq_true, if_true]
  rw [impl_HoldsGroups_ok hk, Option.bind_some, spec_HoldsGroups_ok hk, Option.bind_some]
  simp only [beq_self_eq_true, if_true]
  rw [impl_WantsGr_ok hk, Option.bind_some, spec_WantsGr_ok hk, Option.bind_some]
  simp only [beq_self_eq_true, if_true, Option.bind_some]
  by_cases hh : holdsPart k a an = -1
  · cases hg : holdsGr g with
    | true =>
      have := holds_wantsGr hg
      simp [hh, impl_WantsGr_ok hk, this]
    | false => simp [hh]
  · have hw := holds_wantsP hh
    have hn := holds_n hh
    cases hg : holdsGr g with
    | true =>
      have := holds_wantsGr hg
      simp [hh, impl_WantsGr_ok hk, this, impl_WantsP_ok hk (t := a) (n := an) (by omega), hw, hn]
    | false => simp [hh, impl_WantsP_ok hk (t := a) (n := an) (by omega), hw, hn]

theorem law_Tasks {x : List Int × Unit} (hx : Fits (.sl (.int .u8)) x.1) : F_laws_FnTasks k x = some (true, ()) := law0_Tasks hk x.1

end
end Vg.Try
