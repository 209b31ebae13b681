/- Plain laws: what a task waits for. -/
import Derived.Test.YtlpeoedbginanaaGreatPR
import Derived.Test.YtlpeoedbginanaaGreatF2
namespace Vg.Tryz
open Go Vg
set_option linter.unusedVariables false
set_option linter.unusedSectionVars false
set_option linter.unusedSimpArgs false

def wantsP (k : Nat) (t : DTask) (n : Int) : Int :=
  if n < 1 then -1
  else if ¬ t.2.1 = 0 then -1
  else if t.1 = 1 then partOfI (fing k t.2.2.1.1) n
  else if t.1 = 2 then partOfI (fing k t.2.2.2.1) n
  else if t.1 = 3 ∨ t.1 = 4 then t.2.2.2.2.1
  else -1
def wantsGr (t : DTask) : Bool := (decide (t.1 = 5) || decide (t.1 = 6)) && decide (t.2.1 = 0)
def waitsF (k : Nat) (w : DWorld) (n : Int) : Int :=
  if (okWorld k w && inB n 0 4) = true then
    (if 0 ≤ wantsP k (w.2.2.2.2.2.2.2.2.2.2.2.2.1.getD n.toNat tTask.dflt) w.2.2.2.1.length then (w.2.2.2.1.getD (wantsP k (w.2.2.2.2.2.2.2.2.2.2.2.2.1.getD n.toNat tTask.dflt) w.2.2.2.1.length).toNat tPart.dflt).1
     else if wantsGr (w.2.2.2.2.2.2.2.2.2.2.2.2.1.getD n.toNat tTask.dflt) = true then w.2.2.2.2.2.2.1 else -1)
  else -1

theorem okWorld_parts {k : Nat} {w : DWorld} (h : okWorld k w = true) : okStore k w.2.2.2.1 = true ∧ (w.2.2.2.1.length : Int) = w.1.1 ∧ w.2.2.2.2.2.2.2.2.2.2.2.2.1.length = 5 ∧ okTasks k w = true := by
  unfold okWorld okStoreW at h
  simp only [Bool.and_eq_true, decide_eq_true_eq] at h
  obtain ⟨_, _, _, _, ⟨h1, h2, _⟩, _, h3, _, _, _, _, h4, _⟩ := h
  exact ⟨h1, h2, by omega, h4⟩

theorem wants_lt {k : Nat} {w : DWorld} (h : okWorld k w = true) {j : Nat} (hj : j < 5) : wantsP k (w.2.2.2.2.2.2.2.2.2.2.2.2.1.getD j tTask.dflt) w.2.2.2.1.length < w.2.2.2.1.length := by
  obtain ⟨h1, h2, h3, h4⟩ := okWorld_parts h
  obtain ⟨⟨hl, _⟩, _⟩ := okStore_held h1
  unfold okTasks at h4
  have hr := allB_iff.1 h4 j (by omega) (by omega)
  unfold wantsP
  generalize w.2.2.2.2.2.2.2.2.2.2.2.2.1.getD j tTask.dflt = t at *
  have hp1 := fun f : Int => partOfI_lt (f := f) (n := (w.2.2.2.1.length : Int)) (by omega)
  split
  · omega
  split
  · omega
  split
  · exact (hp1 _).2
  split
  · exact (hp1 _).2
  split
  · rename_i hc
    unfold rightTask fitsDeed at hr
    rw [h2]
    grind
  · omega

section
variable {k : Nat} (hk : 9223372036854775808 ≤ k)
include hk

theorem spec_WantsP_ok {t : DTask} {n : Int} (hs : tot tTask t ≤ 1048576) : F_spec_WantsPart k (t, n, ()) = some (wantsP k t n, ()) := by
  obtain ⟨t1, t2, t3, t4, t5⟩ := task_parts hk hs
  simp only [F_spec_WantsPart, spec_Finger_ok hk t5, spec_Finger_ok hk t2, spec_PartOf_ok hk, Option.bind_some, beq_dec, bne_dec]
  unfold wantsP
  by_cases hn : n < 1
  · simp [hn]
  · by_cases p1 : t.2.1 = 0
    · by_cases h1 : t.1 = 1
      · simp [hn, p1, h1]
      · by_cases h2 : t.1 = 2
        · simp [hn, p1, h1, h2]
        · by_cases h3 : t.1 = 3
          · simp [hn, p1, h1, h2, h3]
          · by_cases h4 : t.1 = 4 <;> simp [hn, p1, h1, h2, h3, h4]
    · simp [hn, p1]

theorem impl_WantsP_ok {t : DTask} {n : Int} (hs : tot tTask t ≤ 1048576) : F_impl_WantsPart k (t, n, ()) = some (wantsP k t n, ()) := by
  obtain ⟨t1, t2, t3, t4, t5⟩ := task_parts hk hs
  simp only [F_impl_WantsPart, F_impl_partAt, impl_Finger_ok hk t5, impl_Finger_ok hk t2, impl_PartOf_ok hk, Option.bind_some, beq_dec, bne_dec]
  unfold wantsP
  by_cases hn : n < 1
  · simp [hn]
  · by_cases p1 : t.2.1 = 0
    · by_cases h1 : t.1 = 1
      · simp [hn, p1, h1]
      · by_cases h2 : t.1 = 2
        · simp [hn, p1, h1, h2]
        · by_cases h3 : t.1 = 3
          · simp [hn, p1, h1, h2, h3]
          · by_cases h4 : t.1 = 4 <;> simp [hn, p1, h1, h2, h3, h4]
    · simp [hn, p1]

theorem spec_WantsGr_ok {t : DTask} : F_spec_WantsGroups k (t, ()) = some (wantsGr t, ()) := by
  simp only [F_spec_WantsGroups, wantsGr, beq_dec]
  by_cases h1 : t.1 = 5 <;> by_cases h2 : t.1 = 6 <;> simp [h1, h2]

theorem impl_WantsGr_ok {t : DTask} : F_impl_WantsGroups k (t, ()) = some (wantsGr t, ()) := by
  simp only [F_impl_WantsGroups, wantsGr, beq_dec]
  by_cases h1 : t.1 = 5 <;> by_cases h2 : t.1 = 6 <;> simp [h1, h2]

theorem spec_WaitsFor_ok {w : DWorld} {n : Int} (hs : tot tWorld w ≤ 1048576) : F_spec_WaitsFor k (w, n, ()) = some (waitsF k w n, ()) := by
  obtain ⟨w1, w2, w3, w4, w5, w6, w7, w8, w9⟩ := world_parts hk hs
  simp only [F_spec_WaitsFor, spec_WorldOk_ok hk hs, spec_in_ok hk, Option.bind_some]
  unfold waitsF
  by_cases hw : okWorld k w = true
  rotate_left
  · simp [hw]
  by_cases hn : inB n 0 4 = true
  rotate_left
  · simp [hw, hn]
  obtain ⟨_, _, h3, _⟩ := okWorld_parts hw
  have hn2 : 0 ≤ n ∧ n ≤ 4 := by unfold inB at hn; simpa using hn
  have hlt := wants_lt hw (j := n.toNat) (by omega)
  have ht : tot tTask (w.2.2.2.2.2.2.2.2.2.2.2.2.1.getD n.toNat tTask.dflt) ≤ 1048576 := any_at hk (e := tTask) rfl w8 n.toNat
  generalize w.2.2.2.2.2.2.2.2.2.2.2.2.1.getD n.toNat tTask.dflt = t at *
  have q1 : decide (0 ≤ n ∧ n < (w.2.2.2.2.2.2.2.2.2.2.2.2.1.length : Int)) = true := by simp only [decide_eq_true_eq]; omega
  rw [hw, hn]
  simp only [Bool.not_true, beq_self_eq_true, if_true, Option.bind_some, Bool.false_eq_true, if_false, q1, spec_WantsP_ok hk ht, spec_WantsGr_ok hk, Bool.and_self]
  by_cases hr : 0 ≤ wantsP k t w.2.2.2.1.length
  · have q2 : decide (0 ≤ wantsP k t w.2.2.2.1.length ∧ wantsP k t w.2.2.2.1.length < (w.2.2.2.1.length : Int)) = true := by simp only [decide_eq_true_eq]; omega
    rw [if_pos (by simpa using hr), if_pos q2, if_pos hr]
  · rw [if_neg (by simpa using hr), if_neg hr]
    cases wantsGr t <;> rfl

theorem impl_WaitsFor_ok {w : DWorld} {n : Int} (hs : tot tWorld w ≤ 1048576) : F_impl_WaitsFor k (w, n, ()) = some (waitsF k w n, ()) := by
  obtain ⟨w1, w2, w3, w4, w5, w6, w7, w8, w9⟩ := world_parts hk hs
  simp only [F_impl_WaitsFor, impl_WorldOk_ok hk hs, impl_in_ok hk, Option.bind_some]
  unfold waitsF
  by_cases hw : okWorld k w = true
  rotate_left
  · simp [hw]
  by_cases hn : inB n 0 4 = true
  rotate_left
  · simp [hw, hn]
  obtain ⟨_, _, h3, _⟩ := okWorld_parts hw
  have hn2 : 0 ≤ n ∧ n ≤ 4 := by unfold inB at hn; simpa using hn
  have hlt := wants_lt hw (j := n.toNat) (by omega)
  have ht : tot tTask (w.2.2.2.2.2.2.2.2.2.2.2.2.1.getD n.toNat tTask.dflt) ≤ 1048576 := any_at hk (e := tTask) rfl w8 n.toNat
  generalize w.2.2.2.2.2.2.2.2.2.2.2.2.1.getD n.toNat tTask.dflt = t at *
  have q1 : decide (0 ≤ n ∧ n < (w.2.2.2.2.2.2.2.2.2.2.2.2.1.length : Int)) = true := by simp only [decide_eq_true_eq]; omega
  rw [hw, hn]
  simp only [Bool.not_true, beq_self_eq_true, if_true, Option.bind_some, Bool.false_eq_true, if_false, q1, impl_WantsP_ok hk ht, impl_WantsGr_ok hk, Bool.and_self]
  by_cases hr : 0 ≤ wantsP k t w.2.2.2.1.length
  · have q2 : decide (0 ≤ wantsP k t w.2.2.2.1.length ∧ wantsP k t w.2.2.2.1.length < (w.2.2.2.1.length : Int)) = true := by simp only [decide_eq_true_eq]; omega
    rw [if_pos (by simpa using hr), if_pos q2, if_pos hr]
  · rw [if_neg (by simpa using hr), if_neg hr]
    cases wantsGr t <;> rfl

theorem law_WaitsFor {x : DWorld × Int × Unit} (hx : Fits tWorld x.1) : F_laws_FnExactWaitsFor k x = some (true, ()) := by
  obtain ⟨a, n, u⟩ := x
  simp only at hx
  simp only [F_laws_FnExactWaitsFor]
  rw [szWorld_ok hk hx (by omega) (by omega), Option.bind_some]
  split
  · rfl
  · rename_i h1
    have h1 := szv_some (by simpa using h1)
    rw [toWorld_ok hk (x := a) (by omega)]
    simp only [Option.bind_some]
    rw [spec_WaitsFor_ok hk (by omega), impl_WaitsFor_ok hk (by omega), eqWorld_ok hk (by omega)]
    simp

end
end Vg.Tryz
