/- Plain law: ModelNew, exactly. -/
import Derived.Test.YtoenkpiimjnmdaaPD
namespace Vg.Try
open Go Vg
set_option linter.unusedVariables false
set_option linter.unusedSectionVars false
set_option linter.unusedSimpArgs false
section
variable {k : Nat} (hk : 9223372036854775808 ≤ k)
include hk
theorem law_ModelNew {x : DConf × Unit} (h_c : Fits tConf x.1) : F_laws_FnExactModelNew k x = some (true, ()) := by
  obtain ⟨c, u⟩ := x
  simp only at h_c
  unfold F_laws_FnExactModelNew
  refine (bind_eq (szConf_ok hk h_c (by omega) (by omega)) _).trans ?_
  by_cases q0 : szv (tot tConf c) 1048576 < 0
  · rw [if_pos (by simpa using q0)]
  refine (if_no (by simpa using q0)).trans ?_
  have hsz := (szv_some q0).2
  have t1 := newModel_tot hk (c := c)
  obtain ⟨n0, v0_0, m0, p0, r0, w0⟩ := markConf_at hk c 1 (by omega) (by unfold markB; omega)
  have z0 : decide (n0 < 0) = false := by simp; omega
  obtain ⟨n1, v1_0, v1_1, v1_2, v1_3, v1_4, m1, p1, r1, w1⟩ := markModel_at hk (newModel c) 1 (by omega) (by unfold markB; omega)
  have z1 : decide (n1 < 0) = false := by simp; omega
  refine (bind_eq (toConf_ok hk (x := c) (by omega)) _).trans ?_
  refine (bind_eq (spec_ModelNew_ok hk (c := c) (by omega)) _).trans ?_
  refine (bind_eq (toConf_ok hk (x := c) (by omega)) _).trans ?_
  refine (bind_eq (impl_ModelNew_ok hk (c := c) (by omega)) _).trans ?_
  refine (bind_eq (eqModel_ok hk (x := newModel c) (by omega)) _).trans ?_
  refine (if_no (by simp [z0, z1])).trans ?_
  refine (bind_eq (toConf_ok hk (x := c) (by omega)) _).trans ?_
  refine (bind_eq (eqConf_ok hk (x := c) (by omega)) _).trans ?_
  refine (if_no (by simp [z0, z1])).trans ?_
  refine (bind_eq m0 _).trans ?_
  refine (bind_eq (r := (true, ())) ((if_pos (by simp [z0, z1])).trans (eqModel_ok hk (x := newModel c) (by omega))) _).trans ?_
  refine (if_no (by simp [z0, z1])).trans ?_
  refine (bind_eq m1 _).trans ?_
  refine (bind_eq w1 _).trans ?_
  refine (if_no (by simp [z0, z1])).trans ?_
  refine (if_no (by simp [z0, z1])).trans ?_
  refine (bind_eq (toConf_ok hk (x := c) (by omega)) _).trans ?_
  refine (bind_eq (impl_ModelNew_ok hk (c := c) (by omega)) _).trans ?_
  refine (bind_eq (eqModel_ok hk (x := newModel c) (by omega)) _).trans ?_
  refine (if_no (by simp [z0, z1])).trans ?_
  refine (bind_eq w1 _).trans ?_
  refine (if_no (by simp [z0, z1])).trans ?_
  refine (if_no (by simp [z0, z1])).trans ?_
  rfl
end
end Vg.Try
