/- Plain law: Flush, exactly. -/
import Derived.Test.YtoenkpiimjnmdaaPA
namespace Vg.Try
open Go Vg
set_option linter.unusedVariables false
set_option linter.unusedSectionVars false
set_option linter.unusedSimpArgs false
section
variable {k : Nat} (hk : 9223372036854775808 ≤ k)
include hk
theorem law_Flush {x : DGroup × Int × Unit} (h_a : Fits tGroup x.1) : F_laws_FnExactFlush k x = some (true, ()) := by
  obtain ⟨a, n, u⟩ := x
  simp only at h_a
  unfold F_laws_FnExactFlush
  refine (bind_eq (szGroup_ok hk h_a (by omega) (by omega)) _).trans ?_
  by_cases q0 : szv (tot tGroup a) 1048576 < 0
  · rw [if_pos (by simpa using q0)]
  refine (if_no (by simpa using q0)).trans ?_
  have hsz := (szv_some q0).2
  have t1 := flushG_tot hk (g := a) (now := n)
  have t2 := flushB_tot hk (g := a) (now := n)
  obtain ⟨n0, v0_0, v0_1, m0, p0, r0, w0⟩ := markGroup_at hk a 1 (by omega) (by unfold markB; omega)
  have z0 : decide (n0 < 0) = false := by simp; omega
  obtain ⟨n1, v1_0, v1_1, m1, p1, r1, w1⟩ := markGroup_at hk (flushG a n) 1 (by omega) (by unfold markB; omega)
  have z1 : decide (n1 < 0) = false := by simp; omega
  obtain ⟨n2, v2_0, v2_1, m2, p2, r2, w2⟩ := markBatch_at hk (flushB a n) n1 (by omega) (by unfold markB; omega)
  have z2 : decide (n2 < 0) = false := by simp; omega
  refine (bind_eq (toGroup_ok hk (x := a) (by omega)) _).trans ?_
  refine (bind_eq (spec_Flush_ok hk (g := a) (now := n) (by omega)) _).trans ?_
  refine (bind_eq (toGroup_ok hk (x := a) (by omega)) _).trans ?_
  refine (bind_eq (impl_Flush_ok hk (g := a) (now := n) (by omega)) _).trans ?_
  refine (bind_eq (eqGroup_ok hk (x := flushG a n) (by omega)) _).trans ?_
  refine (bind_eq (r := (true, ())) ((if_pos (by simp [z0, z1, z2])).trans (eqBatch_ok hk (x := flushB a n) (by omega))) _).trans ?_
  refine (if_no (by simp [z0, z1, z2])).trans ?_
  refine (bind_eq (toGroup_ok hk (x := a) (by omega)) _).trans ?_
  refine (bind_eq (eqGroup_ok hk (x := a) (by omega)) _).trans ?_
  refine (if_no (by simp [z0, z1, z2])).trans ?_
  refine (bind_eq m0 _).trans ?_
  refine (bind_eq (r := (true, ())) ((if_pos (by simp [z0, z1, z2])).trans (eqGroup_ok hk (x := flushG a n) (by omega))) _).trans ?_
  refine (bind_eq (r := (true, ())) ((if_pos (by simp [z0, z1, z2])).trans (eqBatch_ok hk (x := flushB a n) (by omega))) _).trans ?_
  refine (if_no (by simp [z0, z1, z2])).trans ?_
  refine (bind_eq m1 _).trans ?_
  refine (bind_eq m2 _).trans ?_
  refine (bind_eq w1 _).trans ?_
  refine (if_no (by simp [z0, z1, z2])).trans ?_
  refine (bind_eq w2 _).trans ?_
  refine (if_no (by simp [z0, z1, z2])).trans ?_
  refine (if_no (by simp [z0, z1, z2])).trans ?_
  refine (bind_eq (toGroup_ok hk (x := a) (by omega)) _).trans ?_
  refine (bind_eq (impl_Flush_ok hk (g := a) (now := n) (by omega)) _).trans ?_
  refine (bind_eq (eqGroup_ok hk (x := flushG a n) (by omega)) _).trans ?_
  refine (bind_eq (r := (true, ())) ((if_pos (by simp [z0, z1, z2])).trans (eqBatch_ok hk (x := flushB a n) (by omega))) _).trans ?_
  refine (if_no (by simp [z0, z1, z2])).trans ?_
  refine (bind_eq w1 _).trans ?_
  refine (if_no (by simp [z0, z1, z2])).trans ?_
  refine (bind_eq w2 _).trans ?_
  refine (if_no (by simp [z0, z1, z2])).trans ?_
  refine (if_no (by simp [z0, z1, z2])).trans ?_
  rfl
end
end Vg.Try
