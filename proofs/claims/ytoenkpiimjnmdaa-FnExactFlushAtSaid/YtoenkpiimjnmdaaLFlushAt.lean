/- Plain law: FlushAt, exactly. -/
import Derived.Test.YtoenkpiimjnmdaaPC
namespace Vg.Try
open Go Vg
set_option linter.unusedVariables false
set_option linter.unusedSectionVars false
set_option linter.unusedSimpArgs false
section
variable {k : Nat} (hk : 9223372036854775808 ≤ k)
include hk
theorem law_FlushAt {x : List DGroup × Int × Int × Unit} (h_l : Fits (.sl tGroup) x.1) : F_laws_FnExactFlushAt k x = some (true, ()) := by
  obtain ⟨l, n, now, u⟩ := x
  simp only at h_l
  unfold F_laws_FnExactFlushAt
  refine (bind_eq (szGroupS_ok hk h_l (by omega) (by omega)) _).trans ?_
  by_cases q0 : szv (tot (.sl tGroup) l) 1048576 < 0
  · rw [if_pos (by simpa using q0)]
  refine (if_no (by simpa using q0)).trans ?_
  have hsz := (szv_some q0).2
  have t1 := flushL_tot hk (l := l) (n := n) (now := now)
  have t2 := flushLB_tot hk (l := l) (n := n) (now := now)
  obtain ⟨n0, y0, m0, p0, r0, w0⟩ := markGroupS_ok hk l 1 (by omega) (by unfold markB; omega)
  have z0 : decide (n0 < 0) = false := by simp; omega
  obtain ⟨n1, y1, m1, p1, r1, w1⟩ := markGroupS_ok hk (flushL l n now) 1 (by omega) (by unfold markB; omega)
  have z1 : decide (n1 < 0) = false := by simp; omega
  obtain ⟨n2, v2_0, v2_1, m2, p2, r2, w2⟩ := markBatch_at hk (flushLB l n now) n1 (by omega) (by unfold markB; omega)
  have z2 : decide (n2 < 0) = false := by simp; omega
  refine (bind_eq (toGroupS_ok hk (x := l) (by omega)) _).trans ?_
  refine (bind_eq (spec_FlushAt_ok hk (l := l) (n := n) (now := now) (by omega)) _).trans ?_
  refine (bind_eq (toGroupS_ok hk (x := l) (by omega)) _).trans ?_
  refine (bind_eq (impl_FlushAt_ok hk (l := l) (n := n) (now := now) (by omega)) _).trans ?_
  refine (bind_eq (eqGroupS_ok hk (x := flushL l n now) (by omega)) _).trans ?_
  refine (bind_eq (r := (true, ())) ((if_pos (by simp [z0, z1, z2])).trans (eqBatch_ok hk (x := flushLB l n now) (by omega))) _).trans ?_
  refine (if_no (by simp [z0, z1, z2])).trans ?_
  refine (bind_eq (toGroupS_ok hk (x := l) (by omega)) _).trans ?_
  refine (bind_eq (eqGroupS_ok hk (x := l) (by omega)) _).trans ?_
  refine (if_no (by simp [z0, z1, z2])).trans ?_
  refine (bind_eq m0 _).trans ?_
  refine (bind_eq (r := (true, ())) ((if_pos (by simp [z0, z1, z2])).trans (eqGroupS_ok hk (x := flushL l n now) (by omega))) _).trans ?_
  refine (bind_eq (r := (true, ())) ((if_pos (by simp [z0, z1, z2])).trans (eqBatch_ok hk (x := flushLB l n now) (by omega))) _).trans ?_
  refine (if_no (by simp [z0, z1, z2])).trans ?_
  refine (bind_eq m1 _).trans ?_
  refine (bind_eq m2 _).trans ?_
  refine (bind_eq w1 _).trans ?_
  refine (if_no (by simp [z0, z1, z2])).trans ?_
  refine (bind_eq w2 _).trans ?_
  refine (if_no (by simp [z0, z1, z2])).trans ?_
  refine (if_no (by simp [z0, z1, z2])).trans ?_
  refine (bind_eq (toGroupS_ok hk (x := l) (by omega)) _).trans ?_
  refine (bind_eq (impl_FlushAt_ok hk (l := l) (n := n) (now := now) (by omega)) _).trans ?_
  refine (bind_eq (eqGroupS_ok hk (x := flushL l n now) (by omega)) _).trans ?_
  refine (bind_eq (r := (true, ())) ((if_pos (by simp [z0, z1, z2])).trans (eqBatch_ok hk (x := flushLB l n now) (by omega))) _).trans ?_
  refine (if_no (by simp [z0, z1, z2])).trans ?_
  refine (bind_eq w1 _).trans ?_
  refine (if_no (by simp [z0, z1, z2])).trans ?_
  refine (bind_eq w2 _).trans ?_
  refine (if_no (by simp [z0, z1, z2])).trans ?_
  refine (if_no (by simp [z0, z1, z2])).trans ?_
  rfl
end
end Vg.Try
