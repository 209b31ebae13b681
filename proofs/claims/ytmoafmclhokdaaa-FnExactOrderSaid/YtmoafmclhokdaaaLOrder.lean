/- Plain law: Order, exactly. -/
import Derived.Test.YtmoafmclhokdaaaD2
namespace Vg.Try
open Go Vg
set_option linter.unusedVariables false
set_option linter.unusedSectionVars false
set_option linter.unusedSimpArgs false
section
variable {k : Nat} (hk : 9223372036854775808 ≤ k)
include hk
set_option maxHeartbeats 2000000 in
theorem law_Order {x : List DDeed × Unit} (h_l : Fits (.sl tDeed) x.1) : F_laws_FnExactOrder k x = some (true, ()) := by
  obtain ⟨l, u⟩ := x
  simp only at h_l
  unfold F_laws_FnExactOrder
  refine (bind_eq (szDeedS_ok hk h_l (by omega) (by omega)) _).trans ?_
  by_cases q0 : szv (tot (.sl tDeed) l) 1048576 < 0
  · rw [if_pos (by simpa using q0)]
  refine (if_no (by simpa using q0)).trans ?_
  have hsz := (szv_some q0).2
  have t1 := orderL_tot hk (l := l)
  obtain ⟨n0, y0, m0, p0, r0, w0⟩ := markDeedS_ok hk l 1 (by omega) (by unfold markB; omega)
  have z0 : decide (n0 < 0) = false := by simp; omega
  obtain ⟨n1, y1, m1, p1, r1, w1⟩ := markIntS_ok hk (orderL l) 1 (by omega) (by unfold markB; omega)
  have z1 : decide (n1 < 0) = false := by simp; omega
  refine (bind_eq (toDeedS_ok hk (x := l) (by omega)) _).trans ?_
  refine (bind_eq (spec_Order_ok hk (l := l) (by have := tot_len (e := tDeed) (l := l); omega)) _).trans ?_
  refine (bind_eq (toDeedS_ok hk (x := l) (by omega)) _).trans ?_
  refine (bind_eq (impl_Order_ok hk (l := l) (by have := tot_len (e := tDeed) (l := l); omega)) _).trans ?_
  refine (bind_eq (eqIntS_ok hk (x := orderL l) (by omega)) _).trans ?_
  refine (if_no (by simp [z0, z1])).trans ?_
  refine (bind_eq (toDeedS_ok hk (x := l) (by omega)) _).trans ?_
  refine (bind_eq (eqDeedS_ok hk (x := l) (by omega)) _).trans ?_
  refine (if_no (by simp [z0, z1])).trans ?_
  refine (bind_eq m0 _).trans ?_
  refine (bind_eq (r := (true, ())) ((if_pos (by simp [z0, z1])).trans (eqIntS_ok hk (x := orderL l) (by omega))) _).trans ?_
  refine (if_no (by simp [z0, z1])).trans ?_
  refine (bind_eq m1 _).trans ?_
  refine (bind_eq w1 _).trans ?_
  refine (if_no (by simp [z0, z1])).trans ?_
  refine (if_no (by simp [z0, z1])).trans ?_
  refine (bind_eq (toDeedS_ok hk (x := l) (by omega)) _).trans ?_
  refine (bind_eq (impl_Order_ok hk (l := l) (by have := tot_len (e := tDeed) (l := l); omega)) _).trans ?_
  refine (bind_eq (eqIntS_ok hk (x := orderL l) (by omega)) _).trans ?_
  refine (if_no (by simp [z0, z1])).trans ?_
  refine (bind_eq w1 _).trans ?_
  refine (if_no (by simp [z0, z1])).trans ?_
  refine (if_no (by simp [z0, z1])).trans ?_
  rfl
end
end Vg.Try
