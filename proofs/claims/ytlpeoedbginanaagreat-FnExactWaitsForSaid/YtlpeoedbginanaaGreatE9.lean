/- What the functions compute is what the evaluator says; their contracts: more of them. -/
import Derived.Test.YtlpeoedbginanaaGreatE8
import Derived.Test.YtlpeoedbginanaaGreatF2
namespace Vg.Tryz
open Go Vg Go.Proofs
set_option linter.unusedVariables false
abbrev ps_spec_WantsPart : List PK := [.val tTask (.pair .leaf (.pair .leaf (.pair (.pair .shr (.pair .leaf (.pair .leaf .leaf))) (.pair .shr (.pair .leaf (.pair .shr (.pair .shr (.pair .leaf .leaf)))))))), .val (.int .i64) .leaf]
abbrev rs_spec_WantsPart : List RK := [.val (.int .i64) .leaf]
def c_spec_WantsPart (k : Nat) : Con := ⟨ps_spec_WantsPart, rs_spec_WantsPart, F_spec_WantsPart k⟩
def la_spec_WantsPart : Nat → Option Ann := fun _ => none
def ja_spec_WantsPart : Nat → Option Ann := fun _ => none
def cs_spec_WantsPart (k : Nat) : List (FuncId × Con) := [(203, c_spec_Finger k), (202, c_spec_PartOf k)]
set_option maxRecDepth 1000000 in
theorem e_spec_WantsPart (k : Nat) (x) : evFn2 (mkCx TT (cs_spec_WantsPart k) la_spec_WantsPart ja_spec_WantsPart k) ps_spec_WantsPart rs_spec_WantsPart Tryz.f98 x = F_spec_WantsPart k x := by kernel_rfl
set_option maxRecDepth 1000000 in
theorem m_spec_WantsPart (k : Nat) : Meets Tryz.prog 98 (c_spec_WantsPart k) := meets_ev TTok mixed (cts := cs_spec_WantsPart k) ⟨m_spec_Finger k, m_spec_PartOf k, trivial⟩ Tryz.func98 (by kernel_rfl) (by kernel_rfl) (e_spec_WantsPart k)
abbrev ps_spec_WantsGroups : List PK := [.val tTask (.pair .leaf (.pair .leaf (.pair (.pair .shr (.pair .leaf (.pair .leaf .leaf))) (.pair .shr (.pair .leaf (.pair .shr (.pair .shr (.pair .leaf .leaf))))))))]
abbrev rs_spec_WantsGroups : List RK := [.val .bool .leaf]
def c_spec_WantsGroups (k : Nat) : Con := ⟨ps_spec_WantsGroups, rs_spec_WantsGroups, F_spec_WantsGroups k⟩
def la_spec_WantsGroups : Nat → Option Ann := fun _ => none
def ja_spec_WantsGroups : Nat → Option Ann := fun _ => none
def cs_spec_WantsGroups (k : Nat) : List (FuncId × Con) := []
set_option maxRecDepth 1000000 in
theorem e_spec_WantsGroups (k : Nat) (x) : evFn2 (mkCx TT (cs_spec_WantsGroups k) la_spec_WantsGroups ja_spec_WantsGroups k) ps_spec_WantsGroups rs_spec_WantsGroups Tryz.f99 x = F_spec_WantsGroups k x := by kernel_rfl
set_option maxRecDepth 1000000 in
theorem m_spec_WantsGroups (k : Nat) : Meets Tryz.prog 99 (c_spec_WantsGroups k) := meets_ev TTok mixed (cts := cs_spec_WantsGroups k) trivial Tryz.func99 (by kernel_rfl) (by kernel_rfl) (e_spec_WantsGroups k)
abbrev ps_spec_WaitsFor : List PK := [.val tWorld (.pair (.pair .leaf (.pair .leaf (.pair .leaf (.pair .leaf (.pair .leaf .shr))))) (.pair .leaf (.pair .leaf (.pair .shr (.pair .shr (.pair .shr (.pair .leaf (.pair .shr (.pair .leaf (.pair .shr (.pair .shr (.pair .shr (.pair .shr .shr))))))))))))), .val (.int .i64) .leaf]
abbrev rs_spec_WaitsFor : List RK := [.val (.int .i64) .leaf]
def c_spec_WaitsFor (k : Nat) : Con := ⟨ps_spec_WaitsFor, rs_spec_WaitsFor, F_spec_WaitsFor k⟩
def la_spec_WaitsFor : Nat → Option Ann := fun _ => none
def ja_spec_WaitsFor : Nat → Option Ann := fun _ => none
def cs_spec_WaitsFor (k : Nat) : List (FuncId × Con) := [(20, c_spec_WorldOk k), (82, c_spec_l1In k), (98, c_spec_WantsPart k), (99, c_spec_WantsGroups k)]
set_option maxRecDepth 1000000 in
theorem e_spec_WaitsFor (k : Nat) (x) : evFn2 (mkCx TT (cs_spec_WaitsFor k) la_spec_WaitsFor ja_spec_WaitsFor k) ps_spec_WaitsFor rs_spec_WaitsFor Tryz.f22 x = F_spec_WaitsFor k x := by kernel_rfl
set_option maxRecDepth 1000000 in
theorem m_spec_WaitsFor (k : Nat) : Meets Tryz.prog 22 (c_spec_WaitsFor k) := meets_ev TTok mixed (cts := cs_spec_WaitsFor k) ⟨m_spec_WorldOk k, m_spec_l1In k, m_spec_WantsPart k, m_spec_WantsGroups k, trivial⟩ Tryz.func22 (by kernel_rfl) (by kernel_rfl) (e_spec_WaitsFor k)
abbrev ps_impl_WantsPart : List PK := [.val tTask (.pair .leaf (.pair .leaf (.pair (.pair .shr (.pair .leaf (.pair .leaf .leaf))) (.pair .shr (.pair .leaf (.pair .shr (.pair .shr (.pair .leaf .leaf)))))))), .val (.int .i64) .leaf]
abbrev rs_impl_WantsPart : List RK := [.val (.int .i64) .leaf]
def c_impl_WantsPart (k : Nat) : Con := ⟨ps_impl_WantsPart, rs_impl_WantsPart, F_impl_WantsPart k⟩
def la_impl_WantsPart : Nat → Option Ann := fun _ => none
def ja_impl_WantsPart : Nat → Option Ann := fun _ => none
def cs_impl_WantsPart (k : Nat) : List (FuncId × Con) := [(204, c_impl_partAt k)]
set_option maxRecDepth 1000000 in
theorem e_impl_WantsPart (k : Nat) (x) : evFn2 (mkCx TT (cs_impl_WantsPart k) la_impl_WantsPart ja_impl_WantsPart k) ps_impl_WantsPart rs_impl_WantsPart Tryz.f100 x = F_impl_WantsPart k x := by kernel_rfl
set_option maxRecDepth 1000000 in
theorem m_impl_WantsPart (k : Nat) : Meets Tryz.prog 100 (c_impl_WantsPart k) := meets_ev TTok mixed (cts := cs_impl_WantsPart k) ⟨m_impl_partAt k, trivial⟩ Tryz.func100 (by kernel_rfl) (by kernel_rfl) (e_impl_WantsPart k)
abbrev ps_impl_WantsGroups : List PK := [.val tTask (.pair .leaf (.pair .leaf (.pair (.pair .shr (.pair .leaf (.pair .leaf .leaf))) (.pair .shr (.pair .leaf (.pair .shr (.pair .shr (.pair .leaf .leaf))))))))]
abbrev rs_impl_WantsGroups : List RK := [.val .bool .leaf]
def c_impl_WantsGroups (k : Nat) : Con := ⟨ps_impl_WantsGroups, rs_impl_WantsGroups, F_impl_WantsGroups k⟩
def la_impl_WantsGroups : Nat → Option Ann := fun _ => none
def ja_impl_WantsGroups : Nat → Option Ann := fun _ => none
def cs_impl_WantsGroups (k : Nat) : List (FuncId × Con) := []
set_option maxRecDepth 1000000 in
theorem e_impl_WantsGroups (k : Nat) (x) : evFn2 (mkCx TT (cs_impl_WantsGroups k) la_impl_WantsGroups ja_impl_WantsGroups k) ps_impl_WantsGroups rs_impl_WantsGroups Tryz.f101 x = F_impl_WantsGroups k x := by kernel_rfl
set_option maxRecDepth 1000000 in
theorem m_impl_WantsGroups (k : Nat) : Meets Tryz.prog 101 (c_impl_WantsGroups k) := meets_ev TTok mixed (cts := cs_impl_WantsGroups k) trivial Tryz.func101 (by kernel_rfl) (by kernel_rfl) (e_impl_WantsGroups k)
abbrev ps_impl_WaitsFor : List PK := [.val tWorld (.pair (.pair .leaf (.pair .leaf (.pair .leaf (.pair .leaf (.pair .leaf .shr))))) (.pair .leaf (.pair .leaf (.pair .shr (.pair .shr (.pair .shr (.pair .leaf (.pair .shr (.pair .leaf (.pair .shr (.pair .shr (.pair .shr (.pair .shr .shr))))))))))))), .val (.int .i64) .leaf]
abbrev rs_impl_WaitsFor : List RK := [.val (.int .i64) .leaf]
def c_impl_WaitsFor (k : Nat) : Con := ⟨ps_impl_WaitsFor, rs_impl_WaitsFor, F_impl_WaitsFor k⟩
def la_impl_WaitsFor : Nat → Option Ann := fun _ => none
def ja_impl_WaitsFor : Nat → Option Ann := fun _ => none
def cs_impl_WaitsFor (k : Nat) : List (FuncId × Con) := [(21, c_impl_WorldOk k), (91, c_impl_in k), (100, c_impl_WantsPart k), (101, c_impl_WantsGroups k)]
set_option maxRecDepth 1000000 in
theorem e_impl_WaitsFor (k : Nat) (x) : evFn2 (mkCx TT (cs_impl_WaitsFor k) la_impl_WaitsFor ja_impl_WaitsFor k) ps_impl_WaitsFor rs_impl_WaitsFor Tryz.f23 x = F_impl_WaitsFor k x := by kernel_rfl
set_option maxRecDepth 1000000 in
theorem m_impl_WaitsFor (k : Nat) : Meets Tryz.prog 23 (c_impl_WaitsFor k) := meets_ev TTok mixed (cts := cs_impl_WaitsFor k) ⟨m_impl_WorldOk k, m_impl_in k, m_impl_WantsPart k, m_impl_WantsGroups k, trivial⟩ Tryz.func23 (by kernel_rfl) (by kernel_rfl) (e_impl_WaitsFor k)
abbrev ps_laws_FnExactWaitsFor : List PK := [.val tWorld (.pair (.pair .leaf (.pair .leaf (.pair .leaf (.pair .leaf (.pair .leaf .shr))))) (.pair .leaf (.pair .leaf (.pair .shr (.pair .shr (.pair .shr (.pair .leaf (.pair .shr (.pair .leaf (.pair .shr (.pair .shr (.pair .shr (.pair .shr .shr))))))))))))), .val (.int .i64) .leaf]
abbrev rs_laws_FnExactWaitsFor : List RK := [.val .bool .leaf]
def c_laws_FnExactWaitsFor (k : Nat) : Con := ⟨ps_laws_FnExactWaitsFor, rs_laws_FnExactWaitsFor, F_laws_FnExactWaitsFor k⟩
def la_laws_FnExactWaitsFor : Nat → Option Ann := fun _ => none
def ja_laws_FnExactWaitsFor : Nat → Option Ann := fun _ => none
def cs_laws_FnExactWaitsFor (k : Nat) : List (FuncId × Con) := [(15, c_laws_szWorld k), (17, c_laws_toWorld k), (22, c_spec_WaitsFor k), (23, c_impl_WaitsFor k), (19, c_laws_eqWorld k)]
set_option maxRecDepth 1000000 in
theorem e_laws_FnExactWaitsFor (k : Nat) (x) : evFn2 (mkCx TT (cs_laws_FnExactWaitsFor k) la_laws_FnExactWaitsFor ja_laws_FnExactWaitsFor k) ps_laws_FnExactWaitsFor rs_laws_FnExactWaitsFor Tryz.f5 x = F_laws_FnExactWaitsFor k x := by kernel_rfl
set_option maxRecDepth 1000000 in
theorem m_laws_FnExactWaitsFor (k : Nat) : Meets Tryz.prog 5 (c_laws_FnExactWaitsFor k) := meets_ev TTok mixed (cts := cs_laws_FnExactWaitsFor k) ⟨m_laws_szWorld k, m_laws_toWorld k, m_spec_WaitsFor k, m_impl_WaitsFor k, m_laws_eqWorld k, trivial⟩ Tryz.func5 (by kernel_rfl) (by kernel_rfl) (e_laws_FnExactWaitsFor k)
end Vg.Tryz
