/- What the functions compute is what the evaluator says; their contracts. -/
import Derived.Test.YtoenkpiimjnmdaaE2
namespace Vg.Try
open Go Vg Go.Proofs
set_option linter.unusedVariables false
abbrev ps_laws_FnExactFlushAt : List PK := [.val (.sl tGroup) .shr, .val (.int .i64) .leaf, .val (.int .i64) .leaf]
abbrev rs_laws_FnExactFlushAt : List RK := [.val .bool .leaf]
def c_laws_FnExactFlushAt (k : Nat) : Con := ⟨ps_laws_FnExactFlushAt, rs_laws_FnExactFlushAt, F_laws_FnExactFlushAt k⟩
def la_laws_FnExactFlushAt : Nat → Option Ann := fun _ => none
def ja_laws_FnExactFlushAt : Nat → Option Ann := fun _ => none
def cs_laws_FnExactFlushAt (k : Nat) : List (FuncId × Con) := [(17, c_laws_szGroupS k), (19, c_laws_toGroupS k), (18, c_spec_FlushAt k), (20, c_impl_FlushAt k), (21, c_laws_eqGroupS k), (12, c_laws_eqBatch k), (23, c_laws_heldGroupS k), (16, c_laws_heldBatch k)]
def ms_laws_FnExactFlushAt (k : Nat) : List (FuncId × MCon) := [(22, c_laws_markGroupS k), (14, c_laws_markBatch k)]
set_option maxRecDepth 1000000 in
theorem e_laws_FnExactFlushAt (k : Nat) (x) : evFnM (mkCx TT (cs_laws_FnExactFlushAt k) la_laws_FnExactFlushAt ja_laws_FnExactFlushAt k) (fun f => (ms_laws_FnExactFlushAt k).lookup f) ps_laws_FnExactFlushAt rs_laws_FnExactFlushAt Try.f4 x = F_laws_FnExactFlushAt k x := by kernel_rfl
set_option maxRecDepth 1000000 in
theorem m_laws_FnExactFlushAt (k : Nat) : Meets Try.prog 4 (c_laws_FnExactFlushAt k) := meetsM_ev TTok mixed (cts := cs_laws_FnExactFlushAt k) ⟨m_laws_szGroupS k, m_laws_toGroupS k, m_spec_FlushAt k, m_impl_FlushAt k, m_laws_eqGroupS k, m_laws_eqBatch k, m_laws_heldGroupS k, m_laws_heldBatch k, trivial⟩ (mts := ms_laws_FnExactFlushAt k) ⟨m_laws_markGroupS k, m_laws_markBatch k, trivial⟩ Try.func4 (by kernel_rfl) (by kernel_rfl) (e_laws_FnExactFlushAt k)
abbrev ps_laws_szStringS : List PK := [.val (.sl .str) .shr, .val (.int .i64) .leaf]
abbrev rs_laws_szStringS : List RK := [.val (.int .i64) .leaf]
def c_laws_szStringS (k : Nat) : Con := ⟨ps_laws_szStringS, rs_laws_szStringS, F_laws_szStringS k⟩
def la_laws_szStringS : Nat → Option Ann := fun | 5 => some ⟨[(0, .val (.sl .str) (.sl (.sha [1]))), (1, .val (.int .i64) .leaf), (5, .val (.int .i64) .leaf)], 3⟩ | _ => none
def ja_laws_szStringS : Nat → Option Ann := fun _ => none
def cs_laws_szStringS (k : Nat) : List (FuncId × Con) := []
set_option maxRecDepth 1000000 in
theorem e_laws_szStringS (k : Nat) (x) : evFn2 (mkCx TT (cs_laws_szStringS k) la_laws_szStringS ja_laws_szStringS k) ps_laws_szStringS rs_laws_szStringS Try.f60 x = F_laws_szStringS k x := by kernel_rfl
set_option maxRecDepth 1000000 in
theorem m_laws_szStringS (k : Nat) : Meets Try.prog 60 (c_laws_szStringS k) := meets_ev TTok mixed (cts := cs_laws_szStringS k) trivial Try.func60 (by kernel_rfl) (by kernel_rfl) (e_laws_szStringS k)
abbrev ps_laws_szConf : List PK := [.val tConf (.pair .leaf (.pair .leaf (.pair .leaf (.pair .leaf (.pair .leaf .shr))))), .val (.int .i64) .leaf]
abbrev rs_laws_szConf : List RK := [.val (.int .i64) .leaf]
def c_laws_szConf (k : Nat) : Con := ⟨ps_laws_szConf, rs_laws_szConf, F_laws_szConf k⟩
def la_laws_szConf : Nat → Option Ann := fun _ => none
def ja_laws_szConf : Nat → Option Ann := fun _ => none
def cs_laws_szConf (k : Nat) : List (FuncId × Con) := [(60, c_laws_szStringS k)]
set_option maxRecDepth 1000000 in
theorem e_laws_szConf (k : Nat) (x) : evFn2 (mkCx TT (cs_laws_szConf k) la_laws_szConf ja_laws_szConf k) ps_laws_szConf rs_laws_szConf Try.f24 x = F_laws_szConf k x := by kernel_rfl
set_option maxRecDepth 1000000 in
theorem m_laws_szConf (k : Nat) : Meets Try.prog 24 (c_laws_szConf k) := meets_ev TTok mixed (cts := cs_laws_szConf k) ⟨m_laws_szStringS k, trivial⟩ Try.func24 (by kernel_rfl) (by kernel_rfl) (e_laws_szConf k)
abbrev ps_laws_toStringS : List PK := [.val (.sl .str) .shr]
abbrev rs_laws_toStringS : List RK := [.val (.sl .str) .own]
def c_laws_toStringS (k : Nat) : Con := ⟨ps_laws_toStringS, rs_laws_toStringS, F_laws_toStringS k⟩
def la_laws_toStringS : Nat → Option Ann := fun | 3 => some ⟨[(0, .val (.sl .str) (.sl (.sha [1]))), (3, .val (.sl .str) (.sl (.row 3 [3] true))), (4, .val (.int .i64) .leaf)], 4⟩ | _ => none
def ja_laws_toStringS : Nat → Option Ann := fun _ => none
def cs_laws_toStringS (k : Nat) : List (FuncId × Con) := []
set_option maxRecDepth 1000000 in
theorem e_laws_toStringS (k : Nat) (x) : evFn2 (mkCx TT (cs_laws_toStringS k) la_laws_toStringS ja_laws_toStringS k) ps_laws_toStringS rs_laws_toStringS Try.f63 x = F_laws_toStringS k x := by kernel_rfl
set_option maxRecDepth 1000000 in
theorem m_laws_toStringS (k : Nat) : Meets Try.prog 63 (c_laws_toStringS k) := meets_ev TTok mixed (cts := cs_laws_toStringS k) trivial Try.func63 (by kernel_rfl) (by kernel_rfl) (e_laws_toStringS k)
abbrev ps_laws_toConf : List PK := [.val tConf (.pair .leaf (.pair .leaf (.pair .leaf (.pair .leaf (.pair .leaf .shr)))))]
abbrev rs_laws_toConf : List RK := [.val tConf (.pair .leaf (.pair .leaf (.pair .leaf (.pair .leaf (.pair .leaf .own)))))]
def c_laws_toConf (k : Nat) : Con := ⟨ps_laws_toConf, rs_laws_toConf, F_laws_toConf k⟩
def la_laws_toConf : Nat → Option Ann := fun _ => none
def ja_laws_toConf : Nat → Option Ann := fun _ => none
def cs_laws_toConf (k : Nat) : List (FuncId × Con) := [(63, c_laws_toStringS k)]
set_option maxRecDepth 1000000 in
theorem e_laws_toConf (k : Nat) (x) : evFn2 (mkCx TT (cs_laws_toConf k) la_laws_toConf ja_laws_toConf k) ps_laws_toConf rs_laws_toConf Try.f26 x = F_laws_toConf k x := by kernel_rfl
set_option maxRecDepth 1000000 in
theorem m_laws_toConf (k : Nat) : Meets Try.prog 26 (c_laws_toConf k) := meets_ev TTok mixed (cts := cs_laws_toConf k) ⟨m_laws_toStringS k, trivial⟩ Try.func26 (by kernel_rfl) (by kernel_rfl) (e_laws_toConf k)
abbrev ps_spec_l1In : List PK := [.val (.int .i64) .leaf, .val (.int .i64) .leaf, .val (.int .i64) .leaf]
abbrev rs_spec_l1In : List RK := [.val .bool .leaf]
def c_spec_l1In (k : Nat) : Con := ⟨ps_spec_l1In, rs_spec_l1In, F_spec_l1In k⟩
def la_spec_l1In : Nat → Option Ann := fun _ => none
def ja_spec_l1In : Nat → Option Ann := fun _ => none
def cs_spec_l1In (k : Nat) : List (FuncId × Con) := []
set_option maxRecDepth 1000000 in
theorem e_spec_l1In (k : Nat) (x) : evFn2 (mkCx TT (cs_spec_l1In k) la_spec_l1In ja_spec_l1In k) ps_spec_l1In rs_spec_l1In Try.f99 x = F_spec_l1In k x := by kernel_rfl
set_option maxRecDepth 1000000 in
theorem m_spec_l1In (k : Nat) : Meets Try.prog 99 (c_spec_l1In k) := meets_ev TTok mixed (cts := cs_spec_l1In k) trivial Try.func99 (by kernel_rfl) (by kernel_rfl) (e_spec_l1In k)
abbrev ps_spec_NameOk : List PK := [.val .str .leaf]
abbrev rs_spec_NameOk : List RK := [.val .bool .leaf]
def c_spec_NameOk (k : Nat) : Con := ⟨ps_spec_NameOk, rs_spec_NameOk, F_spec_NameOk k⟩
def la_spec_NameOk : Nat → Option Ann := fun | 2 => some ⟨[(0, .val .str .leaf), (3, .val (.int .i64) .leaf)], 3⟩ | _ => none
def ja_spec_NameOk : Nat → Option Ann := fun | 6 => some ⟨[(0, .val .str .leaf)], 3⟩ | _ => none
def cs_spec_NameOk (k : Nat) : List (FuncId × Con) := [(99, c_spec_l1In k)]
set_option maxRecDepth 1000000 in
theorem e_spec_NameOk (k : Nat) (x) : evFn2 (mkCx TT (cs_spec_NameOk k) la_spec_NameOk ja_spec_NameOk k) ps_spec_NameOk rs_spec_NameOk Try.f113 x = F_spec_NameOk k x := by kernel_rfl
set_option maxRecDepth 1000000 in
theorem m_spec_NameOk (k : Nat) : Meets Try.prog 113 (c_spec_NameOk k) := meets_ev TTok mixed (cts := cs_spec_NameOk k) ⟨m_spec_l1In k, trivial⟩ Try.func113 (by kernel_rfl) (by kernel_rfl) (e_spec_NameOk k)
abbrev ps_spec_Less : List PK := [.val .str .leaf, .val .str .leaf]
abbrev rs_spec_Less : List RK := [.val .bool .leaf]
def c_spec_Less (k : Nat) : Con := ⟨ps_spec_Less, rs_spec_Less, F_spec_Less k⟩
def la_spec_Less : Nat → Option Ann := fun _ => none
def ja_spec_Less : Nat → Option Ann := fun _ => none
def cs_spec_Less (k : Nat) : List (FuncId × Con) := []
set_option maxRecDepth 1000000 in
theorem e_spec_Less (k : Nat) (x) : evFn2 (mkCx TT (cs_spec_Less k) la_spec_Less ja_spec_Less k) ps_spec_Less rs_spec_Less Try.f119 x = F_spec_Less k x := by kernel_rfl
set_option maxRecDepth 1000000 in
theorem m_spec_Less (k : Nat) : Meets Try.prog 119 (c_spec_Less k) := meets_ev TTok mixed (cts := cs_spec_Less k) trivial Try.func119 (by kernel_rfl) (by kernel_rfl) (e_spec_Less k)
abbrev ps_spec_InOrder : List PK := [.val (.sl .str) .shr]
abbrev rs_spec_InOrder : List RK := [.val .bool .leaf]
def c_spec_InOrder (k : Nat) : Con := ⟨ps_spec_InOrder, rs_spec_InOrder, F_spec_InOrder k⟩
def la_spec_InOrder : Nat → Option Ann := fun | 2 => some ⟨[(0, .val (.sl .str) (.sl (.sha [1]))), (3, .val (.int .i64) .leaf)], 3⟩ | _ => none
def ja_spec_InOrder : Nat → Option Ann := fun _ => none
def cs_spec_InOrder (k : Nat) : List (FuncId × Con) := [(119, c_spec_Less k)]
set_option maxRecDepth 1000000 in
theorem e_spec_InOrder (k : Nat) (x) : evFn2 (mkCx TT (cs_spec_InOrder k) la_spec_InOrder ja_spec_InOrder k) ps_spec_InOrder rs_spec_InOrder Try.f114 x = F_spec_InOrder k x := by kernel_rfl
set_option maxRecDepth 1000000 in
theorem m_spec_InOrder (k : Nat) : Meets Try.prog 114 (c_spec_InOrder k) := meets_ev TTok mixed (cts := cs_spec_InOrder k) ⟨m_spec_Less k, trivial⟩ Try.func114 (by kernel_rfl) (by kernel_rfl) (e_spec_InOrder k)
abbrev ps_spec_ByOk : List PK := [.val (.sl .str) .shr]
abbrev rs_spec_ByOk : List RK := [.val .bool .leaf]
def c_spec_ByOk (k : Nat) : Con := ⟨ps_spec_ByOk, rs_spec_ByOk, F_spec_ByOk k⟩
def la_spec_ByOk : Nat → Option Ann := fun | 2 => some ⟨[(0, .val (.sl .str) (.sl (.sha [1]))), (3, .val (.int .i64) .leaf)], 3⟩ | _ => none
def ja_spec_ByOk : Nat → Option Ann := fun | 6 => some ⟨[(0, .val (.sl .str) (.sl (.sha [1])))], 3⟩ | _ => none
def cs_spec_ByOk (k : Nat) : List (FuncId × Con) := [(113, c_spec_NameOk k), (114, c_spec_InOrder k)]
set_option maxRecDepth 1000000 in
theorem e_spec_ByOk (k : Nat) (x) : evFn2 (mkCx TT (cs_spec_ByOk k) la_spec_ByOk ja_spec_ByOk k) ps_spec_ByOk rs_spec_ByOk Try.f100 x = F_spec_ByOk k x := by kernel_rfl
set_option maxRecDepth 1000000 in
theorem m_spec_ByOk (k : Nat) : Meets Try.prog 100 (c_spec_ByOk k) := meets_ev TTok mixed (cts := cs_spec_ByOk k) ⟨m_spec_NameOk k, m_spec_InOrder k, trivial⟩ Try.func100 (by kernel_rfl) (by kernel_rfl) (e_spec_ByOk k)
abbrev ps_spec_ConfOk : List PK := [.val tConf (.pair .leaf (.pair .leaf (.pair .leaf (.pair .leaf (.pair .leaf .shr)))))]
abbrev rs_spec_ConfOk : List RK := [.val .bool .leaf]
def c_spec_ConfOk (k : Nat) : Con := ⟨ps_spec_ConfOk, rs_spec_ConfOk, F_spec_ConfOk k⟩
def la_spec_ConfOk : Nat → Option Ann := fun _ => none
def ja_spec_ConfOk : Nat → Option Ann := fun _ => none
def cs_spec_ConfOk (k : Nat) : List (FuncId × Con) := [(99, c_spec_l1In k), (100, c_spec_ByOk k)]
set_option maxRecDepth 1000000 in
theorem e_spec_ConfOk (k : Nat) (x) : evFn2 (mkCx TT (cs_spec_ConfOk k) la_spec_ConfOk ja_spec_ConfOk k) ps_spec_ConfOk rs_spec_ConfOk Try.f61 x = F_spec_ConfOk k x := by kernel_rfl
set_option maxRecDepth 1000000 in
theorem m_spec_ConfOk (k : Nat) : Meets Try.prog 61 (c_spec_ConfOk k) := meets_ev TTok mixed (cts := cs_spec_ConfOk k) ⟨m_spec_l1In k, m_spec_ByOk k, trivial⟩ Try.func61 (by kernel_rfl) (by kernel_rfl) (e_spec_ConfOk k)
abbrev ps_spec_l13Copy : List PK := [.val tConf (.pair .leaf (.pair .leaf (.pair .leaf (.pair .leaf (.pair .leaf .shr)))))]
abbrev rs_spec_l13Copy : List RK := [.val tConf (.pair .leaf (.pair .leaf (.pair .leaf (.pair .leaf (.pair .leaf .own)))))]
def c_spec_l13Copy (k : Nat) : Con := ⟨ps_spec_l13Copy, rs_spec_l13Copy, F_spec_l13Copy k⟩
def la_spec_l13Copy : Nat → Option Ann := fun _ => none
def ja_spec_l13Copy : Nat → Option Ann := fun _ => none
def cs_spec_l13Copy (k : Nat) : List (FuncId × Con) := []
set_option maxRecDepth 1000000 in
theorem e_spec_l13Copy (k : Nat) (x) : evFn2 (mkCx TT (cs_spec_l13Copy k) la_spec_l13Copy ja_spec_l13Copy k) ps_spec_l13Copy rs_spec_l13Copy Try.f62 x = F_spec_l13Copy k x := by kernel_rfl
set_option maxRecDepth 1000000 in
theorem m_spec_l13Copy (k : Nat) : Meets Try.prog 62 (c_spec_l13Copy k) := meets_ev TTok mixed (cts := cs_spec_l13Copy k) trivial Try.func62 (by kernel_rfl) (by kernel_rfl) (e_spec_l13Copy k)
abbrev ps_spec_ModelNew : List PK := [.val tConf (.pair .leaf (.pair .leaf (.pair .leaf (.pair .leaf (.pair .leaf .shr)))))]
abbrev rs_spec_ModelNew : List RK := [.val tModel (.pair (.pair .leaf (.pair .leaf (.pair .leaf (.pair .leaf (.pair .leaf .own))))) (.pair .own (.pair .own (.pair .own (.pair .own .leaf)))))]
def c_spec_ModelNew (k : Nat) : Con := ⟨ps_spec_ModelNew, rs_spec_ModelNew, F_spec_ModelNew k⟩
def la_spec_ModelNew : Nat → Option Ann := fun | 5 => some ⟨[(1, .box 3 tConf (.pair .leaf (.pair .leaf (.pair .leaf (.pair .leaf (.pair .leaf (.sl (.sha [1])))))))), (2, .box 4 tModel (.pair (.pair .leaf (.pair .leaf (.pair .leaf (.pair .leaf (.pair .leaf (.sl (.sha []))))))) (.pair (.sl (.sha [])) (.pair (.sl (.sha [])) (.pair (.sl (.sha [])) (.pair (.sl (.sha [])) .leaf)))))), (3, .box 5 tModel (.pair (.pair .leaf (.pair .leaf (.pair .leaf (.pair .leaf (.pair .leaf (.sl (.row 6 [6] true))))))) (.pair (.sl (.sha [])) (.pair (.sl (.row 7 [7] true)) (.pair (.sl (.sha [])) (.pair (.sl (.sha [])) .leaf)))))), (4, .val (.int .i64) .leaf)], 8⟩ | _ => none
def ja_spec_ModelNew : Nat → Option Ann := fun _ => none
def cs_spec_ModelNew (k : Nat) : List (FuncId × Con) := [(61, c_spec_ConfOk k), (62, c_spec_l13Copy k)]
set_option maxRecDepth 1000000 in
theorem e_spec_ModelNew (k : Nat) (x) : evFn2 (mkCx TT (cs_spec_ModelNew k) la_spec_ModelNew ja_spec_ModelNew k) ps_spec_ModelNew rs_spec_ModelNew Try.f25 x = F_spec_ModelNew k x := by kernel_rfl
set_option maxRecDepth 1000000 in
theorem m_spec_ModelNew (k : Nat) : Meets Try.prog 25 (c_spec_ModelNew k) := meets_ev TTok mixed (cts := cs_spec_ModelNew k) ⟨m_spec_ConfOk k, m_spec_l13Copy k, trivial⟩ Try.func25 (by kernel_rfl) (by kernel_rfl) (e_spec_ModelNew k)
abbrev ps_impl_in : List PK := [.val (.int .i64) .leaf, .val (.int .i64) .leaf, .val (.int .i64) .leaf]
abbrev rs_impl_in : List RK := [.val .bool .leaf]
def c_impl_in (k : Nat) : Con := ⟨ps_impl_in, rs_impl_in, F_impl_in k⟩
def la_impl_in : Nat → Option Ann := fun _ => none
def ja_impl_in : Nat → Option Ann := fun _ => none
def cs_impl_in (k : Nat) : List (FuncId × Con) := []
set_option maxRecDepth 1000000 in
theorem e_impl_in (k : Nat) (x) : evFn2 (mkCx TT (cs_impl_in k) la_impl_in ja_impl_in k) ps_impl_in rs_impl_in Try.f101 x = F_impl_in k x := by kernel_rfl
set_option maxRecDepth 1000000 in
theorem m_impl_in (k : Nat) : Meets Try.prog 101 (c_impl_in k) := meets_ev TTok mixed (cts := cs_impl_in k) trivial Try.func101 (by kernel_rfl) (by kernel_rfl) (e_impl_in k)
abbrev ps_impl_NameOk : List PK := [.val .str .leaf]
abbrev rs_impl_NameOk : List RK := [.val .bool .leaf]
def c_impl_NameOk (k : Nat) : Con := ⟨ps_impl_NameOk, rs_impl_NameOk, F_impl_NameOk k⟩
def la_impl_NameOk : Nat → Option Ann := fun | 4 => some ⟨[(0, .val .str .leaf), (3, .val (.int .i64) .leaf)], 3⟩ | _ => none
def ja_impl_NameOk : Nat → Option Ann := fun _ => none
def cs_impl_NameOk (k : Nat) : List (FuncId × Con) := [(101, c_impl_in k)]
set_option maxRecDepth 1000000 in
theorem e_impl_NameOk (k : Nat) (x) : evFn2 (mkCx TT (cs_impl_NameOk k) la_impl_NameOk ja_impl_NameOk k) ps_impl_NameOk rs_impl_NameOk Try.f115 x = F_impl_NameOk k x := by kernel_rfl
set_option maxRecDepth 1000000 in
theorem m_impl_NameOk (k : Nat) : Meets Try.prog 115 (c_impl_NameOk k) := meets_ev TTok mixed (cts := cs_impl_NameOk k) ⟨m_impl_in k, trivial⟩ Try.func115 (by kernel_rfl) (by kernel_rfl) (e_impl_NameOk k)
abbrev ps_impl_InOrder : List PK := [.val (.sl .str) .shr]
abbrev rs_impl_InOrder : List RK := [.val .bool .leaf]
def c_impl_InOrder (k : Nat) : Con := ⟨ps_impl_InOrder, rs_impl_InOrder, F_impl_InOrder k⟩
def la_impl_InOrder : Nat → Option Ann := fun | 2 => some ⟨[(0, .val (.sl .str) (.sl (.sha [1]))), (3, .val (.int .i64) .leaf)], 3⟩ | _ => none
def ja_impl_InOrder : Nat → Option Ann := fun _ => none
def cs_impl_InOrder (k : Nat) : List (FuncId × Con) := []
set_option maxRecDepth 1000000 in
theorem e_impl_InOrder (k : Nat) (x) : evFn2 (mkCx TT (cs_impl_InOrder k) la_impl_InOrder ja_impl_InOrder k) ps_impl_InOrder rs_impl_InOrder Try.f116 x = F_impl_InOrder k x := by kernel_rfl
set_option maxRecDepth 1000000 in
theorem m_impl_InOrder (k : Nat) : Meets Try.prog 116 (c_impl_InOrder k) := meets_ev TTok mixed (cts := cs_impl_InOrder k) trivial Try.func116 (by kernel_rfl) (by kernel_rfl) (e_impl_InOrder k)
abbrev ps_impl_ByOk : List PK := [.val (.sl .str) .shr]
abbrev rs_impl_ByOk : List RK := [.val .bool .leaf]
def c_impl_ByOk (k : Nat) : Con := ⟨ps_impl_ByOk, rs_impl_ByOk, F_impl_ByOk k⟩
def la_impl_ByOk : Nat → Option Ann := fun | 2 => some ⟨[(0, .val (.sl .str) (.sl (.sha [1]))), (5, .val (.sl .str) (.sl (.sha [1]))), (6, .val (.int .i64) .leaf), (7, .val (.int .i64) .leaf)], 3⟩ | _ => none
def ja_impl_ByOk : Nat → Option Ann := fun | 7 => some ⟨[(0, .val (.sl .str) (.sl (.sha [1])))], 3⟩ | _ => none
def cs_impl_ByOk (k : Nat) : List (FuncId × Con) := [(115, c_impl_NameOk k), (116, c_impl_InOrder k)]
set_option maxRecDepth 1000000 in
theorem e_impl_ByOk (k : Nat) (x) : evFn2 (mkCx TT (cs_impl_ByOk k) la_impl_ByOk ja_impl_ByOk k) ps_impl_ByOk rs_impl_ByOk Try.f102 x = F_impl_ByOk k x := by kernel_rfl
set_option maxRecDepth 1000000 in
theorem m_impl_ByOk (k : Nat) : Meets Try.prog 102 (c_impl_ByOk k) := meets_ev TTok mixed (cts := cs_impl_ByOk k) ⟨m_impl_NameOk k, m_impl_InOrder k, trivial⟩ Try.func102 (by kernel_rfl) (by kernel_rfl) (e_impl_ByOk k)
abbrev ps_impl_ConfOk : List PK := [.val tConf (.pair .leaf (.pair .leaf (.pair .leaf (.pair .leaf (.pair .leaf .shr)))))]
abbrev rs_impl_ConfOk : List RK := [.val .bool .leaf]
def c_impl_ConfOk (k : Nat) : Con := ⟨ps_impl_ConfOk, rs_impl_ConfOk, F_impl_ConfOk k⟩
def la_impl_ConfOk : Nat → Option Ann := fun _ => none
def ja_impl_ConfOk : Nat → Option Ann := fun _ => none
def cs_impl_ConfOk (k : Nat) : List (FuncId × Con) := [(101, c_impl_in k), (102, c_impl_ByOk k)]
set_option maxRecDepth 1000000 in
theorem e_impl_ConfOk (k : Nat) (x) : evFn2 (mkCx TT (cs_impl_ConfOk k) la_impl_ConfOk ja_impl_ConfOk k) ps_impl_ConfOk rs_impl_ConfOk Try.f64 x = F_impl_ConfOk k x := by kernel_rfl
set_option maxRecDepth 1000000 in
theorem m_impl_ConfOk (k : Nat) : Meets Try.prog 64 (c_impl_ConfOk k) := meets_ev TTok mixed (cts := cs_impl_ConfOk k) ⟨m_impl_in k, m_impl_ByOk k, trivial⟩ Try.func64 (by kernel_rfl) (by kernel_rfl) (e_impl_ConfOk k)
abbrev ps_impl_copyConf : List PK := [.val tConf (.pair .leaf (.pair .leaf (.pair .leaf (.pair .leaf (.pair .leaf .shr)))))]
abbrev rs_impl_copyConf : List RK := [.val tConf (.pair .leaf (.pair .leaf (.pair .leaf (.pair .leaf (.pair .leaf .own)))))]
def c_impl_copyConf (k : Nat) : Con := ⟨ps_impl_copyConf, rs_impl_copyConf, F_impl_copyConf k⟩
def la_impl_copyConf : Nat → Option Ann := fun _ => none
def ja_impl_copyConf : Nat → Option Ann := fun _ => none
def cs_impl_copyConf (k : Nat) : List (FuncId × Con) := []
set_option maxRecDepth 1000000 in
theorem e_impl_copyConf (k : Nat) (x) : evFn2 (mkCx TT (cs_impl_copyConf k) la_impl_copyConf ja_impl_copyConf k) ps_impl_copyConf rs_impl_copyConf Try.f65 x = F_impl_copyConf k x := by kernel_rfl
set_option maxRecDepth 1000000 in
theorem m_impl_copyConf (k : Nat) : Meets Try.prog 65 (c_impl_copyConf k) := meets_ev TTok mixed (cts := cs_impl_copyConf k) trivial Try.func65 (by kernel_rfl) (by kernel_rfl) (e_impl_copyConf k)
abbrev ps_impl_ModelNew : List PK := [.val tConf (.pair .leaf (.pair .leaf (.pair .leaf (.pair .leaf (.pair .leaf .shr)))))]
abbrev rs_impl_ModelNew : List RK := [.val tModel (.pair (.pair .leaf (.pair .leaf (.pair .leaf (.pair .leaf (.pair .leaf .own))))) (.pair .own (.pair .own (.pair .own (.pair .own .leaf)))))]
def c_impl_ModelNew (k : Nat) : Con := ⟨ps_impl_ModelNew, rs_impl_ModelNew, F_impl_ModelNew k⟩
def la_impl_ModelNew : Nat → Option Ann := fun _ => none
def ja_impl_ModelNew : Nat → Option Ann := fun _ => none
def cs_impl_ModelNew (k : Nat) : List (FuncId × Con) := [(64, c_impl_ConfOk k), (65, c_impl_copyConf k)]
set_option maxRecDepth 1000000 in
theorem e_impl_ModelNew (k : Nat) (x) : evFn2 (mkCx TT (cs_impl_ModelNew k) la_impl_ModelNew ja_impl_ModelNew k) ps_impl_ModelNew rs_impl_ModelNew Try.f27 x = F_impl_ModelNew k x := by kernel_rfl
set_option maxRecDepth 1000000 in
theorem m_impl_ModelNew (k : Nat) : Meets Try.prog 27 (c_impl_ModelNew k) := meets_ev TTok mixed (cts := cs_impl_ModelNew k) ⟨m_impl_ConfOk k, m_impl_copyConf k, trivial⟩ Try.func27 (by kernel_rfl) (by kernel_rfl) (e_impl_ModelNew k)
abbrev ps_laws_eqStringS : List PK := [.val (.sl .str) .shr, .val (.sl .str) .shr]
abbrev rs_laws_eqStringS : List RK := [.val .bool .leaf]
def c_laws_eqStringS (k : Nat) : Con := ⟨ps_laws_eqStringS, rs_laws_eqStringS, F_laws_eqStringS k⟩
def la_laws_eqStringS : Nat → Option Ann := fun | 4 => some ⟨[(0, .val (.sl .str) (.sl (.sha [1]))), (1, .val (.sl .str) (.sl (.sha [1]))), (5, .val (.int .i64) .leaf)], 3⟩ | _ => none
def ja_laws_eqStringS : Nat → Option Ann := fun _ => none
def cs_laws_eqStringS (k : Nat) : List (FuncId × Con) := []
set_option maxRecDepth 1000000 in
theorem e_laws_eqStringS (k : Nat) (x) : evFn2 (mkCx TT (cs_laws_eqStringS k) la_laws_eqStringS ja_laws_eqStringS k) ps_laws_eqStringS rs_laws_eqStringS Try.f67 x = F_laws_eqStringS k x := by kernel_rfl
set_option maxRecDepth 1000000 in
theorem m_laws_eqStringS (k : Nat) : Meets Try.prog 67 (c_laws_eqStringS k) := meets_ev TTok mixed (cts := cs_laws_eqStringS k) trivial Try.func67 (by kernel_rfl) (by kernel_rfl) (e_laws_eqStringS k)
abbrev ps_laws_eqConf : List PK := [.val tConf (.pair .leaf (.pair .leaf (.pair .leaf (.pair .leaf (.pair .leaf .shr))))), .val tConf (.pair .leaf (.pair .leaf (.pair .leaf (.pair .leaf (.pair .leaf .shr)))))]
abbrev rs_laws_eqConf : List RK := [.val .bool .leaf]
def c_laws_eqConf (k : Nat) : Con := ⟨ps_laws_eqConf, rs_laws_eqConf, F_laws_eqConf k⟩
def la_laws_eqConf : Nat → Option Ann := fun _ => none
def ja_laws_eqConf : Nat → Option Ann := fun _ => none
def cs_laws_eqConf (k : Nat) : List (FuncId × Con) := [(67, c_laws_eqStringS k)]
set_option maxRecDepth 1000000 in
theorem e_laws_eqConf (k : Nat) (x) : evFn2 (mkCx TT (cs_laws_eqConf k) la_laws_eqConf ja_laws_eqConf k) ps_laws_eqConf rs_laws_eqConf Try.f29 x = F_laws_eqConf k x := by kernel_rfl
set_option maxRecDepth 1000000 in
theorem m_laws_eqConf (k : Nat) : Meets Try.prog 29 (c_laws_eqConf k) := meets_ev TTok mixed (cts := cs_laws_eqConf k) ⟨m_laws_eqStringS k, trivial⟩ Try.func29 (by kernel_rfl) (by kernel_rfl) (e_laws_eqConf k)
abbrev ps_laws_eqSub : List PK := [.val tSub (.pair .shr .leaf), .val tSub (.pair .shr .leaf)]
abbrev rs_laws_eqSub : List RK := [.val .bool .leaf]
def c_laws_eqSub (k : Nat) : Con := ⟨ps_laws_eqSub, rs_laws_eqSub, F_laws_eqSub k⟩
def la_laws_eqSub : Nat → Option Ann := fun _ => none
def ja_laws_eqSub : Nat → Option Ann := fun _ => none
def cs_laws_eqSub (k : Nat) : List (FuncId × Con) := [(51, c_laws_eqAlarmS k)]
set_option maxRecDepth 1000000 in
theorem e_laws_eqSub (k : Nat) (x) : evFn2 (mkCx TT (cs_laws_eqSub k) la_laws_eqSub ja_laws_eqSub k) ps_laws_eqSub rs_laws_eqSub Try.f103 x = F_laws_eqSub k x := by kernel_rfl
set_option maxRecDepth 1000000 in
theorem m_laws_eqSub (k : Nat) : Meets Try.prog 103 (c_laws_eqSub k) := meets_ev TTok mixed (cts := cs_laws_eqSub k) ⟨m_laws_eqAlarmS k, trivial⟩ Try.func103 (by kernel_rfl) (by kernel_rfl) (e_laws_eqSub k)
abbrev ps_laws_eqSubS : List PK := [.val (.sl tSub) .shr, .val (.sl tSub) .shr]
abbrev rs_laws_eqSubS : List RK := [.val .bool .leaf]
def c_laws_eqSubS (k : Nat) : Con := ⟨ps_laws_eqSubS, rs_laws_eqSubS, F_laws_eqSubS k⟩
def la_laws_eqSubS : Nat → Option Ann := fun | 4 => some ⟨[(0, .val (.sl tSub) (.sl (.sha [1]))), (1, .val (.sl tSub) (.sl (.sha [1]))), (5, .val (.int .i64) .leaf)], 3⟩ | _ => none
def ja_laws_eqSubS : Nat → Option Ann := fun _ => none
def cs_laws_eqSubS (k : Nat) : List (FuncId × Con) := [(103, c_laws_eqSub k)]
set_option maxRecDepth 1000000 in
theorem e_laws_eqSubS (k : Nat) (x) : evFn2 (mkCx TT (cs_laws_eqSubS k) la_laws_eqSubS ja_laws_eqSubS k) ps_laws_eqSubS rs_laws_eqSubS Try.f66 x = F_laws_eqSubS k x := by kernel_rfl
set_option maxRecDepth 1000000 in
theorem m_laws_eqSubS (k : Nat) : Meets Try.prog 66 (c_laws_eqSubS k) := meets_ev TTok mixed (cts := cs_laws_eqSubS k) ⟨m_laws_eqSub k, trivial⟩ Try.func66 (by kernel_rfl) (by kernel_rfl) (e_laws_eqSubS k)
abbrev ps_laws_eqModel : List PK := [.val tModel (.pair (.pair .leaf (.pair .leaf (.pair .leaf (.pair .leaf (.pair .leaf .shr))))) (.pair .shr (.pair .shr (.pair .shr (.pair .shr .leaf))))), .val tModel (.pair (.pair .leaf (.pair .leaf (.pair .leaf (.pair .leaf (.pair .leaf .shr))))) (.pair .shr (.pair .shr (.pair .shr (.pair .shr .leaf)))))]
abbrev rs_laws_eqModel : List RK := [.val .bool .leaf]
def c_laws_eqModel (k : Nat) : Con := ⟨ps_laws_eqModel, rs_laws_eqModel, F_laws_eqModel k⟩
def la_laws_eqModel : Nat → Option Ann := fun _ => none
def ja_laws_eqModel : Nat → Option Ann := fun _ => none
def cs_laws_eqModel (k : Nat) : List (FuncId × Con) := [(29, c_laws_eqConf k), (51, c_laws_eqAlarmS k), (66, c_laws_eqSubS k), (21, c_laws_eqGroupS k)]
set_option maxRecDepth 1000000 in
theorem e_laws_eqModel (k : Nat) (x) : evFn2 (mkCx TT (cs_laws_eqModel k) la_laws_eqModel ja_laws_eqModel k) ps_laws_eqModel rs_laws_eqModel Try.f28 x = F_laws_eqModel k x := by kernel_rfl
set_option maxRecDepth 1000000 in
theorem m_laws_eqModel (k : Nat) : Meets Try.prog 28 (c_laws_eqModel k) := meets_ev TTok mixed (cts := cs_laws_eqModel k) ⟨m_laws_eqConf k, m_laws_eqAlarmS k, m_laws_eqSubS k, m_laws_eqGroupS k, trivial⟩ Try.func28 (by kernel_rfl) (by kernel_rfl) (e_laws_eqModel k)
end Vg.Try
