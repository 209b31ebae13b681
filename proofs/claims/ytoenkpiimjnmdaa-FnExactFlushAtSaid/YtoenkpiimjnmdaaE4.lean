/- What the functions compute is what the evaluator says; their contracts. -/
import Derived.Test.YtoenkpiimjnmdaaE3
namespace Vg.Try
open Go Vg Go.Proofs
set_option linter.unusedVariables false
def c_laws_markStringS (k : Nat) : MCon := ⟨(.sl .str), F_laws_markStringS k⟩
def la_laws_markStringS : Nat → Option Ann := fun | 2 => some ⟨[(0, .val (.sl .str) (.sl (.row 3 [3] true))), (1, .val (.int .i64) .leaf), (5, .val (.int .i64) .leaf)], 4⟩ | _ => none
def ja_laws_markStringS : Nat → Option Ann := fun _ => none
def cs_laws_markStringS (k : Nat) : List (FuncId × Con) := [(98, c_laws_markText k)]
def ms_laws_markStringS (k : Nat) : List (FuncId × MCon) := []
set_option maxRecDepth 1000000 in
theorem e_laws_markStringS (k : Nat) (x) (n : Int) : evMk (mkCx TT (cs_laws_markStringS k) la_laws_markStringS ja_laws_markStringS k) (fun f => (ms_laws_markStringS k).lookup f) (.sl .str) Try.f68 x n = F_laws_markStringS k x n := by kernel_rfl
set_option maxRecDepth 1000000 in
theorem m_laws_markStringS (k : Nat) : MMeets Try.prog 68 (c_laws_markStringS k) := mmeets_ev TTok mixed (cts := cs_laws_markStringS k) ⟨m_laws_markText k, trivial⟩ (mts := ms_laws_markStringS k) trivial Try.func68 (by kernel_rfl) (by kernel_rfl) (e_laws_markStringS k)
def c_laws_markConf (k : Nat) : MCon := ⟨tConf, F_laws_markConf k⟩
def la_laws_markConf : Nat → Option Ann := fun _ => none
def ja_laws_markConf : Nat → Option Ann := fun _ => none
def cs_laws_markConf (k : Nat) : List (FuncId × Con) := []
def ms_laws_markConf (k : Nat) : List (FuncId × MCon) := [(68, c_laws_markStringS k)]
set_option maxRecDepth 1000000 in
theorem e_laws_markConf (k : Nat) (x) (n : Int) : evMk (mkCx TT (cs_laws_markConf k) la_laws_markConf ja_laws_markConf k) (fun f => (ms_laws_markConf k).lookup f) tConf Try.f30 x n = F_laws_markConf k x n := by kernel_rfl
set_option maxRecDepth 1000000 in
theorem m_laws_markConf (k : Nat) : MMeets Try.prog 30 (c_laws_markConf k) := mmeets_ev TTok mixed (cts := cs_laws_markConf k) trivial (mts := ms_laws_markConf k) ⟨m_laws_markStringS k, trivial⟩ Try.func30 (by kernel_rfl) (by kernel_rfl) (e_laws_markConf k)
def c_laws_markSubS (k : Nat) : MCon := ⟨(.sl tSub), F_laws_markSubS k⟩
def la_laws_markSubS : Nat → Option Ann := fun | 2 => some ⟨[(0, .val (.sl tSub) (.sl (.row 3 [3] true))), (1, .val (.int .i64) .leaf), (5, .val (.int .i64) .leaf)], 4⟩ | _ => none
def ja_laws_markSubS : Nat → Option Ann := fun _ => none
def cs_laws_markSubS (k : Nat) : List (FuncId × Con) := []
def ms_laws_markSubS (k : Nat) : List (FuncId × MCon) := [(53, c_laws_markAlarmS k)]
set_option maxRecDepth 1000000 in
theorem e_laws_markSubS (k : Nat) (x) (n : Int) : evMk (mkCx TT (cs_laws_markSubS k) la_laws_markSubS ja_laws_markSubS k) (fun f => (ms_laws_markSubS k).lookup f) (.sl tSub) Try.f69 x n = F_laws_markSubS k x n := by kernel_rfl
set_option maxRecDepth 1000000 in
theorem m_laws_markSubS (k : Nat) : MMeets Try.prog 69 (c_laws_markSubS k) := mmeets_ev TTok mixed (cts := cs_laws_markSubS k) trivial (mts := ms_laws_markSubS k) ⟨m_laws_markAlarmS k, trivial⟩ Try.func69 (by kernel_rfl) (by kernel_rfl) (e_laws_markSubS k)
def c_laws_markModel (k : Nat) : MCon := ⟨tModel, F_laws_markModel k⟩
def la_laws_markModel : Nat → Option Ann := fun _ => none
def ja_laws_markModel : Nat → Option Ann := fun _ => none
def cs_laws_markModel (k : Nat) : List (FuncId × Con) := []
def ms_laws_markModel (k : Nat) : List (FuncId × MCon) := [(30, c_laws_markConf k), (53, c_laws_markAlarmS k), (69, c_laws_markSubS k), (22, c_laws_markGroupS k)]
set_option maxRecDepth 1000000 in
theorem e_laws_markModel (k : Nat) (x) (n : Int) : evMk (mkCx TT (cs_laws_markModel k) la_laws_markModel ja_laws_markModel k) (fun f => (ms_laws_markModel k).lookup f) tModel Try.f31 x n = F_laws_markModel k x n := by kernel_rfl
set_option maxRecDepth 1000000 in
theorem m_laws_markModel (k : Nat) : MMeets Try.prog 31 (c_laws_markModel k) := mmeets_ev TTok mixed (cts := cs_laws_markModel k) trivial (mts := ms_laws_markModel k) ⟨m_laws_markConf k, m_laws_markAlarmS k, m_laws_markSubS k, m_laws_markGroupS k, trivial⟩ Try.func31 (by kernel_rfl) (by kernel_rfl) (e_laws_markModel k)
abbrev ps_laws_heldStringS : List PK := [.val (.sl .str) .shr, .val (.int .i64) .leaf]
abbrev rs_laws_heldStringS : List RK := [.val (.int .i64) .leaf]
def c_laws_heldStringS (k : Nat) : Con := ⟨ps_laws_heldStringS, rs_laws_heldStringS, F_laws_heldStringS k⟩
def la_laws_heldStringS : Nat → Option Ann := fun | 2 => some ⟨[(0, .val (.sl .str) (.sl (.sha [1]))), (1, .val (.int .i64) .leaf), (5, .val (.int .i64) .leaf)], 3⟩ | _ => none
def ja_laws_heldStringS : Nat → Option Ann := fun _ => none
def cs_laws_heldStringS (k : Nat) : List (FuncId × Con) := [(98, c_laws_markText k)]
set_option maxRecDepth 1000000 in
theorem e_laws_heldStringS (k : Nat) (x) : evFn2 (mkCx TT (cs_laws_heldStringS k) la_laws_heldStringS ja_laws_heldStringS k) ps_laws_heldStringS rs_laws_heldStringS Try.f104 x = F_laws_heldStringS k x := by kernel_rfl
set_option maxRecDepth 1000000 in
theorem m_laws_heldStringS (k : Nat) : Meets Try.prog 104 (c_laws_heldStringS k) := meets_ev TTok mixed (cts := cs_laws_heldStringS k) ⟨m_laws_markText k, trivial⟩ Try.func104 (by kernel_rfl) (by kernel_rfl) (e_laws_heldStringS k)
abbrev ps_laws_heldConf : List PK := [.val tConf (.pair .leaf (.pair .leaf (.pair .leaf (.pair .leaf (.pair .leaf .shr))))), .val (.int .i64) .leaf]
abbrev rs_laws_heldConf : List RK := [.val (.int .i64) .leaf]
def c_laws_heldConf (k : Nat) : Con := ⟨ps_laws_heldConf, rs_laws_heldConf, F_laws_heldConf k⟩
def la_laws_heldConf : Nat → Option Ann := fun _ => none
def ja_laws_heldConf : Nat → Option Ann := fun _ => none
def cs_laws_heldConf (k : Nat) : List (FuncId × Con) := [(104, c_laws_heldStringS k)]
set_option maxRecDepth 1000000 in
theorem e_laws_heldConf (k : Nat) (x) : evFn2 (mkCx TT (cs_laws_heldConf k) la_laws_heldConf ja_laws_heldConf k) ps_laws_heldConf rs_laws_heldConf Try.f70 x = F_laws_heldConf k x := by kernel_rfl
set_option maxRecDepth 1000000 in
theorem m_laws_heldConf (k : Nat) : Meets Try.prog 70 (c_laws_heldConf k) := meets_ev TTok mixed (cts := cs_laws_heldConf k) ⟨m_laws_heldStringS k, trivial⟩ Try.func70 (by kernel_rfl) (by kernel_rfl) (e_laws_heldConf k)
abbrev ps_laws_heldSubS : List PK := [.val (.sl tSub) .shr, .val (.int .i64) .leaf]
abbrev rs_laws_heldSubS : List RK := [.val (.int .i64) .leaf]
def c_laws_heldSubS (k : Nat) : Con := ⟨ps_laws_heldSubS, rs_laws_heldSubS, F_laws_heldSubS k⟩
def la_laws_heldSubS : Nat → Option Ann := fun | 2 => some ⟨[(0, .val (.sl tSub) (.sl (.sha [1]))), (1, .val (.int .i64) .leaf), (5, .val (.int .i64) .leaf)], 3⟩ | _ => none
def ja_laws_heldSubS : Nat → Option Ann := fun _ => none
def cs_laws_heldSubS (k : Nat) : List (FuncId × Con) := [(55, c_laws_heldAlarmS k)]
set_option maxRecDepth 1000000 in
theorem e_laws_heldSubS (k : Nat) (x) : evFn2 (mkCx TT (cs_laws_heldSubS k) la_laws_heldSubS ja_laws_heldSubS k) ps_laws_heldSubS rs_laws_heldSubS Try.f71 x = F_laws_heldSubS k x := by kernel_rfl
set_option maxRecDepth 1000000 in
theorem m_laws_heldSubS (k : Nat) : Meets Try.prog 71 (c_laws_heldSubS k) := meets_ev TTok mixed (cts := cs_laws_heldSubS k) ⟨m_laws_heldAlarmS k, trivial⟩ Try.func71 (by kernel_rfl) (by kernel_rfl) (e_laws_heldSubS k)
abbrev ps_laws_heldModel : List PK := [.val tModel (.pair (.pair .leaf (.pair .leaf (.pair .leaf (.pair .leaf (.pair .leaf .shr))))) (.pair .shr (.pair .shr (.pair .shr (.pair .shr .leaf))))), .val (.int .i64) .leaf]
abbrev rs_laws_heldModel : List RK := [.val (.int .i64) .leaf]
def c_laws_heldModel (k : Nat) : Con := ⟨ps_laws_heldModel, rs_laws_heldModel, F_laws_heldModel k⟩
def la_laws_heldModel : Nat → Option Ann := fun _ => none
def ja_laws_heldModel : Nat → Option Ann := fun _ => none
def cs_laws_heldModel (k : Nat) : List (FuncId × Con) := [(70, c_laws_heldConf k), (55, c_laws_heldAlarmS k), (71, c_laws_heldSubS k), (23, c_laws_heldGroupS k)]
set_option maxRecDepth 1000000 in
theorem e_laws_heldModel (k : Nat) (x) : evFn2 (mkCx TT (cs_laws_heldModel k) la_laws_heldModel ja_laws_heldModel k) ps_laws_heldModel rs_laws_heldModel Try.f32 x = F_laws_heldModel k x := by kernel_rfl
set_option maxRecDepth 1000000 in
theorem m_laws_heldModel (k : Nat) : Meets Try.prog 32 (c_laws_heldModel k) := meets_ev TTok mixed (cts := cs_laws_heldModel k) ⟨m_laws_heldConf k, m_laws_heldAlarmS k, m_laws_heldSubS k, m_laws_heldGroupS k, trivial⟩ Try.func32 (by kernel_rfl) (by kernel_rfl) (e_laws_heldModel k)
abbrev ps_laws_FnExactModelNew : List PK := [.val tConf (.pair .leaf (.pair .leaf (.pair .leaf (.pair .leaf (.pair .leaf .shr)))))]
abbrev rs_laws_FnExactModelNew : List RK := [.val .bool .leaf]
def c_laws_FnExactModelNew (k : Nat) : Con := ⟨ps_laws_FnExactModelNew, rs_laws_FnExactModelNew, F_laws_FnExactModelNew k⟩
def la_laws_FnExactModelNew : Nat → Option Ann := fun _ => none
def ja_laws_FnExactModelNew : Nat → Option Ann := fun _ => none
def cs_laws_FnExactModelNew (k : Nat) : List (FuncId × Con) := [(24, c_laws_szConf k), (26, c_laws_toConf k), (25, c_spec_ModelNew k), (27, c_impl_ModelNew k), (28, c_laws_eqModel k), (29, c_laws_eqConf k), (32, c_laws_heldModel k)]
def ms_laws_FnExactModelNew (k : Nat) : List (FuncId × MCon) := [(30, c_laws_markConf k), (31, c_laws_markModel k)]
set_option maxRecDepth 1000000 in
theorem e_laws_FnExactModelNew (k : Nat) (x) : evFnM (mkCx TT (cs_laws_FnExactModelNew k) la_laws_FnExactModelNew ja_laws_FnExactModelNew k) (fun f => (ms_laws_FnExactModelNew k).lookup f) ps_laws_FnExactModelNew rs_laws_FnExactModelNew Try.f5 x = F_laws_FnExactModelNew k x := by kernel_rfl
set_option maxRecDepth 1000000 in
theorem m_laws_FnExactModelNew (k : Nat) : Meets Try.prog 5 (c_laws_FnExactModelNew k) := meetsM_ev TTok mixed (cts := cs_laws_FnExactModelNew k) ⟨m_laws_szConf k, m_laws_toConf k, m_spec_ModelNew k, m_impl_ModelNew k, m_laws_eqModel k, m_laws_eqConf k, m_laws_heldModel k, trivial⟩ (mts := ms_laws_FnExactModelNew k) ⟨m_laws_markConf k, m_laws_markModel k, trivial⟩ Try.func5 (by kernel_rfl) (by kernel_rfl) (e_laws_FnExactModelNew k)
abbrev ps_spec_StoreNew : List PK := [.val (.int .i64) .leaf]
abbrev rs_spec_StoreNew : List RK := [.val (.sl tPart) .own]
def c_spec_StoreNew (k : Nat) : Con := ⟨ps_spec_StoreNew, rs_spec_StoreNew, F_spec_StoreNew k⟩
def la_spec_StoreNew : Nat → Option Ann := fun | 2 => some ⟨[(0, .val (.int .i64) .leaf), (3, .val (.sl tPart) (.sl (.row 3 [3] true)))], 4⟩ | _ => none
def ja_spec_StoreNew : Nat → Option Ann := fun _ => none
def cs_spec_StoreNew (k : Nat) : List (FuncId × Con) := []
set_option maxRecDepth 1000000 in
theorem e_spec_StoreNew (k : Nat) (x) : evFn2 (mkCx TT (cs_spec_StoreNew k) la_spec_StoreNew ja_spec_StoreNew k) ps_spec_StoreNew rs_spec_StoreNew Try.f72 x = F_spec_StoreNew k x := by kernel_rfl
set_option maxRecDepth 1000000 in
theorem m_spec_StoreNew (k : Nat) : Meets Try.prog 72 (c_spec_StoreNew k) := meets_ev TTok mixed (cts := cs_spec_StoreNew k) trivial Try.func72 (by kernel_rfl) (by kernel_rfl) (e_spec_StoreNew k)
abbrev ps_spec_WorldNew : List PK := [.val tConf (.pair .leaf (.pair .leaf (.pair .leaf (.pair .leaf (.pair .leaf .shr)))))]
abbrev rs_spec_WorldNew : List RK := [.val tWorld (.pair (.pair .leaf (.pair .leaf (.pair .leaf (.pair .leaf (.pair .leaf .own))))) (.pair .leaf (.pair .leaf (.pair .own (.pair .own (.pair .own (.pair .leaf (.pair .own (.pair .leaf (.pair .own (.pair .own (.pair .own (.pair .own .own)))))))))))))]
def c_spec_WorldNew (k : Nat) : Con := ⟨ps_spec_WorldNew, rs_spec_WorldNew, F_spec_WorldNew k⟩
def la_spec_WorldNew : Nat → Option Ann := fun | 5 => some ⟨[(1, .box 3 tConf (.pair .leaf (.pair .leaf (.pair .leaf (.pair .leaf (.pair .leaf (.sl (.sha [1])))))))), (2, .box 4 tWorld (.pair (.pair .leaf (.pair .leaf (.pair .leaf (.pair .leaf (.pair .leaf (.sl (.sha []))))))) (.pair .leaf (.pair .leaf (.pair (.sl (.sha [])) (.pair (.sl (.sha [])) (.pair (.sl (.sha [])) (.pair .leaf (.pair (.sl (.sha [])) (.pair .leaf (.pair (.sl (.sha [])) (.pair (.sl (.sha [])) (.pair (.sl (.sha [])) (.pair (.sl (.sha [])) (.sl (.sha [])))))))))))))))), (3, .box 5 tWorld (.pair (.pair .leaf (.pair .leaf (.pair .leaf (.pair .leaf (.pair .leaf (.sl (.row 6 [6] true))))))) (.pair .leaf (.pair .leaf (.pair (.sl (.row 7 [7] true)) (.pair (.sl (.row 8 [8] true)) (.pair (.sl (.sha [])) (.pair .leaf (.pair (.sl (.sha [])) (.pair .leaf (.pair (.sl (.sha [])) (.pair (.sl (.sha [])) (.pair (.sl (.sha [])) (.pair (.sl (.sha [])) (.sl (.sha [])))))))))))))))), (4, .val (.int .i64) .leaf)], 9⟩ | 9 => some ⟨[(1, .box 3 tConf (.pair .leaf (.pair .leaf (.pair .leaf (.pair .leaf (.pair .leaf (.sl (.sha [1])))))))), (2, .box 4 tWorld (.pair (.pair .leaf (.pair .leaf (.pair .leaf (.pair .leaf (.pair .leaf (.sl (.sha []))))))) (.pair .leaf (.pair .leaf (.pair (.sl (.sha [])) (.pair (.sl (.sha [])) (.pair (.sl (.sha [])) (.pair .leaf (.pair (.sl (.sha [])) (.pair .leaf (.pair (.sl (.sha [])) (.pair (.sl (.sha [])) (.pair (.sl (.sha [])) (.pair (.sl (.sha [])) (.sl (.sha [])))))))))))))))), (3, .box 5 tWorld (.pair (.pair .leaf (.pair .leaf (.pair .leaf (.pair .leaf (.pair .leaf (.sl (.row 6 [6] true))))))) (.pair .leaf (.pair .leaf (.pair (.sl (.row 7 [7] true)) (.pair (.sl (.row 8 [8] true)) (.pair (.sl (.sha [])) (.pair .leaf (.pair (.sl (.sha [])) (.pair .leaf (.pair (.sl (.sha [])) (.pair (.sl (.sha [])) (.pair (.sl (.sha [])) (.pair (.sl (.row 9 [9] true)) (.sl (.sha [])))))))))))))))), (5, .val (.int .i64) .leaf)], 10⟩ | _ => none
def ja_spec_WorldNew : Nat → Option Ann := fun | 8 => some ⟨[(1, .box 3 tConf (.pair .leaf (.pair .leaf (.pair .leaf (.pair .leaf (.pair .leaf (.sl (.sha [1])))))))), (2, .box 4 tWorld (.pair (.pair .leaf (.pair .leaf (.pair .leaf (.pair .leaf (.pair .leaf (.sl (.sha []))))))) (.pair .leaf (.pair .leaf (.pair (.sl (.sha [])) (.pair (.sl (.sha [])) (.pair (.sl (.sha [])) (.pair .leaf (.pair (.sl (.sha [])) (.pair .leaf (.pair (.sl (.sha [])) (.pair (.sl (.sha [])) (.pair (.sl (.sha [])) (.pair (.sl (.sha [])) (.sl (.sha [])))))))))))))))), (3, .box 5 tWorld (.pair (.pair .leaf (.pair .leaf (.pair .leaf (.pair .leaf (.pair .leaf (.sl (.row 6 [6] true))))))) (.pair .leaf (.pair .leaf (.pair (.sl (.row 7 [7] true)) (.pair (.sl (.row 8 [8] true)) (.pair (.sl (.sha [])) (.pair .leaf (.pair (.sl (.sha [])) (.pair .leaf (.pair (.sl (.sha [])) (.pair (.sl (.sha [])) (.pair (.sl (.sha [])) (.pair (.sl (.sha [])) (.sl (.sha []))))))))))))))))], 9⟩ | _ => none
def cs_spec_WorldNew (k : Nat) : List (FuncId × Con) := [(61, c_spec_ConfOk k), (62, c_spec_l13Copy k), (72, c_spec_StoreNew k)]
set_option maxRecDepth 1000000 in
theorem e_spec_WorldNew (k : Nat) (x) : evFn2 (mkCx TT (cs_spec_WorldNew k) la_spec_WorldNew ja_spec_WorldNew k) ps_spec_WorldNew rs_spec_WorldNew Try.f33 x = F_spec_WorldNew k x := by kernel_rfl
set_option maxRecDepth 1000000 in
theorem m_spec_WorldNew (k : Nat) : Meets Try.prog 33 (c_spec_WorldNew k) := meets_ev TTok mixed (cts := cs_spec_WorldNew k) ⟨m_spec_ConfOk k, m_spec_l13Copy k, m_spec_StoreNew k, trivial⟩ Try.func33 (by kernel_rfl) (by kernel_rfl) (e_spec_WorldNew k)
abbrev ps_impl_StoreNew : List PK := [.val (.int .i64) .leaf]
abbrev rs_impl_StoreNew : List RK := [.val (.sl tPart) .own]
def c_impl_StoreNew (k : Nat) : Con := ⟨ps_impl_StoreNew, rs_impl_StoreNew, F_impl_StoreNew k⟩
def la_impl_StoreNew : Nat → Option Ann := fun | 5 => some ⟨[(3, .val (.sl tPart) (.sl (.row 3 [3] true))), (7, .val (.int .i64) .leaf), (8, .val (.int .i64) .leaf)], 4⟩ | _ => none
def ja_impl_StoreNew : Nat → Option Ann := fun | 3 => some ⟨[(0, .val (.int .i64) .leaf)], 3⟩ | _ => none
def cs_impl_StoreNew (k : Nat) : List (FuncId × Con) := [(101, c_impl_in k)]
set_option maxRecDepth 1000000 in
theorem e_impl_StoreNew (k : Nat) (x) : evFn2 (mkCx TT (cs_impl_StoreNew k) la_impl_StoreNew ja_impl_StoreNew k) ps_impl_StoreNew rs_impl_StoreNew Try.f73 x = F_impl_StoreNew k x := by kernel_rfl
set_option maxRecDepth 1000000 in
theorem m_impl_StoreNew (k : Nat) : Meets Try.prog 73 (c_impl_StoreNew k) := meets_ev TTok mixed (cts := cs_impl_StoreNew k) ⟨m_impl_in k, trivial⟩ Try.func73 (by kernel_rfl) (by kernel_rfl) (e_impl_StoreNew k)
abbrev ps_impl_WorldNew : List PK := [.val tConf (.pair .leaf (.pair .leaf (.pair .leaf (.pair .leaf (.pair .leaf .shr)))))]
abbrev rs_impl_WorldNew : List RK := [.val tWorld (.pair (.pair .leaf (.pair .leaf (.pair .leaf (.pair .leaf (.pair .leaf .own))))) (.pair .leaf (.pair .leaf (.pair .own (.pair .own (.pair .own (.pair .leaf (.pair .own (.pair .leaf (.pair .own (.pair .own (.pair .own (.pair .own .own)))))))))))))]
def c_impl_WorldNew (k : Nat) : Con := ⟨ps_impl_WorldNew, rs_impl_WorldNew, F_impl_WorldNew k⟩
def la_impl_WorldNew : Nat → Option Ann := fun _ => none
def ja_impl_WorldNew : Nat → Option Ann := fun _ => none
def cs_impl_WorldNew (k : Nat) : List (FuncId × Con) := [(64, c_impl_ConfOk k), (65, c_impl_copyConf k), (73, c_impl_StoreNew k)]
set_option maxRecDepth 1000000 in
theorem e_impl_WorldNew (k : Nat) (x) : evFn2 (mkCx TT (cs_impl_WorldNew k) la_impl_WorldNew ja_impl_WorldNew k) ps_impl_WorldNew rs_impl_WorldNew Try.f34 x = F_impl_WorldNew k x := by kernel_rfl
set_option maxRecDepth 1000000 in
theorem m_impl_WorldNew (k : Nat) : Meets Try.prog 34 (c_impl_WorldNew k) := meets_ev TTok mixed (cts := cs_impl_WorldNew k) ⟨m_impl_ConfOk k, m_impl_copyConf k, m_impl_StoreNew k, trivial⟩ Try.func34 (by kernel_rfl) (by kernel_rfl) (e_impl_WorldNew k)
abbrev ps_laws_eqChain : List PK := [.val tChain (.pair .leaf .shr), .val tChain (.pair .leaf .shr)]
abbrev rs_laws_eqChain : List RK := [.val .bool .leaf]
def c_laws_eqChain (k : Nat) : Con := ⟨ps_laws_eqChain, rs_laws_eqChain, F_laws_eqChain k⟩
def la_laws_eqChain : Nat → Option Ann := fun _ => none
def ja_laws_eqChain : Nat → Option Ann := fun _ => none
def cs_laws_eqChain (k : Nat) : List (FuncId × Con) := [(51, c_laws_eqAlarmS k)]
set_option maxRecDepth 1000000 in
theorem e_laws_eqChain (k : Nat) (x) : evFn2 (mkCx TT (cs_laws_eqChain k) la_laws_eqChain ja_laws_eqChain k) ps_laws_eqChain rs_laws_eqChain Try.f120 x = F_laws_eqChain k x := by kernel_rfl
set_option maxRecDepth 1000000 in
theorem m_laws_eqChain (k : Nat) : Meets Try.prog 120 (c_laws_eqChain k) := meets_ev TTok mixed (cts := cs_laws_eqChain k) ⟨m_laws_eqAlarmS k, trivial⟩ Try.func120 (by kernel_rfl) (by kernel_rfl) (e_laws_eqChain k)
abbrev ps_laws_eqChainS : List PK := [.val (.sl tChain) .shr, .val (.sl tChain) .shr]
abbrev rs_laws_eqChainS : List RK := [.val .bool .leaf]
def c_laws_eqChainS (k : Nat) : Con := ⟨ps_laws_eqChainS, rs_laws_eqChainS, F_laws_eqChainS k⟩
def la_laws_eqChainS : Nat → Option Ann := fun | 4 => some ⟨[(0, .val (.sl tChain) (.sl (.sha [1]))), (1, .val (.sl tChain) (.sl (.sha [1]))), (5, .val (.int .i64) .leaf)], 3⟩ | _ => none
def ja_laws_eqChainS : Nat → Option Ann := fun _ => none
def cs_laws_eqChainS (k : Nat) : List (FuncId × Con) := [(120, c_laws_eqChain k)]
set_option maxRecDepth 1000000 in
theorem e_laws_eqChainS (k : Nat) (x) : evFn2 (mkCx TT (cs_laws_eqChainS k) la_laws_eqChainS ja_laws_eqChainS k) ps_laws_eqChainS rs_laws_eqChainS Try.f117 x = F_laws_eqChainS k x := by kernel_rfl
set_option maxRecDepth 1000000 in
theorem m_laws_eqChainS (k : Nat) : Meets Try.prog 117 (c_laws_eqChainS k) := meets_ev TTok mixed (cts := cs_laws_eqChainS k) ⟨m_laws_eqChain k, trivial⟩ Try.func117 (by kernel_rfl) (by kernel_rfl) (e_laws_eqChainS k)
abbrev ps_laws_eqPart : List PK := [.val tPart (.pair .leaf (.pair .leaf .shr)), .val tPart (.pair .leaf (.pair .leaf .shr))]
abbrev rs_laws_eqPart : List RK := [.val .bool .leaf]
def c_laws_eqPart (k : Nat) : Con := ⟨ps_laws_eqPart, rs_laws_eqPart, F_laws_eqPart k⟩
def la_laws_eqPart : Nat → Option Ann := fun _ => none
def ja_laws_eqPart : Nat → Option Ann := fun _ => none
def cs_laws_eqPart (k : Nat) : List (FuncId × Con) := [(117, c_laws_eqChainS k)]
set_option maxRecDepth 1000000 in
theorem e_laws_eqPart (k : Nat) (x) : evFn2 (mkCx TT (cs_laws_eqPart k) la_laws_eqPart ja_laws_eqPart k) ps_laws_eqPart rs_laws_eqPart Try.f105 x = F_laws_eqPart k x := by kernel_rfl
set_option maxRecDepth 1000000 in
theorem m_laws_eqPart (k : Nat) : Meets Try.prog 105 (c_laws_eqPart k) := meets_ev TTok mixed (cts := cs_laws_eqPart k) ⟨m_laws_eqChainS k, trivial⟩ Try.func105 (by kernel_rfl) (by kernel_rfl) (e_laws_eqPart k)
abbrev ps_laws_eqPartS : List PK := [.val (.sl tPart) .shr, .val (.sl tPart) .shr]
abbrev rs_laws_eqPartS : List RK := [.val .bool .leaf]
def c_laws_eqPartS (k : Nat) : Con := ⟨ps_laws_eqPartS, rs_laws_eqPartS, F_laws_eqPartS k⟩
def la_laws_eqPartS : Nat → Option Ann := fun | 4 => some ⟨[(0, .val (.sl tPart) (.sl (.sha [1]))), (1, .val (.sl tPart) (.sl (.sha [1]))), (5, .val (.int .i64) .leaf)], 3⟩ | _ => none
def ja_laws_eqPartS : Nat → Option Ann := fun _ => none
def cs_laws_eqPartS (k : Nat) : List (FuncId × Con) := [(105, c_laws_eqPart k)]
set_option maxRecDepth 1000000 in
theorem e_laws_eqPartS (k : Nat) (x) : evFn2 (mkCx TT (cs_laws_eqPartS k) la_laws_eqPartS ja_laws_eqPartS k) ps_laws_eqPartS rs_laws_eqPartS Try.f74 x = F_laws_eqPartS k x := by kernel_rfl
set_option maxRecDepth 1000000 in
theorem m_laws_eqPartS (k : Nat) : Meets Try.prog 74 (c_laws_eqPartS k) := meets_ev TTok mixed (cts := cs_laws_eqPartS k) ⟨m_laws_eqPart k, trivial⟩ Try.func74 (by kernel_rfl) (by kernel_rfl) (e_laws_eqPartS k)
abbrev ps_laws_eqTimer : List PK := [.val tTimer (.pair .leaf .leaf), .val tTimer (.pair .leaf .leaf)]
abbrev rs_laws_eqTimer : List RK := [.val .bool .leaf]
def c_laws_eqTimer (k : Nat) : Con := ⟨ps_laws_eqTimer, rs_laws_eqTimer, F_laws_eqTimer k⟩
def la_laws_eqTimer : Nat → Option Ann := fun _ => none
def ja_laws_eqTimer : Nat → Option Ann := fun _ => none
def cs_laws_eqTimer (k : Nat) : List (FuncId × Con) := []
set_option maxRecDepth 1000000 in
theorem e_laws_eqTimer (k : Nat) (x) : evFn2 (mkCx TT (cs_laws_eqTimer k) la_laws_eqTimer ja_laws_eqTimer k) ps_laws_eqTimer rs_laws_eqTimer Try.f106 x = F_laws_eqTimer k x := by kernel_rfl
set_option maxRecDepth 1000000 in
theorem m_laws_eqTimer (k : Nat) : Meets Try.prog 106 (c_laws_eqTimer k) := meets_ev TTok mixed (cts := cs_laws_eqTimer k) trivial Try.func106 (by kernel_rfl) (by kernel_rfl) (e_laws_eqTimer k)
abbrev ps_laws_eqTimerS : List PK := [.val (.sl tTimer) .shr, .val (.sl tTimer) .shr]
abbrev rs_laws_eqTimerS : List RK := [.val .bool .leaf]
def c_laws_eqTimerS (k : Nat) : Con := ⟨ps_laws_eqTimerS, rs_laws_eqTimerS, F_laws_eqTimerS k⟩
def la_laws_eqTimerS : Nat → Option Ann := fun | 4 => some ⟨[(0, .val (.sl tTimer) (.sl (.sha [1]))), (1, .val (.sl tTimer) (.sl (.sha [1]))), (5, .val (.int .i64) .leaf)], 3⟩ | _ => none
def ja_laws_eqTimerS : Nat → Option Ann := fun _ => none
def cs_laws_eqTimerS (k : Nat) : List (FuncId × Con) := [(106, c_laws_eqTimer k)]
set_option maxRecDepth 1000000 in
theorem e_laws_eqTimerS (k : Nat) (x) : evFn2 (mkCx TT (cs_laws_eqTimerS k) la_laws_eqTimerS ja_laws_eqTimerS k) ps_laws_eqTimerS rs_laws_eqTimerS Try.f75 x = F_laws_eqTimerS k x := by kernel_rfl
set_option maxRecDepth 1000000 in
theorem m_laws_eqTimerS (k : Nat) : Meets Try.prog 75 (c_laws_eqTimerS k) := meets_ev TTok mixed (cts := cs_laws_eqTimerS k) ⟨m_laws_eqTimer k, trivial⟩ Try.func75 (by kernel_rfl) (by kernel_rfl) (e_laws_eqTimerS k)
abbrev ps_laws_eqBatchS : List PK := [.val (.sl tBatch) .shr, .val (.sl tBatch) .shr]
abbrev rs_laws_eqBatchS : List RK := [.val .bool .leaf]
def c_laws_eqBatchS (k : Nat) : Con := ⟨ps_laws_eqBatchS, rs_laws_eqBatchS, F_laws_eqBatchS k⟩
def la_laws_eqBatchS : Nat → Option Ann := fun | 4 => some ⟨[(0, .val (.sl tBatch) (.sl (.sha [1]))), (1, .val (.sl tBatch) (.sl (.sha [1]))), (5, .val (.int .i64) .leaf)], 3⟩ | _ => none
def ja_laws_eqBatchS : Nat → Option Ann := fun _ => none
def cs_laws_eqBatchS (k : Nat) : List (FuncId × Con) := [(12, c_laws_eqBatch k)]
set_option maxRecDepth 1000000 in
theorem e_laws_eqBatchS (k : Nat) (x) : evFn2 (mkCx TT (cs_laws_eqBatchS k) la_laws_eqBatchS ja_laws_eqBatchS k) ps_laws_eqBatchS rs_laws_eqBatchS Try.f76 x = F_laws_eqBatchS k x := by kernel_rfl
set_option maxRecDepth 1000000 in
theorem m_laws_eqBatchS (k : Nat) : Meets Try.prog 76 (c_laws_eqBatchS k) := meets_ev TTok mixed (cts := cs_laws_eqBatchS k) ⟨m_laws_eqBatch k, trivial⟩ Try.func76 (by kernel_rfl) (by kernel_rfl) (e_laws_eqBatchS k)
abbrev ps_laws_eqIntS : List PK := [.val (.sl (.int .i64)) .shr, .val (.sl (.int .i64)) .shr]
abbrev rs_laws_eqIntS : List RK := [.val .bool .leaf]
def c_laws_eqIntS (k : Nat) : Con := ⟨ps_laws_eqIntS, rs_laws_eqIntS, F_laws_eqIntS k⟩
def la_laws_eqIntS : Nat → Option Ann := fun | 4 => some ⟨[(0, .val (.sl (.int .i64)) (.sl (.sha [1]))), (1, .val (.sl (.int .i64)) (.sl (.sha [1]))), (5, .val (.int .i64) .leaf)], 3⟩ | _ => none
def ja_laws_eqIntS : Nat → Option Ann := fun _ => none
def cs_laws_eqIntS (k : Nat) : List (FuncId × Con) := []
set_option maxRecDepth 1000000 in
theorem e_laws_eqIntS (k : Nat) (x) : evFn2 (mkCx TT (cs_laws_eqIntS k) la_laws_eqIntS ja_laws_eqIntS k) ps_laws_eqIntS rs_laws_eqIntS Try.f118 x = F_laws_eqIntS k x := by kernel_rfl
set_option maxRecDepth 1000000 in
theorem m_laws_eqIntS (k : Nat) : Meets Try.prog 118 (c_laws_eqIntS k) := meets_ev TTok mixed (cts := cs_laws_eqIntS k) trivial Try.func118 (by kernel_rfl) (by kernel_rfl) (e_laws_eqIntS k)
abbrev ps_laws_eqTask : List PK := [.val tTask (.pair .leaf (.pair .leaf (.pair (.pair .shr (.pair .leaf (.pair .leaf .leaf))) (.pair .shr (.pair .leaf (.pair .shr (.pair .shr (.pair .leaf .leaf)))))))), .val tTask (.pair .leaf (.pair .leaf (.pair (.pair .shr (.pair .leaf (.pair .leaf .leaf))) (.pair .shr (.pair .leaf (.pair .shr (.pair .shr (.pair .leaf .leaf))))))))]
abbrev rs_laws_eqTask : List RK := [.val .bool .leaf]
def c_laws_eqTask (k : Nat) : Con := ⟨ps_laws_eqTask, rs_laws_eqTask, F_laws_eqTask k⟩
def la_laws_eqTask : Nat → Option Ann := fun _ => none
def ja_laws_eqTask : Nat → Option Ann := fun _ => none
def cs_laws_eqTask (k : Nat) : List (FuncId × Con) := [(97, c_laws_eqAlarm k), (50, c_laws_eqLabelS k), (118, c_laws_eqIntS k), (51, c_laws_eqAlarmS k)]
set_option maxRecDepth 1000000 in
theorem e_laws_eqTask (k : Nat) (x) : evFn2 (mkCx TT (cs_laws_eqTask k) la_laws_eqTask ja_laws_eqTask k) ps_laws_eqTask rs_laws_eqTask Try.f107 x = F_laws_eqTask k x := by kernel_rfl
set_option maxRecDepth 1000000 in
theorem m_laws_eqTask (k : Nat) : Meets Try.prog 107 (c_laws_eqTask k) := meets_ev TTok mixed (cts := cs_laws_eqTask k) ⟨m_laws_eqAlarm k, m_laws_eqLabelS k, m_laws_eqIntS k, m_laws_eqAlarmS k, trivial⟩ Try.func107 (by kernel_rfl) (by kernel_rfl) (e_laws_eqTask k)
abbrev ps_laws_eqTaskS : List PK := [.val (.sl tTask) .shr, .val (.sl tTask) .shr]
abbrev rs_laws_eqTaskS : List RK := [.val .bool .leaf]
def c_laws_eqTaskS (k : Nat) : Con := ⟨ps_laws_eqTaskS, rs_laws_eqTaskS, F_laws_eqTaskS k⟩
def la_laws_eqTaskS : Nat → Option Ann := fun | 4 => some ⟨[(0, .val (.sl tTask) (.sl (.sha [1]))), (1, .val (.sl tTask) (.sl (.sha [1]))), (5, .val (.int .i64) .leaf)], 3⟩ | _ => none
def ja_laws_eqTaskS : Nat → Option Ann := fun _ => none
def cs_laws_eqTaskS (k : Nat) : List (FuncId × Con) := [(107, c_laws_eqTask k)]
set_option maxRecDepth 1000000 in
theorem e_laws_eqTaskS (k : Nat) (x) : evFn2 (mkCx TT (cs_laws_eqTaskS k) la_laws_eqTaskS ja_laws_eqTaskS k) ps_laws_eqTaskS rs_laws_eqTaskS Try.f77 x = F_laws_eqTaskS k x := by kernel_rfl
set_option maxRecDepth 1000000 in
theorem m_laws_eqTaskS (k : Nat) : Meets Try.prog 77 (c_laws_eqTaskS k) := meets_ev TTok mixed (cts := cs_laws_eqTaskS k) ⟨m_laws_eqTask k, trivial⟩ Try.func77 (by kernel_rfl) (by kernel_rfl) (e_laws_eqTaskS k)
abbrev ps_laws_eqDeed : List PK := [.val tDeed (.pair .leaf (.pair .leaf (.pair (.pair .shr (.pair .leaf (.pair .leaf .leaf))) (.pair .shr (.pair .leaf (.pair .leaf (.pair .leaf (.pair .shr (.pair .leaf (.pair .leaf (.pair .leaf .leaf))))))))))), .val tDeed (.pair .leaf (.pair .leaf (.pair (.pair .shr (.pair .leaf (.pair .leaf .leaf))) (.pair .shr (.pair .leaf (.pair .leaf (.pair .leaf (.pair .shr (.pair .leaf (.pair .leaf (.pair .leaf .leaf)))))))))))]
abbrev rs_laws_eqDeed : List RK := [.val .bool .leaf]
def c_laws_eqDeed (k : Nat) : Con := ⟨ps_laws_eqDeed, rs_laws_eqDeed, F_laws_eqDeed k⟩
def la_laws_eqDeed : Nat → Option Ann := fun _ => none
def ja_laws_eqDeed : Nat → Option Ann := fun _ => none
def cs_laws_eqDeed (k : Nat) : List (FuncId × Con) := [(97, c_laws_eqAlarm k), (50, c_laws_eqLabelS k), (51, c_laws_eqAlarmS k)]
set_option maxRecDepth 1000000 in
theorem e_laws_eqDeed (k : Nat) (x) : evFn2 (mkCx TT (cs_laws_eqDeed k) la_laws_eqDeed ja_laws_eqDeed k) ps_laws_eqDeed rs_laws_eqDeed Try.f108 x = F_laws_eqDeed k x := by kernel_rfl
set_option maxRecDepth 1000000 in
theorem m_laws_eqDeed (k : Nat) : Meets Try.prog 108 (c_laws_eqDeed k) := meets_ev TTok mixed (cts := cs_laws_eqDeed k) ⟨m_laws_eqAlarm k, m_laws_eqLabelS k, m_laws_eqAlarmS k, trivial⟩ Try.func108 (by kernel_rfl) (by kernel_rfl) (e_laws_eqDeed k)
abbrev ps_laws_eqDeedS : List PK := [.val (.sl tDeed) .shr, .val (.sl tDeed) .shr]
abbrev rs_laws_eqDeedS : List RK := [.val .bool .leaf]
def c_laws_eqDeedS (k : Nat) : Con := ⟨ps_laws_eqDeedS, rs_laws_eqDeedS, F_laws_eqDeedS k⟩
def la_laws_eqDeedS : Nat → Option Ann := fun | 4 => some ⟨[(0, .val (.sl tDeed) (.sl (.sha [1]))), (1, .val (.sl tDeed) (.sl (.sha [1]))), (5, .val (.int .i64) .leaf)], 3⟩ | _ => none
def ja_laws_eqDeedS : Nat → Option Ann := fun _ => none
def cs_laws_eqDeedS (k : Nat) : List (FuncId × Con) := [(108, c_laws_eqDeed k)]
set_option maxRecDepth 1000000 in
theorem e_laws_eqDeedS (k : Nat) (x) : evFn2 (mkCx TT (cs_laws_eqDeedS k) la_laws_eqDeedS ja_laws_eqDeedS k) ps_laws_eqDeedS rs_laws_eqDeedS Try.f78 x = F_laws_eqDeedS k x := by kernel_rfl
set_option maxRecDepth 1000000 in
theorem m_laws_eqDeedS (k : Nat) : Meets Try.prog 78 (c_laws_eqDeedS k) := meets_ev TTok mixed (cts := cs_laws_eqDeedS k) ⟨m_laws_eqDeed k, trivial⟩ Try.func78 (by kernel_rfl) (by kernel_rfl) (e_laws_eqDeedS k)
end Vg.Try
