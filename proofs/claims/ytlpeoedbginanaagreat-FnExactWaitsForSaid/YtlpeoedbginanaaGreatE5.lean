/- What the functions compute is what the evaluator says; their contracts. -/
import Derived.Test.YtlpeoedbginanaaGreatE4
namespace Vg.Tryz
open Go Vg Go.Proofs
set_option linter.unusedVariables false
abbrev ps_spec_HeapOk : List PK := [.val (.sl tTimer) .shr]
abbrev rs_spec_HeapOk : List RK := [.val .bool .leaf]
def c_spec_HeapOk (k : Nat) : Con := ⟨ps_spec_HeapOk, rs_spec_HeapOk, F_spec_HeapOk k⟩
def la_spec_HeapOk : Nat → Option Ann := fun | 2 => some ⟨[(0, .val (.sl tTimer) (.sl (.sha [1]))), (3, .val (.int .i64) .leaf)], 3⟩ | _ => none
def ja_spec_HeapOk : Nat → Option Ann := fun | 6 => some ⟨[(0, .val (.sl tTimer) (.sl (.sha [1])))], 3⟩ | _ => none
def cs_spec_HeapOk (k : Nat) : List (FuncId × Con) := [(288, c_spec_Before k)]
set_option maxRecDepth 1000000 in
theorem e_spec_HeapOk (k : Nat) (x) : evFn2 (mkCx TT (cs_spec_HeapOk k) la_spec_HeapOk ja_spec_HeapOk k) ps_spec_HeapOk rs_spec_HeapOk Tryz.f185 x = F_spec_HeapOk k x := by kernel_rfl
set_option maxRecDepth 1000000 in
theorem m_spec_HeapOk (k : Nat) : Meets Tryz.prog 185 (c_spec_HeapOk k) := meets_ev TTok mixed (cts := cs_spec_HeapOk k) ⟨m_spec_Before k, trivial⟩ Tryz.func185 (by kernel_rfl) (by kernel_rfl) (e_spec_HeapOk k)
abbrev ps_spec_NextDue : List PK := [.val tGroup (.pair .leaf (.pair .shr (.pair .leaf (.pair .leaf .shr)))), .val (.int .i64) .leaf, .val (.int .i64) .leaf]
abbrev rs_spec_NextDue : List RK := [.val (.int .i64) .leaf]
def c_spec_NextDue (k : Nat) : Con := ⟨ps_spec_NextDue, rs_spec_NextDue, F_spec_NextDue k⟩
def la_spec_NextDue : Nat → Option Ann := fun _ => none
def ja_spec_NextDue : Nat → Option Ann := fun _ => none
def cs_spec_NextDue (k : Nat) : List (FuncId × Con) := []
set_option maxRecDepth 1000000 in
theorem e_spec_NextDue (k : Nat) (x) : evFn2 (mkCx TT (cs_spec_NextDue k) la_spec_NextDue ja_spec_NextDue k) ps_spec_NextDue rs_spec_NextDue Tryz.f289 x = F_spec_NextDue k x := by kernel_rfl
set_option maxRecDepth 1000000 in
theorem m_spec_NextDue (k : Nat) : Meets Tryz.prog 289 (c_spec_NextDue k) := meets_ev TTok mixed (cts := cs_spec_NextDue k) trivial Tryz.func289 (by kernel_rfl) (by kernel_rfl) (e_spec_NextDue k)
abbrev ps_spec_Due : List PK := [.val tConf (.pair .leaf (.pair .leaf (.pair .leaf (.pair .leaf (.pair .leaf .shr))))), .val tGroup (.pair .leaf (.pair .shr (.pair .leaf (.pair .leaf .shr))))]
abbrev rs_spec_Due : List RK := [.val (.int .i64) .leaf]
def c_spec_Due (k : Nat) : Con := ⟨ps_spec_Due, rs_spec_Due, F_spec_Due k⟩
def la_spec_Due : Nat → Option Ann := fun _ => none
def ja_spec_Due : Nat → Option Ann := fun _ => none
def cs_spec_Due (k : Nat) : List (FuncId × Con) := [(289, c_spec_NextDue k)]
set_option maxRecDepth 1000000 in
theorem e_spec_Due (k : Nat) (x) : evFn2 (mkCx TT (cs_spec_Due k) la_spec_Due ja_spec_Due k) ps_spec_Due rs_spec_Due Tryz.f186 x = F_spec_Due k x := by kernel_rfl
set_option maxRecDepth 1000000 in
theorem m_spec_Due (k : Nat) : Meets Tryz.prog 186 (c_spec_Due k) := meets_ev TTok mixed (cts := cs_spec_Due k) ⟨m_spec_NextDue k, trivial⟩ Tryz.func186 (by kernel_rfl) (by kernel_rfl) (e_spec_Due k)
abbrev ps_spec_l16Groups : List PK := [.val tWorld (.pair (.pair .leaf (.pair .leaf (.pair .leaf (.pair .leaf (.pair .leaf .shr))))) (.pair .leaf (.pair .leaf (.pair .shr (.pair .shr (.pair .shr (.pair .leaf (.pair .shr (.pair .leaf (.pair .shr (.pair .shr (.pair .shr (.pair .shr .shr)))))))))))))]
abbrev rs_spec_l16Groups : List RK := [.val .bool .leaf]
def c_spec_l16Groups (k : Nat) : Con := ⟨ps_spec_l16Groups, rs_spec_l16Groups, F_spec_l16Groups k⟩
def la_spec_l16Groups : Nat → Option Ann := fun | 4 => some ⟨[(1, .box 3 tWorld (.pair (.pair .leaf (.pair .leaf (.pair .leaf (.pair .leaf (.pair .leaf (.sl (.sha [1]))))))) (.pair .leaf (.pair .leaf (.pair (.sl (.sha [1])) (.pair (.sl (.sha [1])) (.pair (.sl (.sha [1])) (.pair .leaf (.pair (.sl (.sha [1])) (.pair .leaf (.pair (.sl (.sha [1])) (.pair (.sl (.sha [1])) (.pair (.sl (.sha [1])) (.pair (.sl (.sha [1])) (.sl (.sha [1])))))))))))))))), (3, .val (.int .i64) .leaf)], 4⟩ | 9 => some ⟨[(1, .box 3 tWorld (.pair (.pair .leaf (.pair .leaf (.pair .leaf (.pair .leaf (.pair .leaf (.sl (.sha [1]))))))) (.pair .leaf (.pair .leaf (.pair (.sl (.sha [1])) (.pair (.sl (.sha [1])) (.pair (.sl (.sha [1])) (.pair .leaf (.pair (.sl (.sha [1])) (.pair .leaf (.pair (.sl (.sha [1])) (.pair (.sl (.sha [1])) (.pair (.sl (.sha [1])) (.pair (.sl (.sha [1])) (.sl (.sha [1])))))))))))))))), (3, .val (.int .i64) .leaf), (4, .val (.int .i64) .leaf)], 4⟩ | 14 => some ⟨[(1, .box 3 tWorld (.pair (.pair .leaf (.pair .leaf (.pair .leaf (.pair .leaf (.pair .leaf (.sl (.sha [1]))))))) (.pair .leaf (.pair .leaf (.pair (.sl (.sha [1])) (.pair (.sl (.sha [1])) (.pair (.sl (.sha [1])) (.pair .leaf (.pair (.sl (.sha [1])) (.pair .leaf (.pair (.sl (.sha [1])) (.pair (.sl (.sha [1])) (.pair (.sl (.sha [1])) (.pair (.sl (.sha [1])) (.sl (.sha [1])))))))))))))))), (5, .val (.int .i64) .leaf)], 4⟩ | 19 => some ⟨[(1, .box 3 tWorld (.pair (.pair .leaf (.pair .leaf (.pair .leaf (.pair .leaf (.pair .leaf (.sl (.sha [1]))))))) (.pair .leaf (.pair .leaf (.pair (.sl (.sha [1])) (.pair (.sl (.sha [1])) (.pair (.sl (.sha [1])) (.pair .leaf (.pair (.sl (.sha [1])) (.pair .leaf (.pair (.sl (.sha [1])) (.pair (.sl (.sha [1])) (.pair (.sl (.sha [1])) (.pair (.sl (.sha [1])) (.sl (.sha [1])))))))))))))))), (5, .val (.int .i64) .leaf), (6, .box 4 tGroup (.pair .leaf (.pair (.sl (.sha [1, 2])) (.pair .leaf (.pair .leaf (.sl (.sha [1, 2]))))))), (7, .val .bool .leaf), (8, .val (.int .i64) .leaf)], 5⟩ | _ => none
def ja_spec_l16Groups : Nat → Option Ann := fun | 13 => some ⟨[(1, .box 3 tWorld (.pair (.pair .leaf (.pair .leaf (.pair .leaf (.pair .leaf (.pair .leaf (.sl (.sha [1]))))))) (.pair .leaf (.pair .leaf (.pair (.sl (.sha [1])) (.pair (.sl (.sha [1])) (.pair (.sl (.sha [1])) (.pair .leaf (.pair (.sl (.sha [1])) (.pair .leaf (.pair (.sl (.sha [1])) (.pair (.sl (.sha [1])) (.pair (.sl (.sha [1])) (.pair (.sl (.sha [1])) (.sl (.sha [1]))))))))))))))))], 4⟩ | 22 => some ⟨[(1, .box 3 tWorld (.pair (.pair .leaf (.pair .leaf (.pair .leaf (.pair .leaf (.pair .leaf (.sl (.sha [1]))))))) (.pair .leaf (.pair .leaf (.pair (.sl (.sha [1])) (.pair (.sl (.sha [1])) (.pair (.sl (.sha [1])) (.pair .leaf (.pair (.sl (.sha [1])) (.pair .leaf (.pair (.sl (.sha [1])) (.pair (.sl (.sha [1])) (.pair (.sl (.sha [1])) (.pair (.sl (.sha [1])) (.sl (.sha [1])))))))))))))))), (5, .val (.int .i64) .leaf), (6, .box 4 tGroup (.pair .leaf (.pair (.sl (.sha [1, 2])) (.pair .leaf (.pair .leaf (.sl (.sha [1, 2]))))))), (7, .val .bool .leaf)], 5⟩ | _ => none
def cs_spec_l16Groups (k : Nat) : List (FuncId × Con) := [(184, c_spec_GroupsOk k), (185, c_spec_HeapOk k), (186, c_spec_Due k)]
set_option maxRecDepth 1000000 in
theorem e_spec_l16Groups (k : Nat) (x) : evFn2 (mkCx TT (cs_spec_l16Groups k) la_spec_l16Groups ja_spec_l16Groups k) ps_spec_l16Groups rs_spec_l16Groups Tryz.f89 x = F_spec_l16Groups k x := by kernel_rfl
set_option maxRecDepth 1000000 in
theorem m_spec_l16Groups (k : Nat) : Meets Tryz.prog 89 (c_spec_l16Groups k) := meets_ev TTok mixed (cts := cs_spec_l16Groups k) ⟨m_spec_GroupsOk k, m_spec_HeapOk k, m_spec_Due k, trivial⟩ Tryz.func89 (by kernel_rfl) (by kernel_rfl) (e_spec_l16Groups k)
abbrev ps_spec_WorldOk : List PK := [.val tWorld (.pair (.pair .leaf (.pair .leaf (.pair .leaf (.pair .leaf (.pair .leaf .shr))))) (.pair .leaf (.pair .leaf (.pair .shr (.pair .shr (.pair .shr (.pair .leaf (.pair .shr (.pair .leaf (.pair .shr (.pair .shr (.pair .shr (.pair .shr .shr)))))))))))))]
abbrev rs_spec_WorldOk : List RK := [.val .bool .leaf]
def c_spec_WorldOk (k : Nat) : Con := ⟨ps_spec_WorldOk, rs_spec_WorldOk, F_spec_WorldOk k⟩
def la_spec_WorldOk : Nat → Option Ann := fun | 4 => some ⟨[(1, .box 3 tWorld (.pair (.pair .leaf (.pair .leaf (.pair .leaf (.pair .leaf (.pair .leaf (.sl (.sha [1]))))))) (.pair .leaf (.pair .leaf (.pair (.sl (.sha [1])) (.pair (.sl (.sha [1])) (.pair (.sl (.sha [1])) (.pair .leaf (.pair (.sl (.sha [1])) (.pair .leaf (.pair (.sl (.sha [1])) (.pair (.sl (.sha [1])) (.pair (.sl (.sha [1])) (.pair (.sl (.sha [1])) (.sl (.sha [1])))))))))))))))), (3, .val (.int .i64) .leaf)], 4⟩ | 9 => some ⟨[(1, .box 3 tWorld (.pair (.pair .leaf (.pair .leaf (.pair .leaf (.pair .leaf (.pair .leaf (.sl (.sha [1]))))))) (.pair .leaf (.pair .leaf (.pair (.sl (.sha [1])) (.pair (.sl (.sha [1])) (.pair (.sl (.sha [1])) (.pair .leaf (.pair (.sl (.sha [1])) (.pair .leaf (.pair (.sl (.sha [1])) (.pair (.sl (.sha [1])) (.pair (.sl (.sha [1])) (.pair (.sl (.sha [1])) (.sl (.sha [1])))))))))))))))), (4, .val (.int .i64) .leaf)], 4⟩ | 15 => some ⟨[(1, .box 3 tWorld (.pair (.pair .leaf (.pair .leaf (.pair .leaf (.pair .leaf (.pair .leaf (.sl (.sha [1]))))))) (.pair .leaf (.pair .leaf (.pair (.sl (.sha [1])) (.pair (.sl (.sha [1])) (.pair (.sl (.sha [1])) (.pair .leaf (.pair (.sl (.sha [1])) (.pair .leaf (.pair (.sl (.sha [1])) (.pair (.sl (.sha [1])) (.pair (.sl (.sha [1])) (.pair (.sl (.sha [1])) (.sl (.sha [1])))))))))))))))), (6, .val (.int .i64) .leaf)], 4⟩ | _ => none
def ja_spec_WorldOk : Nat → Option Ann := fun | 8 => some ⟨[(1, .box 3 tWorld (.pair (.pair .leaf (.pair .leaf (.pair .leaf (.pair .leaf (.pair .leaf (.sl (.sha [1]))))))) (.pair .leaf (.pair .leaf (.pair (.sl (.sha [1])) (.pair (.sl (.sha [1])) (.pair (.sl (.sha [1])) (.pair .leaf (.pair (.sl (.sha [1])) (.pair .leaf (.pair (.sl (.sha [1])) (.pair (.sl (.sha [1])) (.pair (.sl (.sha [1])) (.pair (.sl (.sha [1])) (.sl (.sha [1]))))))))))))))))], 4⟩ | 14 => some ⟨[(1, .box 3 tWorld (.pair (.pair .leaf (.pair .leaf (.pair .leaf (.pair .leaf (.pair .leaf (.sl (.sha [1]))))))) (.pair .leaf (.pair .leaf (.pair (.sl (.sha [1])) (.pair (.sl (.sha [1])) (.pair (.sl (.sha [1])) (.pair .leaf (.pair (.sl (.sha [1])) (.pair .leaf (.pair (.sl (.sha [1])) (.pair (.sl (.sha [1])) (.pair (.sl (.sha [1])) (.pair (.sl (.sha [1])) (.sl (.sha [1]))))))))))))))))], 4⟩ | 19 => some ⟨[(1, .box 3 tWorld (.pair (.pair .leaf (.pair .leaf (.pair .leaf (.pair .leaf (.pair .leaf (.sl (.sha [1]))))))) (.pair .leaf (.pair .leaf (.pair (.sl (.sha [1])) (.pair (.sl (.sha [1])) (.pair (.sl (.sha [1])) (.pair .leaf (.pair (.sl (.sha [1])) (.pair .leaf (.pair (.sl (.sha [1])) (.pair (.sl (.sha [1])) (.pair (.sl (.sha [1])) (.pair (.sl (.sha [1])) (.sl (.sha [1]))))))))))))))))], 4⟩ | _ => none
def cs_spec_WorldOk (k : Nat) : List (FuncId × Con) := [(81, c_spec_ConfOk k), (82, c_spec_l1In k), (83, c_spec_l16Store k), (84, c_spec_l14Got k), (85, c_spec_SubOk k), (86, c_spec_DeedOk k), (87, c_spec_l16Task k), (88, c_spec_l16Locks k), (89, c_spec_l16Groups k)]
set_option maxRecDepth 1000000 in
theorem e_spec_WorldOk (k : Nat) (x) : evFn2 (mkCx TT (cs_spec_WorldOk k) la_spec_WorldOk ja_spec_WorldOk k) ps_spec_WorldOk rs_spec_WorldOk Tryz.f20 x = F_spec_WorldOk k x := by kernel_rfl
set_option maxRecDepth 1000000 in
theorem m_spec_WorldOk (k : Nat) : Meets Tryz.prog 20 (c_spec_WorldOk k) := meets_ev TTok mixed (cts := cs_spec_WorldOk k) ⟨m_spec_ConfOk k, m_spec_l1In k, m_spec_l16Store k, m_spec_l14Got k, m_spec_SubOk k, m_spec_DeedOk k, m_spec_l16Task k, m_spec_l16Locks k, m_spec_l16Groups k, trivial⟩ Tryz.func20 (by kernel_rfl) (by kernel_rfl) (e_spec_WorldOk k)
abbrev ps_impl_in : List PK := [.val (.int .i64) .leaf, .val (.int .i64) .leaf, .val (.int .i64) .leaf]
abbrev rs_impl_in : List RK := [.val .bool .leaf]
def c_impl_in (k : Nat) : Con := ⟨ps_impl_in, rs_impl_in, F_impl_in k⟩
def la_impl_in : Nat → Option Ann := fun _ => none
def ja_impl_in : Nat → Option Ann := fun _ => none
def cs_impl_in (k : Nat) : List (FuncId × Con) := []
set_option maxRecDepth 1000000 in
theorem e_impl_in (k : Nat) (x) : evFn2 (mkCx TT (cs_impl_in k) la_impl_in ja_impl_in k) ps_impl_in rs_impl_in Tryz.f91 x = F_impl_in k x := by kernel_rfl
set_option maxRecDepth 1000000 in
theorem m_impl_in (k : Nat) : Meets Tryz.prog 91 (c_impl_in k) := meets_ev TTok mixed (cts := cs_impl_in k) trivial Tryz.func91 (by kernel_rfl) (by kernel_rfl) (e_impl_in k)
abbrev ps_impl_NameOk : List PK := [.val .str .leaf]
abbrev rs_impl_NameOk : List RK := [.val .bool .leaf]
def c_impl_NameOk (k : Nat) : Con := ⟨ps_impl_NameOk, rs_impl_NameOk, F_impl_NameOk k⟩
def la_impl_NameOk : Nat → Option Ann := fun | 4 => some ⟨[(0, .val .str .leaf), (3, .val (.int .i64) .leaf)], 3⟩ | _ => none
def ja_impl_NameOk : Nat → Option Ann := fun _ => none
def cs_impl_NameOk (k : Nat) : List (FuncId × Con) := [(91, c_impl_in k)]
set_option maxRecDepth 1000000 in
theorem e_impl_NameOk (k : Nat) (x) : evFn2 (mkCx TT (cs_impl_NameOk k) la_impl_NameOk ja_impl_NameOk k) ps_impl_NameOk rs_impl_NameOk Tryz.f290 x = F_impl_NameOk k x := by kernel_rfl
set_option maxRecDepth 1000000 in
theorem m_impl_NameOk (k : Nat) : Meets Tryz.prog 290 (c_impl_NameOk k) := meets_ev TTok mixed (cts := cs_impl_NameOk k) ⟨m_impl_in k, trivial⟩ Tryz.func290 (by kernel_rfl) (by kernel_rfl) (e_impl_NameOk k)
abbrev ps_impl_InOrder : List PK := [.val (.sl .str) .shr]
abbrev rs_impl_InOrder : List RK := [.val .bool .leaf]
def c_impl_InOrder (k : Nat) : Con := ⟨ps_impl_InOrder, rs_impl_InOrder, F_impl_InOrder k⟩
def la_impl_InOrder : Nat → Option Ann := fun | 2 => some ⟨[(0, .val (.sl .str) (.sl (.sha [1]))), (3, .val (.int .i64) .leaf)], 3⟩ | _ => none
def ja_impl_InOrder : Nat → Option Ann := fun _ => none
def cs_impl_InOrder (k : Nat) : List (FuncId × Con) := []
set_option maxRecDepth 1000000 in
theorem e_impl_InOrder (k : Nat) (x) : evFn2 (mkCx TT (cs_impl_InOrder k) la_impl_InOrder ja_impl_InOrder k) ps_impl_InOrder rs_impl_InOrder Tryz.f291 x = F_impl_InOrder k x := by kernel_rfl
set_option maxRecDepth 1000000 in
theorem m_impl_InOrder (k : Nat) : Meets Tryz.prog 291 (c_impl_InOrder k) := meets_ev TTok mixed (cts := cs_impl_InOrder k) trivial Tryz.func291 (by kernel_rfl) (by kernel_rfl) (e_impl_InOrder k)
abbrev ps_impl_ByOk : List PK := [.val (.sl .str) .shr]
abbrev rs_impl_ByOk : List RK := [.val .bool .leaf]
def c_impl_ByOk (k : Nat) : Con := ⟨ps_impl_ByOk, rs_impl_ByOk, F_impl_ByOk k⟩
def la_impl_ByOk : Nat → Option Ann := fun | 2 => some ⟨[(0, .val (.sl .str) (.sl (.sha [1]))), (5, .val (.sl .str) (.sl (.sha [1]))), (6, .val (.int .i64) .leaf), (7, .val (.int .i64) .leaf)], 3⟩ | _ => none
def ja_impl_ByOk : Nat → Option Ann := fun | 7 => some ⟨[(0, .val (.sl .str) (.sl (.sha [1])))], 3⟩ | _ => none
def cs_impl_ByOk (k : Nat) : List (FuncId × Con) := [(290, c_impl_NameOk k), (291, c_impl_InOrder k)]
set_option maxRecDepth 1000000 in
theorem e_impl_ByOk (k : Nat) (x) : evFn2 (mkCx TT (cs_impl_ByOk k) la_impl_ByOk ja_impl_ByOk k) ps_impl_ByOk rs_impl_ByOk Tryz.f187 x = F_impl_ByOk k x := by kernel_rfl
set_option maxRecDepth 1000000 in
theorem m_impl_ByOk (k : Nat) : Meets Tryz.prog 187 (c_impl_ByOk k) := meets_ev TTok mixed (cts := cs_impl_ByOk k) ⟨m_impl_NameOk k, m_impl_InOrder k, trivial⟩ Tryz.func187 (by kernel_rfl) (by kernel_rfl) (e_impl_ByOk k)
abbrev ps_impl_ConfOk : List PK := [.val tConf (.pair .leaf (.pair .leaf (.pair .leaf (.pair .leaf (.pair .leaf .shr)))))]
abbrev rs_impl_ConfOk : List RK := [.val .bool .leaf]
def c_impl_ConfOk (k : Nat) : Con := ⟨ps_impl_ConfOk, rs_impl_ConfOk, F_impl_ConfOk k⟩
def la_impl_ConfOk : Nat → Option Ann := fun _ => none
def ja_impl_ConfOk : Nat → Option Ann := fun _ => none
def cs_impl_ConfOk (k : Nat) : List (FuncId × Con) := [(91, c_impl_in k), (187, c_impl_ByOk k)]
set_option maxRecDepth 1000000 in
theorem e_impl_ConfOk (k : Nat) (x) : evFn2 (mkCx TT (cs_impl_ConfOk k) la_impl_ConfOk ja_impl_ConfOk k) ps_impl_ConfOk rs_impl_ConfOk Tryz.f90 x = F_impl_ConfOk k x := by kernel_rfl
set_option maxRecDepth 1000000 in
theorem m_impl_ConfOk (k : Nat) : Meets Tryz.prog 90 (c_impl_ConfOk k) := meets_ev TTok mixed (cts := cs_impl_ConfOk k) ⟨m_impl_in k, m_impl_ByOk k, trivial⟩ Tryz.func90 (by kernel_rfl) (by kernel_rfl) (e_impl_ConfOk k)
abbrev ps_impl_PlainOk : List PK := [.val .str .leaf]
abbrev rs_impl_PlainOk : List RK := [.val .bool .leaf]
def c_impl_PlainOk (k : Nat) : Con := ⟨ps_impl_PlainOk, rs_impl_PlainOk, F_impl_PlainOk k⟩
def la_impl_PlainOk : Nat → Option Ann := fun | 4 => some ⟨[(0, .val .str .leaf), (3, .val (.int .i64) .leaf)], 3⟩ | _ => none
def ja_impl_PlainOk : Nat → Option Ann := fun _ => none
def cs_impl_PlainOk (k : Nat) : List (FuncId × Con) := []
set_option maxRecDepth 1000000 in
theorem e_impl_PlainOk (k : Nat) (x) : evFn2 (mkCx TT (cs_impl_PlainOk k) la_impl_PlainOk ja_impl_PlainOk k) ps_impl_PlainOk rs_impl_PlainOk Tryz.f295 x = F_impl_PlainOk k x := by kernel_rfl
set_option maxRecDepth 1000000 in
theorem m_impl_PlainOk (k : Nat) : Meets Tryz.prog 295 (c_impl_PlainOk k) := meets_ev TTok mixed (cts := cs_impl_PlainOk k) trivial Tryz.func295 (by kernel_rfl) (by kernel_rfl) (e_impl_PlainOk k)
abbrev ps_impl_LabelOk : List PK := [.val tLabel (.pair .leaf .leaf)]
abbrev rs_impl_LabelOk : List RK := [.val .bool .leaf]
def c_impl_LabelOk (k : Nat) : Con := ⟨ps_impl_LabelOk, rs_impl_LabelOk, F_impl_LabelOk k⟩
def la_impl_LabelOk : Nat → Option Ann := fun _ => none
def ja_impl_LabelOk : Nat → Option Ann := fun _ => none
def cs_impl_LabelOk (k : Nat) : List (FuncId × Con) := [(290, c_impl_NameOk k), (295, c_impl_PlainOk k)]
set_option maxRecDepth 1000000 in
theorem e_impl_LabelOk (k : Nat) (x) : evFn2 (mkCx TT (cs_impl_LabelOk k) la_impl_LabelOk ja_impl_LabelOk k) ps_impl_LabelOk rs_impl_LabelOk Tryz.f317 x = F_impl_LabelOk k x := by kernel_rfl
set_option maxRecDepth 1000000 in
theorem m_impl_LabelOk (k : Nat) : Meets Tryz.prog 317 (c_impl_LabelOk k) := meets_ev TTok mixed (cts := cs_impl_LabelOk k) ⟨m_impl_NameOk k, m_impl_PlainOk k, trivial⟩ Tryz.func317 (by kernel_rfl) (by kernel_rfl) (e_impl_LabelOk k)
abbrev ps_impl_SetOk : List PK := [.val (.sl tLabel) .shr]
abbrev rs_impl_SetOk : List RK := [.val .bool .leaf]
def c_impl_SetOk (k : Nat) : Con := ⟨ps_impl_SetOk, rs_impl_SetOk, F_impl_SetOk k⟩
def la_impl_SetOk : Nat → Option Ann := fun | 2 => some ⟨[(0, .val (.sl tLabel) (.sl (.sha [1]))), (5, .val (.sl tLabel) (.sl (.sha [1]))), (6, .val (.int .i64) .leaf), (7, .val (.int .i64) .leaf)], 3⟩ | _ => none
def ja_impl_SetOk : Nat → Option Ann := fun _ => none
def cs_impl_SetOk (k : Nat) : List (FuncId × Con) := [(317, c_impl_LabelOk k)]
set_option maxRecDepth 1000000 in
theorem e_impl_SetOk (k : Nat) (x) : evFn2 (mkCx TT (cs_impl_SetOk k) la_impl_SetOk ja_impl_SetOk k) ps_impl_SetOk rs_impl_SetOk Tryz.f233 x = F_impl_SetOk k x := by kernel_rfl
set_option maxRecDepth 1000000 in
theorem m_impl_SetOk (k : Nat) : Meets Tryz.prog 233 (c_impl_SetOk k) := meets_ev TTok mixed (cts := cs_impl_SetOk k) ⟨m_impl_LabelOk k, trivial⟩ Tryz.func233 (by kernel_rfl) (by kernel_rfl) (e_impl_SetOk k)
abbrev ps_impl_AlarmOk : List PK := [.val tAlarm (.pair .shr (.pair .leaf (.pair .leaf .leaf)))]
abbrev rs_impl_AlarmOk : List RK := [.val .bool .leaf]
def c_impl_AlarmOk (k : Nat) : Con := ⟨ps_impl_AlarmOk, rs_impl_AlarmOk, F_impl_AlarmOk k⟩
def la_impl_AlarmOk : Nat → Option Ann := fun _ => none
def ja_impl_AlarmOk : Nat → Option Ann := fun _ => none
def cs_impl_AlarmOk (k : Nat) : List (FuncId × Con) := [(233, c_impl_SetOk k), (91, c_impl_in k), (295, c_impl_PlainOk k)]
set_option maxRecDepth 1000000 in
theorem e_impl_AlarmOk (k : Nat) (x) : evFn2 (mkCx TT (cs_impl_AlarmOk k) la_impl_AlarmOk ja_impl_AlarmOk k) ps_impl_AlarmOk rs_impl_AlarmOk Tryz.f193 x = F_impl_AlarmOk k x := by kernel_rfl
set_option maxRecDepth 1000000 in
theorem m_impl_AlarmOk (k : Nat) : Meets Tryz.prog 193 (c_impl_AlarmOk k) := meets_ev TTok mixed (cts := cs_impl_AlarmOk k) ⟨m_impl_SetOk k, m_impl_in k, m_impl_PlainOk k, trivial⟩ Tryz.func193 (by kernel_rfl) (by kernel_rfl) (e_impl_AlarmOk k)
abbrev ps_impl_SetText : List PK := [.val (.sl tLabel) .shr]
abbrev rs_impl_SetText : List RK := [.val .str .leaf]
def c_impl_SetText (k : Nat) : Con := ⟨ps_impl_SetText, rs_impl_SetText, F_impl_SetText k⟩
def la_impl_SetText : Nat → Option Ann := fun | 5 => some ⟨[(3, .val (.sl .str) (.sl (.row 3 [] true))), (9, .val (.sl tLabel) (.sl (.sha [1]))), (10, .val (.int .i64) .leaf), (11, .val (.int .i64) .leaf)], 4⟩ | _ => none
def ja_impl_SetText : Nat → Option Ann := fun | 9 => some ⟨[(3, .val (.sl .str) (.sl (.row 3 [] true)))], 4⟩ | _ => none
def cs_impl_SetText (k : Nat) : List (FuncId × Con) := [(233, c_impl_SetOk k), (379, c_strings_Join k)]
set_option maxRecDepth 1000000 in
theorem e_impl_SetText (k : Nat) (x) : evFn2 (mkCx TT (cs_impl_SetText k) la_impl_SetText ja_impl_SetText k) ps_impl_SetText rs_impl_SetText Tryz.f357 x = F_impl_SetText k x := by kernel_rfl
set_option maxRecDepth 1000000 in
theorem m_impl_SetText (k : Nat) : Meets Tryz.prog 357 (c_impl_SetText k) := meets_ev TTok mixed (cts := cs_impl_SetText k) ⟨m_impl_SetOk k, m_strings_Join k, trivial⟩ Tryz.func357 (by kernel_rfl) (by kernel_rfl) (e_impl_SetText k)
abbrev ps_impl_Sum : List PK := [.val .str .leaf]
abbrev rs_impl_Sum : List RK := [.val (.int .i64) .leaf]
def c_impl_Sum (k : Nat) : Con := ⟨ps_impl_Sum, rs_impl_Sum, F_impl_Sum k⟩
def la_impl_Sum : Nat → Option Ann := fun | 3 => some ⟨[(0, .val .str .leaf), (3, .val (.int .u32) .leaf), (4, .val (.int .i64) .leaf)], 3⟩ | _ => none
def ja_impl_Sum : Nat → Option Ann := fun | 6 => some ⟨[(3, .val (.int .u32) .leaf)], 3⟩ | _ => none
def cs_impl_Sum (k : Nat) : List (FuncId × Con) := []
set_option maxRecDepth 1000000 in
theorem e_impl_Sum (k : Nat) (x) : evFn2 (mkCx TT (cs_impl_Sum k) la_impl_Sum ja_impl_Sum k) ps_impl_Sum rs_impl_Sum Tryz.f356 x = F_impl_Sum k x := by kernel_rfl
set_option maxRecDepth 1000000 in
theorem m_impl_Sum (k : Nat) : Meets Tryz.prog 356 (c_impl_Sum k) := meets_ev TTok mixed (cts := cs_impl_Sum k) trivial Tryz.func356 (by kernel_rfl) (by kernel_rfl) (e_impl_Sum k)
abbrev ps_impl_Finger : List PK := [.val (.sl tLabel) .shr]
abbrev rs_impl_Finger : List RK := [.val (.int .i64) .leaf]
def c_impl_Finger (k : Nat) : Con := ⟨ps_impl_Finger, rs_impl_Finger, F_impl_Finger k⟩
def la_impl_Finger : Nat → Option Ann := fun _ => none
def ja_impl_Finger : Nat → Option Ann := fun _ => none
def cs_impl_Finger (k : Nat) : List (FuncId × Con) := [(357, c_impl_SetText k), (356, c_impl_Sum k)]
set_option maxRecDepth 1000000 in
theorem e_impl_Finger (k : Nat) (x) : evFn2 (mkCx TT (cs_impl_Finger k) la_impl_Finger ja_impl_Finger k) ps_impl_Finger rs_impl_Finger Tryz.f309 x = F_impl_Finger k x := by kernel_rfl
set_option maxRecDepth 1000000 in
theorem m_impl_Finger (k : Nat) : Meets Tryz.prog 309 (c_impl_Finger k) := meets_ev TTok mixed (cts := cs_impl_Finger k) ⟨m_impl_SetText k, m_impl_Sum k, trivial⟩ Tryz.func309 (by kernel_rfl) (by kernel_rfl) (e_impl_Finger k)
abbrev ps_impl_SameSet : List PK := [.val (.sl tLabel) .shr, .val (.sl tLabel) .shr]
abbrev rs_impl_SameSet : List RK := [.val .bool .leaf]
def c_impl_SameSet (k : Nat) : Con := ⟨ps_impl_SameSet, rs_impl_SameSet, F_impl_SameSet k⟩
def la_impl_SameSet : Nat → Option Ann := fun | 4 => some ⟨[(0, .val (.sl tLabel) (.sl (.sha [1]))), (1, .val (.sl tLabel) (.sl (.sha [1]))), (12, .val (.int .i64) .leaf), (13, .val (.int .i64) .leaf)], 3⟩ | _ => none
def ja_impl_SameSet : Nat → Option Ann := fun _ => none
def cs_impl_SameSet (k : Nat) : List (FuncId × Con) := []
set_option maxRecDepth 1000000 in
theorem e_impl_SameSet (k : Nat) (x) : evFn2 (mkCx TT (cs_impl_SameSet k) la_impl_SameSet ja_impl_SameSet k) ps_impl_SameSet rs_impl_SameSet Tryz.f299 x = F_impl_SameSet k x := by kernel_rfl
set_option maxRecDepth 1000000 in
theorem m_impl_SameSet (k : Nat) : Meets Tryz.prog 299 (c_impl_SameSet k) := meets_ev TTok mixed (cts := cs_impl_SameSet k) trivial Tryz.func299 (by kernel_rfl) (by kernel_rfl) (e_impl_SameSet k)
abbrev ps_impl_labelsAt : List PK := [.val (.sl tAlarm) .shr, .val (.sl tLabel) .shr]
abbrev rs_impl_labelsAt : List RK := [.val (.int .i64) .leaf]
def c_impl_labelsAt (k : Nat) : Con := ⟨ps_impl_labelsAt, rs_impl_labelsAt, F_impl_labelsAt k⟩
def la_impl_labelsAt : Nat → Option Ann := fun | 2 => some ⟨[(1, .val (.sl tLabel) (.sl (.sha [1]))), (7, .val (.sl tAlarm) (.sl (.sha [1]))), (8, .val (.int .i64) .leaf), (9, .val (.int .i64) .leaf)], 3⟩ | _ => none
def ja_impl_labelsAt : Nat → Option Ann := fun _ => none
def cs_impl_labelsAt (k : Nat) : List (FuncId × Con) := [(299, c_impl_SameSet k)]
set_option maxRecDepth 1000000 in
theorem e_impl_labelsAt (k : Nat) (x) : evFn2 (mkCx TT (cs_impl_labelsAt k) la_impl_labelsAt ja_impl_labelsAt k) ps_impl_labelsAt rs_impl_labelsAt Tryz.f382 x = F_impl_labelsAt k x := by kernel_rfl
set_option maxRecDepth 1000000 in
theorem m_impl_labelsAt (k : Nat) : Meets Tryz.prog 382 (c_impl_labelsAt k) := meets_ev TTok mixed (cts := cs_impl_labelsAt k) ⟨m_impl_SameSet k, trivial⟩ Tryz.func382 (by kernel_rfl) (by kernel_rfl) (e_impl_labelsAt k)
abbrev ps_impl_labelsApart : List PK := [.val (.sl tAlarm) .shr]
abbrev rs_impl_labelsApart : List RK := [.val .bool .leaf]
def c_impl_labelsApart (k : Nat) : Con := ⟨ps_impl_labelsApart, rs_impl_labelsApart, F_impl_labelsApart k⟩
def la_impl_labelsApart : Nat → Option Ann := fun | 2 => some ⟨[(0, .val (.sl tAlarm) (.sl (.sha [1]))), (5, .val (.sl tAlarm) (.sl (.sha [1]))), (6, .val (.int .i64) .leaf), (7, .val (.int .i64) .leaf)], 3⟩ | _ => none
def ja_impl_labelsApart : Nat → Option Ann := fun _ => none
def cs_impl_labelsApart (k : Nat) : List (FuncId × Con) := [(382, c_impl_labelsAt k)]
set_option maxRecDepth 1000000 in
theorem e_impl_labelsApart (k : Nat) (x) : evFn2 (mkCx TT (cs_impl_labelsApart k) la_impl_labelsApart ja_impl_labelsApart k) ps_impl_labelsApart rs_impl_labelsApart Tryz.f374 x = F_impl_labelsApart k x := by kernel_rfl
set_option maxRecDepth 1000000 in
theorem m_impl_labelsApart (k : Nat) : Meets Tryz.prog 374 (c_impl_labelsApart k) := meets_ev TTok mixed (cts := cs_impl_labelsApart k) ⟨m_impl_labelsAt k, trivial⟩ Tryz.func374 (by kernel_rfl) (by kernel_rfl) (e_impl_labelsApart k)
abbrev ps_impl_ChainOk : List PK := [.val tChain (.pair .leaf .shr)]
abbrev rs_impl_ChainOk : List RK := [.val .bool .leaf]
def c_impl_ChainOk (k : Nat) : Con := ⟨ps_impl_ChainOk, rs_impl_ChainOk, F_impl_ChainOk k⟩
def la_impl_ChainOk : Nat → Option Ann := fun | 2 => some ⟨[(1, .box 3 tChain (.pair .leaf (.sl (.sha [1])))), (6, .val (.sl tAlarm) (.sl (.sha [1]))), (7, .val (.int .i64) .leaf), (8, .val (.int .i64) .leaf)], 4⟩ | _ => none
def ja_impl_ChainOk : Nat → Option Ann := fun | 7 => some ⟨[(1, .box 3 tChain (.pair .leaf (.sl (.sha [1]))))], 4⟩ | _ => none
def cs_impl_ChainOk (k : Nat) : List (FuncId × Con) := [(193, c_impl_AlarmOk k), (309, c_impl_Finger k), (374, c_impl_labelsApart k)]
set_option maxRecDepth 1000000 in
theorem e_impl_ChainOk (k : Nat) (x) : evFn2 (mkCx TT (cs_impl_ChainOk k) la_impl_ChainOk ja_impl_ChainOk k) ps_impl_ChainOk rs_impl_ChainOk Tryz.f349 x = F_impl_ChainOk k x := by kernel_rfl
set_option maxRecDepth 1000000 in
theorem m_impl_ChainOk (k : Nat) : Meets Tryz.prog 349 (c_impl_ChainOk k) := meets_ev TTok mixed (cts := cs_impl_ChainOk k) ⟨m_impl_AlarmOk k, m_impl_Finger k, m_impl_labelsApart k, trivial⟩ Tryz.func349 (by kernel_rfl) (by kernel_rfl) (e_impl_ChainOk k)
abbrev ps_impl_PartOf : List PK := [.val (.int .i64) .leaf, .val (.int .i64) .leaf]
abbrev rs_impl_PartOf : List RK := [.val (.int .i64) .leaf]
def c_impl_PartOf (k : Nat) : Con := ⟨ps_impl_PartOf, rs_impl_PartOf, F_impl_PartOf k⟩
def la_impl_PartOf : Nat → Option Ann := fun _ => none
def ja_impl_PartOf : Nat → Option Ann := fun _ => none
def cs_impl_PartOf (k : Nat) : List (FuncId × Con) := []
set_option maxRecDepth 1000000 in
theorem e_impl_PartOf (k : Nat) (x) : evFn2 (mkCx TT (cs_impl_PartOf k) la_impl_PartOf ja_impl_PartOf k) ps_impl_PartOf rs_impl_PartOf Tryz.f308 x = F_impl_PartOf k x := by kernel_rfl
set_option maxRecDepth 1000000 in
theorem m_impl_PartOf (k : Nat) : Meets Tryz.prog 308 (c_impl_PartOf k) := meets_ev TTok mixed (cts := cs_impl_PartOf k) trivial Tryz.func308 (by kernel_rfl) (by kernel_rfl) (e_impl_PartOf k)
abbrev ps_impl_PartOk : List PK := [.val tPart (.pair .leaf (.pair .leaf .shr)), .val (.int .i64) .leaf, .val (.int .i64) .leaf]
abbrev rs_impl_PartOk : List RK := [.val .bool .leaf]
def c_impl_PartOk (k : Nat) : Con := ⟨ps_impl_PartOk, rs_impl_PartOk, F_impl_PartOk k⟩
def la_impl_PartOk : Nat → Option Ann := fun | 2 => some ⟨[(1, .val (.int .i64) .leaf), (2, .val (.int .i64) .leaf), (3, .box 3 tPart (.pair .leaf (.pair .leaf (.sl (.sha [1]))))), (10, .val (.sl tChain) (.sl (.sha [1]))), (11, .val (.int .i64) .leaf), (12, .val (.int .i64) .leaf)], 4⟩ | _ => none
def ja_impl_PartOk : Nat → Option Ann := fun | 7 => some ⟨[(3, .box 3 tPart (.pair .leaf (.pair .leaf (.sl (.sha [1])))))], 4⟩ | _ => none
def cs_impl_PartOk (k : Nat) : List (FuncId × Con) := [(349, c_impl_ChainOk k), (308, c_impl_PartOf k), (91, c_impl_in k)]
set_option maxRecDepth 1000000 in
theorem e_impl_PartOk (k : Nat) (x) : evFn2 (mkCx TT (cs_impl_PartOk k) la_impl_PartOk ja_impl_PartOk k) ps_impl_PartOk rs_impl_PartOk Tryz.f292 x = F_impl_PartOk k x := by kernel_rfl
set_option maxRecDepth 1000000 in
theorem m_impl_PartOk (k : Nat) : Meets Tryz.prog 292 (c_impl_PartOk k) := meets_ev TTok mixed (cts := cs_impl_PartOk k) ⟨m_impl_ChainOk k, m_impl_PartOf k, m_impl_in k, trivial⟩ Tryz.func292 (by kernel_rfl) (by kernel_rfl) (e_impl_PartOk k)
abbrev ps_impl_StoreOk : List PK := [.val (.sl tPart) .shr]
abbrev rs_impl_StoreOk : List RK := [.val .bool .leaf]
def c_impl_StoreOk (k : Nat) : Con := ⟨ps_impl_StoreOk, rs_impl_StoreOk, F_impl_StoreOk k⟩
def la_impl_StoreOk : Nat → Option Ann := fun | 4 => some ⟨[(0, .val (.sl tPart) (.sl (.sha [1]))), (9, .val (.sl tPart) (.sl (.sha [1]))), (10, .val (.int .i64) .leaf), (11, .val (.int .i64) .leaf)], 3⟩ | _ => none
def ja_impl_StoreOk : Nat → Option Ann := fun _ => none
def cs_impl_StoreOk (k : Nat) : List (FuncId × Con) := [(91, c_impl_in k), (292, c_impl_PartOk k)]
set_option maxRecDepth 1000000 in
theorem e_impl_StoreOk (k : Nat) (x) : evFn2 (mkCx TT (cs_impl_StoreOk k) la_impl_StoreOk ja_impl_StoreOk k) ps_impl_StoreOk rs_impl_StoreOk Tryz.f188 x = F_impl_StoreOk k x := by kernel_rfl
set_option maxRecDepth 1000000 in
theorem m_impl_StoreOk (k : Nat) : Meets Tryz.prog 188 (c_impl_StoreOk k) := meets_ev TTok mixed (cts := cs_impl_StoreOk k) ⟨m_impl_in k, m_impl_PartOk k, trivial⟩ Tryz.func188 (by kernel_rfl) (by kernel_rfl) (e_impl_StoreOk k)
abbrev ps_impl_CountOf : List PK := [.val (.sl tPart) .shr]
abbrev rs_impl_CountOf : List RK := [.val (.int .i64) .leaf]
def c_impl_CountOf (k : Nat) : Con := ⟨ps_impl_CountOf, rs_impl_CountOf, F_impl_CountOf k⟩
def la_impl_CountOf : Nat → Option Ann := fun | 3 => some ⟨[(3, .val (.int .i64) .leaf), (8, .val (.sl tPart) (.sl (.sha [1]))), (9, .val (.int .i64) .leaf), (10, .val (.int .i64) .leaf)], 3⟩ | 6 => some ⟨[(3, .val (.int .i64) .leaf), (5, .box 3 tPart (.pair .leaf (.pair .leaf (.sl (.sha [1, 2]))))), (8, .val (.sl tPart) (.sl (.sha [1]))), (9, .val (.int .i64) .leaf), (10, .val (.int .i64) .leaf), (15, .val (.sl tChain) (.sl (.sha [1, 2]))), (16, .val (.int .i64) .leaf), (17, .val (.int .i64) .leaf)], 4⟩ | _ => none
def ja_impl_CountOf : Nat → Option Ann := fun _ => none
def cs_impl_CountOf (k : Nat) : List (FuncId × Con) := []
set_option maxRecDepth 1000000 in
theorem e_impl_CountOf (k : Nat) (x) : evFn2 (mkCx TT (cs_impl_CountOf k) la_impl_CountOf ja_impl_CountOf k) ps_impl_CountOf rs_impl_CountOf Tryz.f189 x = F_impl_CountOf k x := by kernel_rfl
set_option maxRecDepth 1000000 in
theorem m_impl_CountOf (k : Nat) : Meets Tryz.prog 189 (c_impl_CountOf k) := meets_ev TTok mixed (cts := cs_impl_CountOf k) trivial Tryz.func189 (by kernel_rfl) (by kernel_rfl) (e_impl_CountOf k)
end Vg.Tryz
