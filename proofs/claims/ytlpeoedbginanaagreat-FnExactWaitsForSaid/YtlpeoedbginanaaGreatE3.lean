/- What the functions compute is what the evaluator says; their contracts. -/
import Derived.Test.YtlpeoedbginanaaGreatE2
namespace Vg.Tryz
open Go Vg Go.Proofs
set_option linter.unusedVariables false
abbrev ps_spec_InOrder : List PK := [.val (.sl .str) .shr]
abbrev rs_spec_InOrder : List RK := [.val .bool .leaf]
def c_spec_InOrder (k : Nat) : Con := ⟨ps_spec_InOrder, rs_spec_InOrder, F_spec_InOrder k⟩
def la_spec_InOrder : Nat → Option Ann := fun | 2 => some ⟨[(0, .val (.sl .str) (.sl (.sha [1]))), (3, .val (.int .i64) .leaf)], 3⟩ | _ => none
def ja_spec_InOrder : Nat → Option Ann := fun _ => none
def cs_spec_InOrder (k : Nat) : List (FuncId × Con) := [(232, c_spec_Less k)]
set_option maxRecDepth 1000000 in
theorem e_spec_InOrder (k : Nat) (x) : evFn2 (mkCx TT (cs_spec_InOrder k) la_spec_InOrder ja_spec_InOrder k) ps_spec_InOrder rs_spec_InOrder Tryz.f277 x = F_spec_InOrder k x := by kernel_rfl
set_option maxRecDepth 1000000 in
theorem m_spec_InOrder (k : Nat) : Meets Tryz.prog 277 (c_spec_InOrder k) := meets_ev TTok mixed (cts := cs_spec_InOrder k) ⟨m_spec_Less k, trivial⟩ Tryz.func277 (by kernel_rfl) (by kernel_rfl) (e_spec_InOrder k)
abbrev ps_spec_ByOk : List PK := [.val (.sl .str) .shr]
abbrev rs_spec_ByOk : List RK := [.val .bool .leaf]
def c_spec_ByOk (k : Nat) : Con := ⟨ps_spec_ByOk, rs_spec_ByOk, F_spec_ByOk k⟩
def la_spec_ByOk : Nat → Option Ann := fun | 2 => some ⟨[(0, .val (.sl .str) (.sl (.sha [1]))), (3, .val (.int .i64) .leaf)], 3⟩ | _ => none
def ja_spec_ByOk : Nat → Option Ann := fun | 6 => some ⟨[(0, .val (.sl .str) (.sl (.sha [1])))], 3⟩ | _ => none
def cs_spec_ByOk (k : Nat) : List (FuncId × Con) := [(276, c_spec_NameOk k), (277, c_spec_InOrder k)]
set_option maxRecDepth 1000000 in
theorem e_spec_ByOk (k : Nat) (x) : evFn2 (mkCx TT (cs_spec_ByOk k) la_spec_ByOk ja_spec_ByOk k) ps_spec_ByOk rs_spec_ByOk Tryz.f169 x = F_spec_ByOk k x := by kernel_rfl
set_option maxRecDepth 1000000 in
theorem m_spec_ByOk (k : Nat) : Meets Tryz.prog 169 (c_spec_ByOk k) := meets_ev TTok mixed (cts := cs_spec_ByOk k) ⟨m_spec_NameOk k, m_spec_InOrder k, trivial⟩ Tryz.func169 (by kernel_rfl) (by kernel_rfl) (e_spec_ByOk k)
abbrev ps_spec_ConfOk : List PK := [.val tConf (.pair .leaf (.pair .leaf (.pair .leaf (.pair .leaf (.pair .leaf .shr)))))]
abbrev rs_spec_ConfOk : List RK := [.val .bool .leaf]
def c_spec_ConfOk (k : Nat) : Con := ⟨ps_spec_ConfOk, rs_spec_ConfOk, F_spec_ConfOk k⟩
def la_spec_ConfOk : Nat → Option Ann := fun _ => none
def ja_spec_ConfOk : Nat → Option Ann := fun _ => none
def cs_spec_ConfOk (k : Nat) : List (FuncId × Con) := [(82, c_spec_l1In k), (169, c_spec_ByOk k)]
set_option maxRecDepth 1000000 in
theorem e_spec_ConfOk (k : Nat) (x) : evFn2 (mkCx TT (cs_spec_ConfOk k) la_spec_ConfOk ja_spec_ConfOk k) ps_spec_ConfOk rs_spec_ConfOk Tryz.f81 x = F_spec_ConfOk k x := by kernel_rfl
set_option maxRecDepth 1000000 in
theorem m_spec_ConfOk (k : Nat) : Meets Tryz.prog 81 (c_spec_ConfOk k) := meets_ev TTok mixed (cts := cs_spec_ConfOk k) ⟨m_spec_l1In k, m_spec_ByOk k, trivial⟩ Tryz.func81 (by kernel_rfl) (by kernel_rfl) (e_spec_ConfOk k)
abbrev ps_spec_PlainOk : List PK := [.val .str .leaf]
abbrev rs_spec_PlainOk : List RK := [.val .bool .leaf]
def c_spec_PlainOk (k : Nat) : Con := ⟨ps_spec_PlainOk, rs_spec_PlainOk, F_spec_PlainOk k⟩
def la_spec_PlainOk : Nat → Option Ann := fun | 2 => some ⟨[(0, .val .str .leaf), (3, .val (.int .i64) .leaf)], 3⟩ | _ => none
def ja_spec_PlainOk : Nat → Option Ann := fun | 6 => some ⟨[(0, .val .str .leaf)], 3⟩ | _ => none
def cs_spec_PlainOk (k : Nat) : List (FuncId × Con) := []
set_option maxRecDepth 1000000 in
theorem e_spec_PlainOk (k : Nat) (x) : evFn2 (mkCx TT (cs_spec_PlainOk k) la_spec_PlainOk ja_spec_PlainOk k) ps_spec_PlainOk rs_spec_PlainOk Tryz.f281 x = F_spec_PlainOk k x := by kernel_rfl
set_option maxRecDepth 1000000 in
theorem m_spec_PlainOk (k : Nat) : Meets Tryz.prog 281 (c_spec_PlainOk k) := meets_ev TTok mixed (cts := cs_spec_PlainOk k) trivial Tryz.func281 (by kernel_rfl) (by kernel_rfl) (e_spec_PlainOk k)
abbrev ps_spec_LabelOk : List PK := [.val tLabel (.pair .leaf .leaf)]
abbrev rs_spec_LabelOk : List RK := [.val .bool .leaf]
def c_spec_LabelOk (k : Nat) : Con := ⟨ps_spec_LabelOk, rs_spec_LabelOk, F_spec_LabelOk k⟩
def la_spec_LabelOk : Nat → Option Ann := fun _ => none
def ja_spec_LabelOk : Nat → Option Ann := fun _ => none
def cs_spec_LabelOk (k : Nat) : List (FuncId × Con) := [(276, c_spec_NameOk k), (281, c_spec_PlainOk k)]
set_option maxRecDepth 1000000 in
theorem e_spec_LabelOk (k : Nat) (x) : evFn2 (mkCx TT (cs_spec_LabelOk k) la_spec_LabelOk ja_spec_LabelOk k) ps_spec_LabelOk rs_spec_LabelOk Tryz.f231 x = F_spec_LabelOk k x := by kernel_rfl
set_option maxRecDepth 1000000 in
theorem m_spec_LabelOk (k : Nat) : Meets Tryz.prog 231 (c_spec_LabelOk k) := meets_ev TTok mixed (cts := cs_spec_LabelOk k) ⟨m_spec_NameOk k, m_spec_PlainOk k, trivial⟩ Tryz.func231 (by kernel_rfl) (by kernel_rfl) (e_spec_LabelOk k)
abbrev ps_spec_SetOk : List PK := [.val (.sl tLabel) .shr]
abbrev rs_spec_SetOk : List RK := [.val .bool .leaf]
def c_spec_SetOk (k : Nat) : Con := ⟨ps_spec_SetOk, rs_spec_SetOk, F_spec_SetOk k⟩
def la_spec_SetOk : Nat → Option Ann := fun | 2 => some ⟨[(0, .val (.sl tLabel) (.sl (.sha [1]))), (3, .val (.int .i64) .leaf)], 3⟩ | _ => none
def ja_spec_SetOk : Nat → Option Ann := fun | 6 => some ⟨[(0, .val (.sl tLabel) (.sl (.sha [1])))], 3⟩ | _ => none
def cs_spec_SetOk (k : Nat) : List (FuncId × Con) := [(231, c_spec_LabelOk k), (232, c_spec_Less k)]
set_option maxRecDepth 1000000 in
theorem e_spec_SetOk (k : Nat) (x) : evFn2 (mkCx TT (cs_spec_SetOk k) la_spec_SetOk ja_spec_SetOk k) ps_spec_SetOk rs_spec_SetOk Tryz.f127 x = F_spec_SetOk k x := by kernel_rfl
set_option maxRecDepth 1000000 in
theorem m_spec_SetOk (k : Nat) : Meets Tryz.prog 127 (c_spec_SetOk k) := meets_ev TTok mixed (cts := cs_spec_SetOk k) ⟨m_spec_LabelOk k, m_spec_Less k, trivial⟩ Tryz.func127 (by kernel_rfl) (by kernel_rfl) (e_spec_SetOk k)
abbrev ps_spec_AlarmOk : List PK := [.val tAlarm (.pair .shr (.pair .leaf (.pair .leaf .leaf)))]
abbrev rs_spec_AlarmOk : List RK := [.val .bool .leaf]
def c_spec_AlarmOk (k : Nat) : Con := ⟨ps_spec_AlarmOk, rs_spec_AlarmOk, F_spec_AlarmOk k⟩
def la_spec_AlarmOk : Nat → Option Ann := fun _ => none
def ja_spec_AlarmOk : Nat → Option Ann := fun _ => none
def cs_spec_AlarmOk (k : Nat) : List (FuncId × Con) := [(127, c_spec_SetOk k), (82, c_spec_l1In k), (281, c_spec_PlainOk k)]
set_option maxRecDepth 1000000 in
theorem e_spec_AlarmOk (k : Nat) (x) : evFn2 (mkCx TT (cs_spec_AlarmOk k) la_spec_AlarmOk ja_spec_AlarmOk k) ps_spec_AlarmOk rs_spec_AlarmOk Tryz.f173 x = F_spec_AlarmOk k x := by kernel_rfl
set_option maxRecDepth 1000000 in
theorem m_spec_AlarmOk (k : Nat) : Meets Tryz.prog 173 (c_spec_AlarmOk k) := meets_ev TTok mixed (cts := cs_spec_AlarmOk k) ⟨m_spec_SetOk k, m_spec_l1In k, m_spec_PlainOk k, trivial⟩ Tryz.func173 (by kernel_rfl) (by kernel_rfl) (e_spec_AlarmOk k)
abbrev ps_spec_SetText : List PK := [.val (.sl tLabel) .shr]
abbrev rs_spec_SetText : List RK := [.val .str .leaf]
def c_spec_SetText (k : Nat) : Con := ⟨ps_spec_SetText, rs_spec_SetText, F_spec_SetText k⟩
def la_spec_SetText : Nat → Option Ann := fun | 5 => some ⟨[(0, .val (.sl tLabel) (.sl (.sha [1]))), (3, .val .str .leaf), (4, .val (.int .i64) .leaf)], 3⟩ | _ => none
def ja_spec_SetText : Nat → Option Ann := fun | 9 => some ⟨[(0, .val (.sl tLabel) (.sl (.sha [1]))), (3, .val .str .leaf), (4, .val (.int .i64) .leaf)], 3⟩ | 10 => some ⟨[(3, .val .str .leaf)], 3⟩ | _ => none
def cs_spec_SetText (k : Nat) : List (FuncId × Con) := [(127, c_spec_SetOk k)]
set_option maxRecDepth 1000000 in
theorem e_spec_SetText (k : Nat) (x) : evFn2 (mkCx TT (cs_spec_SetText k) la_spec_SetText ja_spec_SetText k) ps_spec_SetText rs_spec_SetText Tryz.f307 x = F_spec_SetText k x := by kernel_rfl
set_option maxRecDepth 1000000 in
theorem m_spec_SetText (k : Nat) : Meets Tryz.prog 307 (c_spec_SetText k) := meets_ev TTok mixed (cts := cs_spec_SetText k) ⟨m_spec_SetOk k, trivial⟩ Tryz.func307 (by kernel_rfl) (by kernel_rfl) (e_spec_SetText k)
abbrev ps_spec_Sum : List PK := [.val .str .leaf]
abbrev rs_spec_Sum : List RK := [.val (.int .i64) .leaf]
def c_spec_Sum (k : Nat) : Con := ⟨ps_spec_Sum, rs_spec_Sum, F_spec_Sum k⟩
def la_spec_Sum : Nat → Option Ann := fun | 3 => some ⟨[(0, .val .str .leaf), (3, .val (.int .i64) .leaf), (4, .val (.int .i64) .leaf)], 3⟩ | _ => none
def ja_spec_Sum : Nat → Option Ann := fun _ => none
def cs_spec_Sum (k : Nat) : List (FuncId × Con) := []
set_option maxRecDepth 1000000 in
theorem e_spec_Sum (k : Nat) (x) : evFn2 (mkCx TT (cs_spec_Sum k) la_spec_Sum ja_spec_Sum k) ps_spec_Sum rs_spec_Sum Tryz.f306 x = F_spec_Sum k x := by kernel_rfl
set_option maxRecDepth 1000000 in
theorem m_spec_Sum (k : Nat) : Meets Tryz.prog 306 (c_spec_Sum k) := meets_ev TTok mixed (cts := cs_spec_Sum k) trivial Tryz.func306 (by kernel_rfl) (by kernel_rfl) (e_spec_Sum k)
abbrev ps_spec_Finger : List PK := [.val (.sl tLabel) .shr]
abbrev rs_spec_Finger : List RK := [.val (.int .i64) .leaf]
def c_spec_Finger (k : Nat) : Con := ⟨ps_spec_Finger, rs_spec_Finger, F_spec_Finger k⟩
def la_spec_Finger : Nat → Option Ann := fun _ => none
def ja_spec_Finger : Nat → Option Ann := fun _ => none
def cs_spec_Finger (k : Nat) : List (FuncId × Con) := [(307, c_spec_SetText k), (306, c_spec_Sum k)]
set_option maxRecDepth 1000000 in
theorem e_spec_Finger (k : Nat) (x) : evFn2 (mkCx TT (cs_spec_Finger k) la_spec_Finger ja_spec_Finger k) ps_spec_Finger rs_spec_Finger Tryz.f203 x = F_spec_Finger k x := by kernel_rfl
set_option maxRecDepth 1000000 in
theorem m_spec_Finger (k : Nat) : Meets Tryz.prog 203 (c_spec_Finger k) := meets_ev TTok mixed (cts := cs_spec_Finger k) ⟨m_spec_SetText k, m_spec_Sum k, trivial⟩ Tryz.func203 (by kernel_rfl) (by kernel_rfl) (e_spec_Finger k)
abbrev ps_spec_SameSet : List PK := [.val (.sl tLabel) .shr, .val (.sl tLabel) .shr]
abbrev rs_spec_SameSet : List RK := [.val .bool .leaf]
def c_spec_SameSet (k : Nat) : Con := ⟨ps_spec_SameSet, rs_spec_SameSet, F_spec_SameSet k⟩
def la_spec_SameSet : Nat → Option Ann := fun | 4 => some ⟨[(0, .val (.sl tLabel) (.sl (.sha [1]))), (1, .val (.sl tLabel) (.sl (.sha [1]))), (5, .val (.int .i64) .leaf)], 3⟩ | _ => none
def ja_spec_SameSet : Nat → Option Ann := fun _ => none
def cs_spec_SameSet (k : Nat) : List (FuncId × Con) := []
set_option maxRecDepth 1000000 in
theorem e_spec_SameSet (k : Nat) (x) : evFn2 (mkCx TT (cs_spec_SameSet k) la_spec_SameSet ja_spec_SameSet k) ps_spec_SameSet rs_spec_SameSet Tryz.f180 x = F_spec_SameSet k x := by kernel_rfl
set_option maxRecDepth 1000000 in
theorem m_spec_SameSet (k : Nat) : Meets Tryz.prog 180 (c_spec_SameSet k) := meets_ev TTok mixed (cts := cs_spec_SameSet k) trivial Tryz.func180 (by kernel_rfl) (by kernel_rfl) (e_spec_SameSet k)
abbrev ps_spec_ChainOk : List PK := [.val tChain (.pair .leaf .shr)]
abbrev rs_spec_ChainOk : List RK := [.val .bool .leaf]
def c_spec_ChainOk (k : Nat) : Con := ⟨ps_spec_ChainOk, rs_spec_ChainOk, F_spec_ChainOk k⟩
def la_spec_ChainOk : Nat → Option Ann := fun | 2 => some ⟨[(1, .box 3 tChain (.pair .leaf (.sl (.sha [1])))), (3, .val (.int .i64) .leaf)], 4⟩ | 7 => some ⟨[(1, .box 3 tChain (.pair .leaf (.sl (.sha [1])))), (3, .val (.int .i64) .leaf), (4, .val (.int .i64) .leaf)], 4⟩ | _ => none
def ja_spec_ChainOk : Nat → Option Ann := fun | 11 => some ⟨[(1, .box 3 tChain (.pair .leaf (.sl (.sha [1]))))], 4⟩ | _ => none
def cs_spec_ChainOk (k : Nat) : List (FuncId × Con) := [(173, c_spec_AlarmOk k), (203, c_spec_Finger k), (180, c_spec_SameSet k)]
set_option maxRecDepth 1000000 in
theorem e_spec_ChainOk (k : Nat) (x) : evFn2 (mkCx TT (cs_spec_ChainOk k) la_spec_ChainOk ja_spec_ChainOk k) ps_spec_ChainOk rs_spec_ChainOk Tryz.f345 x = F_spec_ChainOk k x := by kernel_rfl
set_option maxRecDepth 1000000 in
theorem m_spec_ChainOk (k : Nat) : Meets Tryz.prog 345 (c_spec_ChainOk k) := meets_ev TTok mixed (cts := cs_spec_ChainOk k) ⟨m_spec_AlarmOk k, m_spec_Finger k, m_spec_SameSet k, trivial⟩ Tryz.func345 (by kernel_rfl) (by kernel_rfl) (e_spec_ChainOk k)
abbrev ps_spec_PartOf : List PK := [.val (.int .i64) .leaf, .val (.int .i64) .leaf]
abbrev rs_spec_PartOf : List RK := [.val (.int .i64) .leaf]
def c_spec_PartOf (k : Nat) : Con := ⟨ps_spec_PartOf, rs_spec_PartOf, F_spec_PartOf k⟩
def la_spec_PartOf : Nat → Option Ann := fun _ => none
def ja_spec_PartOf : Nat → Option Ann := fun _ => none
def cs_spec_PartOf (k : Nat) : List (FuncId × Con) := []
set_option maxRecDepth 1000000 in
theorem e_spec_PartOf (k : Nat) (x) : evFn2 (mkCx TT (cs_spec_PartOf k) la_spec_PartOf ja_spec_PartOf k) ps_spec_PartOf rs_spec_PartOf Tryz.f202 x = F_spec_PartOf k x := by kernel_rfl
set_option maxRecDepth 1000000 in
theorem m_spec_PartOf (k : Nat) : Meets Tryz.prog 202 (c_spec_PartOf k) := meets_ev TTok mixed (cts := cs_spec_PartOf k) trivial Tryz.func202 (by kernel_rfl) (by kernel_rfl) (e_spec_PartOf k)
abbrev ps_spec_PartOk : List PK := [.val tPart (.pair .leaf (.pair .leaf .shr)), .val (.int .i64) .leaf, .val (.int .i64) .leaf]
abbrev rs_spec_PartOk : List RK := [.val .bool .leaf]
def c_spec_PartOk (k : Nat) : Con := ⟨ps_spec_PartOk, rs_spec_PartOk, F_spec_PartOk k⟩
def la_spec_PartOk : Nat → Option Ann := fun | 2 => some ⟨[(1, .val (.int .i64) .leaf), (2, .val (.int .i64) .leaf), (3, .box 3 tPart (.pair .leaf (.pair .leaf (.sl (.sha [1]))))), (7, .val (.int .i64) .leaf)], 4⟩ | _ => none
def ja_spec_PartOk : Nat → Option Ann := fun | 6 => some ⟨[(3, .box 3 tPart (.pair .leaf (.pair .leaf (.sl (.sha [1])))))], 4⟩ | _ => none
def cs_spec_PartOk (k : Nat) : List (FuncId × Con) := [(345, c_spec_ChainOk k), (202, c_spec_PartOf k), (82, c_spec_l1In k)]
set_option maxRecDepth 1000000 in
theorem e_spec_PartOk (k : Nat) (x) : evFn2 (mkCx TT (cs_spec_PartOk k) la_spec_PartOk ja_spec_PartOk k) ps_spec_PartOk rs_spec_PartOk Tryz.f278 x = F_spec_PartOk k x := by kernel_rfl
set_option maxRecDepth 1000000 in
theorem m_spec_PartOk (k : Nat) : Meets Tryz.prog 278 (c_spec_PartOk k) := meets_ev TTok mixed (cts := cs_spec_PartOk k) ⟨m_spec_ChainOk k, m_spec_PartOf k, m_spec_l1In k, trivial⟩ Tryz.func278 (by kernel_rfl) (by kernel_rfl) (e_spec_PartOk k)
abbrev ps_spec_StoreOk : List PK := [.val (.sl tPart) .shr]
abbrev rs_spec_StoreOk : List RK := [.val .bool .leaf]
def c_spec_StoreOk (k : Nat) : Con := ⟨ps_spec_StoreOk, rs_spec_StoreOk, F_spec_StoreOk k⟩
def la_spec_StoreOk : Nat → Option Ann := fun | 2 => some ⟨[(0, .val (.sl tPart) (.sl (.sha [1]))), (3, .val (.int .i64) .leaf)], 3⟩ | _ => none
def ja_spec_StoreOk : Nat → Option Ann := fun | 6 => some ⟨[(0, .val (.sl tPart) (.sl (.sha [1])))], 3⟩ | _ => none
def cs_spec_StoreOk (k : Nat) : List (FuncId × Con) := [(278, c_spec_PartOk k), (82, c_spec_l1In k)]
set_option maxRecDepth 1000000 in
theorem e_spec_StoreOk (k : Nat) (x) : evFn2 (mkCx TT (cs_spec_StoreOk k) la_spec_StoreOk ja_spec_StoreOk k) ps_spec_StoreOk rs_spec_StoreOk Tryz.f170 x = F_spec_StoreOk k x := by kernel_rfl
set_option maxRecDepth 1000000 in
theorem m_spec_StoreOk (k : Nat) : Meets Tryz.prog 170 (c_spec_StoreOk k) := meets_ev TTok mixed (cts := cs_spec_StoreOk k) ⟨m_spec_PartOk k, m_spec_l1In k, trivial⟩ Tryz.func170 (by kernel_rfl) (by kernel_rfl) (e_spec_StoreOk k)
abbrev ps_spec_l4Copy : List PK := [.val tAlarm (.pair .shr (.pair .leaf (.pair .leaf .leaf)))]
abbrev rs_spec_l4Copy : List RK := [.val tAlarm (.pair .own (.pair .leaf (.pair .leaf .leaf)))]
def c_spec_l4Copy (k : Nat) : Con := ⟨ps_spec_l4Copy, rs_spec_l4Copy, F_spec_l4Copy k⟩
def la_spec_l4Copy : Nat → Option Ann := fun _ => none
def ja_spec_l4Copy : Nat → Option Ann := fun _ => none
def cs_spec_l4Copy (k : Nat) : List (FuncId × Con) := []
set_option maxRecDepth 1000000 in
theorem e_spec_l4Copy (k : Nat) (x) : evFn2 (mkCx TT (cs_spec_l4Copy k) la_spec_l4Copy ja_spec_l4Copy k) ps_spec_l4Copy rs_spec_l4Copy Tryz.f236 x = F_spec_l4Copy k x := by kernel_rfl
set_option maxRecDepth 1000000 in
theorem m_spec_l4Copy (k : Nat) : Meets Tryz.prog 236 (c_spec_l4Copy k) := meets_ev TTok mixed (cts := cs_spec_l4Copy k) trivial Tryz.func236 (by kernel_rfl) (by kernel_rfl) (e_spec_l4Copy k)
abbrev ps_spec_l4All : List PK := [.val (.sl tAlarm) .shr]
abbrev rs_spec_l4All : List RK := [.val (.sl tAlarm) .own]
def c_spec_l4All (k : Nat) : Con := ⟨ps_spec_l4All, rs_spec_l4All, F_spec_l4All k⟩
def la_spec_l4All : Nat → Option Ann := fun | 3 => some ⟨[(0, .val (.sl tAlarm) (.sl (.sha [1]))), (3, .val (.sl tAlarm) (.sl (.row 3 [3] true))), (4, .val (.int .i64) .leaf)], 4⟩ | _ => none
def ja_spec_l4All : Nat → Option Ann := fun _ => none
def cs_spec_l4All (k : Nat) : List (FuncId × Con) := [(236, c_spec_l4Copy k)]
set_option maxRecDepth 1000000 in
theorem e_spec_l4All (k : Nat) (x) : evFn2 (mkCx TT (cs_spec_l4All k) la_spec_l4All ja_spec_l4All k) ps_spec_l4All rs_spec_l4All Tryz.f208 x = F_spec_l4All k x := by kernel_rfl
set_option maxRecDepth 1000000 in
theorem m_spec_l4All (k : Nat) : Meets Tryz.prog 208 (c_spec_l4All k) := meets_ev TTok mixed (cts := cs_spec_l4All k) ⟨m_spec_l4Copy k, trivial⟩ Tryz.func208 (by kernel_rfl) (by kernel_rfl) (e_spec_l4All k)
abbrev ps_spec_AlarmsIn : List PK := [.val tPart (.pair .leaf (.pair .leaf .shr))]
abbrev rs_spec_AlarmsIn : List RK := [.val (.sl tAlarm) .own]
def c_spec_AlarmsIn (k : Nat) : Con := ⟨ps_spec_AlarmsIn, rs_spec_AlarmsIn, F_spec_AlarmsIn k⟩
def la_spec_AlarmsIn : Nat → Option Ann := fun | 3 => some ⟨[(1, .box 3 tPart (.pair .leaf (.pair .leaf (.sl (.sha [1]))))), (3, .val (.sl tAlarm) (.sl (.row 4 [4] true))), (4, .val (.int .i64) .leaf)], 5⟩ | _ => none
def ja_spec_AlarmsIn : Nat → Option Ann := fun _ => none
def cs_spec_AlarmsIn (k : Nat) : List (FuncId × Con) := [(208, c_spec_l4All k)]
set_option maxRecDepth 1000000 in
theorem e_spec_AlarmsIn (k : Nat) (x) : evFn2 (mkCx TT (cs_spec_AlarmsIn k) la_spec_AlarmsIn ja_spec_AlarmsIn k) ps_spec_AlarmsIn rs_spec_AlarmsIn Tryz.f279 x = F_spec_AlarmsIn k x := by kernel_rfl
set_option maxRecDepth 1000000 in
theorem m_spec_AlarmsIn (k : Nat) : Meets Tryz.prog 279 (c_spec_AlarmsIn k) := meets_ev TTok mixed (cts := cs_spec_AlarmsIn k) ⟨m_spec_l4All k, trivial⟩ Tryz.func279 (by kernel_rfl) (by kernel_rfl) (e_spec_AlarmsIn k)
abbrev ps_spec_SetLess : List PK := [.val (.sl tLabel) .shr, .val (.sl tLabel) .shr]
abbrev rs_spec_SetLess : List RK := [.val .bool .leaf]
def c_spec_SetLess (k : Nat) : Con := ⟨ps_spec_SetLess, rs_spec_SetLess, F_spec_SetLess k⟩
def la_spec_SetLess : Nat → Option Ann := fun | 2 => some ⟨[(0, .val (.sl tLabel) (.sl (.sha [1]))), (1, .val (.sl tLabel) (.sl (.sha [1]))), (5, .val (.int .i64) .leaf)], 3⟩ | _ => none
def ja_spec_SetLess : Nat → Option Ann := fun | 8 => some ⟨[(0, .val (.sl tLabel) (.sl (.sha [1]))), (1, .val (.sl tLabel) (.sl (.sha [1])))], 3⟩ | _ => none
def cs_spec_SetLess (k : Nat) : List (FuncId × Con) := [(232, c_spec_Less k)]
set_option maxRecDepth 1000000 in
theorem e_spec_SetLess (k : Nat) (x) : evFn2 (mkCx TT (cs_spec_SetLess k) la_spec_SetLess ja_spec_SetLess k) ps_spec_SetLess rs_spec_SetLess Tryz.f346 x = F_spec_SetLess k x := by kernel_rfl
set_option maxRecDepth 1000000 in
theorem m_spec_SetLess (k : Nat) : Meets Tryz.prog 346 (c_spec_SetLess k) := meets_ev TTok mixed (cts := cs_spec_SetLess k) ⟨m_spec_Less k, trivial⟩ Tryz.func346 (by kernel_rfl) (by kernel_rfl) (e_spec_SetLess k)
abbrev ps_spec_l8Sort : List PK := [.val (.sl tAlarm) .shr]
abbrev rs_spec_l8Sort : List RK := [.val (.sl tAlarm) .shr]
def c_spec_l8Sort (k : Nat) : Con := ⟨ps_spec_l8Sort, rs_spec_l8Sort, F_spec_l8Sort k⟩
def la_spec_l8Sort : Nat → Option Ann := fun | 3 => some ⟨[(0, .val (.sl tAlarm) (.sl (.sha [1]))), (3, .val (.sl tAlarm) (.sl (.row 3 [2] false))), (4, .val (.int .i64) .leaf)], 4⟩ | 7 => some ⟨[(0, .val (.sl tAlarm) (.sl (.sha [1]))), (3, .val (.sl tAlarm) (.sl (.row 3 [2] false))), (4, .val (.int .i64) .leaf), (5, .box 4 tAlarm (.pair (.sl (.row 5 [5] true)) (.pair .leaf (.pair .leaf .leaf)))), (6, .val (.int .i64) .leaf)], 6⟩ | _ => none
def ja_spec_l8Sort : Nat → Option Ann := fun | 9 => some ⟨[(0, .val (.sl tAlarm) (.sl (.sha [1]))), (3, .val (.sl tAlarm) (.sl (.row 3 [2] false))), (4, .val (.int .i64) .leaf), (5, .box 4 tAlarm (.pair (.sl (.row 5 [5] true)) (.pair .leaf (.pair .leaf .leaf)))), (6, .val (.int .i64) .leaf)], 6⟩ | _ => none
def cs_spec_l8Sort (k : Nat) : List (FuncId × Con) := [(236, c_spec_l4Copy k), (346, c_spec_SetLess k)]
set_option maxRecDepth 1000000 in
theorem e_spec_l8Sort (k : Nat) (x) : evFn2 (mkCx TT (cs_spec_l8Sort k) la_spec_l8Sort ja_spec_l8Sort k) ps_spec_l8Sort rs_spec_l8Sort Tryz.f280 x = F_spec_l8Sort k x := by kernel_rfl
set_option maxRecDepth 1000000 in
theorem m_spec_l8Sort (k : Nat) : Meets Tryz.prog 280 (c_spec_l8Sort k) := meets_ev TTok mixed (cts := cs_spec_l8Sort k) ⟨m_spec_l4Copy k, m_spec_SetLess k, trivial⟩ Tryz.func280 (by kernel_rfl) (by kernel_rfl) (e_spec_l8Sort k)
abbrev ps_spec_AllAlarms : List PK := [.val (.sl tPart) .shr]
abbrev rs_spec_AllAlarms : List RK := [.val (.sl tAlarm) .shr]
def c_spec_AllAlarms (k : Nat) : Con := ⟨ps_spec_AllAlarms, rs_spec_AllAlarms, F_spec_AllAlarms k⟩
def la_spec_AllAlarms : Nat → Option Ann := fun | 3 => some ⟨[(0, .val (.sl tPart) (.sl (.sha [1]))), (3, .val (.sl tAlarm) (.sl (.row 3 [3] true))), (4, .val (.int .i64) .leaf)], 4⟩ | _ => none
def ja_spec_AllAlarms : Nat → Option Ann := fun | 6 => some ⟨[(3, .val (.sl tAlarm) (.sl (.row 3 [3] true)))], 4⟩ | _ => none
def cs_spec_AllAlarms (k : Nat) : List (FuncId × Con) := [(279, c_spec_AlarmsIn k), (280, c_spec_l8Sort k)]
set_option maxRecDepth 1000000 in
theorem e_spec_AllAlarms (k : Nat) (x) : evFn2 (mkCx TT (cs_spec_AllAlarms k) la_spec_AllAlarms ja_spec_AllAlarms k) ps_spec_AllAlarms rs_spec_AllAlarms Tryz.f171 x = F_spec_AllAlarms k x := by kernel_rfl
set_option maxRecDepth 1000000 in
theorem m_spec_AllAlarms (k : Nat) : Meets Tryz.prog 171 (c_spec_AllAlarms k) := meets_ev TTok mixed (cts := cs_spec_AllAlarms k) ⟨m_spec_AlarmsIn k, m_spec_l8Sort k, trivial⟩ Tryz.func171 (by kernel_rfl) (by kernel_rfl) (e_spec_AllAlarms k)
abbrev ps_spec_Fits : List PK := [.val tConf (.pair .leaf (.pair .leaf (.pair .leaf (.pair .leaf (.pair .leaf .shr))))), .val tAlarm (.pair .shr (.pair .leaf (.pair .leaf .leaf)))]
abbrev rs_spec_Fits : List RK := [.val .bool .leaf]
def c_spec_Fits (k : Nat) : Con := ⟨ps_spec_Fits, rs_spec_Fits, F_spec_Fits k⟩
def la_spec_Fits : Nat → Option Ann := fun _ => none
def ja_spec_Fits : Nat → Option Ann := fun _ => none
def cs_spec_Fits (k : Nat) : List (FuncId × Con) := [(173, c_spec_AlarmOk k)]
set_option maxRecDepth 1000000 in
theorem e_spec_Fits (k : Nat) (x) : evFn2 (mkCx TT (cs_spec_Fits k) la_spec_Fits ja_spec_Fits k) ps_spec_Fits rs_spec_Fits Tryz.f172 x = F_spec_Fits k x := by kernel_rfl
set_option maxRecDepth 1000000 in
theorem m_spec_Fits (k : Nat) : Meets Tryz.prog 172 (c_spec_Fits k) := meets_ev TTok mixed (cts := cs_spec_Fits k) ⟨m_spec_AlarmOk k, trivial⟩ Tryz.func172 (by kernel_rfl) (by kernel_rfl) (e_spec_Fits k)
abbrev ps_spec_l16Store : List PK := [.val tWorld (.pair (.pair .leaf (.pair .leaf (.pair .leaf (.pair .leaf (.pair .leaf .shr))))) (.pair .leaf (.pair .leaf (.pair .shr (.pair .shr (.pair .shr (.pair .leaf (.pair .shr (.pair .leaf (.pair .shr (.pair .shr (.pair .shr (.pair .shr .shr)))))))))))))]
abbrev rs_spec_l16Store : List RK := [.val .bool .leaf]
def c_spec_l16Store (k : Nat) : Con := ⟨ps_spec_l16Store, rs_spec_l16Store, F_spec_l16Store k⟩
def la_spec_l16Store : Nat → Option Ann := fun | 5 => some ⟨[(1, .box 3 tWorld (.pair (.pair .leaf (.pair .leaf (.pair .leaf (.pair .leaf (.pair .leaf (.sl (.sha [1]))))))) (.pair .leaf (.pair .leaf (.pair (.sl (.sha [1])) (.pair (.sl (.sha [1])) (.pair (.sl (.sha [1])) (.pair .leaf (.pair (.sl (.sha [1])) (.pair .leaf (.pair (.sl (.sha [1])) (.pair (.sl (.sha [1])) (.pair (.sl (.sha [1])) (.pair (.sl (.sha [1])) (.sl (.sha [1])))))))))))))))), (3, .val (.sl tAlarm) (.sl (.sha [1, 2]))), (4, .val (.int .i64) .leaf)], 4⟩ | _ => none
def ja_spec_l16Store : Nat → Option Ann := fun | 9 => some ⟨[(1, .box 3 tWorld (.pair (.pair .leaf (.pair .leaf (.pair .leaf (.pair .leaf (.pair .leaf (.sl (.sha [1]))))))) (.pair .leaf (.pair .leaf (.pair (.sl (.sha [1])) (.pair (.sl (.sha [1])) (.pair (.sl (.sha [1])) (.pair .leaf (.pair (.sl (.sha [1])) (.pair .leaf (.pair (.sl (.sha [1])) (.pair (.sl (.sha [1])) (.pair (.sl (.sha [1])) (.pair (.sl (.sha [1])) (.sl (.sha [1])))))))))))))))), (3, .val (.sl tAlarm) (.sl (.sha [1, 2])))], 4⟩ | _ => none
def cs_spec_l16Store (k : Nat) : List (FuncId × Con) := [(170, c_spec_StoreOk k), (171, c_spec_AllAlarms k), (172, c_spec_Fits k)]
set_option maxRecDepth 1000000 in
theorem e_spec_l16Store (k : Nat) (x) : evFn2 (mkCx TT (cs_spec_l16Store k) la_spec_l16Store ja_spec_l16Store k) ps_spec_l16Store rs_spec_l16Store Tryz.f83 x = F_spec_l16Store k x := by kernel_rfl
set_option maxRecDepth 1000000 in
theorem m_spec_l16Store (k : Nat) : Meets Tryz.prog 83 (c_spec_l16Store k) := meets_ev TTok mixed (cts := cs_spec_l16Store k) ⟨m_spec_StoreOk k, m_spec_AllAlarms k, m_spec_Fits k, trivial⟩ Tryz.func83 (by kernel_rfl) (by kernel_rfl) (e_spec_l16Store k)
abbrev ps_spec_l14Got : List PK := [.val (.sl tAlarm) .shr]
abbrev rs_spec_l14Got : List RK := [.val .bool .leaf]
def c_spec_l14Got (k : Nat) : Con := ⟨ps_spec_l14Got, rs_spec_l14Got, F_spec_l14Got k⟩
def la_spec_l14Got : Nat → Option Ann := fun | 2 => some ⟨[(0, .val (.sl tAlarm) (.sl (.sha [1]))), (3, .val (.int .i64) .leaf)], 3⟩ | _ => none
def ja_spec_l14Got : Nat → Option Ann := fun _ => none
def cs_spec_l14Got (k : Nat) : List (FuncId × Con) := [(173, c_spec_AlarmOk k)]
set_option maxRecDepth 1000000 in
theorem e_spec_l14Got (k : Nat) (x) : evFn2 (mkCx TT (cs_spec_l14Got k) la_spec_l14Got ja_spec_l14Got k) ps_spec_l14Got rs_spec_l14Got Tryz.f84 x = F_spec_l14Got k x := by kernel_rfl
set_option maxRecDepth 1000000 in
theorem m_spec_l14Got (k : Nat) : Meets Tryz.prog 84 (c_spec_l14Got k) := meets_ev TTok mixed (cts := cs_spec_l14Got k) ⟨m_spec_AlarmOk k, trivial⟩ Tryz.func84 (by kernel_rfl) (by kernel_rfl) (e_spec_l14Got k)
abbrev ps_spec_SubOk : List PK := [.val tSub (.pair .shr .leaf)]
abbrev rs_spec_SubOk : List RK := [.val .bool .leaf]
def c_spec_SubOk (k : Nat) : Con := ⟨ps_spec_SubOk, rs_spec_SubOk, F_spec_SubOk k⟩
def la_spec_SubOk : Nat → Option Ann := fun | 2 => some ⟨[(1, .box 3 tSub (.pair (.sl (.sha [1])) .leaf)), (3, .val (.int .i64) .leaf)], 4⟩ | _ => none
def ja_spec_SubOk : Nat → Option Ann := fun | 6 => some ⟨[(1, .box 3 tSub (.pair (.sl (.sha [1])) .leaf))], 4⟩ | _ => none
def cs_spec_SubOk (k : Nat) : List (FuncId × Con) := [(173, c_spec_AlarmOk k)]
set_option maxRecDepth 1000000 in
theorem e_spec_SubOk (k : Nat) (x) : evFn2 (mkCx TT (cs_spec_SubOk k) la_spec_SubOk ja_spec_SubOk k) ps_spec_SubOk rs_spec_SubOk Tryz.f85 x = F_spec_SubOk k x := by kernel_rfl
set_option maxRecDepth 1000000 in
theorem m_spec_SubOk (k : Nat) : Meets Tryz.prog 85 (c_spec_SubOk k) := meets_ev TTok mixed (cts := cs_spec_SubOk k) ⟨m_spec_AlarmOk k, trivial⟩ Tryz.func85 (by kernel_rfl) (by kernel_rfl) (e_spec_SubOk k)
end Vg.Tryz
