/- What the functions compute is what the evaluator says; their contracts. -/
import Derived.Test.YtlpeoedbginanaaGreatE5
namespace Vg.Tryz
open Go Vg Go.Proofs
set_option linter.unusedVariables false
abbrev ps_impl_copySet : List PK := [.val (.sl tLabel) .shr]
abbrev rs_impl_copySet : List RK := [.val (.sl tLabel) .own]
def c_impl_copySet (k : Nat) : Con := ⟨ps_impl_copySet, rs_impl_copySet, F_impl_copySet k⟩
def la_impl_copySet : Nat → Option Ann := fun _ => none
def ja_impl_copySet : Nat → Option Ann := fun _ => none
def cs_impl_copySet (k : Nat) : List (FuncId × Con) := []
set_option maxRecDepth 1000000 in
theorem e_impl_copySet (k : Nat) (x) : evFn2 (mkCx TT (cs_impl_copySet k) la_impl_copySet ja_impl_copySet k) ps_impl_copySet rs_impl_copySet Tryz.f234 x = F_impl_copySet k x := by kernel_rfl
set_option maxRecDepth 1000000 in
theorem m_impl_copySet (k : Nat) : Meets Tryz.prog 234 (c_impl_copySet k) := meets_ev TTok mixed (cts := cs_impl_copySet k) trivial Tryz.func234 (by kernel_rfl) (by kernel_rfl) (e_impl_copySet k)
abbrev ps_impl_copyAlarm : List PK := [.val tAlarm (.pair .shr (.pair .leaf (.pair .leaf .leaf)))]
abbrev rs_impl_copyAlarm : List RK := [.val tAlarm (.pair .own (.pair .leaf (.pair .leaf .leaf)))]
def c_impl_copyAlarm (k : Nat) : Con := ⟨ps_impl_copyAlarm, rs_impl_copyAlarm, F_impl_copyAlarm k⟩
def la_impl_copyAlarm : Nat → Option Ann := fun _ => none
def ja_impl_copyAlarm : Nat → Option Ann := fun _ => none
def cs_impl_copyAlarm (k : Nat) : List (FuncId × Con) := [(234, c_impl_copySet k)]
set_option maxRecDepth 1000000 in
theorem e_impl_copyAlarm (k : Nat) (x) : evFn2 (mkCx TT (cs_impl_copyAlarm k) la_impl_copyAlarm ja_impl_copyAlarm k) ps_impl_copyAlarm rs_impl_copyAlarm Tryz.f239 x = F_impl_copyAlarm k x := by kernel_rfl
set_option maxRecDepth 1000000 in
theorem m_impl_copyAlarm (k : Nat) : Meets Tryz.prog 239 (c_impl_copyAlarm k) := meets_ev TTok mixed (cts := cs_impl_copyAlarm k) ⟨m_impl_copySet k, trivial⟩ Tryz.func239 (by kernel_rfl) (by kernel_rfl) (e_impl_copyAlarm k)
abbrev ps_impl_copyAlarms : List PK := [.val (.sl tAlarm) .shr]
abbrev rs_impl_copyAlarms : List RK := [.val (.sl tAlarm) .own]
def c_impl_copyAlarms (k : Nat) : Con := ⟨ps_impl_copyAlarms, rs_impl_copyAlarms, F_impl_copyAlarms k⟩
def la_impl_copyAlarms : Nat → Option Ann := fun | 3 => some ⟨[(3, .val (.sl tAlarm) (.sl (.row 3 [3] true))), (6, .val (.sl tAlarm) (.sl (.sha [1]))), (7, .val (.int .i64) .leaf), (8, .val (.int .i64) .leaf)], 4⟩ | _ => none
def ja_impl_copyAlarms : Nat → Option Ann := fun _ => none
def cs_impl_copyAlarms (k : Nat) : List (FuncId × Con) := [(239, c_impl_copyAlarm k)]
set_option maxRecDepth 1000000 in
theorem e_impl_copyAlarms (k : Nat) (x) : evFn2 (mkCx TT (cs_impl_copyAlarms k) la_impl_copyAlarms ja_impl_copyAlarms k) ps_impl_copyAlarms rs_impl_copyAlarms Tryz.f217 x = F_impl_copyAlarms k x := by kernel_rfl
set_option maxRecDepth 1000000 in
theorem m_impl_copyAlarms (k : Nat) : Meets Tryz.prog 217 (c_impl_copyAlarms k) := meets_ev TTok mixed (cts := cs_impl_copyAlarms k) ⟨m_impl_copyAlarm k, trivial⟩ Tryz.func217 (by kernel_rfl) (by kernel_rfl) (e_impl_copyAlarms k)
abbrev ps_impl_AlarmsIn : List PK := [.val tPart (.pair .leaf (.pair .leaf .shr))]
abbrev rs_impl_AlarmsIn : List RK := [.val (.sl tAlarm) .own]
def c_impl_AlarmsIn (k : Nat) : Con := ⟨ps_impl_AlarmsIn, rs_impl_AlarmsIn, F_impl_AlarmsIn k⟩
def la_impl_AlarmsIn : Nat → Option Ann := fun | 3 => some ⟨[(1, .box 3 tPart (.pair .leaf (.pair .leaf (.sl (.sha [1]))))), (3, .val (.sl tAlarm) (.sl (.row 4 [4] true))), (7, .val (.sl tChain) (.sl (.sha [1]))), (8, .val (.int .i64) .leaf), (9, .val (.int .i64) .leaf)], 5⟩ | _ => none
def ja_impl_AlarmsIn : Nat → Option Ann := fun _ => none
def cs_impl_AlarmsIn (k : Nat) : List (FuncId × Con) := [(217, c_impl_copyAlarms k)]
set_option maxRecDepth 1000000 in
theorem e_impl_AlarmsIn (k : Nat) (x) : evFn2 (mkCx TT (cs_impl_AlarmsIn k) la_impl_AlarmsIn ja_impl_AlarmsIn k) ps_impl_AlarmsIn rs_impl_AlarmsIn Tryz.f293 x = F_impl_AlarmsIn k x := by kernel_rfl
set_option maxRecDepth 1000000 in
theorem m_impl_AlarmsIn (k : Nat) : Meets Tryz.prog 293 (c_impl_AlarmsIn k) := meets_ev TTok mixed (cts := cs_impl_AlarmsIn k) ⟨m_impl_copyAlarms k, trivial⟩ Tryz.func293 (by kernel_rfl) (by kernel_rfl) (e_impl_AlarmsIn k)
abbrev ps_impl_AllAlarms : List PK := [.val (.sl tPart) .shr]
abbrev rs_impl_AllAlarms : List RK := [.val (.sl tAlarm) .own]
def c_impl_AllAlarms (k : Nat) : Con := ⟨ps_impl_AllAlarms, rs_impl_AllAlarms, F_impl_AllAlarms k⟩
def la_impl_AllAlarms : Nat → Option Ann := fun | 3 => some ⟨[(3, .val (.sl tAlarm) (.sl (.row 3 [3] true))), (6, .val (.sl tPart) (.sl (.sha [1]))), (7, .val (.int .i64) .leaf), (8, .val (.int .i64) .leaf)], 4⟩ | _ => none
def ja_impl_AllAlarms : Nat → Option Ann := fun | 7 => some ⟨[(3, .val (.sl tAlarm) (.sl (.row 3 [3] true)))], 4⟩ | _ => none
def cs_impl_AllAlarms (k : Nat) : List (FuncId × Con) := [(293, c_impl_AlarmsIn k), (294, c_impl_byLabels k)]
set_option maxRecDepth 1000000 in
theorem e_impl_AllAlarms (k : Nat) (x) : evFn2 (mkCx TT (cs_impl_AllAlarms k) la_impl_AllAlarms ja_impl_AllAlarms k) ps_impl_AllAlarms rs_impl_AllAlarms Tryz.f190 x = F_impl_AllAlarms k x := by kernel_rfl
set_option maxRecDepth 1000000 in
theorem m_impl_AllAlarms (k : Nat) : Meets Tryz.prog 190 (c_impl_AllAlarms k) := meets_ev TTok mixed (cts := cs_impl_AllAlarms k) ⟨m_impl_AlarmsIn k, m_impl_byLabels k, trivial⟩ Tryz.func190 (by kernel_rfl) (by kernel_rfl) (e_impl_AllAlarms k)
abbrev ps_impl_Fits : List PK := [.val tConf (.pair .leaf (.pair .leaf (.pair .leaf (.pair .leaf (.pair .leaf .shr))))), .val tAlarm (.pair .shr (.pair .leaf (.pair .leaf .leaf)))]
abbrev rs_impl_Fits : List RK := [.val .bool .leaf]
def c_impl_Fits (k : Nat) : Con := ⟨ps_impl_Fits, rs_impl_Fits, F_impl_Fits k⟩
def la_impl_Fits : Nat → Option Ann := fun _ => none
def ja_impl_Fits : Nat → Option Ann := fun _ => none
def cs_impl_Fits (k : Nat) : List (FuncId × Con) := [(193, c_impl_AlarmOk k)]
set_option maxRecDepth 1000000 in
theorem e_impl_Fits (k : Nat) (x) : evFn2 (mkCx TT (cs_impl_Fits k) la_impl_Fits ja_impl_Fits k) ps_impl_Fits rs_impl_Fits Tryz.f191 x = F_impl_Fits k x := by kernel_rfl
set_option maxRecDepth 1000000 in
theorem m_impl_Fits (k : Nat) : Meets Tryz.prog 191 (c_impl_Fits k) := meets_ev TTok mixed (cts := cs_impl_Fits k) ⟨m_impl_AlarmOk k, trivial⟩ Tryz.func191 (by kernel_rfl) (by kernel_rfl) (e_impl_Fits k)
abbrev ps_impl_storeRight : List PK := [.val tWorld (.pair (.pair .leaf (.pair .leaf (.pair .leaf (.pair .leaf (.pair .leaf .shr))))) (.pair .leaf (.pair .leaf (.pair .shr (.pair .shr (.pair .shr (.pair .leaf (.pair .shr (.pair .leaf (.pair .shr (.pair .shr (.pair .shr (.pair .shr .shr)))))))))))))]
abbrev rs_impl_storeRight : List RK := [.val .bool .leaf]
def c_impl_storeRight (k : Nat) : Con := ⟨ps_impl_storeRight, rs_impl_storeRight, F_impl_storeRight k⟩
def la_impl_storeRight : Nat → Option Ann := fun | 4 => some ⟨[(1, .box 3 tWorld (.pair (.pair .leaf (.pair .leaf (.pair .leaf (.pair .leaf (.pair .leaf (.sl (.sha [1]))))))) (.pair .leaf (.pair .leaf (.pair (.sl (.sha [1])) (.pair (.sl (.sha [1])) (.pair (.sl (.sha [1])) (.pair .leaf (.pair (.sl (.sha [1])) (.pair .leaf (.pair (.sl (.sha [1])) (.pair (.sl (.sha [1])) (.pair (.sl (.sha [1])) (.pair (.sl (.sha [1])) (.sl (.sha [1])))))))))))))))), (29, .val (.sl tAlarm) (.sl (.row 4 [4] true))), (30, .val (.int .i64) .leaf), (31, .val (.int .i64) .leaf)], 5⟩ | _ => none
def ja_impl_storeRight : Nat → Option Ann := fun _ => none
def cs_impl_storeRight (k : Nat) : List (FuncId × Con) := [(188, c_impl_StoreOk k), (189, c_impl_CountOf k), (190, c_impl_AllAlarms k), (191, c_impl_Fits k)]
set_option maxRecDepth 1000000 in
theorem e_impl_storeRight (k : Nat) (x) : evFn2 (mkCx TT (cs_impl_storeRight k) la_impl_storeRight ja_impl_storeRight k) ps_impl_storeRight rs_impl_storeRight Tryz.f92 x = F_impl_storeRight k x := by kernel_rfl
set_option maxRecDepth 1000000 in
theorem m_impl_storeRight (k : Nat) : Meets Tryz.prog 92 (c_impl_storeRight k) := meets_ev TTok mixed (cts := cs_impl_storeRight k) ⟨m_impl_StoreOk k, m_impl_CountOf k, m_impl_AllAlarms k, m_impl_Fits k, trivial⟩ Tryz.func92 (by kernel_rfl) (by kernel_rfl) (e_impl_storeRight k)
abbrev ps_impl_alarmsOk : List PK := [.val (.sl tAlarm) .shr]
abbrev rs_impl_alarmsOk : List RK := [.val .bool .leaf]
def c_impl_alarmsOk (k : Nat) : Con := ⟨ps_impl_alarmsOk, rs_impl_alarmsOk, F_impl_alarmsOk k⟩
def la_impl_alarmsOk : Nat → Option Ann := fun | 2 => some ⟨[(5, .val (.sl tAlarm) (.sl (.sha [1]))), (6, .val (.int .i64) .leaf), (7, .val (.int .i64) .leaf)], 3⟩ | _ => none
def ja_impl_alarmsOk : Nat → Option Ann := fun _ => none
def cs_impl_alarmsOk (k : Nat) : List (FuncId × Con) := [(193, c_impl_AlarmOk k)]
set_option maxRecDepth 1000000 in
theorem e_impl_alarmsOk (k : Nat) (x) : evFn2 (mkCx TT (cs_impl_alarmsOk k) la_impl_alarmsOk ja_impl_alarmsOk k) ps_impl_alarmsOk rs_impl_alarmsOk Tryz.f94 x = F_impl_alarmsOk k x := by kernel_rfl
set_option maxRecDepth 1000000 in
theorem m_impl_alarmsOk (k : Nat) : Meets Tryz.prog 94 (c_impl_alarmsOk k) := meets_ev TTok mixed (cts := cs_impl_alarmsOk k) ⟨m_impl_AlarmOk k, trivial⟩ Tryz.func94 (by kernel_rfl) (by kernel_rfl) (e_impl_alarmsOk k)
abbrev ps_impl_SubOk : List PK := [.val tSub (.pair .shr .leaf)]
abbrev rs_impl_SubOk : List RK := [.val .bool .leaf]
def c_impl_SubOk (k : Nat) : Con := ⟨ps_impl_SubOk, rs_impl_SubOk, F_impl_SubOk k⟩
def la_impl_SubOk : Nat → Option Ann := fun _ => none
def ja_impl_SubOk : Nat → Option Ann := fun _ => none
def cs_impl_SubOk (k : Nat) : List (FuncId × Con) := [(94, c_impl_alarmsOk k)]
set_option maxRecDepth 1000000 in
theorem e_impl_SubOk (k : Nat) (x) : evFn2 (mkCx TT (cs_impl_SubOk k) la_impl_SubOk ja_impl_SubOk k) ps_impl_SubOk rs_impl_SubOk Tryz.f192 x = F_impl_SubOk k x := by kernel_rfl
set_option maxRecDepth 1000000 in
theorem m_impl_SubOk (k : Nat) : Meets Tryz.prog 192 (c_impl_SubOk k) := meets_ev TTok mixed (cts := cs_impl_SubOk k) ⟨m_impl_alarmsOk k, trivial⟩ Tryz.func192 (by kernel_rfl) (by kernel_rfl) (e_impl_SubOk k)
abbrev ps_impl_subsRight : List PK := [.val (.sl tSub) .shr, .val tConf (.pair .leaf (.pair .leaf (.pair .leaf (.pair .leaf (.pair .leaf .shr)))))]
abbrev rs_impl_subsRight : List RK := [.val .bool .leaf]
def c_impl_subsRight (k : Nat) : Con := ⟨ps_impl_subsRight, rs_impl_subsRight, F_impl_subsRight k⟩
def la_impl_subsRight : Nat → Option Ann := fun | 2 => some ⟨[(0, .val (.sl tSub) (.sl (.sha [1]))), (3, .box 3 tConf (.pair .leaf (.pair .leaf (.pair .leaf (.pair .leaf (.pair .leaf (.sl (.sha [1])))))))), (7, .val (.sl tSub) (.sl (.sha [1]))), (8, .val (.int .i64) .leaf), (9, .val (.int .i64) .leaf)], 4⟩ | _ => none
def ja_impl_subsRight : Nat → Option Ann := fun | 7 => some ⟨[(0, .val (.sl tSub) (.sl (.sha [1]))), (3, .box 3 tConf (.pair .leaf (.pair .leaf (.pair .leaf (.pair .leaf (.pair .leaf (.sl (.sha [1]))))))))], 4⟩ | _ => none
def cs_impl_subsRight (k : Nat) : List (FuncId × Con) := [(192, c_impl_SubOk k)]
set_option maxRecDepth 1000000 in
theorem e_impl_subsRight (k : Nat) (x) : evFn2 (mkCx TT (cs_impl_subsRight k) la_impl_subsRight ja_impl_subsRight k) ps_impl_subsRight rs_impl_subsRight Tryz.f93 x = F_impl_subsRight k x := by kernel_rfl
set_option maxRecDepth 1000000 in
theorem m_impl_subsRight (k : Nat) : Meets Tryz.prog 93 (c_impl_subsRight k) := meets_ev TTok mixed (cts := cs_impl_subsRight k) ⟨m_impl_SubOk k, trivial⟩ Tryz.func93 (by kernel_rfl) (by kernel_rfl) (e_impl_subsRight k)
abbrev ps_impl_codeFits : List PK := [.val (.int .i64) .leaf, .val (.int .i64) .leaf]
abbrev rs_impl_codeFits : List RK := [.val .bool .leaf]
def c_impl_codeFits (k : Nat) : Con := ⟨ps_impl_codeFits, rs_impl_codeFits, F_impl_codeFits k⟩
def la_impl_codeFits : Nat → Option Ann := fun _ => none
def ja_impl_codeFits : Nat → Option Ann := fun _ => none
def cs_impl_codeFits (k : Nat) : List (FuncId × Con) := [(91, c_impl_in k)]
set_option maxRecDepth 1000000 in
theorem e_impl_codeFits (k : Nat) (x) : evFn2 (mkCx TT (cs_impl_codeFits k) la_impl_codeFits ja_impl_codeFits k) ps_impl_codeFits rs_impl_codeFits Tryz.f296 x = F_impl_codeFits k x := by kernel_rfl
set_option maxRecDepth 1000000 in
theorem m_impl_codeFits (k : Nat) : Meets Tryz.prog 296 (c_impl_codeFits k) := meets_ev TTok mixed (cts := cs_impl_codeFits k) ⟨m_impl_in k, trivial⟩ Tryz.func296 (by kernel_rfl) (by kernel_rfl) (e_impl_codeFits k)
abbrev ps_impl_DeedOk : List PK := [.val tDeed (.pair .leaf (.pair .leaf (.pair (.pair .shr (.pair .leaf (.pair .leaf .leaf))) (.pair .shr (.pair .leaf (.pair .leaf (.pair .leaf (.pair .shr (.pair .leaf (.pair .leaf (.pair .leaf .leaf)))))))))))]
abbrev rs_impl_DeedOk : List RK := [.val .bool .leaf]
def c_impl_DeedOk (k : Nat) : Con := ⟨ps_impl_DeedOk, rs_impl_DeedOk, F_impl_DeedOk k⟩
def la_impl_DeedOk : Nat → Option Ann := fun _ => none
def ja_impl_DeedOk : Nat → Option Ann := fun _ => none
def cs_impl_DeedOk (k : Nat) : List (FuncId × Con) := [(91, c_impl_in k), (296, c_impl_codeFits k)]
set_option maxRecDepth 1000000 in
theorem e_impl_DeedOk (k : Nat) (x) : evFn2 (mkCx TT (cs_impl_DeedOk k) la_impl_DeedOk ja_impl_DeedOk k) ps_impl_DeedOk rs_impl_DeedOk Tryz.f194 x = F_impl_DeedOk k x := by kernel_rfl
set_option maxRecDepth 1000000 in
theorem m_impl_DeedOk (k : Nat) : Meets Tryz.prog 194 (c_impl_DeedOk k) := meets_ev TTok mixed (cts := cs_impl_DeedOk k) ⟨m_impl_in k, m_impl_codeFits k, trivial⟩ Tryz.func194 (by kernel_rfl) (by kernel_rfl) (e_impl_DeedOk k)
abbrev ps_impl_SameAlarm : List PK := [.val tAlarm (.pair .shr (.pair .leaf (.pair .leaf .leaf))), .val tAlarm (.pair .shr (.pair .leaf (.pair .leaf .leaf)))]
abbrev rs_impl_SameAlarm : List RK := [.val .bool .leaf]
def c_impl_SameAlarm (k : Nat) : Con := ⟨ps_impl_SameAlarm, rs_impl_SameAlarm, F_impl_SameAlarm k⟩
def la_impl_SameAlarm : Nat → Option Ann := fun _ => none
def ja_impl_SameAlarm : Nat → Option Ann := fun _ => none
def cs_impl_SameAlarm (k : Nat) : List (FuncId × Con) := [(299, c_impl_SameSet k)]
set_option maxRecDepth 1000000 in
theorem e_impl_SameAlarm (k : Nat) (x) : evFn2 (mkCx TT (cs_impl_SameAlarm k) la_impl_SameAlarm ja_impl_SameAlarm k) ps_impl_SameAlarm rs_impl_SameAlarm Tryz.f300 x = F_impl_SameAlarm k x := by kernel_rfl
set_option maxRecDepth 1000000 in
theorem m_impl_SameAlarm (k : Nat) : Meets Tryz.prog 300 (c_impl_SameAlarm k) := meets_ev TTok mixed (cts := cs_impl_SameAlarm k) ⟨m_impl_SameSet k, trivial⟩ Tryz.func300 (by kernel_rfl) (by kernel_rfl) (e_impl_SameAlarm k)
abbrev ps_impl_sameInts : List PK := [.val (.sl (.int .i64)) .shr, .val (.sl (.int .i64)) .shr]
abbrev rs_impl_sameInts : List RK := [.val .bool .leaf]
def c_impl_sameInts (k : Nat) : Con := ⟨ps_impl_sameInts, rs_impl_sameInts, F_impl_sameInts k⟩
def la_impl_sameInts : Nat → Option Ann := fun | 4 => some ⟨[(0, .val (.sl (.int .i64)) (.sl (.sha [1]))), (1, .val (.sl (.int .i64)) (.sl (.sha [1]))), (12, .val (.int .i64) .leaf), (13, .val (.int .i64) .leaf)], 3⟩ | _ => none
def ja_impl_sameInts : Nat → Option Ann := fun _ => none
def cs_impl_sameInts (k : Nat) : List (FuncId × Con) := []
set_option maxRecDepth 1000000 in
theorem e_impl_sameInts (k : Nat) (x) : evFn2 (mkCx TT (cs_impl_sameInts k) la_impl_sameInts ja_impl_sameInts k) ps_impl_sameInts rs_impl_sameInts Tryz.f353 x = F_impl_sameInts k x := by kernel_rfl
set_option maxRecDepth 1000000 in
theorem m_impl_sameInts (k : Nat) : Meets Tryz.prog 353 (c_impl_sameInts k) := meets_ev TTok mixed (cts := cs_impl_sameInts k) trivial Tryz.func353 (by kernel_rfl) (by kernel_rfl) (e_impl_sameInts k)
abbrev ps_impl_sameAlarms : List PK := [.val (.sl tAlarm) .shr, .val (.sl tAlarm) .shr]
abbrev rs_impl_sameAlarms : List RK := [.val .bool .leaf]
def c_impl_sameAlarms (k : Nat) : Con := ⟨ps_impl_sameAlarms, rs_impl_sameAlarms, F_impl_sameAlarms k⟩
def la_impl_sameAlarms : Nat → Option Ann := fun | 4 => some ⟨[(0, .val (.sl tAlarm) (.sl (.sha [1]))), (1, .val (.sl tAlarm) (.sl (.sha [1]))), (12, .val (.int .i64) .leaf), (13, .val (.int .i64) .leaf)], 3⟩ | _ => none
def ja_impl_sameAlarms : Nat → Option Ann := fun _ => none
def cs_impl_sameAlarms (k : Nat) : List (FuncId × Con) := [(300, c_impl_SameAlarm k)]
set_option maxRecDepth 1000000 in
theorem e_impl_sameAlarms (k : Nat) (x) : evFn2 (mkCx TT (cs_impl_sameAlarms k) la_impl_sameAlarms ja_impl_sameAlarms k) ps_impl_sameAlarms rs_impl_sameAlarms Tryz.f354 x = F_impl_sameAlarms k x := by kernel_rfl
set_option maxRecDepth 1000000 in
theorem m_impl_sameAlarms (k : Nat) : Meets Tryz.prog 354 (c_impl_sameAlarms k) := meets_ev TTok mixed (cts := cs_impl_sameAlarms k) ⟨m_impl_SameAlarm k, trivial⟩ Tryz.func354 (by kernel_rfl) (by kernel_rfl) (e_impl_sameAlarms k)
abbrev ps_impl_sameTask : List PK := [.val tTask (.pair .leaf (.pair .leaf (.pair (.pair .shr (.pair .leaf (.pair .leaf .leaf))) (.pair .shr (.pair .leaf (.pair .shr (.pair .shr (.pair .leaf .leaf)))))))), .val tTask (.pair .leaf (.pair .leaf (.pair (.pair .shr (.pair .leaf (.pair .leaf .leaf))) (.pair .shr (.pair .leaf (.pair .shr (.pair .shr (.pair .leaf .leaf))))))))]
abbrev rs_impl_sameTask : List RK := [.val .bool .leaf]
def c_impl_sameTask (k : Nat) : Con := ⟨ps_impl_sameTask, rs_impl_sameTask, F_impl_sameTask k⟩
def la_impl_sameTask : Nat → Option Ann := fun _ => none
def ja_impl_sameTask : Nat → Option Ann := fun _ => none
def cs_impl_sameTask (k : Nat) : List (FuncId × Con) := [(300, c_impl_SameAlarm k), (299, c_impl_SameSet k), (353, c_impl_sameInts k), (354, c_impl_sameAlarms k)]
set_option maxRecDepth 1000000 in
theorem e_impl_sameTask (k : Nat) (x) : evFn2 (mkCx TT (cs_impl_sameTask k) la_impl_sameTask ja_impl_sameTask k) ps_impl_sameTask rs_impl_sameTask Tryz.f297 x = F_impl_sameTask k x := by kernel_rfl
set_option maxRecDepth 1000000 in
theorem m_impl_sameTask (k : Nat) : Meets Tryz.prog 297 (c_impl_sameTask k) := meets_ev TTok mixed (cts := cs_impl_sameTask k) ⟨m_impl_SameAlarm k, m_impl_SameSet k, m_impl_sameInts k, m_impl_sameAlarms k, trivial⟩ Tryz.func297 (by kernel_rfl) (by kernel_rfl) (e_impl_sameTask k)
abbrev ps_impl_snapOk : List PK := [.val tTask (.pair .leaf (.pair .leaf (.pair (.pair .shr (.pair .leaf (.pair .leaf .leaf))) (.pair .shr (.pair .leaf (.pair .shr (.pair .shr (.pair .leaf .leaf))))))))]
abbrev rs_impl_snapOk : List RK := [.val .bool .leaf]
def c_impl_snapOk (k : Nat) : Con := ⟨ps_impl_snapOk, rs_impl_snapOk, F_impl_snapOk k⟩
def la_impl_snapOk : Nat → Option Ann := fun | 2 => some ⟨[(1, .box 3 tTask (.pair .leaf (.pair .leaf (.pair (.pair (.sl (.sha [1])) (.pair .leaf (.pair .leaf .leaf))) (.pair (.sl (.sha [1])) (.pair .leaf (.pair (.sl (.sha [1])) (.pair (.sl (.sha [1])) (.pair .leaf .leaf))))))))), (6, .val (.sl (.int .i64)) (.sl (.sha [1]))), (7, .val (.int .i64) .leaf), (8, .val (.int .i64) .leaf)], 4⟩ | _ => none
def ja_impl_snapOk : Nat → Option Ann := fun | 7 => some ⟨[(1, .box 3 tTask (.pair .leaf (.pair .leaf (.pair (.pair (.sl (.sha [1])) (.pair .leaf (.pair .leaf .leaf))) (.pair (.sl (.sha [1])) (.pair .leaf (.pair (.sl (.sha [1])) (.pair (.sl (.sha [1])) (.pair .leaf .leaf)))))))))], 4⟩ | _ => none
def cs_impl_snapOk (k : Nat) : List (FuncId × Con) := [(94, c_impl_alarmsOk k), (91, c_impl_in k)]
set_option maxRecDepth 1000000 in
theorem e_impl_snapOk (k : Nat) (x) : evFn2 (mkCx TT (cs_impl_snapOk k) la_impl_snapOk ja_impl_snapOk k) ps_impl_snapOk rs_impl_snapOk Tryz.f298 x = F_impl_snapOk k x := by kernel_rfl
set_option maxRecDepth 1000000 in
theorem m_impl_snapOk (k : Nat) : Meets Tryz.prog 298 (c_impl_snapOk k) := meets_ev TTok mixed (cts := cs_impl_snapOk k) ⟨m_impl_alarmsOk k, m_impl_in k, trivial⟩ Tryz.func298 (by kernel_rfl) (by kernel_rfl) (e_impl_snapOk k)
abbrev ps_impl_TaskOk : List PK := [.val tTask (.pair .leaf (.pair .leaf (.pair (.pair .shr (.pair .leaf (.pair .leaf .leaf))) (.pair .shr (.pair .leaf (.pair .shr (.pair .shr (.pair .leaf .leaf)))))))), .val (.int .i64) .leaf]
abbrev rs_impl_TaskOk : List RK := [.val .bool .leaf]
def c_impl_TaskOk (k : Nat) : Con := ⟨ps_impl_TaskOk, rs_impl_TaskOk, F_impl_TaskOk k⟩
def la_impl_TaskOk : Nat → Option Ann := fun _ => none
def ja_impl_TaskOk : Nat → Option Ann := fun | 25 => some ⟨[(2, .box 3 tTask (.pair .leaf (.pair .leaf (.pair (.pair (.sl (.sha [1])) (.pair .leaf (.pair .leaf .leaf))) (.pair (.sl (.sha [1])) (.pair .leaf (.pair (.sl (.sha [1])) (.pair (.sl (.sha [1])) (.pair .leaf .leaf))))))))), (5, .box 4 tTask (.pair .leaf (.pair .leaf (.pair (.pair (.sl (.sha [1])) (.pair .leaf (.pair .leaf .leaf))) (.pair (.sl (.sha [1])) (.pair .leaf (.pair (.sl (.sha [1])) (.pair (.sl (.sha [1])) (.pair .leaf .leaf))))))))), (6, .val .bool .leaf), (7, .val (.int .i64) .leaf)], 5⟩ | _ => none
def cs_impl_TaskOk (k : Nat) : List (FuncId × Con) := [(91, c_impl_in k), (297, c_impl_sameTask k), (193, c_impl_AlarmOk k), (233, c_impl_SetOk k), (298, c_impl_snapOk k)]
set_option maxRecDepth 1000000 in
theorem e_impl_TaskOk (k : Nat) (x) : evFn2 (mkCx TT (cs_impl_TaskOk k) la_impl_TaskOk ja_impl_TaskOk k) ps_impl_TaskOk rs_impl_TaskOk Tryz.f195 x = F_impl_TaskOk k x := by kernel_rfl
set_option maxRecDepth 1000000 in
theorem m_impl_TaskOk (k : Nat) : Meets Tryz.prog 195 (c_impl_TaskOk k) := meets_ev TTok mixed (cts := cs_impl_TaskOk k) ⟨m_impl_in k, m_impl_sameTask k, m_impl_AlarmOk k, m_impl_SetOk k, m_impl_snapOk k, trivial⟩ Tryz.func195 (by kernel_rfl) (by kernel_rfl) (e_impl_TaskOk k)
abbrev ps_impl_HomeOf : List PK := [.val (.sl tPart) .shr, .val (.sl tLabel) .shr]
abbrev rs_impl_HomeOf : List RK := [.val (.int .i64) .leaf]
def c_impl_HomeOf (k : Nat) : Con := ⟨ps_impl_HomeOf, rs_impl_HomeOf, F_impl_HomeOf k⟩
def la_impl_HomeOf : Nat → Option Ann := fun _ => none
def ja_impl_HomeOf : Nat → Option Ann := fun _ => none
def cs_impl_HomeOf (k : Nat) : List (FuncId × Con) := [(309, c_impl_Finger k), (308, c_impl_PartOf k)]
set_option maxRecDepth 1000000 in
theorem e_impl_HomeOf (k : Nat) (x) : evFn2 (mkCx TT (cs_impl_HomeOf k) la_impl_HomeOf ja_impl_HomeOf k) ps_impl_HomeOf rs_impl_HomeOf Tryz.f339 x = F_impl_HomeOf k x := by kernel_rfl
set_option maxRecDepth 1000000 in
theorem m_impl_HomeOf (k : Nat) : Meets Tryz.prog 339 (c_impl_HomeOf k) := meets_ev TTok mixed (cts := cs_impl_HomeOf k) ⟨m_impl_Finger k, m_impl_PartOf k, trivial⟩ Tryz.func339 (by kernel_rfl) (by kernel_rfl) (e_impl_HomeOf k)
abbrev ps_impl_chainOf : List PK := [.val tPart (.pair .leaf (.pair .leaf .shr)), .val (.int .i64) .leaf]
abbrev rs_impl_chainOf : List RK := [.val (.int .i64) .leaf]
def c_impl_chainOf (k : Nat) : Con := ⟨ps_impl_chainOf, rs_impl_chainOf, F_impl_chainOf k⟩
def la_impl_chainOf : Nat → Option Ann := fun | 2 => some ⟨[(1, .val (.int .i64) .leaf), (2, .box 3 tPart (.pair .leaf (.pair .leaf (.sl (.sha [1]))))), (8, .val (.sl tChain) (.sl (.sha [1]))), (9, .val (.int .i64) .leaf), (10, .val (.int .i64) .leaf)], 4⟩ | _ => none
def ja_impl_chainOf : Nat → Option Ann := fun _ => none
def cs_impl_chainOf (k : Nat) : List (FuncId × Con) := []
set_option maxRecDepth 1000000 in
theorem e_impl_chainOf (k : Nat) (x) : evFn2 (mkCx TT (cs_impl_chainOf k) la_impl_chainOf ja_impl_chainOf k) ps_impl_chainOf rs_impl_chainOf Tryz.f371 x = F_impl_chainOf k x := by kernel_rfl
set_option maxRecDepth 1000000 in
theorem m_impl_chainOf (k : Nat) : Meets Tryz.prog 371 (c_impl_chainOf k) := meets_ev TTok mixed (cts := cs_impl_chainOf k) trivial Tryz.func371 (by kernel_rfl) (by kernel_rfl) (e_impl_chainOf k)
abbrev ps_impl_InChain : List PK := [.val tChain (.pair .leaf .shr), .val (.sl tLabel) .shr]
abbrev rs_impl_InChain : List RK := [.val (.int .i64) .leaf]
def c_impl_InChain (k : Nat) : Con := ⟨ps_impl_InChain, rs_impl_InChain, F_impl_InChain k⟩
def la_impl_InChain : Nat → Option Ann := fun _ => none
def ja_impl_InChain : Nat → Option Ann := fun _ => none
def cs_impl_InChain (k : Nat) : List (FuncId × Con) := [(382, c_impl_labelsAt k)]
set_option maxRecDepth 1000000 in
theorem e_impl_InChain (k : Nat) (x) : evFn2 (mkCx TT (cs_impl_InChain k) la_impl_InChain ja_impl_InChain k) ps_impl_InChain rs_impl_InChain Tryz.f372 x = F_impl_InChain k x := by kernel_rfl
set_option maxRecDepth 1000000 in
theorem m_impl_InChain (k : Nat) : Meets Tryz.prog 372 (c_impl_InChain k) := meets_ev TTok mixed (cts := cs_impl_InChain k) ⟨m_impl_labelsAt k, trivial⟩ Tryz.func372 (by kernel_rfl) (by kernel_rfl) (e_impl_InChain k)
abbrev ps_impl_FindIn : List PK := [.val tPart (.pair .leaf (.pair .leaf .shr)), .val (.sl tLabel) .shr]
abbrev rs_impl_FindIn : List RK := [.val tAlarm (.pair .own (.pair .leaf (.pair .leaf .leaf))), .val .bool .leaf]
def c_impl_FindIn (k : Nat) : Con := ⟨ps_impl_FindIn, rs_impl_FindIn, F_impl_FindIn k⟩
def la_impl_FindIn : Nat → Option Ann := fun _ => none
def ja_impl_FindIn : Nat → Option Ann := fun _ => none
def cs_impl_FindIn (k : Nat) : List (FuncId × Con) := [(309, c_impl_Finger k), (371, c_impl_chainOf k), (372, c_impl_InChain k), (239, c_impl_copyAlarm k)]
set_option maxRecDepth 1000000 in
theorem e_impl_FindIn (k : Nat) (x) : evFn2 (mkCx TT (cs_impl_FindIn k) la_impl_FindIn ja_impl_FindIn k) ps_impl_FindIn rs_impl_FindIn Tryz.f338 x = F_impl_FindIn k x := by kernel_rfl
set_option maxRecDepth 1000000 in
theorem m_impl_FindIn (k : Nat) : Meets Tryz.prog 338 (c_impl_FindIn k) := meets_ev TTok mixed (cts := cs_impl_FindIn k) ⟨m_impl_Finger k, m_impl_chainOf k, m_impl_InChain k, m_impl_copyAlarm k, trivial⟩ Tryz.func338 (by kernel_rfl) (by kernel_rfl) (e_impl_FindIn k)
abbrev ps_impl_FindAlarm : List PK := [.val (.sl tPart) .shr, .val (.sl tLabel) .shr]
abbrev rs_impl_FindAlarm : List RK := [.val tAlarm (.pair .own (.pair .leaf (.pair .leaf .leaf))), .val .bool .leaf]
def c_impl_FindAlarm (k : Nat) : Con := ⟨ps_impl_FindAlarm, rs_impl_FindAlarm, F_impl_FindAlarm k⟩
def la_impl_FindAlarm : Nat → Option Ann := fun _ => none
def ja_impl_FindAlarm : Nat → Option Ann := fun _ => none
def cs_impl_FindAlarm (k : Nat) : List (FuncId × Con) := [(339, c_impl_HomeOf k), (338, c_impl_FindIn k)]
set_option maxRecDepth 1000000 in
theorem e_impl_FindAlarm (k : Nat) (x) : evFn2 (mkCx TT (cs_impl_FindAlarm k) la_impl_FindAlarm ja_impl_FindAlarm k) ps_impl_FindAlarm rs_impl_FindAlarm Tryz.f266 x = F_impl_FindAlarm k x := by kernel_rfl
set_option maxRecDepth 1000000 in
theorem m_impl_FindAlarm (k : Nat) : Meets Tryz.prog 266 (c_impl_FindAlarm k) := meets_ev TTok mixed (cts := cs_impl_FindAlarm k) ⟨m_impl_HomeOf k, m_impl_FindIn k, trivial⟩ Tryz.func266 (by kernel_rfl) (by kernel_rfl) (e_impl_FindAlarm k)
abbrev ps_impl_snapRight : List PK := [.val tWorld (.pair (.pair .leaf (.pair .leaf (.pair .leaf (.pair .leaf (.pair .leaf .shr))))) (.pair .leaf (.pair .leaf (.pair .shr (.pair .shr (.pair .shr (.pair .leaf (.pair .shr (.pair .leaf (.pair .shr (.pair .shr (.pair .shr (.pair .shr .shr))))))))))))), .val tTask (.pair .leaf (.pair .leaf (.pair (.pair .shr (.pair .leaf (.pair .leaf .leaf))) (.pair .shr (.pair .leaf (.pair .shr (.pair .shr (.pair .leaf .leaf))))))))]
abbrev rs_impl_snapRight : List RK := [.val .bool .leaf]
def c_impl_snapRight (k : Nat) : Con := ⟨ps_impl_snapRight, rs_impl_snapRight, F_impl_snapRight k⟩
def la_impl_snapRight : Nat → Option Ann := fun | 6 => some ⟨[(2, .box 3 tWorld (.pair (.pair .leaf (.pair .leaf (.pair .leaf (.pair .leaf (.pair .leaf (.sl (.sha [1]))))))) (.pair .leaf (.pair .leaf (.pair (.sl (.sha [1])) (.pair (.sl (.sha [1])) (.pair (.sl (.sha [1])) (.pair .leaf (.pair (.sl (.sha [1])) (.pair .leaf (.pair (.sl (.sha [1])) (.pair (.sl (.sha [1])) (.pair (.sl (.sha [1])) (.pair (.sl (.sha [1])) (.sl (.sha [1])))))))))))))))), (3, .box 4 tTask (.pair .leaf (.pair .leaf (.pair (.pair (.sl (.sha [1])) (.pair .leaf (.pair .leaf .leaf))) (.pair (.sl (.sha [1])) (.pair .leaf (.pair (.sl (.sha [1])) (.pair (.sl (.sha [1])) (.pair .leaf .leaf))))))))), (5, .val .bool .leaf), (6, .val (.sl tAlarm) (.sl (.row 5 [5] true))), (35, .val (.sl (.int .i64)) (.sl (.sha [1]))), (36, .val (.int .i64) .leaf), (37, .val (.int .i64) .leaf)], 6⟩ | _ => none
def ja_impl_snapRight : Nat → Option Ann := fun | 13 => some ⟨[(2, .box 3 tWorld (.pair (.pair .leaf (.pair .leaf (.pair .leaf (.pair .leaf (.pair .leaf (.sl (.sha [1]))))))) (.pair .leaf (.pair .leaf (.pair (.sl (.sha [1])) (.pair (.sl (.sha [1])) (.pair (.sl (.sha [1])) (.pair .leaf (.pair (.sl (.sha [1])) (.pair .leaf (.pair (.sl (.sha [1])) (.pair (.sl (.sha [1])) (.pair (.sl (.sha [1])) (.pair (.sl (.sha [1])) (.sl (.sha [1])))))))))))))))), (3, .box 4 tTask (.pair .leaf (.pair .leaf (.pair (.pair (.sl (.sha [1])) (.pair .leaf (.pair .leaf .leaf))) (.pair (.sl (.sha [1])) (.pair .leaf (.pair (.sl (.sha [1])) (.pair (.sl (.sha [1])) (.pair .leaf .leaf))))))))), (5, .val .bool .leaf), (6, .val (.sl tAlarm) (.sl (.row 5 [5] true)))], 6⟩ | _ => none
def cs_impl_snapRight (k : Nat) : List (FuncId × Con) := [(293, c_impl_AlarmsIn k), (354, c_impl_sameAlarms k)]
set_option maxRecDepth 1000000 in
theorem e_impl_snapRight (k : Nat) (x) : evFn2 (mkCx TT (cs_impl_snapRight k) la_impl_snapRight ja_impl_snapRight k) ps_impl_snapRight rs_impl_snapRight Tryz.f301 x = F_impl_snapRight k x := by kernel_rfl
set_option maxRecDepth 1000000 in
theorem m_impl_snapRight (k : Nat) : Meets Tryz.prog 301 (c_impl_snapRight k) := meets_ev TTok mixed (cts := cs_impl_snapRight k) ⟨m_impl_AlarmsIn k, m_impl_sameAlarms k, trivial⟩ Tryz.func301 (by kernel_rfl) (by kernel_rfl) (e_impl_snapRight k)
abbrev ps_impl_deedFits : List PK := [.val tWorld (.pair (.pair .leaf (.pair .leaf (.pair .leaf (.pair .leaf (.pair .leaf .shr))))) (.pair .leaf (.pair .leaf (.pair .shr (.pair .shr (.pair .shr (.pair .leaf (.pair .shr (.pair .leaf (.pair .shr (.pair .shr (.pair .shr (.pair .shr .shr))))))))))))), .val tTask (.pair .leaf (.pair .leaf (.pair (.pair .shr (.pair .leaf (.pair .leaf .leaf))) (.pair .shr (.pair .leaf (.pair .shr (.pair .shr (.pair .leaf .leaf)))))))), .val tDeed (.pair .leaf (.pair .leaf (.pair (.pair .shr (.pair .leaf (.pair .leaf .leaf))) (.pair .shr (.pair .leaf (.pair .leaf (.pair .leaf (.pair .shr (.pair .leaf (.pair .leaf (.pair .leaf .leaf)))))))))))]
abbrev rs_impl_deedFits : List RK := [.val .bool .leaf]
def c_impl_deedFits (k : Nat) : Con := ⟨ps_impl_deedFits, rs_impl_deedFits, F_impl_deedFits k⟩
def la_impl_deedFits : Nat → Option Ann := fun _ => none
def ja_impl_deedFits : Nat → Option Ann := fun _ => none
def cs_impl_deedFits (k : Nat) : List (FuncId × Con) := [(266, c_impl_FindAlarm k), (299, c_impl_SameSet k), (300, c_impl_SameAlarm k), (191, c_impl_Fits k), (301, c_impl_snapRight k)]
set_option maxRecDepth 1000000 in
theorem e_impl_deedFits (k : Nat) (x) : evFn2 (mkCx TT (cs_impl_deedFits k) la_impl_deedFits ja_impl_deedFits k) ps_impl_deedFits rs_impl_deedFits Tryz.f196 x = F_impl_deedFits k x := by kernel_rfl
set_option maxRecDepth 1000000 in
theorem m_impl_deedFits (k : Nat) : Meets Tryz.prog 196 (c_impl_deedFits k) := meets_ev TTok mixed (cts := cs_impl_deedFits k) ⟨m_impl_FindAlarm k, m_impl_SameSet k, m_impl_SameAlarm k, m_impl_Fits k, m_impl_snapRight k, trivial⟩ Tryz.func196 (by kernel_rfl) (by kernel_rfl) (e_impl_deedFits k)
end Vg.Tryz
