/- What the functions compute is what the evaluator says; their contracts. -/
import Derived.Test.YtlpeoedbginanaaGreatE3
namespace Vg.Tryz
open Go Vg Go.Proofs
set_option linter.unusedVariables false
abbrev ps_spec_l15Codes : List PK := [.val (.int .i64) .leaf]
abbrev rs_spec_l15Codes : List RK := [.val (.sl (.int .i64)) .own]
def c_spec_l15Codes (k : Nat) : Con := ⟨ps_spec_l15Codes, rs_spec_l15Codes, F_spec_l15Codes k⟩
def la_spec_l15Codes : Nat → Option Ann := fun _ => none
def ja_spec_l15Codes : Nat → Option Ann := fun _ => none
def cs_spec_l15Codes (k : Nat) : List (FuncId × Con) := []
set_option maxRecDepth 1000000 in
theorem e_spec_l15Codes (k : Nat) (x) : evFn2 (mkCx TT (cs_spec_l15Codes k) la_spec_l15Codes ja_spec_l15Codes k) ps_spec_l15Codes rs_spec_l15Codes Tryz.f175 x = F_spec_l15Codes k x := by kernel_rfl
set_option maxRecDepth 1000000 in
theorem m_spec_l15Codes (k : Nat) : Meets Tryz.prog 175 (c_spec_l15Codes k) := meets_ev TTok mixed (cts := cs_spec_l15Codes k) trivial Tryz.func175 (by kernel_rfl) (by kernel_rfl) (e_spec_l15Codes k)
abbrev ps_spec_l15Has : List PK := [.val (.sl (.int .i64)) .shr, .val (.int .i64) .leaf]
abbrev rs_spec_l15Has : List RK := [.val .bool .leaf]
def c_spec_l15Has (k : Nat) : Con := ⟨ps_spec_l15Has, rs_spec_l15Has, F_spec_l15Has k⟩
def la_spec_l15Has : Nat → Option Ann := fun | 2 => some ⟨[(0, .val (.sl (.int .i64)) (.sl (.sha [1]))), (1, .val (.int .i64) .leaf), (5, .val (.int .i64) .leaf)], 3⟩ | _ => none
def ja_spec_l15Has : Nat → Option Ann := fun _ => none
def cs_spec_l15Has (k : Nat) : List (FuncId × Con) := []
set_option maxRecDepth 1000000 in
theorem e_spec_l15Has (k : Nat) (x) : evFn2 (mkCx TT (cs_spec_l15Has k) la_spec_l15Has ja_spec_l15Has k) ps_spec_l15Has rs_spec_l15Has Tryz.f174 x = F_spec_l15Has k x := by kernel_rfl
set_option maxRecDepth 1000000 in
theorem m_spec_l15Has (k : Nat) : Meets Tryz.prog 174 (c_spec_l15Has k) := meets_ev TTok mixed (cts := cs_spec_l15Has k) trivial Tryz.func174 (by kernel_rfl) (by kernel_rfl) (e_spec_l15Has k)
abbrev ps_spec_DeedOk : List PK := [.val tDeed (.pair .leaf (.pair .leaf (.pair (.pair .shr (.pair .leaf (.pair .leaf .leaf))) (.pair .shr (.pair .leaf (.pair .leaf (.pair .leaf (.pair .shr (.pair .leaf (.pair .leaf (.pair .leaf .leaf)))))))))))]
abbrev rs_spec_DeedOk : List RK := [.val .bool .leaf]
def c_spec_DeedOk (k : Nat) : Con := ⟨ps_spec_DeedOk, rs_spec_DeedOk, F_spec_DeedOk k⟩
def la_spec_DeedOk : Nat → Option Ann := fun _ => none
def ja_spec_DeedOk : Nat → Option Ann := fun _ => none
def cs_spec_DeedOk (k : Nat) : List (FuncId × Con) := [(82, c_spec_l1In k), (175, c_spec_l15Codes k), (174, c_spec_l15Has k)]
set_option maxRecDepth 1000000 in
theorem e_spec_DeedOk (k : Nat) (x) : evFn2 (mkCx TT (cs_spec_DeedOk k) la_spec_DeedOk ja_spec_DeedOk k) ps_spec_DeedOk rs_spec_DeedOk Tryz.f86 x = F_spec_DeedOk k x := by kernel_rfl
set_option maxRecDepth 1000000 in
theorem m_spec_DeedOk (k : Nat) : Meets Tryz.prog 86 (c_spec_DeedOk k) := meets_ev TTok mixed (cts := cs_spec_DeedOk k) ⟨m_spec_l1In k, m_spec_l15Codes k, m_spec_l15Has k, trivial⟩ Tryz.func86 (by kernel_rfl) (by kernel_rfl) (e_spec_DeedOk k)
abbrev ps_spec_SameAlarm : List PK := [.val tAlarm (.pair .shr (.pair .leaf (.pair .leaf .leaf))), .val tAlarm (.pair .shr (.pair .leaf (.pair .leaf .leaf)))]
abbrev rs_spec_SameAlarm : List RK := [.val .bool .leaf]
def c_spec_SameAlarm (k : Nat) : Con := ⟨ps_spec_SameAlarm, rs_spec_SameAlarm, F_spec_SameAlarm k⟩
def la_spec_SameAlarm : Nat → Option Ann := fun _ => none
def ja_spec_SameAlarm : Nat → Option Ann := fun _ => none
def cs_spec_SameAlarm (k : Nat) : List (FuncId × Con) := [(180, c_spec_SameSet k)]
set_option maxRecDepth 1000000 in
theorem e_spec_SameAlarm (k : Nat) (x) : evFn2 (mkCx TT (cs_spec_SameAlarm k) la_spec_SameAlarm ja_spec_SameAlarm k) ps_spec_SameAlarm rs_spec_SameAlarm Tryz.f179 x = F_spec_SameAlarm k x := by kernel_rfl
set_option maxRecDepth 1000000 in
theorem m_spec_SameAlarm (k : Nat) : Meets Tryz.prog 179 (c_spec_SameAlarm k) := meets_ev TTok mixed (cts := cs_spec_SameAlarm k) ⟨m_spec_SameSet k, trivial⟩ Tryz.func179 (by kernel_rfl) (by kernel_rfl) (e_spec_SameAlarm k)
abbrev ps_spec_l14Zero : List PK := [.val tAlarm (.pair .shr (.pair .leaf (.pair .leaf .leaf)))]
abbrev rs_spec_l14Zero : List RK := [.val .bool .leaf]
def c_spec_l14Zero (k : Nat) : Con := ⟨ps_spec_l14Zero, rs_spec_l14Zero, F_spec_l14Zero k⟩
def la_spec_l14Zero : Nat → Option Ann := fun _ => none
def ja_spec_l14Zero : Nat → Option Ann := fun _ => none
def cs_spec_l14Zero (k : Nat) : List (FuncId × Con) := [(179, c_spec_SameAlarm k)]
set_option maxRecDepth 1000000 in
theorem e_spec_l14Zero (k : Nat) (x) : evFn2 (mkCx TT (cs_spec_l14Zero k) la_spec_l14Zero ja_spec_l14Zero k) ps_spec_l14Zero rs_spec_l14Zero Tryz.f282 x = F_spec_l14Zero k x := by kernel_rfl
set_option maxRecDepth 1000000 in
theorem m_spec_l14Zero (k : Nat) : Meets Tryz.prog 282 (c_spec_l14Zero k) := meets_ev TTok mixed (cts := cs_spec_l14Zero k) ⟨m_spec_SameAlarm k, trivial⟩ Tryz.func282 (by kernel_rfl) (by kernel_rfl) (e_spec_l14Zero k)
abbrev ps_spec_l14Seen : List PK := [.val tTask (.pair .leaf (.pair .leaf (.pair (.pair .shr (.pair .leaf (.pair .leaf .leaf))) (.pair .shr (.pair .leaf (.pair .shr (.pair .shr (.pair .leaf .leaf))))))))]
abbrev rs_spec_l14Seen : List RK := [.val .bool .leaf]
def c_spec_l14Seen (k : Nat) : Con := ⟨ps_spec_l14Seen, rs_spec_l14Seen, F_spec_l14Seen k⟩
def la_spec_l14Seen : Nat → Option Ann := fun | 2 => some ⟨[(1, .box 3 tTask (.pair .leaf (.pair .leaf (.pair (.pair (.sl (.sha [1])) (.pair .leaf (.pair .leaf .leaf))) (.pair (.sl (.sha [1])) (.pair .leaf (.pair (.sl (.sha [1])) (.pair (.sl (.sha [1])) (.pair .leaf .leaf))))))))), (3, .val (.int .i64) .leaf)], 4⟩ | _ => none
def ja_spec_l14Seen : Nat → Option Ann := fun | 6 => some ⟨[(1, .box 3 tTask (.pair .leaf (.pair .leaf (.pair (.pair (.sl (.sha [1])) (.pair .leaf (.pair .leaf .leaf))) (.pair (.sl (.sha [1])) (.pair .leaf (.pair (.sl (.sha [1])) (.pair (.sl (.sha [1])) (.pair .leaf .leaf)))))))))], 4⟩ | _ => none
def cs_spec_l14Seen (k : Nat) : List (FuncId × Con) := [(82, c_spec_l1In k)]
set_option maxRecDepth 1000000 in
theorem e_spec_l14Seen (k : Nat) (x) : evFn2 (mkCx TT (cs_spec_l14Seen k) la_spec_l14Seen ja_spec_l14Seen k) ps_spec_l14Seen rs_spec_l14Seen Tryz.f283 x = F_spec_l14Seen k x := by kernel_rfl
set_option maxRecDepth 1000000 in
theorem m_spec_l14Seen (k : Nat) : Meets Tryz.prog 283 (c_spec_l14Seen k) := meets_ev TTok mixed (cts := cs_spec_l14Seen k) ⟨m_spec_l1In k, trivial⟩ Tryz.func283 (by kernel_rfl) (by kernel_rfl) (e_spec_l14Seen k)
abbrev ps_spec_TaskOk : List PK := [.val tTask (.pair .leaf (.pair .leaf (.pair (.pair .shr (.pair .leaf (.pair .leaf .leaf))) (.pair .shr (.pair .leaf (.pair .shr (.pair .shr (.pair .leaf .leaf)))))))), .val (.int .i64) .leaf]
abbrev rs_spec_TaskOk : List RK := [.val .bool .leaf]
def c_spec_TaskOk (k : Nat) : Con := ⟨ps_spec_TaskOk, rs_spec_TaskOk, F_spec_TaskOk k⟩
def la_spec_TaskOk : Nat → Option Ann := fun _ => none
def ja_spec_TaskOk : Nat → Option Ann := fun _ => none
def cs_spec_TaskOk (k : Nat) : List (FuncId × Con) := [(82, c_spec_l1In k), (84, c_spec_l14Got k), (282, c_spec_l14Zero k), (173, c_spec_AlarmOk k), (127, c_spec_SetOk k), (283, c_spec_l14Seen k)]
set_option maxRecDepth 1000000 in
theorem e_spec_TaskOk (k : Nat) (x) : evFn2 (mkCx TT (cs_spec_TaskOk k) la_spec_TaskOk ja_spec_TaskOk k) ps_spec_TaskOk rs_spec_TaskOk Tryz.f176 x = F_spec_TaskOk k x := by kernel_rfl
set_option maxRecDepth 1000000 in
theorem m_spec_TaskOk (k : Nat) : Meets Tryz.prog 176 (c_spec_TaskOk k) := meets_ev TTok mixed (cts := cs_spec_TaskOk k) ⟨m_spec_l1In k, m_spec_l14Got k, m_spec_l14Zero k, m_spec_AlarmOk k, m_spec_SetOk k, m_spec_l14Seen k, trivial⟩ Tryz.func176 (by kernel_rfl) (by kernel_rfl) (e_spec_TaskOk k)
abbrev ps_spec_l16DeedOp : List PK := [.val (.int .i64) .leaf]
abbrev rs_spec_l16DeedOp : List RK := [.val (.int .i64) .leaf]
def c_spec_l16DeedOp (k : Nat) : Con := ⟨ps_spec_l16DeedOp, rs_spec_l16DeedOp, F_spec_l16DeedOp k⟩
def la_spec_l16DeedOp : Nat → Option Ann := fun _ => none
def ja_spec_l16DeedOp : Nat → Option Ann := fun _ => none
def cs_spec_l16DeedOp (k : Nat) : List (FuncId × Con) := []
set_option maxRecDepth 1000000 in
theorem e_spec_l16DeedOp (k : Nat) (x) : evFn2 (mkCx TT (cs_spec_l16DeedOp k) la_spec_l16DeedOp ja_spec_l16DeedOp k) ps_spec_l16DeedOp rs_spec_l16DeedOp Tryz.f177 x = F_spec_l16DeedOp k x := by kernel_rfl
set_option maxRecDepth 1000000 in
theorem m_spec_l16DeedOp (k : Nat) : Meets Tryz.prog 177 (c_spec_l16DeedOp k) := meets_ev TTok mixed (cts := cs_spec_l16DeedOp k) trivial Tryz.func177 (by kernel_rfl) (by kernel_rfl) (e_spec_l16DeedOp k)
abbrev ps_spec_HomeOf : List PK := [.val (.sl tPart) .shr, .val (.sl tLabel) .shr]
abbrev rs_spec_HomeOf : List RK := [.val (.int .i64) .leaf]
def c_spec_HomeOf (k : Nat) : Con := ⟨ps_spec_HomeOf, rs_spec_HomeOf, F_spec_HomeOf k⟩
def la_spec_HomeOf : Nat → Option Ann := fun _ => none
def ja_spec_HomeOf : Nat → Option Ann := fun _ => none
def cs_spec_HomeOf (k : Nat) : List (FuncId × Con) := [(203, c_spec_Finger k), (202, c_spec_PartOf k)]
set_option maxRecDepth 1000000 in
theorem e_spec_HomeOf (k : Nat) (x) : evFn2 (mkCx TT (cs_spec_HomeOf k) la_spec_HomeOf ja_spec_HomeOf k) ps_spec_HomeOf rs_spec_HomeOf Tryz.f285 x = F_spec_HomeOf k x := by kernel_rfl
set_option maxRecDepth 1000000 in
theorem m_spec_HomeOf (k : Nat) : Meets Tryz.prog 285 (c_spec_HomeOf k) := meets_ev TTok mixed (cts := cs_spec_HomeOf k) ⟨m_spec_Finger k, m_spec_PartOf k, trivial⟩ Tryz.func285 (by kernel_rfl) (by kernel_rfl) (e_spec_HomeOf k)
abbrev ps_spec_l7At : List PK := [.val tPart (.pair .leaf (.pair .leaf .shr)), .val (.int .i64) .leaf]
abbrev rs_spec_l7At : List RK := [.val (.int .i64) .leaf]
def c_spec_l7At (k : Nat) : Con := ⟨ps_spec_l7At, rs_spec_l7At, F_spec_l7At k⟩
def la_spec_l7At : Nat → Option Ann := fun | 2 => some ⟨[(1, .val (.int .i64) .leaf), (2, .box 3 tPart (.pair .leaf (.pair .leaf (.sl (.sha [1]))))), (5, .val (.int .i64) .leaf)], 4⟩ | _ => none
def ja_spec_l7At : Nat → Option Ann := fun _ => none
def cs_spec_l7At (k : Nat) : List (FuncId × Con) := []
set_option maxRecDepth 1000000 in
theorem e_spec_l7At (k : Nat) (x) : evFn2 (mkCx TT (cs_spec_l7At k) la_spec_l7At ja_spec_l7At k) ps_spec_l7At rs_spec_l7At Tryz.f347 x = F_spec_l7At k x := by kernel_rfl
set_option maxRecDepth 1000000 in
theorem m_spec_l7At (k : Nat) : Meets Tryz.prog 347 (c_spec_l7At k) := meets_ev TTok mixed (cts := cs_spec_l7At k) trivial Tryz.func347 (by kernel_rfl) (by kernel_rfl) (e_spec_l7At k)
abbrev ps_spec_InChain : List PK := [.val tChain (.pair .leaf .shr), .val (.sl tLabel) .shr]
abbrev rs_spec_InChain : List RK := [.val (.int .i64) .leaf]
def c_spec_InChain (k : Nat) : Con := ⟨ps_spec_InChain, rs_spec_InChain, F_spec_InChain k⟩
def la_spec_InChain : Nat → Option Ann := fun | 2 => some ⟨[(1, .val (.sl tLabel) (.sl (.sha [1]))), (2, .box 3 tChain (.pair .leaf (.sl (.sha [1])))), (5, .val (.int .i64) .leaf)], 4⟩ | _ => none
def ja_spec_InChain : Nat → Option Ann := fun _ => none
def cs_spec_InChain (k : Nat) : List (FuncId × Con) := [(180, c_spec_SameSet k)]
set_option maxRecDepth 1000000 in
theorem e_spec_InChain (k : Nat) (x) : evFn2 (mkCx TT (cs_spec_InChain k) la_spec_InChain ja_spec_InChain k) ps_spec_InChain rs_spec_InChain Tryz.f348 x = F_spec_InChain k x := by kernel_rfl
set_option maxRecDepth 1000000 in
theorem m_spec_InChain (k : Nat) : Meets Tryz.prog 348 (c_spec_InChain k) := meets_ev TTok mixed (cts := cs_spec_InChain k) ⟨m_spec_SameSet k, trivial⟩ Tryz.func348 (by kernel_rfl) (by kernel_rfl) (e_spec_InChain k)
abbrev ps_spec_FindIn : List PK := [.val tPart (.pair .leaf (.pair .leaf .shr)), .val (.sl tLabel) .shr]
abbrev rs_spec_FindIn : List RK := [.val tAlarm (.pair .own (.pair .leaf (.pair .leaf .leaf))), .val .bool .leaf]
def c_spec_FindIn (k : Nat) : Con := ⟨ps_spec_FindIn, rs_spec_FindIn, F_spec_FindIn k⟩
def la_spec_FindIn : Nat → Option Ann := fun _ => none
def ja_spec_FindIn : Nat → Option Ann := fun _ => none
def cs_spec_FindIn (k : Nat) : List (FuncId × Con) := [(203, c_spec_Finger k), (347, c_spec_l7At k), (348, c_spec_InChain k), (236, c_spec_l4Copy k)]
set_option maxRecDepth 1000000 in
theorem e_spec_FindIn (k : Nat) (x) : evFn2 (mkCx TT (cs_spec_FindIn k) la_spec_FindIn ja_spec_FindIn k) ps_spec_FindIn rs_spec_FindIn Tryz.f284 x = F_spec_FindIn k x := by kernel_rfl
set_option maxRecDepth 1000000 in
theorem m_spec_FindIn (k : Nat) : Meets Tryz.prog 284 (c_spec_FindIn k) := meets_ev TTok mixed (cts := cs_spec_FindIn k) ⟨m_spec_Finger k, m_spec_l7At k, m_spec_InChain k, m_spec_l4Copy k, trivial⟩ Tryz.func284 (by kernel_rfl) (by kernel_rfl) (e_spec_FindIn k)
abbrev ps_spec_FindAlarm : List PK := [.val (.sl tPart) .shr, .val (.sl tLabel) .shr]
abbrev rs_spec_FindAlarm : List RK := [.val tAlarm (.pair .own (.pair .leaf (.pair .leaf .leaf))), .val .bool .leaf]
def c_spec_FindAlarm (k : Nat) : Con := ⟨ps_spec_FindAlarm, rs_spec_FindAlarm, F_spec_FindAlarm k⟩
def la_spec_FindAlarm : Nat → Option Ann := fun _ => none
def ja_spec_FindAlarm : Nat → Option Ann := fun _ => none
def cs_spec_FindAlarm (k : Nat) : List (FuncId × Con) := [(285, c_spec_HomeOf k), (284, c_spec_FindIn k)]
set_option maxRecDepth 1000000 in
theorem e_spec_FindAlarm (k : Nat) (x) : evFn2 (mkCx TT (cs_spec_FindAlarm k) la_spec_FindAlarm ja_spec_FindAlarm k) ps_spec_FindAlarm rs_spec_FindAlarm Tryz.f178 x = F_spec_FindAlarm k x := by kernel_rfl
set_option maxRecDepth 1000000 in
theorem m_spec_FindAlarm (k : Nat) : Meets Tryz.prog 178 (c_spec_FindAlarm k) := meets_ev TTok mixed (cts := cs_spec_FindAlarm k) ⟨m_spec_HomeOf k, m_spec_FindIn k, trivial⟩ Tryz.func178 (by kernel_rfl) (by kernel_rfl) (e_spec_FindAlarm k)
abbrev ps_spec_l4Same : List PK := [.val (.sl tAlarm) .shr, .val (.sl tAlarm) .shr]
abbrev rs_spec_l4Same : List RK := [.val .bool .leaf]
def c_spec_l4Same (k : Nat) : Con := ⟨ps_spec_l4Same, rs_spec_l4Same, F_spec_l4Same k⟩
def la_spec_l4Same : Nat → Option Ann := fun | 4 => some ⟨[(0, .val (.sl tAlarm) (.sl (.sha [1]))), (1, .val (.sl tAlarm) (.sl (.sha [1]))), (5, .val (.int .i64) .leaf)], 3⟩ | _ => none
def ja_spec_l4Same : Nat → Option Ann := fun _ => none
def cs_spec_l4Same (k : Nat) : List (FuncId × Con) := [(179, c_spec_SameAlarm k)]
set_option maxRecDepth 1000000 in
theorem e_spec_l4Same (k : Nat) (x) : evFn2 (mkCx TT (cs_spec_l4Same k) la_spec_l4Same ja_spec_l4Same k) ps_spec_l4Same rs_spec_l4Same Tryz.f286 x = F_spec_l4Same k x := by kernel_rfl
set_option maxRecDepth 1000000 in
theorem m_spec_l4Same (k : Nat) : Meets Tryz.prog 286 (c_spec_l4Same k) := meets_ev TTok mixed (cts := cs_spec_l4Same k) ⟨m_spec_SameAlarm k, trivial⟩ Tryz.func286 (by kernel_rfl) (by kernel_rfl) (e_spec_l4Same k)
abbrev ps_spec_l16Seen : List PK := [.val tWorld (.pair (.pair .leaf (.pair .leaf (.pair .leaf (.pair .leaf (.pair .leaf .shr))))) (.pair .leaf (.pair .leaf (.pair .shr (.pair .shr (.pair .shr (.pair .leaf (.pair .shr (.pair .leaf (.pair .shr (.pair .shr (.pair .shr (.pair .shr .shr))))))))))))), .val tTask (.pair .leaf (.pair .leaf (.pair (.pair .shr (.pair .leaf (.pair .leaf .leaf))) (.pair .shr (.pair .leaf (.pair .shr (.pair .shr (.pair .leaf .leaf))))))))]
abbrev rs_spec_l16Seen : List RK := [.val .bool .leaf]
def c_spec_l16Seen (k : Nat) : Con := ⟨ps_spec_l16Seen, rs_spec_l16Seen, F_spec_l16Seen k⟩
def la_spec_l16Seen : Nat → Option Ann := fun | 4 => some ⟨[(2, .box 3 tWorld (.pair (.pair .leaf (.pair .leaf (.pair .leaf (.pair .leaf (.pair .leaf (.sl (.sha [1]))))))) (.pair .leaf (.pair .leaf (.pair (.sl (.sha [1])) (.pair (.sl (.sha [1])) (.pair (.sl (.sha [1])) (.pair .leaf (.pair (.sl (.sha [1])) (.pair .leaf (.pair (.sl (.sha [1])) (.pair (.sl (.sha [1])) (.pair (.sl (.sha [1])) (.pair (.sl (.sha [1])) (.sl (.sha [1])))))))))))))))), (3, .box 4 tTask (.pair .leaf (.pair .leaf (.pair (.pair (.sl (.sha [1])) (.pair .leaf (.pair .leaf .leaf))) (.pair (.sl (.sha [1])) (.pair .leaf (.pair (.sl (.sha [1])) (.pair (.sl (.sha [1])) (.pair .leaf .leaf))))))))), (5, .val (.sl tAlarm) (.sl (.row 5 [5] true))), (6, .val .bool .leaf), (7, .val (.int .i64) .leaf)], 6⟩ | _ => none
def ja_spec_l16Seen : Nat → Option Ann := fun | 10 => some ⟨[(2, .box 3 tWorld (.pair (.pair .leaf (.pair .leaf (.pair .leaf (.pair .leaf (.pair .leaf (.sl (.sha [1]))))))) (.pair .leaf (.pair .leaf (.pair (.sl (.sha [1])) (.pair (.sl (.sha [1])) (.pair (.sl (.sha [1])) (.pair .leaf (.pair (.sl (.sha [1])) (.pair .leaf (.pair (.sl (.sha [1])) (.pair (.sl (.sha [1])) (.pair (.sl (.sha [1])) (.pair (.sl (.sha [1])) (.sl (.sha [1])))))))))))))))), (3, .box 4 tTask (.pair .leaf (.pair .leaf (.pair (.pair (.sl (.sha [1])) (.pair .leaf (.pair .leaf .leaf))) (.pair (.sl (.sha [1])) (.pair .leaf (.pair (.sl (.sha [1])) (.pair (.sl (.sha [1])) (.pair .leaf .leaf))))))))), (5, .val (.sl tAlarm) (.sl (.row 5 [5] true))), (6, .val .bool .leaf)], 6⟩ | _ => none
def cs_spec_l16Seen (k : Nat) : List (FuncId × Con) := [(279, c_spec_AlarmsIn k), (286, c_spec_l4Same k)]
set_option maxRecDepth 1000000 in
theorem e_spec_l16Seen (k : Nat) (x) : evFn2 (mkCx TT (cs_spec_l16Seen k) la_spec_l16Seen ja_spec_l16Seen k) ps_spec_l16Seen rs_spec_l16Seen Tryz.f181 x = F_spec_l16Seen k x := by kernel_rfl
set_option maxRecDepth 1000000 in
theorem m_spec_l16Seen (k : Nat) : Meets Tryz.prog 181 (c_spec_l16Seen k) := meets_ev TTok mixed (cts := cs_spec_l16Seen k) ⟨m_spec_AlarmsIn k, m_spec_l4Same k, trivial⟩ Tryz.func181 (by kernel_rfl) (by kernel_rfl) (e_spec_l16Seen k)
abbrev ps_spec_l16Task : List PK := [.val tWorld (.pair (.pair .leaf (.pair .leaf (.pair .leaf (.pair .leaf (.pair .leaf .shr))))) (.pair .leaf (.pair .leaf (.pair .shr (.pair .shr (.pair .shr (.pair .leaf (.pair .shr (.pair .leaf (.pair .shr (.pair .shr (.pair .shr (.pair .shr .shr))))))))))))), .val (.int .i64) .leaf]
abbrev rs_spec_l16Task : List RK := [.val .bool .leaf]
def c_spec_l16Task (k : Nat) : Con := ⟨ps_spec_l16Task, rs_spec_l16Task, F_spec_l16Task k⟩
def la_spec_l16Task : Nat → Option Ann := fun _ => none
def ja_spec_l16Task : Nat → Option Ann := fun | 26 => some ⟨[(2, .box 3 tWorld (.pair (.pair .leaf (.pair .leaf (.pair .leaf (.pair .leaf (.pair .leaf (.sl (.sha [1]))))))) (.pair .leaf (.pair .leaf (.pair (.sl (.sha [1])) (.pair (.sl (.sha [1])) (.pair (.sl (.sha [1])) (.pair .leaf (.pair (.sl (.sha [1])) (.pair .leaf (.pair (.sl (.sha [1])) (.pair (.sl (.sha [1])) (.pair (.sl (.sha [1])) (.pair (.sl (.sha [1])) (.sl (.sha [1])))))))))))))))), (5, .box 4 tTask (.pair .leaf (.pair .leaf (.pair (.pair (.sl (.sha [1, 2])) (.pair .leaf (.pair .leaf .leaf))) (.pair (.sl (.sha [1, 2])) (.pair .leaf (.pair (.sl (.sha [1, 2])) (.pair (.sl (.sha [1, 2])) (.pair .leaf .leaf))))))))), (6, .box 5 tDeed (.pair .leaf (.pair .leaf (.pair (.pair (.sl (.sha [1, 2])) (.pair .leaf (.pair .leaf .leaf))) (.pair (.sl (.sha [1, 2])) (.pair .leaf (.pair .leaf (.pair .leaf (.pair (.sl (.sha [1, 2])) (.pair .leaf (.pair .leaf (.pair .leaf .leaf))))))))))))], 6⟩ | _ => none
def cs_spec_l16Task (k : Nat) : List (FuncId × Con) := [(176, c_spec_TaskOk k), (177, c_spec_l16DeedOp k), (178, c_spec_FindAlarm k), (179, c_spec_SameAlarm k), (180, c_spec_SameSet k), (172, c_spec_Fits k), (181, c_spec_l16Seen k)]
set_option maxRecDepth 1000000 in
theorem e_spec_l16Task (k : Nat) (x) : evFn2 (mkCx TT (cs_spec_l16Task k) la_spec_l16Task ja_spec_l16Task k) ps_spec_l16Task rs_spec_l16Task Tryz.f87 x = F_spec_l16Task k x := by kernel_rfl
set_option maxRecDepth 1000000 in
theorem m_spec_l16Task (k : Nat) : Meets Tryz.prog 87 (c_spec_l16Task k) := meets_ev TTok mixed (cts := cs_spec_l16Task k) ⟨m_spec_TaskOk k, m_spec_l16DeedOp k, m_spec_FindAlarm k, m_spec_SameAlarm k, m_spec_SameSet k, m_spec_Fits k, m_spec_l16Seen k, trivial⟩ Tryz.func87 (by kernel_rfl) (by kernel_rfl) (e_spec_l16Task k)
abbrev ps_spec_HoldsPart : List PK := [.val tTask (.pair .leaf (.pair .leaf (.pair (.pair .shr (.pair .leaf (.pair .leaf .leaf))) (.pair .shr (.pair .leaf (.pair .shr (.pair .shr (.pair .leaf .leaf)))))))), .val (.int .i64) .leaf]
abbrev rs_spec_HoldsPart : List RK := [.val (.int .i64) .leaf]
def c_spec_HoldsPart (k : Nat) : Con := ⟨ps_spec_HoldsPart, rs_spec_HoldsPart, F_spec_HoldsPart k⟩
def la_spec_HoldsPart : Nat → Option Ann := fun _ => none
def ja_spec_HoldsPart : Nat → Option Ann := fun _ => none
def cs_spec_HoldsPart (k : Nat) : List (FuncId × Con) := [(203, c_spec_Finger k), (202, c_spec_PartOf k)]
set_option maxRecDepth 1000000 in
theorem e_spec_HoldsPart (k : Nat) (x) : evFn2 (mkCx TT (cs_spec_HoldsPart k) la_spec_HoldsPart ja_spec_HoldsPart k) ps_spec_HoldsPart rs_spec_HoldsPart Tryz.f182 x = F_spec_HoldsPart k x := by kernel_rfl
set_option maxRecDepth 1000000 in
theorem m_spec_HoldsPart (k : Nat) : Meets Tryz.prog 182 (c_spec_HoldsPart k) := meets_ev TTok mixed (cts := cs_spec_HoldsPart k) ⟨m_spec_Finger k, m_spec_PartOf k, trivial⟩ Tryz.func182 (by kernel_rfl) (by kernel_rfl) (e_spec_HoldsPart k)
abbrev ps_spec_HoldsGroups : List PK := [.val tTask (.pair .leaf (.pair .leaf (.pair (.pair .shr (.pair .leaf (.pair .leaf .leaf))) (.pair .shr (.pair .leaf (.pair .shr (.pair .shr (.pair .leaf .leaf))))))))]
abbrev rs_spec_HoldsGroups : List RK := [.val .bool .leaf]
def c_spec_HoldsGroups (k : Nat) : Con := ⟨ps_spec_HoldsGroups, rs_spec_HoldsGroups, F_spec_HoldsGroups k⟩
def la_spec_HoldsGroups : Nat → Option Ann := fun _ => none
def ja_spec_HoldsGroups : Nat → Option Ann := fun _ => none
def cs_spec_HoldsGroups (k : Nat) : List (FuncId × Con) := []
set_option maxRecDepth 1000000 in
theorem e_spec_HoldsGroups (k : Nat) (x) : evFn2 (mkCx TT (cs_spec_HoldsGroups k) la_spec_HoldsGroups ja_spec_HoldsGroups k) ps_spec_HoldsGroups rs_spec_HoldsGroups Tryz.f183 x = F_spec_HoldsGroups k x := by kernel_rfl
set_option maxRecDepth 1000000 in
theorem m_spec_HoldsGroups (k : Nat) : Meets Tryz.prog 183 (c_spec_HoldsGroups k) := meets_ev TTok mixed (cts := cs_spec_HoldsGroups k) trivial Tryz.func183 (by kernel_rfl) (by kernel_rfl) (e_spec_HoldsGroups k)
abbrev ps_spec_l16Locks : List PK := [.val tWorld (.pair (.pair .leaf (.pair .leaf (.pair .leaf (.pair .leaf (.pair .leaf .shr))))) (.pair .leaf (.pair .leaf (.pair .shr (.pair .shr (.pair .shr (.pair .leaf (.pair .shr (.pair .leaf (.pair .shr (.pair .shr (.pair .shr (.pair .shr .shr)))))))))))))]
abbrev rs_spec_l16Locks : List RK := [.val .bool .leaf]
def c_spec_l16Locks (k : Nat) : Con := ⟨ps_spec_l16Locks, rs_spec_l16Locks, F_spec_l16Locks k⟩
def la_spec_l16Locks : Nat → Option Ann := fun | 3 => some ⟨[(1, .box 3 tWorld (.pair (.pair .leaf (.pair .leaf (.pair .leaf (.pair .leaf (.pair .leaf (.sl (.sha [1]))))))) (.pair .leaf (.pair .leaf (.pair (.sl (.sha [1])) (.pair (.sl (.sha [1])) (.pair (.sl (.sha [1])) (.pair .leaf (.pair (.sl (.sha [1])) (.pair .leaf (.pair (.sl (.sha [1])) (.pair (.sl (.sha [1])) (.pair (.sl (.sha [1])) (.pair (.sl (.sha [1])) (.sl (.sha [1])))))))))))))))), (3, .val (.sl (.int .i64)) (.sl (.row 4 [] true))), (4, .val (.int .i64) .leaf)], 5⟩ | 8 => some ⟨[(1, .box 3 tWorld (.pair (.pair .leaf (.pair .leaf (.pair .leaf (.pair .leaf (.pair .leaf (.sl (.sha [1]))))))) (.pair .leaf (.pair .leaf (.pair (.sl (.sha [1])) (.pair (.sl (.sha [1])) (.pair (.sl (.sha [1])) (.pair .leaf (.pair (.sl (.sha [1])) (.pair .leaf (.pair (.sl (.sha [1])) (.pair (.sl (.sha [1])) (.pair (.sl (.sha [1])) (.pair (.sl (.sha [1])) (.sl (.sha [1])))))))))))))))), (3, .val (.sl (.int .i64)) (.sl (.row 4 [] true))), (5, .val (.int .i64) .leaf), (6, .val (.int .i64) .leaf)], 5⟩ | 20 => some ⟨[(1, .box 3 tWorld (.pair (.pair .leaf (.pair .leaf (.pair .leaf (.pair .leaf (.pair .leaf (.sl (.sha [1]))))))) (.pair .leaf (.pair .leaf (.pair (.sl (.sha [1])) (.pair (.sl (.sha [1])) (.pair (.sl (.sha [1])) (.pair .leaf (.pair (.sl (.sha [1])) (.pair .leaf (.pair (.sl (.sha [1])) (.pair (.sl (.sha [1])) (.pair (.sl (.sha [1])) (.pair (.sl (.sha [1])) (.sl (.sha [1])))))))))))))))), (3, .val (.sl (.int .i64)) (.sl (.row 4 [] true))), (5, .val (.int .i64) .leaf), (8, .val (.int .i64) .leaf)], 5⟩ | _ => none
def ja_spec_l16Locks : Nat → Option Ann := fun | 6 => some ⟨[(1, .box 3 tWorld (.pair (.pair .leaf (.pair .leaf (.pair .leaf (.pair .leaf (.pair .leaf (.sl (.sha [1]))))))) (.pair .leaf (.pair .leaf (.pair (.sl (.sha [1])) (.pair (.sl (.sha [1])) (.pair (.sl (.sha [1])) (.pair .leaf (.pair (.sl (.sha [1])) (.pair .leaf (.pair (.sl (.sha [1])) (.pair (.sl (.sha [1])) (.pair (.sl (.sha [1])) (.pair (.sl (.sha [1])) (.sl (.sha [1])))))))))))))))), (3, .val (.sl (.int .i64)) (.sl (.row 4 [] true)))], 5⟩ | 15 => some ⟨[(1, .box 3 tWorld (.pair (.pair .leaf (.pair .leaf (.pair .leaf (.pair .leaf (.pair .leaf (.sl (.sha [1]))))))) (.pair .leaf (.pair .leaf (.pair (.sl (.sha [1])) (.pair (.sl (.sha [1])) (.pair (.sl (.sha [1])) (.pair .leaf (.pair (.sl (.sha [1])) (.pair .leaf (.pair (.sl (.sha [1])) (.pair (.sl (.sha [1])) (.pair (.sl (.sha [1])) (.pair (.sl (.sha [1])) (.sl (.sha [1])))))))))))))))), (3, .val (.sl (.int .i64)) (.sl (.row 4 [] true))), (5, .val (.int .i64) .leaf), (6, .val (.int .i64) .leaf)], 5⟩ | 19 => some ⟨[(1, .box 3 tWorld (.pair (.pair .leaf (.pair .leaf (.pair .leaf (.pair .leaf (.pair .leaf (.sl (.sha [1]))))))) (.pair .leaf (.pair .leaf (.pair (.sl (.sha [1])) (.pair (.sl (.sha [1])) (.pair (.sl (.sha [1])) (.pair .leaf (.pair (.sl (.sha [1])) (.pair .leaf (.pair (.sl (.sha [1])) (.pair (.sl (.sha [1])) (.pair (.sl (.sha [1])) (.pair (.sl (.sha [1])) (.sl (.sha [1])))))))))))))))), (3, .val (.sl (.int .i64)) (.sl (.row 4 [] true))), (5, .val (.int .i64) .leaf)], 5⟩ | 24 => some ⟨[(1, .box 3 tWorld (.pair (.pair .leaf (.pair .leaf (.pair .leaf (.pair .leaf (.pair .leaf (.sl (.sha [1]))))))) (.pair .leaf (.pair .leaf (.pair (.sl (.sha [1])) (.pair (.sl (.sha [1])) (.pair (.sl (.sha [1])) (.pair .leaf (.pair (.sl (.sha [1])) (.pair .leaf (.pair (.sl (.sha [1])) (.pair (.sl (.sha [1])) (.pair (.sl (.sha [1])) (.pair (.sl (.sha [1])) (.sl (.sha [1])))))))))))))))), (5, .val (.int .i64) .leaf)], 4⟩ | _ => none
def cs_spec_l16Locks (k : Nat) : List (FuncId × Con) := [(182, c_spec_HoldsPart k), (183, c_spec_HoldsGroups k)]
set_option maxRecDepth 1000000 in
theorem e_spec_l16Locks (k : Nat) (x) : evFn2 (mkCx TT (cs_spec_l16Locks k) la_spec_l16Locks ja_spec_l16Locks k) ps_spec_l16Locks rs_spec_l16Locks Tryz.f88 x = F_spec_l16Locks k x := by kernel_rfl
set_option maxRecDepth 1000000 in
theorem m_spec_l16Locks (k : Nat) : Meets Tryz.prog 88 (c_spec_l16Locks k) := meets_ev TTok mixed (cts := cs_spec_l16Locks k) ⟨m_spec_HoldsPart k, m_spec_HoldsGroups k, trivial⟩ Tryz.func88 (by kernel_rfl) (by kernel_rfl) (e_spec_l16Locks k)
abbrev ps_spec_l5Has : List PK := [.val (.sl .str) .shr, .val .str .leaf]
abbrev rs_spec_l5Has : List RK := [.val .bool .leaf]
def c_spec_l5Has (k : Nat) : Con := ⟨ps_spec_l5Has, rs_spec_l5Has, F_spec_l5Has k⟩
def la_spec_l5Has : Nat → Option Ann := fun | 2 => some ⟨[(0, .val (.sl .str) (.sl (.sha [1]))), (1, .val .str .leaf), (5, .val (.int .i64) .leaf)], 3⟩ | _ => none
def ja_spec_l5Has : Nat → Option Ann := fun _ => none
def cs_spec_l5Has (k : Nat) : List (FuncId × Con) := []
set_option maxRecDepth 1000000 in
theorem e_spec_l5Has (k : Nat) (x) : evFn2 (mkCx TT (cs_spec_l5Has k) la_spec_l5Has ja_spec_l5Has k) ps_spec_l5Has rs_spec_l5Has Tryz.f380 x = F_spec_l5Has k x := by kernel_rfl
set_option maxRecDepth 1000000 in
theorem m_spec_l5Has (k : Nat) : Meets Tryz.prog 380 (c_spec_l5Has k) := meets_ev TTok mixed (cts := cs_spec_l5Has k) trivial Tryz.func380 (by kernel_rfl) (by kernel_rfl) (e_spec_l5Has k)
abbrev ps_spec_Project : List PK := [.val (.sl tLabel) .shr, .val (.sl .str) .shr]
abbrev rs_spec_Project : List RK := [.val (.sl tLabel) .own]
def c_spec_Project (k : Nat) : Con := ⟨ps_spec_Project, rs_spec_Project, F_spec_Project k⟩
def la_spec_Project : Nat → Option Ann := fun | 3 => some ⟨[(0, .val (.sl tLabel) (.sl (.sha [1]))), (1, .val (.sl .str) (.sl (.sha [1]))), (5, .val (.sl tLabel) (.sl (.row 3 [] true))), (6, .val (.int .i64) .leaf)], 4⟩ | _ => none
def ja_spec_Project : Nat → Option Ann := fun _ => none
def cs_spec_Project (k : Nat) : List (FuncId × Con) := [(380, c_spec_l5Has k)]
set_option maxRecDepth 1000000 in
theorem e_spec_Project (k : Nat) (x) : evFn2 (mkCx TT (cs_spec_Project k) la_spec_Project ja_spec_Project k) ps_spec_Project rs_spec_Project Tryz.f362 x = F_spec_Project k x := by kernel_rfl
set_option maxRecDepth 1000000 in
theorem m_spec_Project (k : Nat) : Meets Tryz.prog 362 (c_spec_Project k) := meets_ev TTok mixed (cts := cs_spec_Project k) ⟨m_spec_l5Has k, trivial⟩ Tryz.func362 (by kernel_rfl) (by kernel_rfl) (e_spec_Project k)
abbrev ps_spec_KeyOf : List PK := [.val tAlarm (.pair .shr (.pair .leaf (.pair .leaf .leaf))), .val (.sl .str) .shr]
abbrev rs_spec_KeyOf : List RK := [.val (.sl tLabel) .own]
def c_spec_KeyOf (k : Nat) : Con := ⟨ps_spec_KeyOf, rs_spec_KeyOf, F_spec_KeyOf k⟩
def la_spec_KeyOf : Nat → Option Ann := fun _ => none
def ja_spec_KeyOf : Nat → Option Ann := fun _ => none
def cs_spec_KeyOf (k : Nat) : List (FuncId × Con) := [(362, c_spec_Project k)]
set_option maxRecDepth 1000000 in
theorem e_spec_KeyOf (k : Nat) (x) : evFn2 (mkCx TT (cs_spec_KeyOf k) la_spec_KeyOf ja_spec_KeyOf k) ps_spec_KeyOf rs_spec_KeyOf Tryz.f323 x = F_spec_KeyOf k x := by kernel_rfl
set_option maxRecDepth 1000000 in
theorem m_spec_KeyOf (k : Nat) : Meets Tryz.prog 323 (c_spec_KeyOf k) := meets_ev TTok mixed (cts := cs_spec_KeyOf k) ⟨m_spec_Project k, trivial⟩ Tryz.func323 (by kernel_rfl) (by kernel_rfl) (e_spec_KeyOf k)
abbrev ps_spec_GroupOk : List PK := [.val tGroup (.pair .leaf (.pair .shr (.pair .leaf (.pair .leaf .shr)))), .val (.sl .str) .shr]
abbrev rs_spec_GroupOk : List RK := [.val .bool .leaf]
def c_spec_GroupOk (k : Nat) : Con := ⟨ps_spec_GroupOk, rs_spec_GroupOk, F_spec_GroupOk k⟩
def la_spec_GroupOk : Nat → Option Ann := fun | 2 => some ⟨[(1, .val (.sl .str) (.sl (.sha [1]))), (2, .box 3 tGroup (.pair .leaf (.pair (.sl (.sha [1])) (.pair .leaf (.pair .leaf (.sl (.sha [1]))))))), (5, .val (.int .i64) .leaf)], 4⟩ | _ => none
def ja_spec_GroupOk : Nat → Option Ann := fun | 6 => some ⟨[(2, .box 3 tGroup (.pair .leaf (.pair (.sl (.sha [1])) (.pair .leaf (.pair .leaf (.sl (.sha [1])))))))], 4⟩ | _ => none
def cs_spec_GroupOk (k : Nat) : List (FuncId × Con) := [(173, c_spec_AlarmOk k), (346, c_spec_SetLess k), (323, c_spec_KeyOf k), (180, c_spec_SameSet k), (127, c_spec_SetOk k), (82, c_spec_l1In k)]
set_option maxRecDepth 1000000 in
theorem e_spec_GroupOk (k : Nat) (x) : evFn2 (mkCx TT (cs_spec_GroupOk k) la_spec_GroupOk ja_spec_GroupOk k) ps_spec_GroupOk rs_spec_GroupOk Tryz.f287 x = F_spec_GroupOk k x := by kernel_rfl
set_option maxRecDepth 1000000 in
theorem m_spec_GroupOk (k : Nat) : Meets Tryz.prog 287 (c_spec_GroupOk k) := meets_ev TTok mixed (cts := cs_spec_GroupOk k) ⟨m_spec_AlarmOk k, m_spec_SetLess k, m_spec_KeyOf k, m_spec_SameSet k, m_spec_SetOk k, m_spec_l1In k, trivial⟩ Tryz.func287 (by kernel_rfl) (by kernel_rfl) (e_spec_GroupOk k)
abbrev ps_spec_GroupsOk : List PK := [.val (.sl tGroup) .shr, .val (.sl .str) .shr]
abbrev rs_spec_GroupsOk : List RK := [.val .bool .leaf]
def c_spec_GroupsOk (k : Nat) : Con := ⟨ps_spec_GroupsOk, rs_spec_GroupsOk, F_spec_GroupsOk k⟩
def la_spec_GroupsOk : Nat → Option Ann := fun | 2 => some ⟨[(0, .val (.sl tGroup) (.sl (.sha [1]))), (1, .val (.sl .str) (.sl (.sha [1]))), (5, .val (.int .i64) .leaf)], 3⟩ | 7 => some ⟨[(0, .val (.sl tGroup) (.sl (.sha [1]))), (1, .val (.sl .str) (.sl (.sha [1]))), (5, .val (.int .i64) .leaf), (6, .val (.int .i64) .leaf)], 3⟩ | _ => none
def ja_spec_GroupsOk : Nat → Option Ann := fun | 11 => some ⟨[(0, .val (.sl tGroup) (.sl (.sha [1])))], 3⟩ | _ => none
def cs_spec_GroupsOk (k : Nat) : List (FuncId × Con) := [(287, c_spec_GroupOk k), (180, c_spec_SameSet k)]
set_option maxRecDepth 1000000 in
theorem e_spec_GroupsOk (k : Nat) (x) : evFn2 (mkCx TT (cs_spec_GroupsOk k) la_spec_GroupsOk ja_spec_GroupsOk k) ps_spec_GroupsOk rs_spec_GroupsOk Tryz.f184 x = F_spec_GroupsOk k x := by kernel_rfl
set_option maxRecDepth 1000000 in
theorem m_spec_GroupsOk (k : Nat) : Meets Tryz.prog 184 (c_spec_GroupsOk k) := meets_ev TTok mixed (cts := cs_spec_GroupsOk k) ⟨m_spec_GroupOk k, m_spec_SameSet k, trivial⟩ Tryz.func184 (by kernel_rfl) (by kernel_rfl) (e_spec_GroupsOk k)
abbrev ps_spec_Before : List PK := [.val tTimer (.pair .leaf .leaf), .val tTimer (.pair .leaf .leaf)]
abbrev rs_spec_Before : List RK := [.val .bool .leaf]
def c_spec_Before (k : Nat) : Con := ⟨ps_spec_Before, rs_spec_Before, F_spec_Before k⟩
def la_spec_Before : Nat → Option Ann := fun _ => none
def ja_spec_Before : Nat → Option Ann := fun _ => none
def cs_spec_Before (k : Nat) : List (FuncId × Con) := []
set_option maxRecDepth 1000000 in
theorem e_spec_Before (k : Nat) (x) : evFn2 (mkCx TT (cs_spec_Before k) la_spec_Before ja_spec_Before k) ps_spec_Before rs_spec_Before Tryz.f288 x = F_spec_Before k x := by kernel_rfl
set_option maxRecDepth 1000000 in
theorem m_spec_Before (k : Nat) : Meets Tryz.prog 288 (c_spec_Before k) := meets_ev TTok mixed (cts := cs_spec_Before k) trivial Tryz.func288 (by kernel_rfl) (by kernel_rfl) (e_spec_Before k)
end Vg.Tryz
