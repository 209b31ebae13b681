/- Plain laws of what the functions compute: sizes, copies, comparisons (printed by famgen.py). -/
import Derived.Test.YtlpeoedbginanaaGreatVc
import Derived.Test.YtlpeoedbginanaaGreatF
namespace Vg.Tryz
open Go Vg
set_option linter.unusedVariables false
set_option linter.unusedSectionVars false
set_option linter.unusedSimpArgs false
section
variable {k : Nat} (hk : 9223372036854775808 ≤ k)
include hk
theorem szStringS_ok {x : List ByteArray} {left : Int} (hx : Fits (.sl .str) x) (h0 : 0 ≤ left) (h1 : left ≤ 1048576) : F_laws_szStringS k (x, left, ()) = some (szv (tot (.sl .str) x) left, ()) := 
  szT_ok hk hx h0 h1
theorem tot_Conf (x : DConf) : tot tConf x = tot (.sl .str) x.2.2.2.2.2 := by
  obtain ⟨x0, x1, x2, x3, x4, x5⟩ := x
  simp only [tot]
  try omega
theorem szConf_ok {x : DConf} {left : Int} (hx : Fits tConf x) (h0 : 0 ≤ left) (h1 : left ≤ 1048576) : F_laws_szConf k (x, left, ()) = some (szv (tot tConf x) left, ()) := by
  rw [tot_Conf hk]
  simp only [F_laws_szConf]
  rw [szStringS_ok hk hx.2.2.2.2.2 h0 h1, Option.bind_some]
  by_cases h2 : szv (tot (.sl .str) x.2.2.2.2.2) left < 0
  · rw [if_pos (by simpa using h2)]; exact congrArg (fun z => some (z, ())) (szv_big h2 (by omega)).symm
  rw [if_neg (by simpa using h2)]
theorem tot_Label (x : DLabel) : tot tLabel x = x.1.size + x.2.size := by
  obtain ⟨x0, x1⟩ := x
  simp only [tot]
  try omega
theorem szLabel_ok {x : DLabel} {left : Int} (hx : Fits tLabel x) (h0 : 0 ≤ left) (h1 : left ≤ 1048576) : F_laws_szLabel k (x, left, ()) = some (szv (tot tLabel x) left, ()) := by
  rw [tot_Label hk]
  simp only [F_laws_szLabel]
  try simp only
  rw [str_neg hx.1 h0 h1]
  by_cases h2 : szv (x.1.size) left < 0
  · rw [if_pos (by simpa using h2)]; exact congrArg (fun z => some (z, ())) (szv_big h2 (by omega)).symm
  rw [if_neg (by simpa using h2)]
  rw [str_wrap hx.1 h0 h1 h2]
  try simp only
  rw [str_neg hx.2 (szv_some h2).1 (by have := szv_le (t := x.1.size) h0; omega)]
  rw [szv_add h2]
  by_cases h3 : szv (x.1.size + x.2.size) left < 0
  · rw [if_pos (by simpa using h3)]; exact congrArg (fun z => some (z, ())) (szv_big h3 (by omega)).symm
  rw [if_neg (by simpa using h3)]
  rw [str_wrap hx.2 (szv_some h2).1 (by have := szv_le (t := x.1.size) h0; omega) (by rw [szv_add h2]; exact h3), szv_add h2]
theorem szLabelS_ok {x : List DLabel} {left : Int} (hx : Fits (.sl tLabel) x) (h0 : 0 ≤ left) (h1 : left ≤ 1048576) : F_laws_szLabelS k (x, left, ()) = some (szv (tot (.sl tLabel) x) left, ()) := 
  szS_ok (d := tLabel.dflt) (S := F_laws_szLabel k) hk hx.1 h0 h1 (fun e he l a b => szLabel_ok hk (hx.2 e he) a b)
theorem tot_Alarm (x : DAlarm) : tot tAlarm x = tot (.sl tLabel) x.1 + x.2.2.2.size := by
  obtain ⟨x0, x1, x2, x3⟩ := x
  simp only [tot]
  try omega
theorem szAlarm_ok {x : DAlarm} {left : Int} (hx : Fits tAlarm x) (h0 : 0 ≤ left) (h1 : left ≤ 1048576) : F_laws_szAlarm k (x, left, ()) = some (szv (tot tAlarm x) left, ()) := by
  rw [tot_Alarm hk]
  simp only [F_laws_szAlarm]
  rw [szLabelS_ok hk hx.1 h0 h1, Option.bind_some]
  by_cases h2 : szv (tot (.sl tLabel) x.1) left < 0
  · rw [if_pos (by simpa using h2)]; exact congrArg (fun z => some (z, ())) (szv_big h2 (by omega)).symm
  rw [if_neg (by simpa using h2)]
  try simp only
  rw [str_neg hx.2.2.2 (szv_some h2).1 (by have := szv_le (t := tot (.sl tLabel) x.1) h0; omega)]
  rw [szv_add h2]
  by_cases h3 : szv (tot (.sl tLabel) x.1 + x.2.2.2.size) left < 0
  · rw [if_pos (by simpa using h3)]; exact congrArg (fun z => some (z, ())) (szv_big h3 (by omega)).symm
  rw [if_neg (by simpa using h3)]
  rw [str_wrap hx.2.2.2 (szv_some h2).1 (by have := szv_le (t := tot (.sl tLabel) x.1) h0; omega) (by rw [szv_add h2]; exact h3), szv_add h2]
theorem szAlarmS_ok {x : List DAlarm} {left : Int} (hx : Fits (.sl tAlarm) x) (h0 : 0 ≤ left) (h1 : left ≤ 1048576) : F_laws_szAlarmS k (x, left, ()) = some (szv (tot (.sl tAlarm) x) left, ()) := 
  szS_ok (d := tAlarm.dflt) (S := F_laws_szAlarm k) hk hx.1 h0 h1 (fun e he l a b => szAlarm_ok hk (hx.2 e he) a b)
theorem tot_Chain (x : DChain) : tot tChain x = tot (.sl tAlarm) x.2 := by
  obtain ⟨x0, x1⟩ := x
  simp only [tot]
  try omega
theorem szChain_ok {x : DChain} {left : Int} (hx : Fits tChain x) (h0 : 0 ≤ left) (h1 : left ≤ 1048576) : F_laws_szChain k (x, left, ()) = some (szv (tot tChain x) left, ()) := by
  rw [tot_Chain hk]
  simp only [F_laws_szChain]
  rw [szAlarmS_ok hk hx.2 h0 h1, Option.bind_some]
  by_cases h2 : szv (tot (.sl tAlarm) x.2) left < 0
  · rw [if_pos (by simpa using h2)]; exact congrArg (fun z => some (z, ())) (szv_big h2 (by omega)).symm
  rw [if_neg (by simpa using h2)]
theorem szChainS_ok {x : List DChain} {left : Int} (hx : Fits (.sl tChain) x) (h0 : 0 ≤ left) (h1 : left ≤ 1048576) : F_laws_szChainS k (x, left, ()) = some (szv (tot (.sl tChain) x) left, ()) := 
  szS_ok (d := tChain.dflt) (S := F_laws_szChain k) hk hx.1 h0 h1 (fun e he l a b => szChain_ok hk (hx.2 e he) a b)
theorem tot_Part (x : DPart) : tot tPart x = tot (.sl tChain) x.2.2 := by
  obtain ⟨x0, x1, x2⟩ := x
  simp only [tot]
  try omega
theorem szPart_ok {x : DPart} {left : Int} (hx : Fits tPart x) (h0 : 0 ≤ left) (h1 : left ≤ 1048576) : F_laws_szPart k (x, left, ()) = some (szv (tot tPart x) left, ()) := by
  rw [tot_Part hk]
  simp only [F_laws_szPart]
  rw [szChainS_ok hk hx.2.2 h0 h1, Option.bind_some]
  by_cases h2 : szv (tot (.sl tChain) x.2.2) left < 0
  · rw [if_pos (by simpa using h2)]; exact congrArg (fun z => some (z, ())) (szv_big h2 (by omega)).symm
  rw [if_neg (by simpa using h2)]
theorem szPartS_ok {x : List DPart} {left : Int} (hx : Fits (.sl tPart) x) (h0 : 0 ≤ left) (h1 : left ≤ 1048576) : F_laws_szPartS k (x, left, ()) = some (szv (tot (.sl tPart) x) left, ()) := 
  szS_ok (d := tPart.dflt) (S := F_laws_szPart k) hk hx.1 h0 h1 (fun e he l a b => szPart_ok hk (hx.2 e he) a b)
theorem tot_Sub (x : DSub) : tot tSub x = tot (.sl tAlarm) x.1 := by
  obtain ⟨x0, x1⟩ := x
  simp only [tot]
  try omega
theorem szSub_ok {x : DSub} {left : Int} (hx : Fits tSub x) (h0 : 0 ≤ left) (h1 : left ≤ 1048576) : F_laws_szSub k (x, left, ()) = some (szv (tot tSub x) left, ()) := by
  rw [tot_Sub hk]
  simp only [F_laws_szSub]
  rw [szAlarmS_ok hk hx.1 h0 h1, Option.bind_some]
  by_cases h2 : szv (tot (.sl tAlarm) x.1) left < 0
  · rw [if_pos (by simpa using h2)]; exact congrArg (fun z => some (z, ())) (szv_big h2 (by omega)).symm
  rw [if_neg (by simpa using h2)]
theorem szSubS_ok {x : List DSub} {left : Int} (hx : Fits (.sl tSub) x) (h0 : 0 ≤ left) (h1 : left ≤ 1048576) : F_laws_szSubS k (x, left, ()) = some (szv (tot (.sl tSub) x) left, ()) := 
  szS_ok (d := tSub.dflt) (S := F_laws_szSub k) hk hx.1 h0 h1 (fun e he l a b => szSub_ok hk (hx.2 e he) a b)
theorem tot_Group (x : DGroup) : tot tGroup x = tot (.sl tLabel) x.2.1 + tot (.sl tAlarm) x.2.2.2.2 := by
  obtain ⟨x0, x1, x2, x3, x4⟩ := x
  simp only [tot]
  try omega
theorem szGroup_ok {x : DGroup} {left : Int} (hx : Fits tGroup x) (h0 : 0 ≤ left) (h1 : left ≤ 1048576) : F_laws_szGroup k (x, left, ()) = some (szv (tot tGroup x) left, ()) := by
  rw [tot_Group hk]
  simp only [F_laws_szGroup]
  rw [szLabelS_ok hk hx.2.1 h0 h1, Option.bind_some]
  by_cases h2 : szv (tot (.sl tLabel) x.2.1) left < 0
  · rw [if_pos (by simpa using h2)]; exact congrArg (fun z => some (z, ())) (szv_big h2 (by omega)).symm
  rw [if_neg (by simpa using h2)]
  rw [szAlarmS_ok hk hx.2.2.2.2 (szv_some h2).1 (by have := szv_le (t := tot (.sl tLabel) x.2.1) h0; omega), Option.bind_some]
  rw [szv_add h2]
  by_cases h3 : szv (tot (.sl tLabel) x.2.1 + tot (.sl tAlarm) x.2.2.2.2) left < 0
  · rw [if_pos (by simpa using h3)]; exact congrArg (fun z => some (z, ())) (szv_big h3 (by omega)).symm
  rw [if_neg (by simpa using h3)]
theorem szGroupS_ok {x : List DGroup} {left : Int} (hx : Fits (.sl tGroup) x) (h0 : 0 ≤ left) (h1 : left ≤ 1048576) : F_laws_szGroupS k (x, left, ()) = some (szv (tot (.sl tGroup) x) left, ()) := 
  szS_ok (d := tGroup.dflt) (S := F_laws_szGroup k) hk hx.1 h0 h1 (fun e he l a b => szGroup_ok hk (hx.2 e he) a b)
theorem szTimerS_ok {x : List DTimer} {left : Int} (hx : Fits (.sl tTimer) x) (h0 : 0 ≤ left) (h1 : left ≤ 1048576) : F_laws_szTimerS k (x, left, ()) = some (szv (tot (.sl tTimer) x) left, ()) := 
  szZ_ok (e := tTimer) (F := F_laws_szTimerS) (k := k) (fun _ => rfl) (by rfl) hx h0 h1
theorem tot_Batch (x : DBatch) : tot tBatch x = tot (.sl tLabel) x.2.1 + tot (.sl tAlarm) x.2.2.2 := by
  obtain ⟨x0, x1, x2, x3⟩ := x
  simp only [tot]
  try omega
theorem szBatch_ok {x : DBatch} {left : Int} (hx : Fits tBatch x) (h0 : 0 ≤ left) (h1 : left ≤ 1048576) : F_laws_szBatch k (x, left, ()) = some (szv (tot tBatch x) left, ()) := by
  rw [tot_Batch hk]
  simp only [F_laws_szBatch]
  rw [szLabelS_ok hk hx.2.1 h0 h1, Option.bind_some]
  by_cases h2 : szv (tot (.sl tLabel) x.2.1) left < 0
  · rw [if_pos (by simpa using h2)]; exact congrArg (fun z => some (z, ())) (szv_big h2 (by omega)).symm
  rw [if_neg (by simpa using h2)]
  rw [szAlarmS_ok hk hx.2.2.2 (szv_some h2).1 (by have := szv_le (t := tot (.sl tLabel) x.2.1) h0; omega), Option.bind_some]
  rw [szv_add h2]
  by_cases h3 : szv (tot (.sl tLabel) x.2.1 + tot (.sl tAlarm) x.2.2.2) left < 0
  · rw [if_pos (by simpa using h3)]; exact congrArg (fun z => some (z, ())) (szv_big h3 (by omega)).symm
  rw [if_neg (by simpa using h3)]
theorem szBatchS_ok {x : List DBatch} {left : Int} (hx : Fits (.sl tBatch) x) (h0 : 0 ≤ left) (h1 : left ≤ 1048576) : F_laws_szBatchS k (x, left, ()) = some (szv (tot (.sl tBatch) x) left, ()) := 
  szS_ok (d := tBatch.dflt) (S := F_laws_szBatch k) hk hx.1 h0 h1 (fun e he l a b => szBatch_ok hk (hx.2 e he) a b)
theorem szIntS_ok {x : List Int} {left : Int} (hx : Fits (.sl (.int .i64)) x) (h0 : 0 ≤ left) (h1 : left ≤ 1048576) : F_laws_szIntS k (x, left, ()) = some (szv (tot (.sl (.int .i64)) x) left, ()) := 
  szZ_ok (e := (.int .i64)) (F := F_laws_szIntS) (k := k) (fun _ => rfl) (by rfl) hx h0 h1
theorem tot_Task (x : DTask) : tot tTask x = tot tAlarm x.2.2.1 + tot (.sl tLabel) x.2.2.2.1 + tot (.sl (.int .i64)) x.2.2.2.2.2.1 + tot (.sl tAlarm) x.2.2.2.2.2.2.1 := by
  obtain ⟨x0, x1, x2, x3, x4, x5, x6, x7, x8⟩ := x
  simp only [tot]
  try omega
theorem szTask_ok {x : DTask} {left : Int} (hx : Fits tTask x) (h0 : 0 ≤ left) (h1 : left ≤ 1048576) : F_laws_szTask k (x, left, ()) = some (szv (tot tTask x) left, ()) := by
  rw [tot_Task hk]
  simp only [F_laws_szTask]
  rw [szAlarm_ok hk hx.2.2.1 h0 h1, Option.bind_some]
  by_cases h2 : szv (tot tAlarm x.2.2.1) left < 0
  · rw [if_pos (by simpa using h2)]; exact congrArg (fun z => some (z, ())) (szv_big h2 (by omega)).symm
  rw [if_neg (by simpa using h2)]
  rw [szLabelS_ok hk hx.2.2.2.1 (szv_some h2).1 (by have := szv_le (t := tot tAlarm x.2.2.1) h0; omega), Option.bind_some]
  rw [szv_add h2]
  by_cases h3 : szv (tot tAlarm x.2.2.1 + tot (.sl tLabel) x.2.2.2.1) left < 0
  · rw [if_pos (by simpa using h3)]; exact congrArg (fun z => some (z, ())) (szv_big h3 (by omega)).symm
  rw [if_neg (by simpa using h3)]
  rw [szIntS_ok hk hx.2.2.2.2.2.1 (szv_some h3).1 (by have := szv_le (t := tot tAlarm x.2.2.1 + tot (.sl tLabel) x.2.2.2.1) h0; omega), Option.bind_some]
  rw [szv_add h3]
  by_cases h4 : szv (tot tAlarm x.2.2.1 + tot (.sl tLabel) x.2.2.2.1 + tot (.sl (.int .i64)) x.2.2.2.2.2.1) left < 0
  · rw [if_pos (by simpa using h4)]; exact congrArg (fun z => some (z, ())) (szv_big h4 (by omega)).symm
  rw [if_neg (by simpa using h4)]
  rw [szAlarmS_ok hk hx.2.2.2.2.2.2.1 (szv_some h4).1 (by have := szv_le (t := tot tAlarm x.2.2.1 + tot (.sl tLabel) x.2.2.2.1 + tot (.sl (.int .i64)) x.2.2.2.2.2.1) h0; omega), Option.bind_some]
  rw [szv_add h4]
  by_cases h5 : szv (tot tAlarm x.2.2.1 + tot (.sl tLabel) x.2.2.2.1 + tot (.sl (.int .i64)) x.2.2.2.2.2.1 + tot (.sl tAlarm) x.2.2.2.2.2.2.1) left < 0
  · rw [if_pos (by simpa using h5)]; exact congrArg (fun z => some (z, ())) (szv_big h5 (by omega)).symm
  rw [if_neg (by simpa using h5)]
theorem szTaskS_ok {x : List DTask} {left : Int} (hx : Fits (.sl tTask) x) (h0 : 0 ≤ left) (h1 : left ≤ 1048576) : F_laws_szTaskS k (x, left, ()) = some (szv (tot (.sl tTask) x) left, ()) := 
  szS_ok (d := tTask.dflt) (S := F_laws_szTask k) hk hx.1 h0 h1 (fun e he l a b => szTask_ok hk (hx.2 e he) a b)
theorem tot_Deed (x : DDeed) : tot tDeed x = tot tAlarm x.2.2.1 + tot (.sl tLabel) x.2.2.2.1 + tot (.sl tAlarm) x.2.2.2.2.2.2.2.1 := by
  obtain ⟨x0, x1, x2, x3, x4, x5, x6, x7, x8, x9, x10, x11⟩ := x
  simp only [tot]
  try omega
theorem szDeed_ok {x : DDeed} {left : Int} (hx : Fits tDeed x) (h0 : 0 ≤ left) (h1 : left ≤ 1048576) : F_laws_szDeed k (x, left, ()) = some (szv (tot tDeed x) left, ()) := by
  rw [tot_Deed hk]
  simp only [F_laws_szDeed]
  rw [szAlarm_ok hk hx.2.2.1 h0 h1, Option.bind_some]
  by_cases h2 : szv (tot tAlarm x.2.2.1) left < 0
  · rw [if_pos (by simpa using h2)]; exact congrArg (fun z => some (z, ())) (szv_big h2 (by omega)).symm
  rw [if_neg (by simpa using h2)]
  rw [szLabelS_ok hk hx.2.2.2.1 (szv_some h2).1 (by have := szv_le (t := tot tAlarm x.2.2.1) h0; omega), Option.bind_some]
  rw [szv_add h2]
  by_cases h3 : szv (tot tAlarm x.2.2.1 + tot (.sl tLabel) x.2.2.2.1) left < 0
  · rw [if_pos (by simpa using h3)]; exact congrArg (fun z => some (z, ())) (szv_big h3 (by omega)).symm
  rw [if_neg (by simpa using h3)]
  rw [szAlarmS_ok hk hx.2.2.2.2.2.2.2.1 (szv_some h3).1 (by have := szv_le (t := tot tAlarm x.2.2.1 + tot (.sl tLabel) x.2.2.2.1) h0; omega), Option.bind_some]
  rw [szv_add h3]
  by_cases h4 : szv (tot tAlarm x.2.2.1 + tot (.sl tLabel) x.2.2.2.1 + tot (.sl tAlarm) x.2.2.2.2.2.2.2.1) left < 0
  · rw [if_pos (by simpa using h4)]; exact congrArg (fun z => some (z, ())) (szv_big h4 (by omega)).symm
  rw [if_neg (by simpa using h4)]
theorem szDeedS_ok {x : List DDeed} {left : Int} (hx : Fits (.sl tDeed) x) (h0 : 0 ≤ left) (h1 : left ≤ 1048576) : F_laws_szDeedS k (x, left, ()) = some (szv (tot (.sl tDeed) x) left, ()) := 
  szS_ok (d := tDeed.dflt) (S := F_laws_szDeed k) hk hx.1 h0 h1 (fun e he l a b => szDeed_ok hk (hx.2 e he) a b)
theorem tot_World (x : DWorld) : tot tWorld x = tot tConf x.1 + tot (.sl tPart) x.2.2.2.1 + tot (.sl tSub) x.2.2.2.2.1 + tot (.sl tAlarm) x.2.2.2.2.2.1 + tot (.sl tGroup) x.2.2.2.2.2.2.2.1 + tot (.sl tTimer) x.2.2.2.2.2.2.2.2.2.1 + tot (.sl tBatch) x.2.2.2.2.2.2.2.2.2.2.1 + tot (.sl tAlarm) x.2.2.2.2.2.2.2.2.2.2.2.1 + tot (.sl tTask) x.2.2.2.2.2.2.2.2.2.2.2.2.1 + tot (.sl tDeed) x.2.2.2.2.2.2.2.2.2.2.2.2.2 := by
  obtain ⟨x0, x1, x2, x3, x4, x5, x6, x7, x8, x9, x10, x11, x12, x13⟩ := x
  simp only [tot]
  try omega
theorem szWorld_ok {x : DWorld} {left : Int} (hx : Fits tWorld x) (h0 : 0 ≤ left) (h1 : left ≤ 1048576) : F_laws_szWorld k (x, left, ()) = some (szv (tot tWorld x) left, ()) := by
  rw [tot_World hk]
  simp only [F_laws_szWorld]
  rw [szConf_ok hk hx.1 h0 h1, Option.bind_some]
  by_cases h2 : szv (tot tConf x.1) left < 0
  · rw [if_pos (by simpa using h2)]; exact congrArg (fun z => some (z, ())) (szv_big h2 (by omega)).symm
  rw [if_neg (by simpa using h2)]
  rw [szPartS_ok hk hx.2.2.2.1 (szv_some h2).1 (by have := szv_le (t := tot tConf x.1) h0; omega), Option.bind_some]
  rw [szv_add h2]
  by_cases h3 : szv (tot tConf x.1 + tot (.sl tPart) x.2.2.2.1) left < 0
  · rw [if_pos (by simpa using h3)]; exact congrArg (fun z => some (z, ())) (szv_big h3 (by omega)).symm
  rw [if_neg (by simpa using h3)]
  rw [szSubS_ok hk hx.2.2.2.2.1 (szv_some h3).1 (by have := szv_le (t := tot tConf x.1 + tot (.sl tPart) x.2.2.2.1) h0; omega), Option.bind_some]
  rw [szv_add h3]
  by_cases h4 : szv (tot tConf x.1 + tot (.sl tPart) x.2.2.2.1 + tot (.sl tSub) x.2.2.2.2.1) left < 0
  · rw [if_pos (by simpa using h4)]; exact congrArg (fun z => some (z, ())) (szv_big h4 (by omega)).symm
  rw [if_neg (by simpa using h4)]
  rw [szAlarmS_ok hk hx.2.2.2.2.2.1 (szv_some h4).1 (by have := szv_le (t := tot tConf x.1 + tot (.sl tPart) x.2.2.2.1 + tot (.sl tSub) x.2.2.2.2.1) h0; omega), Option.bind_some]
  rw [szv_add h4]
  by_cases h5 : szv (tot tConf x.1 + tot (.sl tPart) x.2.2.2.1 + tot (.sl tSub) x.2.2.2.2.1 + tot (.sl tAlarm) x.2.2.2.2.2.1) left < 0
  · rw [if_pos (by simpa using h5)]; exact congrArg (fun z => some (z, ())) (szv_big h5 (by omega)).symm
  rw [if_neg (by simpa using h5)]
  rw [szGroupS_ok hk hx.2.2.2.2.2.2.2.1 (szv_some h5).1 (by have := szv_le (t := tot tConf x.1 + tot (.sl tPart) x.2.2.2.1 + tot (.sl tSub) x.2.2.2.2.1 + tot (.sl tAlarm) x.2.2.2.2.2.1) h0; omega), Option.bind_some]
  rw [szv_add h5]
  by_cases h6 : szv (tot tConf x.1 + tot (.sl tPart) x.2.2.2.1 + tot (.sl tSub) x.2.2.2.2.1 + tot (.sl tAlarm) x.2.2.2.2.2.1 + tot (.sl tGroup) x.2.2.2.2.2.2.2.1) left < 0
  · rw [if_pos (by simpa using h6)]; exact congrArg (fun z => some (z, ())) (szv_big h6 (by omega)).symm
  rw [if_neg (by simpa using h6)]
  rw [szTimerS_ok hk hx.2.2.2.2.2.2.2.2.2.1 (szv_some h6).1 (by have := szv_le (t := tot tConf x.1 + tot (.sl tPart) x.2.2.2.1 + tot (.sl tSub) x.2.2.2.2.1 + tot (.sl tAlarm) x.2.2.2.2.2.1 + tot (.sl tGroup) x.2.2.2.2.2.2.2.1) h0; omega), Option.bind_some]
  rw [szv_add h6]
  by_cases h7 : szv (tot tConf x.1 + tot (.sl tPart) x.2.2.2.1 + tot (.sl tSub) x.2.2.2.2.1 + tot (.sl tAlarm) x.2.2.2.2.2.1 + tot (.sl tGroup) x.2.2.2.2.2.2.2.1 + tot (.sl tTimer) x.2.2.2.2.2.2.2.2.2.1) left < 0
  · rw [if_pos (by simpa using h7)]; exact congrArg (fun z => some (z, ())) (szv_big h7 (by omega)).symm
  rw [if_neg (by simpa using h7)]
  rw [szBatchS_ok hk hx.2.2.2.2.2.2.2.2.2.2.1 (szv_some h7).1 (by have := szv_le (t := tot tConf x.1 + tot (.sl tPart) x.2.2.2.1 + tot (.sl tSub) x.2.2.2.2.1 + tot (.sl tAlarm) x.2.2.2.2.2.1 + tot (.sl tGroup) x.2.2.2.2.2.2.2.1 + tot (.sl tTimer) x.2.2.2.2.2.2.2.2.2.1) h0; omega), Option.bind_some]
  rw [szv_add h7]
  by_cases h8 : szv (tot tConf x.1 + tot (.sl tPart) x.2.2.2.1 + tot (.sl tSub) x.2.2.2.2.1 + tot (.sl tAlarm) x.2.2.2.2.2.1 + tot (.sl tGroup) x.2.2.2.2.2.2.2.1 + tot (.sl tTimer) x.2.2.2.2.2.2.2.2.2.1 + tot (.sl tBatch) x.2.2.2.2.2.2.2.2.2.2.1) left < 0
  · rw [if_pos (by simpa using h8)]; exact congrArg (fun z => some (z, ())) (szv_big h8 (by omega)).symm
  rw [if_neg (by simpa using h8)]
  rw [szAlarmS_ok hk hx.2.2.2.2.2.2.2.2.2.2.2.1 (szv_some h8).1 (by have := szv_le (t := tot tConf x.1 + tot (.sl tPart) x.2.2.2.1 + tot (.sl tSub) x.2.2.2.2.1 + tot (.sl tAlarm) x.2.2.2.2.2.1 + tot (.sl tGroup) x.2.2.2.2.2.2.2.1 + tot (.sl tTimer) x.2.2.2.2.2.2.2.2.2.1 + tot (.sl tBatch) x.2.2.2.2.2.2.2.2.2.2.1) h0; omega), Option.bind_some]
  rw [szv_add h8]
  by_cases h9 : szv (tot tConf x.1 + tot (.sl tPart) x.2.2.2.1 + tot (.sl tSub) x.2.2.2.2.1 + tot (.sl tAlarm) x.2.2.2.2.2.1 + tot (.sl tGroup) x.2.2.2.2.2.2.2.1 + tot (.sl tTimer) x.2.2.2.2.2.2.2.2.2.1 + tot (.sl tBatch) x.2.2.2.2.2.2.2.2.2.2.1 + tot (.sl tAlarm) x.2.2.2.2.2.2.2.2.2.2.2.1) left < 0
  · rw [if_pos (by simpa using h9)]; exact congrArg (fun z => some (z, ())) (szv_big h9 (by omega)).symm
  rw [if_neg (by simpa using h9)]
  rw [szTaskS_ok hk hx.2.2.2.2.2.2.2.2.2.2.2.2.1 (szv_some h9).1 (by have := szv_le (t := tot tConf x.1 + tot (.sl tPart) x.2.2.2.1 + tot (.sl tSub) x.2.2.2.2.1 + tot (.sl tAlarm) x.2.2.2.2.2.1 + tot (.sl tGroup) x.2.2.2.2.2.2.2.1 + tot (.sl tTimer) x.2.2.2.2.2.2.2.2.2.1 + tot (.sl tBatch) x.2.2.2.2.2.2.2.2.2.2.1 + tot (.sl tAlarm) x.2.2.2.2.2.2.2.2.2.2.2.1) h0; omega), Option.bind_some]
  rw [szv_add h9]
  by_cases h10 : szv (tot tConf x.1 + tot (.sl tPart) x.2.2.2.1 + tot (.sl tSub) x.2.2.2.2.1 + tot (.sl tAlarm) x.2.2.2.2.2.1 + tot (.sl tGroup) x.2.2.2.2.2.2.2.1 + tot (.sl tTimer) x.2.2.2.2.2.2.2.2.2.1 + tot (.sl tBatch) x.2.2.2.2.2.2.2.2.2.2.1 + tot (.sl tAlarm) x.2.2.2.2.2.2.2.2.2.2.2.1 + tot (.sl tTask) x.2.2.2.2.2.2.2.2.2.2.2.2.1) left < 0
  · rw [if_pos (by simpa using h10)]; exact congrArg (fun z => some (z, ())) (szv_big h10 (by omega)).symm
  rw [if_neg (by simpa using h10)]
  rw [szDeedS_ok hk hx.2.2.2.2.2.2.2.2.2.2.2.2.2 (szv_some h10).1 (by have := szv_le (t := tot tConf x.1 + tot (.sl tPart) x.2.2.2.1 + tot (.sl tSub) x.2.2.2.2.1 + tot (.sl tAlarm) x.2.2.2.2.2.1 + tot (.sl tGroup) x.2.2.2.2.2.2.2.1 + tot (.sl tTimer) x.2.2.2.2.2.2.2.2.2.1 + tot (.sl tBatch) x.2.2.2.2.2.2.2.2.2.2.1 + tot (.sl tAlarm) x.2.2.2.2.2.2.2.2.2.2.2.1 + tot (.sl tTask) x.2.2.2.2.2.2.2.2.2.2.2.2.1) h0; omega), Option.bind_some]
  rw [szv_add h10]
  by_cases h11 : szv (tot tConf x.1 + tot (.sl tPart) x.2.2.2.1 + tot (.sl tSub) x.2.2.2.2.1 + tot (.sl tAlarm) x.2.2.2.2.2.1 + tot (.sl tGroup) x.2.2.2.2.2.2.2.1 + tot (.sl tTimer) x.2.2.2.2.2.2.2.2.2.1 + tot (.sl tBatch) x.2.2.2.2.2.2.2.2.2.2.1 + tot (.sl tAlarm) x.2.2.2.2.2.2.2.2.2.2.2.1 + tot (.sl tTask) x.2.2.2.2.2.2.2.2.2.2.2.2.1 + tot (.sl tDeed) x.2.2.2.2.2.2.2.2.2.2.2.2.2) left < 0
  · rw [if_pos (by simpa using h11)]; exact congrArg (fun z => some (z, ())) (szv_big h11 (by omega)).symm
  rw [if_neg (by simpa using h11)]
theorem toStringS_ok {x : List ByteArray} (h : tot (.sl .str) x ≤ 1048576) : F_laws_toStringS k (x, ()) = some (x, ()) := 
  toI_ok (d := ByteArray.empty) hk (Nat.le_trans (tot_len (e := .str)) h)
theorem toConf_ok {x : DConf} (h : tot tConf x ≤ 1048576) : F_laws_toConf k (x, ()) = some (x, ()) := by
  rw [tot_Conf hk] at h
  simp only [F_laws_toConf]
  rw [toStringS_ok hk (by omega)]
  try rfl
theorem toLabel_ok {x : DLabel} (h : tot tLabel x ≤ 1048576) : F_laws_toLabel k (x, ()) = some (x, ()) := by
  rw [tot_Label hk] at h
  simp only [F_laws_toLabel]
  try rfl
theorem toLabelS_ok {x : List DLabel} (h : tot (.sl tLabel) x ≤ 1048576) : F_laws_toLabelS k (x, ()) = some (x, ()) := 
  toS_ok (d := tLabel.dflt) (S := F_laws_toLabel k) hk (Nat.le_trans (tot_len (e := tLabel)) h) (fun e he => toLabel_ok hk (Nat.le_trans (tot_mem (e := tLabel) he) h))
theorem toAlarm_ok {x : DAlarm} (h : tot tAlarm x ≤ 1048576) : F_laws_toAlarm k (x, ()) = some (x, ()) := by
  rw [tot_Alarm hk] at h
  simp only [F_laws_toAlarm]
  rw [toLabelS_ok hk (by omega)]
  try rfl
theorem toAlarmS_ok {x : List DAlarm} (h : tot (.sl tAlarm) x ≤ 1048576) : F_laws_toAlarmS k (x, ()) = some (x, ()) := 
  toS_ok (d := tAlarm.dflt) (S := F_laws_toAlarm k) hk (Nat.le_trans (tot_len (e := tAlarm)) h) (fun e he => toAlarm_ok hk (Nat.le_trans (tot_mem (e := tAlarm) he) h))
theorem toChain_ok {x : DChain} (h : tot tChain x ≤ 1048576) : F_laws_toChain k (x, ()) = some (x, ()) := by
  rw [tot_Chain hk] at h
  simp only [F_laws_toChain]
  rw [toAlarmS_ok hk (by omega)]
  try rfl
theorem toChainS_ok {x : List DChain} (h : tot (.sl tChain) x ≤ 1048576) : F_laws_toChainS k (x, ()) = some (x, ()) := 
  toS_ok (d := tChain.dflt) (S := F_laws_toChain k) hk (Nat.le_trans (tot_len (e := tChain)) h) (fun e he => toChain_ok hk (Nat.le_trans (tot_mem (e := tChain) he) h))
theorem toPart_ok {x : DPart} (h : tot tPart x ≤ 1048576) : F_laws_toPart k (x, ()) = some (x, ()) := by
  rw [tot_Part hk] at h
  simp only [F_laws_toPart]
  rw [toChainS_ok hk (by omega)]
  try rfl
theorem toPartS_ok {x : List DPart} (h : tot (.sl tPart) x ≤ 1048576) : F_laws_toPartS k (x, ()) = some (x, ()) := 
  toS_ok (d := tPart.dflt) (S := F_laws_toPart k) hk (Nat.le_trans (tot_len (e := tPart)) h) (fun e he => toPart_ok hk (Nat.le_trans (tot_mem (e := tPart) he) h))
theorem toSub_ok {x : DSub} (h : tot tSub x ≤ 1048576) : F_laws_toSub k (x, ()) = some (x, ()) := by
  rw [tot_Sub hk] at h
  simp only [F_laws_toSub]
  rw [toAlarmS_ok hk (by omega)]
  try rfl
theorem toSubS_ok {x : List DSub} (h : tot (.sl tSub) x ≤ 1048576) : F_laws_toSubS k (x, ()) = some (x, ()) := 
  toS_ok (d := tSub.dflt) (S := F_laws_toSub k) hk (Nat.le_trans (tot_len (e := tSub)) h) (fun e he => toSub_ok hk (Nat.le_trans (tot_mem (e := tSub) he) h))
theorem toGroup_ok {x : DGroup} (h : tot tGroup x ≤ 1048576) : F_laws_toGroup k (x, ()) = some (x, ()) := by
  rw [tot_Group hk] at h
  simp only [F_laws_toGroup]
  rw [toLabelS_ok hk (by omega), toAlarmS_ok hk (by omega)]
  try rfl
theorem toGroupS_ok {x : List DGroup} (h : tot (.sl tGroup) x ≤ 1048576) : F_laws_toGroupS k (x, ()) = some (x, ()) := 
  toS_ok (d := tGroup.dflt) (S := F_laws_toGroup k) hk (Nat.le_trans (tot_len (e := tGroup)) h) (fun e he => toGroup_ok hk (Nat.le_trans (tot_mem (e := tGroup) he) h))
theorem tot_Timer (x : DTimer) : tot tTimer x = 0 := by
  obtain ⟨x0, x1⟩ := x
  simp only [tot]
  try omega
theorem toTimer_ok {x : DTimer} (h : tot tTimer x ≤ 1048576) : F_laws_toTimer k (x, ()) = some (x, ()) := by
  rw [tot_Timer hk] at h
  simp only [F_laws_toTimer]
  try rfl
theorem toTimerS_ok {x : List DTimer} (h : tot (.sl tTimer) x ≤ 1048576) : F_laws_toTimerS k (x, ()) = some (x, ()) := 
  toS_ok (d := tTimer.dflt) (S := F_laws_toTimer k) hk (Nat.le_trans (tot_len (e := tTimer)) h) (fun e he => toTimer_ok hk (Nat.le_trans (tot_mem (e := tTimer) he) h))
theorem toBatch_ok {x : DBatch} (h : tot tBatch x ≤ 1048576) : F_laws_toBatch k (x, ()) = some (x, ()) := by
  rw [tot_Batch hk] at h
  simp only [F_laws_toBatch]
  rw [toLabelS_ok hk (by omega), toAlarmS_ok hk (by omega)]
  try rfl
theorem toBatchS_ok {x : List DBatch} (h : tot (.sl tBatch) x ≤ 1048576) : F_laws_toBatchS k (x, ()) = some (x, ()) := 
  toS_ok (d := tBatch.dflt) (S := F_laws_toBatch k) hk (Nat.le_trans (tot_len (e := tBatch)) h) (fun e he => toBatch_ok hk (Nat.le_trans (tot_mem (e := tBatch) he) h))
theorem toIntS_ok {x : List Int} (h : tot (.sl (.int .i64)) x ≤ 1048576) : F_laws_toIntS k (x, ()) = some (x, ()) := 
  toI_ok (d := 0) hk (Nat.le_trans (tot_len (e := (.int .i64))) h)
theorem toTask_ok {x : DTask} (h : tot tTask x ≤ 1048576) : F_laws_toTask k (x, ()) = some (x, ()) := by
  rw [tot_Task hk] at h
  simp only [F_laws_toTask]
  rw [toAlarm_ok hk (by omega), toLabelS_ok hk (by omega), toIntS_ok hk (by omega), toAlarmS_ok hk (by omega)]
  try rfl
theorem toTaskS_ok {x : List DTask} (h : tot (.sl tTask) x ≤ 1048576) : F_laws_toTaskS k (x, ()) = some (x, ()) := 
  toS_ok (d := tTask.dflt) (S := F_laws_toTask k) hk (Nat.le_trans (tot_len (e := tTask)) h) (fun e he => toTask_ok hk (Nat.le_trans (tot_mem (e := tTask) he) h))
theorem toDeed_ok {x : DDeed} (h : tot tDeed x ≤ 1048576) : F_laws_toDeed k (x, ()) = some (x, ()) := by
  rw [tot_Deed hk] at h
  simp only [F_laws_toDeed]
  rw [toAlarm_ok hk (by omega), toLabelS_ok hk (by omega), toAlarmS_ok hk (by omega)]
  try rfl
theorem toDeedS_ok {x : List DDeed} (h : tot (.sl tDeed) x ≤ 1048576) : F_laws_toDeedS k (x, ()) = some (x, ()) := 
  toS_ok (d := tDeed.dflt) (S := F_laws_toDeed k) hk (Nat.le_trans (tot_len (e := tDeed)) h) (fun e he => toDeed_ok hk (Nat.le_trans (tot_mem (e := tDeed) he) h))
theorem toWorld_ok {x : DWorld} (h : tot tWorld x ≤ 1048576) : F_laws_toWorld k (x, ()) = some (x, ()) := by
  rw [tot_World hk] at h
  simp only [F_laws_toWorld]
  rw [toConf_ok hk (by omega), toPartS_ok hk (by omega), toSubS_ok hk (by omega), toAlarmS_ok hk (by omega), toGroupS_ok hk (by omega), toTimerS_ok hk (by omega), toBatchS_ok hk (by omega), toAlarmS_ok hk (by omega), toTaskS_ok hk (by omega), toDeedS_ok hk (by omega)]
  try rfl
theorem eqStringS_ok {x : List ByteArray} (h : tot (.sl .str) x ≤ 1073741824) : F_laws_eqStringS k (x, x, ()) = some (true, ()) := 
  eqT_ok hk (Nat.le_trans (Nat.le_trans (tot_len (e := .str)) h) (by omega))
theorem eqConf_ok {x : DConf} (h : tot tConf x ≤ 1073741824) : F_laws_eqConf k (x, x, ()) = some (true, ()) := by
  rw [tot_Conf hk] at h
  simp only [F_laws_eqConf]
  rw [eqStringS_ok hk (by omega)]
  simp
theorem eqLabel_ok {x : DLabel} (h : tot tLabel x ≤ 1073741824) : F_laws_eqLabel k (x, x, ()) = some (true, ()) := by
  rw [tot_Label hk] at h
  simp only [F_laws_eqLabel]
  simp
theorem eqLabelS_ok {x : List DLabel} (h : tot (.sl tLabel) x ≤ 1073741824) : F_laws_eqLabelS k (x, x, ()) = some (true, ()) := 
  eqS_ok (d := tLabel.dflt) (S := F_laws_eqLabel k) hk (Nat.le_trans (Nat.le_trans (tot_len (e := tLabel)) h) (by omega)) (fun e he => eqLabel_ok hk (Nat.le_trans (tot_mem (e := tLabel) he) h))
theorem eqAlarm_ok {x : DAlarm} (h : tot tAlarm x ≤ 1073741824) : F_laws_eqAlarm k (x, x, ()) = some (true, ()) := by
  rw [tot_Alarm hk] at h
  simp only [F_laws_eqAlarm]
  rw [eqLabelS_ok hk (by omega)]
  simp
theorem eqAlarmS_ok {x : List DAlarm} (h : tot (.sl tAlarm) x ≤ 1073741824) : F_laws_eqAlarmS k (x, x, ()) = some (true, ()) := 
  eqS_ok (d := tAlarm.dflt) (S := F_laws_eqAlarm k) hk (Nat.le_trans (Nat.le_trans (tot_len (e := tAlarm)) h) (by omega)) (fun e he => eqAlarm_ok hk (Nat.le_trans (tot_mem (e := tAlarm) he) h))
theorem eqChain_ok {x : DChain} (h : tot tChain x ≤ 1073741824) : F_laws_eqChain k (x, x, ()) = some (true, ()) := by
  rw [tot_Chain hk] at h
  simp only [F_laws_eqChain]
  rw [eqAlarmS_ok hk (by omega)]
  simp
theorem eqChainS_ok {x : List DChain} (h : tot (.sl tChain) x ≤ 1073741824) : F_laws_eqChainS k (x, x, ()) = some (true, ()) := 
  eqS_ok (d := tChain.dflt) (S := F_laws_eqChain k) hk (Nat.le_trans (Nat.le_trans (tot_len (e := tChain)) h) (by omega)) (fun e he => eqChain_ok hk (Nat.le_trans (tot_mem (e := tChain) he) h))
theorem eqPart_ok {x : DPart} (h : tot tPart x ≤ 1073741824) : F_laws_eqPart k (x, x, ()) = some (true, ()) := by
  rw [tot_Part hk] at h
  simp only [F_laws_eqPart]
  rw [eqChainS_ok hk (by omega)]
  simp
theorem eqPartS_ok {x : List DPart} (h : tot (.sl tPart) x ≤ 1073741824) : F_laws_eqPartS k (x, x, ()) = some (true, ()) := 
  eqS_ok (d := tPart.dflt) (S := F_laws_eqPart k) hk (Nat.le_trans (Nat.le_trans (tot_len (e := tPart)) h) (by omega)) (fun e he => eqPart_ok hk (Nat.le_trans (tot_mem (e := tPart) he) h))
theorem eqSub_ok {x : DSub} (h : tot tSub x ≤ 1073741824) : F_laws_eqSub k (x, x, ()) = some (true, ()) := by
  rw [tot_Sub hk] at h
  simp only [F_laws_eqSub]
  rw [eqAlarmS_ok hk (by omega)]
  simp
theorem eqSubS_ok {x : List DSub} (h : tot (.sl tSub) x ≤ 1073741824) : F_laws_eqSubS k (x, x, ()) = some (true, ()) := 
  eqS_ok (d := tSub.dflt) (S := F_laws_eqSub k) hk (Nat.le_trans (Nat.le_trans (tot_len (e := tSub)) h) (by omega)) (fun e he => eqSub_ok hk (Nat.le_trans (tot_mem (e := tSub) he) h))
theorem eqGroup_ok {x : DGroup} (h : tot tGroup x ≤ 1073741824) : F_laws_eqGroup k (x, x, ()) = some (true, ()) := by
  rw [tot_Group hk] at h
  simp only [F_laws_eqGroup]
  rw [eqLabelS_ok hk (by omega), eqAlarmS_ok hk (by omega)]
  simp
theorem eqGroupS_ok {x : List DGroup} (h : tot (.sl tGroup) x ≤ 1073741824) : F_laws_eqGroupS k (x, x, ()) = some (true, ()) := 
  eqS_ok (d := tGroup.dflt) (S := F_laws_eqGroup k) hk (Nat.le_trans (Nat.le_trans (tot_len (e := tGroup)) h) (by omega)) (fun e he => eqGroup_ok hk (Nat.le_trans (tot_mem (e := tGroup) he) h))
theorem eqTimer_ok {x : DTimer} (h : tot tTimer x ≤ 1073741824) : F_laws_eqTimer k (x, x, ()) = some (true, ()) := by
  rw [tot_Timer hk] at h
  simp only [F_laws_eqTimer]
  simp
theorem eqTimerS_ok {x : List DTimer} (h : tot (.sl tTimer) x ≤ 1073741824) : F_laws_eqTimerS k (x, x, ()) = some (true, ()) := 
  eqS_ok (d := tTimer.dflt) (S := F_laws_eqTimer k) hk (Nat.le_trans (Nat.le_trans (tot_len (e := tTimer)) h) (by omega)) (fun e he => eqTimer_ok hk (Nat.le_trans (tot_mem (e := tTimer) he) h))
theorem eqBatch_ok {x : DBatch} (h : tot tBatch x ≤ 1073741824) : F_laws_eqBatch k (x, x, ()) = some (true, ()) := by
  rw [tot_Batch hk] at h
  simp only [F_laws_eqBatch]
  rw [eqLabelS_ok hk (by omega), eqAlarmS_ok hk (by omega)]
  simp
theorem eqBatchS_ok {x : List DBatch} (h : tot (.sl tBatch) x ≤ 1073741824) : F_laws_eqBatchS k (x, x, ()) = some (true, ()) := 
  eqS_ok (d := tBatch.dflt) (S := F_laws_eqBatch k) hk (Nat.le_trans (Nat.le_trans (tot_len (e := tBatch)) h) (by omega)) (fun e he => eqBatch_ok hk (Nat.le_trans (tot_mem (e := tBatch) he) h))
theorem eqIntS_ok {x : List Int} (h : tot (.sl (.int .i64)) x ≤ 1073741824) : F_laws_eqIntS k (x, x, ()) = some (true, ()) := 
  eqI_ok hk (Nat.le_trans (Nat.le_trans (tot_len (e := (.int .i64))) h) (by omega))
theorem eqTask_ok {x : DTask} (h : tot tTask x ≤ 1073741824) : F_laws_eqTask k (x, x, ()) = some (true, ()) := by
  rw [tot_Task hk] at h
  simp only [F_laws_eqTask]
  rw [eqAlarm_ok hk (by omega), eqLabelS_ok hk (by omega), eqIntS_ok hk (by omega), eqAlarmS_ok hk (by omega)]
  simp
theorem eqTaskS_ok {x : List DTask} (h : tot (.sl tTask) x ≤ 1073741824) : F_laws_eqTaskS k (x, x, ()) = some (true, ()) := 
  eqS_ok (d := tTask.dflt) (S := F_laws_eqTask k) hk (Nat.le_trans (Nat.le_trans (tot_len (e := tTask)) h) (by omega)) (fun e he => eqTask_ok hk (Nat.le_trans (tot_mem (e := tTask) he) h))
theorem eqDeed_ok {x : DDeed} (h : tot tDeed x ≤ 1073741824) : F_laws_eqDeed k (x, x, ()) = some (true, ()) := by
  rw [tot_Deed hk] at h
  simp only [F_laws_eqDeed]
  rw [eqAlarm_ok hk (by omega), eqLabelS_ok hk (by omega), eqAlarmS_ok hk (by omega)]
  simp
theorem eqDeedS_ok {x : List DDeed} (h : tot (.sl tDeed) x ≤ 1073741824) : F_laws_eqDeedS k (x, x, ()) = some (true, ()) := 
  eqS_ok (d := tDeed.dflt) (S := F_laws_eqDeed k) hk (Nat.le_trans (Nat.le_trans (tot_len (e := tDeed)) h) (by omega)) (fun e he => eqDeed_ok hk (Nat.le_trans (tot_mem (e := tDeed) he) h))
theorem eqWorld_ok {x : DWorld} (h : tot tWorld x ≤ 1073741824) : F_laws_eqWorld k (x, x, ()) = some (true, ()) := by
  rw [tot_World hk] at h
  simp only [F_laws_eqWorld]
  rw [eqConf_ok hk (by omega), eqPartS_ok hk (by omega), eqSubS_ok hk (by omega), eqAlarmS_ok hk (by omega), eqGroupS_ok hk (by omega), eqTimerS_ok hk (by omega), eqBatchS_ok hk (by omega), eqAlarmS_ok hk (by omega), eqTaskS_ok hk (by omega), eqDeedS_ok hk (by omega)]
  simp
end
end Vg.Tryz
