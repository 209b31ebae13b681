/- Plain laws of what the functions compute: sizes, copies, comparisons (printed by famgen.py). -/
import Derived.Test.YtoenkpiimjnmdaaVc
import Derived.Test.YtoenkpiimjnmdaaF
namespace Vg.Try
open Go Vg
set_option linter.unusedVariables false
set_option linter.unusedSectionVars false
set_option linter.unusedSimpArgs false
section
variable {k : Nat} (hk : 9223372036854775808 ≤ k)
include hk
theorem tot_Label (x : DLabel) : tot tLabel x = x.1.size + x.2.size := by
  obtain ⟨x0, x1⟩ := x
  simp only [tot]
  try omega
theorem szLabel_ok {x : DLabel} {left : Int} (hx : Fits tLabel x) (h0 : 0 ≤ left) (h1 : left ≤ 1048576) : F_laws_szLabel k (x, left, ()) = some (szv (tot tLabel x) left, ()) := by
  rw [tot_Label hk]
  simp only [F_laws_szLabel]
  try simp only
  rw [str_neg hx.1 h0 h1]
  by_cases h2 : szv (x.1.size) left < 0
  · rw [if_pos (by simpa using h2)]; exact congrArg (fun z => some (z, ())) (szv_big h2 (by omega)).symm
  rw [if_neg (by simpa using h2)]
  rw [str_wrap hx.1 h0 h1 h2]
  try simp only
  rw [str_neg hx.2 (szv_some h2).1 (by have := szv_le (t := x.1.size) h0; omega)]
  rw [szv_add h2]
  by_cases h3 : szv (x.1.size + x.2.size) left < 0
  · rw [if_pos (by simpa using h3)]; exact congrArg (fun z => some (z, ())) (szv_big h3 (by omega)).symm
  rw [if_neg (by simpa using h3)]
  rw [str_wrap hx.2 (szv_some h2).1 (by have := szv_le (t := x.1.size) h0; omega) (by rw [szv_add h2]; exact h3), szv_add h2]
theorem szLabelS_ok {x : List DLabel} {left : Int} (hx : Fits (.sl tLabel) x) (h0 : 0 ≤ left) (h1 : left ≤ 1048576) : F_laws_szLabelS k (x, left, ()) = some (szv (tot (.sl tLabel) x) left, ()) := 
  szS_ok (d := tLabel.dflt) (S := F_laws_szLabel k) hk hx.1 h0 h1 (fun e he l a b => szLabel_ok hk (hx.2 e he) a b)
theorem tot_Alarm (x : DAlarm) : tot tAlarm x = tot (.sl tLabel) x.1 + x.2.2.2.size := by
  obtain ⟨x0, x1, x2, x3⟩ := x
  simp only [tot]
  try omega
theorem szAlarm_ok {x : DAlarm} {left : Int} (hx : Fits tAlarm x) (h0 : 0 ≤ left) (h1 : left ≤ 1048576) : F_laws_szAlarm k (x, left, ()) = some (szv (tot tAlarm x) left, ()) := by
  rw [tot_Alarm hk]
  simp only [F_laws_szAlarm]
  rw [szLabelS_ok hk hx.1 h0 h1, Option.bind_some]
  by_cases h2 : szv (tot (.sl tLabel) x.1) left < 0
  · rw [if_pos (by simpa using h2)]; exact congrArg (fun z => some (z, ())) (szv_big h2 (by omega)).symm
  rw [if_neg (by simpa using h2)]
  try simp only
  rw [str_neg hx.2.2.2 (szv_some h2).1 (by have := szv_le (t := tot (.sl tLabel) x.1) h0; omega)]
  rw [szv_add h2]
  by_cases h3 : szv (tot (.sl tLabel) x.1 + x.2.2.2.size) left < 0
  · rw [if_pos (by simpa using h3)]; exact congrArg (fun z => some (z, ())) (szv_big h3 (by omega)).symm
  rw [if_neg (by simpa using h3)]
  rw [str_wrap hx.2.2.2 (szv_some h2).1 (by have := szv_le (t := tot (.sl tLabel) x.1) h0; omega) (by rw [szv_add h2]; exact h3), szv_add h2]
theorem szAlarmS_ok {x : List DAlarm} {left : Int} (hx : Fits (.sl tAlarm) x) (h0 : 0 ≤ left) (h1 : left ≤ 1048576) : F_laws_szAlarmS k (x, left, ()) = some (szv (tot (.sl tAlarm) x) left, ()) := 
  szS_ok (d := tAlarm.dflt) (S := F_laws_szAlarm k) hk hx.1 h0 h1 (fun e he l a b => szAlarm_ok hk (hx.2 e he) a b)
theorem tot_Group (x : DGroup) : tot tGroup x = tot (.sl tLabel) x.2.1 + tot (.sl tAlarm) x.2.2.2.2 := by
  obtain ⟨x0, x1, x2, x3, x4⟩ := x
  simp only [tot]
  try omega
theorem szGroup_ok {x : DGroup} {left : Int} (hx : Fits tGroup x) (h0 : 0 ≤ left) (h1 : left ≤ 1048576) : F_laws_szGroup k (x, left, ()) = some (szv (tot tGroup x) left, ()) := by
  rw [tot_Group hk]
  simp only [F_laws_szGroup]
  rw [szLabelS_ok hk hx.2.1 h0 h1, Option.bind_some]
  by_cases h2 : szv (tot (.sl tLabel) x.2.1) left < 0
  · rw [if_pos (by simpa using h2)]; exact congrArg (fun z => some (z, ())) (szv_big h2 (by omega)).symm
  rw [if_neg (by simpa using h2)]
  rw [szAlarmS_ok hk hx.2.2.2.2 (szv_some h2).1 (by have := szv_le (t := tot (.sl tLabel) x.2.1) h0; omega), Option.bind_some]
  rw [szv_add h2]
  by_cases h3 : szv (tot (.sl tLabel) x.2.1 + tot (.sl tAlarm) x.2.2.2.2) left < 0
  · rw [if_pos (by simpa using h3)]; exact congrArg (fun z => some (z, ())) (szv_big h3 (by omega)).symm
  rw [if_neg (by simpa using h3)]
theorem toLabel_ok {x : DLabel} (h : tot tLabel x ≤ 1048576) : F_laws_toLabel k (x, ()) = some (x, ()) := by
  rw [tot_Label hk] at h
  simp only [F_laws_toLabel]
  try rfl
theorem toLabelS_ok {x : List DLabel} (h : tot (.sl tLabel) x ≤ 1048576) : F_laws_toLabelS k (x, ()) = some (x, ()) := 
  toS_ok (d := tLabel.dflt) (S := F_laws_toLabel k) hk (Nat.le_trans (tot_len (e := tLabel)) h) (fun e he => toLabel_ok hk (Nat.le_trans (tot_mem (e := tLabel) he) h))
theorem toAlarm_ok {x : DAlarm} (h : tot tAlarm x ≤ 1048576) : F_laws_toAlarm k (x, ()) = some (x, ()) := by
  rw [tot_Alarm hk] at h
  simp only [F_laws_toAlarm]
  rw [toLabelS_ok hk (by omega)]
  try rfl
theorem toAlarmS_ok {x : List DAlarm} (h : tot (.sl tAlarm) x ≤ 1048576) : F_laws_toAlarmS k (x, ()) = some (x, ()) := 
  toS_ok (d := tAlarm.dflt) (S := F_laws_toAlarm k) hk (Nat.le_trans (tot_len (e := tAlarm)) h) (fun e he => toAlarm_ok hk (Nat.le_trans (tot_mem (e := tAlarm) he) h))
theorem toGroup_ok {x : DGroup} (h : tot tGroup x ≤ 1048576) : F_laws_toGroup k (x, ()) = some (x, ()) := by
  rw [tot_Group hk] at h
  simp only [F_laws_toGroup]
  rw [toLabelS_ok hk (by omega), toAlarmS_ok hk (by omega)]
  try rfl
theorem eqLabel_ok {x : DLabel} (h : tot tLabel x ≤ 1073741824) : F_laws_eqLabel k (x, x, ()) = some (true, ()) := by
  rw [tot_Label hk] at h
  simp only [F_laws_eqLabel]
  simp
theorem eqLabelS_ok {x : List DLabel} (h : tot (.sl tLabel) x ≤ 1073741824) : F_laws_eqLabelS k (x, x, ()) = some (true, ()) := 
  eqS_ok (d := tLabel.dflt) (S := F_laws_eqLabel k) hk (Nat.le_trans (Nat.le_trans (tot_len (e := tLabel)) h) (by omega)) (fun e he => eqLabel_ok hk (Nat.le_trans (tot_mem (e := tLabel) he) h))
theorem eqAlarm_ok {x : DAlarm} (h : tot tAlarm x ≤ 1073741824) : F_laws_eqAlarm k (x, x, ()) = some (true, ()) := by
  rw [tot_Alarm hk] at h
  simp only [F_laws_eqAlarm]
  rw [eqLabelS_ok hk (by omega)]
  simp
theorem eqAlarmS_ok {x : List DAlarm} (h : tot (.sl tAlarm) x ≤ 1073741824) : F_laws_eqAlarmS k (x, x, ()) = some (true, ()) := 
  eqS_ok (d := tAlarm.dflt) (S := F_laws_eqAlarm k) hk (Nat.le_trans (Nat.le_trans (tot_len (e := tAlarm)) h) (by omega)) (fun e he => eqAlarm_ok hk (Nat.le_trans (tot_mem (e := tAlarm) he) h))
theorem eqGroup_ok {x : DGroup} (h : tot tGroup x ≤ 1073741824) : F_laws_eqGroup k (x, x, ()) = some (true, ()) := by
  rw [tot_Group hk] at h
  simp only [F_laws_eqGroup]
  rw [eqLabelS_ok hk (by omega), eqAlarmS_ok hk (by omega)]
  simp
theorem tot_Batch (x : DBatch) : tot tBatch x = tot (.sl tLabel) x.2.1 + tot (.sl tAlarm) x.2.2.2 := by
  obtain ⟨x0, x1, x2, x3⟩ := x
  simp only [tot]
  try omega
theorem eqBatch_ok {x : DBatch} (h : tot tBatch x ≤ 1073741824) : F_laws_eqBatch k (x, x, ()) = some (true, ()) := by
  rw [tot_Batch hk] at h
  simp only [F_laws_eqBatch]
  rw [eqLabelS_ok hk (by omega), eqAlarmS_ok hk (by omega)]
  simp
theorem szGroupS_ok {x : List DGroup} {left : Int} (hx : Fits (.sl tGroup) x) (h0 : 0 ≤ left) (h1 : left ≤ 1048576) : F_laws_szGroupS k (x, left, ()) = some (szv (tot (.sl tGroup) x) left, ()) := 
  szS_ok (d := tGroup.dflt) (S := F_laws_szGroup k) hk hx.1 h0 h1 (fun e he l a b => szGroup_ok hk (hx.2 e he) a b)
theorem toGroupS_ok {x : List DGroup} (h : tot (.sl tGroup) x ≤ 1048576) : F_laws_toGroupS k (x, ()) = some (x, ()) := 
  toS_ok (d := tGroup.dflt) (S := F_laws_toGroup k) hk (Nat.le_trans (tot_len (e := tGroup)) h) (fun e he => toGroup_ok hk (Nat.le_trans (tot_mem (e := tGroup) he) h))
theorem eqGroupS_ok {x : List DGroup} (h : tot (.sl tGroup) x ≤ 1073741824) : F_laws_eqGroupS k (x, x, ()) = some (true, ()) := 
  eqS_ok (d := tGroup.dflt) (S := F_laws_eqGroup k) hk (Nat.le_trans (Nat.le_trans (tot_len (e := tGroup)) h) (by omega)) (fun e he => eqGroup_ok hk (Nat.le_trans (tot_mem (e := tGroup) he) h))
theorem szStringS_ok {x : List ByteArray} {left : Int} (hx : Fits (.sl .str) x) (h0 : 0 ≤ left) (h1 : left ≤ 1048576) : F_laws_szStringS k (x, left, ()) = some (szv (tot (.sl .str) x) left, ()) := 
  szT_ok hk hx h0 h1
theorem tot_Conf (x : DConf) : tot tConf x = tot (.sl .str) x.2.2.2.2.2 := by
  obtain ⟨x0, x1, x2, x3, x4, x5⟩ := x
  simp only [tot]
  try omega
theorem szConf_ok {x : DConf} {left : Int} (hx : Fits tConf x) (h0 : 0 ≤ left) (h1 : left ≤ 1048576) : F_laws_szConf k (x, left, ()) = some (szv (tot tConf x) left, ()) := by
  rw [tot_Conf hk]
  simp only [F_laws_szConf]
  rw [szStringS_ok hk hx.2.2.2.2.2 h0 h1, Option.bind_some]
  by_cases h2 : szv (tot (.sl .str) x.2.2.2.2.2) left < 0
  · rw [if_pos (by simpa using h2)]; exact congrArg (fun z => some (z, ())) (szv_big h2 (by omega)).symm
  rw [if_neg (by simpa using h2)]
theorem toStringS_ok {x : List ByteArray} (h : tot (.sl .str) x ≤ 1048576) : F_laws_toStringS k (x, ()) = some (x, ()) := 
  toI_ok (d := ByteArray.empty) hk (Nat.le_trans (tot_len (e := .str)) h)
theorem toConf_ok {x : DConf} (h : tot tConf x ≤ 1048576) : F_laws_toConf k (x, ()) = some (x, ()) := by
  rw [tot_Conf hk] at h
  simp only [F_laws_toConf]
  rw [toStringS_ok hk (by omega)]
  try rfl
theorem eqStringS_ok {x : List ByteArray} (h : tot (.sl .str) x ≤ 1073741824) : F_laws_eqStringS k (x, x, ()) = some (true, ()) := 
  eqT_ok hk (Nat.le_trans (Nat.le_trans (tot_len (e := .str)) h) (by omega))
theorem eqConf_ok {x : DConf} (h : tot tConf x ≤ 1073741824) : F_laws_eqConf k (x, x, ()) = some (true, ()) := by
  rw [tot_Conf hk] at h
  simp only [F_laws_eqConf]
  rw [eqStringS_ok hk (by omega)]
  simp
theorem tot_Sub (x : DSub) : tot tSub x = tot (.sl tAlarm) x.1 := by
  obtain ⟨x0, x1⟩ := x
  simp only [tot]
  try omega
theorem eqSub_ok {x : DSub} (h : tot tSub x ≤ 1073741824) : F_laws_eqSub k (x, x, ()) = some (true, ()) := by
  rw [tot_Sub hk] at h
  simp only [F_laws_eqSub]
  rw [eqAlarmS_ok hk (by omega)]
  simp
theorem eqSubS_ok {x : List DSub} (h : tot (.sl tSub) x ≤ 1073741824) : F_laws_eqSubS k (x, x, ()) = some (true, ()) := 
  eqS_ok (d := tSub.dflt) (S := F_laws_eqSub k) hk (Nat.le_trans (Nat.le_trans (tot_len (e := tSub)) h) (by omega)) (fun e he => eqSub_ok hk (Nat.le_trans (tot_mem (e := tSub) he) h))
theorem tot_Model (x : DModel) : tot tModel x = tot tConf x.1 + tot (.sl tAlarm) x.2.1 + tot (.sl tSub) x.2.2.1 + tot (.sl tAlarm) x.2.2.2.1 + tot (.sl tGroup) x.2.2.2.2.1 := by
  obtain ⟨x0, x1, x2, x3, x4, x5⟩ := x
  simp only [tot]
  try omega
theorem eqModel_ok {x : DModel} (h : tot tModel x ≤ 1073741824) : F_laws_eqModel k (x, x, ()) = some (true, ()) := by
  rw [tot_Model hk] at h
  simp only [F_laws_eqModel]
  rw [eqConf_ok hk (by omega), eqAlarmS_ok hk (by omega), eqSubS_ok hk (by omega), eqAlarmS_ok hk (by omega), eqGroupS_ok hk (by omega)]
  simp
theorem tot_Chain (x : DChain) : tot tChain x = tot (.sl tAlarm) x.2 := by
  obtain ⟨x0, x1⟩ := x
  simp only [tot]
  try omega
theorem eqChain_ok {x : DChain} (h : tot tChain x ≤ 1073741824) : F_laws_eqChain k (x, x, ()) = some (true, ()) := by
  rw [tot_Chain hk] at h
  simp only [F_laws_eqChain]
  rw [eqAlarmS_ok hk (by omega)]
  simp
theorem eqChainS_ok {x : List DChain} (h : tot (.sl tChain) x ≤ 1073741824) : F_laws_eqChainS k (x, x, ()) = some (true, ()) := 
  eqS_ok (d := tChain.dflt) (S := F_laws_eqChain k) hk (Nat.le_trans (Nat.le_trans (tot_len (e := tChain)) h) (by omega)) (fun e he => eqChain_ok hk (Nat.le_trans (tot_mem (e := tChain) he) h))
theorem tot_Part (x : DPart) : tot tPart x = tot (.sl tChain) x.2.2 := by
  obtain ⟨x0, x1, x2⟩ := x
  simp only [tot]
  try omega
theorem eqPart_ok {x : DPart} (h : tot tPart x ≤ 1073741824) : F_laws_eqPart k (x, x, ()) = some (true, ()) := by
  rw [tot_Part hk] at h
  simp only [F_laws_eqPart]
  rw [eqChainS_ok hk (by omega)]
  simp
theorem eqPartS_ok {x : List DPart} (h : tot (.sl tPart) x ≤ 1073741824) : F_laws_eqPartS k (x, x, ()) = some (true, ()) := 
  eqS_ok (d := tPart.dflt) (S := F_laws_eqPart k) hk (Nat.le_trans (Nat.le_trans (tot_len (e := tPart)) h) (by omega)) (fun e he => eqPart_ok hk (Nat.le_trans (tot_mem (e := tPart) he) h))
theorem tot_Timer (x : DTimer) : tot tTimer x = 0 := by
  obtain ⟨x0, x1⟩ := x
  simp only [tot]
  try omega
theorem eqTimer_ok {x : DTimer} (h : tot tTimer x ≤ 1073741824) : F_laws_eqTimer k (x, x, ()) = some (true, ()) := by
  rw [tot_Timer hk] at h
  simp only [F_laws_eqTimer]
  simp
theorem eqTimerS_ok {x : List DTimer} (h : tot (.sl tTimer) x ≤ 1073741824) : F_laws_eqTimerS k (x, x, ()) = some (true, ()) := 
  eqS_ok (d := tTimer.dflt) (S := F_laws_eqTimer k) hk (Nat.le_trans (Nat.le_trans (tot_len (e := tTimer)) h) (by omega)) (fun e he => eqTimer_ok hk (Nat.le_trans (tot_mem (e := tTimer) he) h))
theorem eqBatchS_ok {x : List DBatch} (h : tot (.sl tBatch) x ≤ 1073741824) : F_laws_eqBatchS k (x, x, ()) = some (true, ()) := 
  eqS_ok (d := tBatch.dflt) (S := F_laws_eqBatch k) hk (Nat.le_trans (Nat.le_trans (tot_len (e := tBatch)) h) (by omega)) (fun e he => eqBatch_ok hk (Nat.le_trans (tot_mem (e := tBatch) he) h))
theorem eqIntS_ok {x : List Int} (h : tot (.sl (.int .i64)) x ≤ 1073741824) : F_laws_eqIntS k (x, x, ()) = some (true, ()) := 
  eqI_ok hk (Nat.le_trans (Nat.le_trans (tot_len (e := (.int .i64))) h) (by omega))
theorem tot_Task (x : DTask) : tot tTask x = tot tAlarm x.2.2.1 + tot (.sl tLabel) x.2.2.2.1 + tot (.sl (.int .i64)) x.2.2.2.2.2.1 + tot (.sl tAlarm) x.2.2.2.2.2.2.1 := by
  obtain ⟨x0, x1, x2, x3, x4, x5, x6, x7, x8⟩ := x
  simp only [tot]
  try omega
theorem eqTask_ok {x : DTask} (h : tot tTask x ≤ 1073741824) : F_laws_eqTask k (x, x, ()) = some (true, ()) := by
  rw [tot_Task hk] at h
  simp only [F_laws_eqTask]
  rw [eqAlarm_ok hk (by omega), eqLabelS_ok hk (by omega), eqIntS_ok hk (by omega), eqAlarmS_ok hk (by omega)]
  simp
theorem eqTaskS_ok {x : List DTask} (h : tot (.sl tTask) x ≤ 1073741824) : F_laws_eqTaskS k (x, x, ()) = some (true, ()) := 
  eqS_ok (d := tTask.dflt) (S := F_laws_eqTask k) hk (Nat.le_trans (Nat.le_trans (tot_len (e := tTask)) h) (by omega)) (fun e he => eqTask_ok hk (Nat.le_trans (tot_mem (e := tTask) he) h))
theorem tot_Deed (x : DDeed) : tot tDeed x = tot tAlarm x.2.2.1 + tot (.sl tLabel) x.2.2.2.1 + tot (.sl tAlarm) x.2.2.2.2.2.2.2.1 := by
  obtain ⟨x0, x1, x2, x3, x4, x5, x6, x7, x8, x9, x10, x11⟩ := x
  simp only [tot]
  try omega
theorem eqDeed_ok {x : DDeed} (h : tot tDeed x ≤ 1073741824) : F_laws_eqDeed k (x, x, ()) = some (true, ()) := by
  rw [tot_Deed hk] at h
  simp only [F_laws_eqDeed]
  rw [eqAlarm_ok hk (by omega), eqLabelS_ok hk (by omega), eqAlarmS_ok hk (by omega)]
  simp
theorem eqDeedS_ok {x : List DDeed} (h : tot (.sl tDeed) x ≤ 1073741824) : F_laws_eqDeedS k (x, x, ()) = some (true, ()) := 
  eqS_ok (d := tDeed.dflt) (S := F_laws_eqDeed k) hk (Nat.le_trans (Nat.le_trans (tot_len (e := tDeed)) h) (by omega)) (fun e he => eqDeed_ok hk (Nat.le_trans (tot_mem (e := tDeed) he) h))
theorem tot_World (x : DWorld) : tot tWorld x = tot tConf x.1 + tot (.sl tPart) x.2.2.2.1 + tot (.sl tSub) x.2.2.2.2.1 + tot (.sl tAlarm) x.2.2.2.2.2.1 + tot (.sl tGroup) x.2.2.2.2.2.2.2.1 + tot (.sl tTimer) x.2.2.2.2.2.2.2.2.2.1 + tot (.sl tBatch) x.2.2.2.2.2.2.2.2.2.2.1 + tot (.sl tAlarm) x.2.2.2.2.2.2.2.2.2.2.2.1 + tot (.sl tTask) x.2.2.2.2.2.2.2.2.2.2.2.2.1 + tot (.sl tDeed) x.2.2.2.2.2.2.2.2.2.2.2.2.2 := by
  obtain ⟨x0, x1, x2, x3, x4, x5, x6, x7, x8, x9, x10, x11, x12, x13⟩ := x
  simp only [tot]
  try omega
theorem eqWorld_ok {x : DWorld} (h : tot tWorld x ≤ 1073741824) : F_laws_eqWorld k (x, x, ()) = some (true, ()) := by
  rw [tot_World hk] at h
  simp only [F_laws_eqWorld]
  rw [eqConf_ok hk (by omega), eqPartS_ok hk (by omega), eqSubS_ok hk (by omega), eqAlarmS_ok hk (by omega), eqGroupS_ok hk (by omega), eqTimerS_ok hk (by omega), eqBatchS_ok hk (by omega), eqAlarmS_ok hk (by omega), eqTaskS_ok hk (by omega), eqDeedS_ok hk (by omega)]
  simp
theorem markText_ok {n : Int} (h1 : 1 ≤ n) (h2 : n ≤ markB) : ∃ s, F_laws_markText k (n, ()) = some (s, ()) := by
  simp only [F_laws_markText, joinC]
  rw [if_neg (by simp; omega)]
  have red : ∀ {o : Option (ByteArray × Unit)}, (∃ r, o = some r) → ∃ s, o = some (s, ()) := fun ⟨⟨s, u⟩, h⟩ => ⟨s, h⟩
  refine red (markText_tot hk ?_ ?_ n h2)
  · intro G n s hn hs
    simp only
    rw [if_neg (by simp; omega), if_pos (by
      simp only [decide_eq_true_eq]
      show 1 + s.size < 4294967296
      omega)]
    exact ⟨_, rfl⟩
  · intro G n s hn hn2 hs
    simp only
    unfold markB at hn2
    rw [if_pos (by simpa using hn), if_pos (by simp), if_pos (by
      simp only [decide_eq_true_eq]
      show 1 + s.size < 4294967296
      omega), if_pos (by simp), wrap64 (by rw [Int.tdiv_eq_ediv_of_nonneg (by omega)]; omega) (by rw [Int.tdiv_eq_ediv_of_nonneg (by omega)]; omega)]
    refine ⟨_, rfl, ?_⟩
    rw [ByteArray.size_append]
    show 1 + s.size = s.size + 1
    omega
theorem markLabelS_ok : MkOk (.sl tLabel) (F_laws_markLabelS k) (F_laws_heldLabelS k) := by
  refine markS_ok hk ?_ ?_ ?_
  · intro G l n i hi
    simp only [lt_nat]
    rw [if_neg (by simp; omega)]
  · intro G l n i hi
    simp only [lt_nat]
    rw [if_neg (by simp; omega)]
  · intro x n h1 h2
    unfold markB at h2
    have t0 := tot_Label hk x
    obtain ⟨s1, e1⟩ := markText_ok hk (n := n) (by omega) (by unfold markB; omega)
    obtain ⟨s2, e2⟩ := markText_ok hk (n := n + 1) (by omega) (by unfold markB; omega)
    refine ⟨n + 1 + 1, (s1, s2), by omega, by omega, fun G d r hd => ?_, fun G d r hd => ?_⟩
    · simp only [Int.toNat_natCast]
      refine if_lt_mid.trans ?_
      refine (bind_eq (r := (s1, ())) ?_ _).trans ?_
      · simp (disch := omega) only [getD_mid, Int.toNat_natCast, wrap64, e1]
      refine if_mid.trans ?_
      rw [letC_step (y := (s1, x.2))]
      rotate_left
      · simp (disch := omega) only [getD_mid, Int.toNat_natCast, wrap64]
      refine (bind_eq (r := (s2, ())) ?_ _).trans ?_
      · simp (disch := omega) only [getD_mid, Int.toNat_natCast, wrap64, e2]
      refine if_mid.trans ?_
      rw [letC_step (y := (s1, s2))]
      rotate_left
      · simp (disch := omega) only [getD_mid, Int.toNat_natCast, wrap64]
      simp (disch := omega) only [wrap64, wrap_mid hd]
    · simp only [Int.toNat_natCast]
      refine if_lt_mid.trans ?_
      refine if_mid.trans ?_
      refine (bind_eq (r := (s1, ())) ?_ _).trans ?_
      · simp (disch := omega) only [getD_mid, Int.toNat_natCast, wrap64, e1]
      refine (if_no (txt_no ?_)).trans ?_
      · simp (disch := omega) only [getD_mid, Int.toNat_natCast, wrap64]
      refine if_mid.trans ?_
      refine (bind_eq (r := (s2, ())) ?_ _).trans ?_
      · simp (disch := omega) only [getD_mid, Int.toNat_natCast, wrap64, e2]
      refine (if_no (txt_no ?_)).trans ?_
      · simp (disch := omega) only [getD_mid, Int.toNat_natCast, wrap64]
      simp (disch := omega) only [wrap64, wrap_mid hd]
theorem markAlarmS_ok : MkOk (.sl tAlarm) (F_laws_markAlarmS k) (F_laws_heldAlarmS k) := by
  refine markS_ok hk ?_ ?_ ?_
  · intro G l n i hi
    simp only [lt_nat]
    rw [if_neg (by simp; omega)]
  · intro G l n i hi
    simp only [lt_nat]
    rw [if_neg (by simp; omega)]
  · intro x n h1 h2
    unfold markB at h2
    have t0 := tot_Alarm hk x
    obtain ⟨n1, y1, e1, a1, b1, q1⟩ := markLabelS_ok hk (x.1) (n) (by omega) (by unfold markB; omega)
    have z1 : decide (n1 < 0) = false := by simp; omega
    obtain ⟨s4, e4⟩ := markText_ok hk (n := n1 + 1 + 1) (by omega) (by unfold markB; omega)
    refine ⟨n1 + 1 + 1 + 1, (y1, (n1, (n1 + 1, s4))), by omega, by omega, fun G d r hd => ?_, fun G d r hd => ?_⟩
    · simp only [Int.toNat_natCast]
      refine if_lt_mid.trans ?_
      refine if_mid.trans ?_
      refine (bind_eq (r := (n1, y1)) ?_ _).trans ?_
      · simp (disch := omega) only [getD_mid, Int.toNat_natCast, wrap64, e1]
      rw [letC_step (y := (y1, x.2))]
      rotate_left
      · simp (disch := omega) only [getD_mid, Int.toNat_natCast, wrap64]
      refine if_mid.trans ?_
      rw [letC_step (y := (y1, (n1, x.2.2)))]
      rotate_left
      · simp (disch := omega) only [getD_mid, Int.toNat_natCast, wrap64]
      refine if_mid.trans ?_
      rw [letC_step (y := (y1, (n1, (n1 + 1, x.2.2.2))))]
      rotate_left
      · simp (disch := omega) only [getD_mid, Int.toNat_natCast, wrap64]
      refine (bind_eq (r := (s4, ())) ?_ _).trans ?_
      · simp (disch := omega) only [getD_mid, Int.toNat_natCast, wrap64, e4]
      refine if_mid.trans ?_
      rw [letC_step (y := (y1, (n1, (n1 + 1, s4))))]
      rotate_left
      · simp (disch := omega) only [getD_mid, Int.toNat_natCast, wrap64]
      simp (disch := omega) only [wrap64, wrap_mid hd]
    · simp only [Int.toNat_natCast]
      refine if_lt_mid.trans ?_
      refine if_mid.trans ?_
      refine (bind_eq (r := (n1, ())) ?_ _).trans ?_
      · simp (disch := omega) only [getD_mid, Int.toNat_natCast, wrap64, q1]
      refine (if_no z1).trans ?_
      refine if_mid.trans ?_
      refine (if_no (bne_no ?_)).trans ?_
      · simp (disch := omega) only [getD_mid, Int.toNat_natCast, wrap64]
      refine if_mid.trans ?_
      refine (if_no (bne_no ?_)).trans ?_
      · simp (disch := omega) only [getD_mid, Int.toNat_natCast, wrap64]
      refine if_mid.trans ?_
      refine (bind_eq (r := (s4, ())) ?_ _).trans ?_
      · simp (disch := omega) only [getD_mid, Int.toNat_natCast, wrap64, e4]
      refine (if_no (txt_no ?_)).trans ?_
      · simp (disch := omega) only [getD_mid, Int.toNat_natCast, wrap64]
      simp (disch := omega) only [wrap64, wrap_mid hd]
theorem markGroup_ok : MkOk tGroup (F_laws_markGroup k) (F_laws_heldGroup k) := by
  intro x n h1 h2
  unfold markB at h2
  have t0 := tot_Group hk x
  obtain ⟨n1, y1, e1, a1, b1, q1⟩ := markLabelS_ok hk (x.2.1) (n) (by omega) (by unfold markB; omega)
  have z1 : decide (n1 < 0) = false := by simp; omega
  obtain ⟨n2, y2, e2, a2, b2, q2⟩ := markAlarmS_ok hk (x.2.2.2.2) (n1) (by omega) (by unfold markB; omega)
  have z2 : decide (n2 < 0) = false := by simp; omega
  refine ⟨n2, (x.1, (y1, (x.2.2.1, (x.2.2.2.1, y2)))), ?_, by omega, by omega, ?_⟩
  · simp only [F_laws_markGroup, e1, e2, Option.bind_some]
  · simp only [F_laws_heldGroup, q1, z1, q2, z2, Option.bind_some, Bool.false_eq_true, if_false]
theorem markGroup_at (x : DGroup) (n : Int) (h1 : 1 ≤ n) (h2 : n + 20 * (tot tGroup x : Int) ≤ markB) : ∃ (n9 : Int) (y1 : List DLabel) (y2 : List DAlarm), F_laws_markGroup k x n = some (n9, ((x.1, (y1, (x.2.2.1, (x.2.2.2.1, y2)))) : DGroup)) ∧ n ≤ n9 ∧ n9 ≤ n + 20 * (tot tGroup x : Int) ∧ F_laws_heldGroup k (((x.1, (y1, (x.2.2.1, (x.2.2.2.1, y2)))) : DGroup), n, ()) = some (n9, ()) := by
  unfold markB at h2
  have t0 := tot_Group hk x
  obtain ⟨n1, y1, e1, a1, b1, q1⟩ := markLabelS_ok hk (x.2.1) (n) (by omega) (by unfold markB; omega)
  have z1 : decide (n1 < 0) = false := by simp; omega
  obtain ⟨n2, y2, e2, a2, b2, q2⟩ := markAlarmS_ok hk (x.2.2.2.2) (n1) (by omega) (by unfold markB; omega)
  have z2 : decide (n2 < 0) = false := by simp; omega
  refine ⟨n2, y1, y2, ?_, by omega, by omega, ?_⟩
  · simp only [F_laws_markGroup, e1, e2, Option.bind_some]
  · simp only [F_laws_heldGroup, q1, z1, q2, z2, Option.bind_some, Bool.false_eq_true, if_false]
theorem markBatch_ok : MkOk tBatch (F_laws_markBatch k) (F_laws_heldBatch k) := by
  intro x n h1 h2
  unfold markB at h2
  have t0 := tot_Batch hk x
  obtain ⟨n1, y1, e1, a1, b1, q1⟩ := markLabelS_ok hk (x.2.1) (n) (by omega) (by unfold markB; omega)
  have z1 : decide (n1 < 0) = false := by simp; omega
  obtain ⟨n2, y2, e2, a2, b2, q2⟩ := markAlarmS_ok hk (x.2.2.2) (n1) (by omega) (by unfold markB; omega)
  have z2 : decide (n2 < 0) = false := by simp; omega
  refine ⟨n2, (x.1, (y1, (x.2.2.1, y2))), ?_, by omega, by omega, ?_⟩
  · simp only [F_laws_markBatch, e1, e2, Option.bind_some]
  · simp only [F_laws_heldBatch, q1, z1, q2, z2, Option.bind_some, Bool.false_eq_true, if_false]
theorem markBatch_at (x : DBatch) (n : Int) (h1 : 1 ≤ n) (h2 : n + 20 * (tot tBatch x : Int) ≤ markB) : ∃ (n9 : Int) (y1 : List DLabel) (y2 : List DAlarm), F_laws_markBatch k x n = some (n9, ((x.1, (y1, (x.2.2.1, y2))) : DBatch)) ∧ n ≤ n9 ∧ n9 ≤ n + 20 * (tot tBatch x : Int) ∧ F_laws_heldBatch k (((x.1, (y1, (x.2.2.1, y2))) : DBatch), n, ()) = some (n9, ()) := by
  unfold markB at h2
  have t0 := tot_Batch hk x
  obtain ⟨n1, y1, e1, a1, b1, q1⟩ := markLabelS_ok hk (x.2.1) (n) (by omega) (by unfold markB; omega)
  have z1 : decide (n1 < 0) = false := by simp; omega
  obtain ⟨n2, y2, e2, a2, b2, q2⟩ := markAlarmS_ok hk (x.2.2.2) (n1) (by omega) (by unfold markB; omega)
  have z2 : decide (n2 < 0) = false := by simp; omega
  refine ⟨n2, y1, y2, ?_, by omega, by omega, ?_⟩
  · simp only [F_laws_markBatch, e1, e2, Option.bind_some]
  · simp only [F_laws_heldBatch, q1, z1, q2, z2, Option.bind_some, Bool.false_eq_true, if_false]
theorem markGroupS_ok : MkOk (.sl tGroup) (F_laws_markGroupS k) (F_laws_heldGroupS k) := by
  refine markS_ok hk ?_ ?_ ?_
  · intro G l n i hi
    simp only [lt_nat]
    rw [if_neg (by simp; omega)]
  · intro G l n i hi
    simp only [lt_nat]
    rw [if_neg (by simp; omega)]
  · intro x n h1 h2
    unfold markB at h2
    have t0 := tot_Group hk x
    obtain ⟨n2, y2, e2, a2, b2, q2⟩ := markLabelS_ok hk (x.2.1) (n + 1) (by omega) (by unfold markB; omega)
    have z2 : decide (n2 < 0) = false := by simp; omega
    obtain ⟨n5, y5, e5, a5, b5, q5⟩ := markAlarmS_ok hk (x.2.2.2.2) (n2 + 1 + 1) (by omega) (by unfold markB; omega)
    have z5 : decide (n5 < 0) = false := by simp; omega
    refine ⟨n5, (n, (y2, (n2, (n2 + 1, y5)))), by omega, by omega, fun G d r hd => ?_, fun G d r hd => ?_⟩
    · simp only [Int.toNat_natCast]
      refine if_lt_mid.trans ?_
      refine if_mid.trans ?_
      rw [letC_step (y := (n, x.2))]
      rotate_left
      · simp (disch := omega) only [getD_mid, Int.toNat_natCast, wrap64]
      refine if_mid.trans ?_
      refine (bind_eq (r := (n2, y2)) ?_ _).trans ?_
      · simp (disch := omega) only [getD_mid, Int.toNat_natCast, wrap64, e2]
      rw [letC_step (y := (n, (y2, x.2.2)))]
      rotate_left
      · simp (disch := omega) only [getD_mid, Int.toNat_natCast, wrap64]
      refine if_mid.trans ?_
      rw [letC_step (y := (n, (y2, (n2, x.2.2.2))))]
      rotate_left
      · simp (disch := omega) only [getD_mid, Int.toNat_natCast, wrap64]
      refine if_mid.trans ?_
      rw [letC_step (y := (n, (y2, (n2, (n2 + 1, x.2.2.2.2)))))]
      rotate_left
      · simp (disch := omega) only [getD_mid, Int.toNat_natCast, wrap64]
      refine if_mid.trans ?_
      refine (bind_eq (r := (n5, y5)) ?_ _).trans ?_
      · simp (disch := omega) only [getD_mid, Int.toNat_natCast, wrap64, e5]
      rw [letC_step (y := (n, (y2, (n2, (n2 + 1, y5)))))]
      rotate_left
      · simp (disch := omega) only [getD_mid, Int.toNat_natCast, wrap64]
      simp (disch := omega) only [wrap64, wrap_mid hd]
    · simp only [Int.toNat_natCast]
      refine if_lt_mid.trans ?_
      refine if_mid.trans ?_
      refine (if_no (bne_no ?_)).trans ?_
      · simp (disch := omega) only [getD_mid, Int.toNat_natCast, wrap64]
      refine if_mid.trans ?_
      refine (bind_eq (r := (n2, ())) ?_ _).trans ?_
      · simp (disch := omega) only [getD_mid, Int.toNat_natCast, wrap64, q2]
      refine (if_no z2).trans ?_
      refine if_mid.trans ?_
      refine (if_no (bne_no ?_)).trans ?_
      · simp (disch := omega) only [getD_mid, Int.toNat_natCast, wrap64]
      refine if_mid.trans ?_
      refine (if_no (bne_no ?_)).trans ?_
      · simp (disch := omega) only [getD_mid, Int.toNat_natCast, wrap64]
      refine if_mid.trans ?_
      refine (bind_eq (r := (n5, ())) ?_ _).trans ?_
      · simp (disch := omega) only [getD_mid, Int.toNat_natCast, wrap64, q5]
      refine (if_no z5).trans ?_
      simp (disch := omega) only [wrap64, wrap_mid hd]
theorem markStringS_ok : MkOk (.sl .str) (F_laws_markStringS k) (F_laws_heldStringS k) := by
  refine markS_ok hk ?_ ?_ ?_
  · intro G l n i hi
    simp only [lt_nat]
    rw [if_neg (by simp; omega)]
  · intro G l n i hi
    simp only [lt_nat]
    rw [if_neg (by simp; omega)]
  · intro x n h1 h2
    unfold markB at h2
    obtain ⟨s1, e1⟩ := markText_ok hk (n := n) (by omega) (by unfold markB; omega)
    refine ⟨n + 1, s1, by omega, by omega, fun G d r hd => ?_, fun G d r hd => ?_⟩
    · simp only [Int.toNat_natCast]
      refine if_lt_mid.trans ?_
      refine (bind_eq (r := (s1, ())) ?_ _).trans ?_
      · simp (disch := omega) only [getD_mid, Int.toNat_natCast, wrap64, e1]
      refine if_mid.trans ?_
      rw [letC_step (y := s1)]
      rotate_left
      · simp (disch := omega) only [getD_mid, Int.toNat_natCast, wrap64]
      simp (disch := omega) only [wrap64, wrap_mid hd]
    · simp only [Int.toNat_natCast]
      refine if_lt_mid.trans ?_
      refine if_mid.trans ?_
      refine (bind_eq (r := (s1, ())) ?_ _).trans ?_
      · simp (disch := omega) only [getD_mid, Int.toNat_natCast, wrap64, e1]
      refine (if_no (txt_no ?_)).trans ?_
      · simp (disch := omega) only [getD_mid, Int.toNat_natCast, wrap64]
      simp (disch := omega) only [wrap64, wrap_mid hd]
theorem markConf_ok : MkOk tConf (F_laws_markConf k) (F_laws_heldConf k) := by
  intro x n h1 h2
  unfold markB at h2
  have t0 := tot_Conf hk x
  obtain ⟨n1, y1, e1, a1, b1, q1⟩ := markStringS_ok hk (x.2.2.2.2.2) (n) (by omega) (by unfold markB; omega)
  have z1 : decide (n1 < 0) = false := by simp; omega
  refine ⟨n1, (x.1, (x.2.1, (x.2.2.1, (x.2.2.2.1, (x.2.2.2.2.1, y1))))), ?_, by omega, by omega, ?_⟩
  · simp only [F_laws_markConf, e1, Option.bind_some]
  · simp only [F_laws_heldConf, q1, z1, Option.bind_some, Bool.false_eq_true, if_false]
theorem markConf_at (x : DConf) (n : Int) (h1 : 1 ≤ n) (h2 : n + 20 * (tot tConf x : Int) ≤ markB) : ∃ (n9 : Int) (y1 : List ByteArray), F_laws_markConf k x n = some (n9, ((x.1, (x.2.1, (x.2.2.1, (x.2.2.2.1, (x.2.2.2.2.1, y1))))) : DConf)) ∧ n ≤ n9 ∧ n9 ≤ n + 20 * (tot tConf x : Int) ∧ F_laws_heldConf k (((x.1, (x.2.1, (x.2.2.1, (x.2.2.2.1, (x.2.2.2.2.1, y1))))) : DConf), n, ()) = some (n9, ()) := by
  unfold markB at h2
  have t0 := tot_Conf hk x
  obtain ⟨n1, y1, e1, a1, b1, q1⟩ := markStringS_ok hk (x.2.2.2.2.2) (n) (by omega) (by unfold markB; omega)
  have z1 : decide (n1 < 0) = false := by simp; omega
  refine ⟨n1, y1, ?_, by omega, by omega, ?_⟩
  · simp only [F_laws_markConf, e1, Option.bind_some]
  · simp only [F_laws_heldConf, q1, z1, Option.bind_some, Bool.false_eq_true, if_false]
theorem markSubS_ok : MkOk (.sl tSub) (F_laws_markSubS k) (F_laws_heldSubS k) := by
  refine markS_ok hk ?_ ?_ ?_
  · intro G l n i hi
    simp only [lt_nat]
    rw [if_neg (by simp; omega)]
  · intro G l n i hi
    simp only [lt_nat]
    rw [if_neg (by simp; omega)]
  · intro x n h1 h2
    unfold markB at h2
    have t0 := tot_Sub hk x
    obtain ⟨n1, y1, e1, a1, b1, q1⟩ := markAlarmS_ok hk (x.1) (n) (by omega) (by unfold markB; omega)
    have z1 : decide (n1 < 0) = false := by simp; omega
    refine ⟨n1 + 1, (y1, ((Int.tmod (n1) 3 : Int) == 0)), by omega, by omega, fun G d r hd => ?_, fun G d r hd => ?_⟩
    · simp only [Int.toNat_natCast]
      refine if_lt_mid.trans ?_
      refine if_mid.trans ?_
      refine (bind_eq (r := (n1, y1)) ?_ _).trans ?_
      · simp (disch := omega) only [getD_mid, Int.toNat_natCast, wrap64, e1]
      rw [letC_step (y := (y1, x.2))]
      rotate_left
      · simp (disch := omega) only [getD_mid, Int.toNat_natCast, wrap64]
      refine (if_pos ne3).trans ?_
      refine if_mid.trans ?_
      rw [letC_step (y := (y1, ((Int.tmod (n1) 3 : Int) == 0)))]
      rotate_left
      · simp (disch := omega) only [getD_mid, Int.toNat_natCast, wrap64]
      simp (disch := omega) only [wrap64, wrap_mid hd]
    · simp only [Int.toNat_natCast]
      refine if_lt_mid.trans ?_
      refine if_mid.trans ?_
      refine (bind_eq (r := (n1, ())) ?_ _).trans ?_
      · simp (disch := omega) only [getD_mid, Int.toNat_natCast, wrap64, q1]
      refine (if_no z1).trans ?_
      refine if_mid.trans ?_
      refine (if_pos ne3).trans ?_
      refine (if_no (bool_no ?_)).trans ?_
      · simp (disch := omega) only [getD_mid, Int.toNat_natCast, wrap64]
      simp (disch := omega) only [wrap64, wrap_mid hd]
theorem markModel_ok : MkOk tModel (F_laws_markModel k) (F_laws_heldModel k) := by
  intro x n h1 h2
  unfold markB at h2
  have t0 := tot_Model hk x
  have t1 := tot_Conf hk x.1
  obtain ⟨n1, y1, e1, a1, b1, q1⟩ := markStringS_ok hk (x.1.2.2.2.2.2) (n) (by omega) (by unfold markB; omega)
  have z1 : decide (n1 < 0) = false := by simp; omega
  obtain ⟨n2, y2, e2, a2, b2, q2⟩ := markAlarmS_ok hk (x.2.1) (n1) (by omega) (by unfold markB; omega)
  have z2 : decide (n2 < 0) = false := by simp; omega
  obtain ⟨n3, y3, e3, a3, b3, q3⟩ := markSubS_ok hk (x.2.2.1) (n2) (by omega) (by unfold markB; omega)
  have z3 : decide (n3 < 0) = false := by simp; omega
  obtain ⟨n4, y4, e4, a4, b4, q4⟩ := markAlarmS_ok hk (x.2.2.2.1) (n3) (by omega) (by unfold markB; omega)
  have z4 : decide (n4 < 0) = false := by simp; omega
  obtain ⟨n5, y5, e5, a5, b5, q5⟩ := markGroupS_ok hk (x.2.2.2.2.1) (n4) (by omega) (by unfold markB; omega)
  have z5 : decide (n5 < 0) = false := by simp; omega
  refine ⟨n5, ((x.1.1, (x.1.2.1, (x.1.2.2.1, (x.1.2.2.2.1, (x.1.2.2.2.2.1, y1))))), (y2, (y3, (y4, (y5, x.2.2.2.2.2))))), ?_, by omega, by omega, ?_⟩
  · simp only [F_laws_markModel, F_laws_markConf, e1, e2, e3, e4, e5, Option.bind_some]
  · simp only [F_laws_heldModel, F_laws_heldConf, q1, z1, q2, z2, q3, z3, q4, z4, q5, z5, Option.bind_some, Bool.false_eq_true, if_false]
theorem markModel_at (x : DModel) (n : Int) (h1 : 1 ≤ n) (h2 : n + 20 * (tot tModel x : Int) ≤ markB) : ∃ (n9 : Int) (y1 : List ByteArray) (y2 : List DAlarm) (y3 : List DSub) (y4 : List DAlarm) (y5 : List DGroup), F_laws_markModel k x n = some (n9, (((x.1.1, (x.1.2.1, (x.1.2.2.1, (x.1.2.2.2.1, (x.1.2.2.2.2.1, y1))))), (y2, (y3, (y4, (y5, x.2.2.2.2.2))))) : DModel)) ∧ n ≤ n9 ∧ n9 ≤ n + 20 * (tot tModel x : Int) ∧ F_laws_heldModel k ((((x.1.1, (x.1.2.1, (x.1.2.2.1, (x.1.2.2.2.1, (x.1.2.2.2.2.1, y1))))), (y2, (y3, (y4, (y5, x.2.2.2.2.2))))) : DModel), n, ()) = some (n9, ()) := by
  unfold markB at h2
  have t0 := tot_Model hk x
  have t1 := tot_Conf hk x.1
  obtain ⟨n1, y1, e1, a1, b1, q1⟩ := markStringS_ok hk (x.1.2.2.2.2.2) (n) (by omega) (by unfold markB; omega)
  have z1 : decide (n1 < 0) = false := by simp; omega
  obtain ⟨n2, y2, e2, a2, b2, q2⟩ := markAlarmS_ok hk (x.2.1) (n1) (by omega) (by unfold markB; omega)
  have z2 : decide (n2 < 0) = false := by simp; omega
  obtain ⟨n3, y3, e3, a3, b3, q3⟩ := markSubS_ok hk (x.2.2.1) (n2) (by omega) (by unfold markB; omega)
  have z3 : decide (n3 < 0) = false := by simp; omega
  obtain ⟨n4, y4, e4, a4, b4, q4⟩ := markAlarmS_ok hk (x.2.2.2.1) (n3) (by omega) (by unfold markB; omega)
  have z4 : decide (n4 < 0) = false := by simp; omega
  obtain ⟨n5, y5, e5, a5, b5, q5⟩ := markGroupS_ok hk (x.2.2.2.2.1) (n4) (by omega) (by unfold markB; omega)
  have z5 : decide (n5 < 0) = false := by simp; omega
  refine ⟨n5, y1, y2, y3, y4, y5, ?_, by omega, by omega, ?_⟩
  · simp only [F_laws_markModel, F_laws_markConf, e1, e2, e3, e4, e5, Option.bind_some]
  · simp only [F_laws_heldModel, F_laws_heldConf, q1, z1, q2, z2, q3, z3, q4, z4, q5, z5, Option.bind_some, Bool.false_eq_true, if_false]
theorem markChainS_ok : MkOk (.sl tChain) (F_laws_markChainS k) (F_laws_heldChainS k) := by
  refine markS_ok hk ?_ ?_ ?_
  · intro G l n i hi
    simp only [lt_nat]
    rw [if_neg (by simp; omega)]
  · intro G l n i hi
    simp only [lt_nat]
    rw [if_neg (by simp; omega)]
  · intro x n h1 h2
    unfold markB at h2
    have t0 := tot_Chain hk x
    obtain ⟨n2, y2, e2, a2, b2, q2⟩ := markAlarmS_ok hk (x.2) (n + 1) (by omega) (by unfold markB; omega)
    have z2 : decide (n2 < 0) = false := by simp; omega
    refine ⟨n2, (n, y2), by omega, by omega, fun G d r hd => ?_, fun G d r hd => ?_⟩
    · simp only [Int.toNat_natCast]
      refine if_lt_mid.trans ?_
      refine if_mid.trans ?_
      rw [letC_step (y := (n, x.2))]
      rotate_left
      · simp (disch := omega) only [getD_mid, Int.toNat_natCast, wrap64]
      refine if_mid.trans ?_
      refine (bind_eq (r := (n2, y2)) ?_ _).trans ?_
      · simp (disch := omega) only [getD_mid, Int.toNat_natCast, wrap64, e2]
      rw [letC_step (y := (n, y2))]
      rotate_left
      · simp (disch := omega) only [getD_mid, Int.toNat_natCast, wrap64]
      simp (disch := omega) only [wrap64, wrap_mid hd]
    · simp only [Int.toNat_natCast]
      refine if_lt_mid.trans ?_
      refine if_mid.trans ?_
      refine (if_no (bne_no ?_)).trans ?_
      · simp (disch := omega) only [getD_mid, Int.toNat_natCast, wrap64]
      refine if_mid.trans ?_
      refine (bind_eq (r := (n2, ())) ?_ _).trans ?_
      · simp (disch := omega) only [getD_mid, Int.toNat_natCast, wrap64, q2]
      refine (if_no z2).trans ?_
      simp (disch := omega) only [wrap64, wrap_mid hd]
theorem markPartS_ok : MkOk (.sl tPart) (F_laws_markPartS k) (F_laws_heldPartS k) := by
  refine markS_ok hk ?_ ?_ ?_
  · intro G l n i hi
    simp only [lt_nat]
    rw [if_neg (by simp; omega)]
  · intro G l n i hi
    simp only [lt_nat]
    rw [if_neg (by simp; omega)]
  · intro x n h1 h2
    unfold markB at h2
    have t0 := tot_Part hk x
    obtain ⟨n3, y3, e3, a3, b3, q3⟩ := markChainS_ok hk (x.2.2) (n + 1 + 1) (by omega) (by unfold markB; omega)
    have z3 : decide (n3 < 0) = false := by simp; omega
    refine ⟨n3, (n, (n + 1, y3)), by omega, by omega, fun G d r hd => ?_, fun G d r hd => ?_⟩
    · simp only [Int.toNat_natCast]
      refine if_lt_mid.trans ?_
      refine if_mid.trans ?_
      rw [letC_step (y := (n, x.2))]
      rotate_left
      · simp (disch := omega) only [getD_mid, Int.toNat_natCast, wrap64]
      refine if_mid.trans ?_
      rw [letC_step (y := (n, (n + 1, x.2.2)))]
      rotate_left
      · simp (disch := omega) only [getD_mid, Int.toNat_natCast, wrap64]
      refine if_mid.trans ?_
      refine (bind_eq (r := (n3, y3)) ?_ _).trans ?_
      · simp (disch := omega) only [getD_mid, Int.toNat_natCast, wrap64, e3]
      rw [letC_step (y := (n, (n + 1, y3)))]
      rotate_left
      · simp (disch := omega) only [getD_mid, Int.toNat_natCast, wrap64]
      simp (disch := omega) only [wrap64, wrap_mid hd]
    · simp only [Int.toNat_natCast]
      refine if_lt_mid.trans ?_
      refine if_mid.trans ?_
      refine (if_no (bne_no ?_)).trans ?_
      · simp (disch := omega) only [getD_mid, Int.toNat_natCast, wrap64]
      refine if_mid.trans ?_
      refine (if_no (bne_no ?_)).trans ?_
      · simp (disch := omega) only [getD_mid, Int.toNat_natCast, wrap64]
      refine if_mid.trans ?_
      refine (bind_eq (r := (n3, ())) ?_ _).trans ?_
      · simp (disch := omega) only [getD_mid, Int.toNat_natCast, wrap64, q3]
      refine (if_no z3).trans ?_
      simp (disch := omega) only [wrap64, wrap_mid hd]
theorem markTimerS_ok : MkOk (.sl tTimer) (F_laws_markTimerS k) (F_laws_heldTimerS k) := by
  refine markS_ok hk ?_ ?_ ?_
  · intro G l n i hi
    simp only [lt_nat]
    rw [if_neg (by simp; omega)]
  · intro G l n i hi
    simp only [lt_nat]
    rw [if_neg (by simp; omega)]
  · intro x n h1 h2
    unfold markB at h2
    have t0 := tot_Timer hk x
    refine ⟨n + 1 + 1, (n, n + 1), by omega, by omega, fun G d r hd => ?_, fun G d r hd => ?_⟩
    · simp only [Int.toNat_natCast]
      refine if_lt_mid.trans ?_
      refine if_mid.trans ?_
      rw [letC_step (y := (n, x.2))]
      rotate_left
      · simp (disch := omega) only [getD_mid, Int.toNat_natCast, wrap64]
      refine if_mid.trans ?_
      rw [letC_step (y := (n, n + 1))]
      rotate_left
      · simp (disch := omega) only [getD_mid, Int.toNat_natCast, wrap64]
      simp (disch := omega) only [wrap64, wrap_mid hd]
    · simp only [Int.toNat_natCast]
      refine if_lt_mid.trans ?_
      refine if_mid.trans ?_
      refine (if_no (bne_no ?_)).trans ?_
      · simp (disch := omega) only [getD_mid, Int.toNat_natCast, wrap64]
      refine if_mid.trans ?_
      refine (if_no (bne_no ?_)).trans ?_
      · simp (disch := omega) only [getD_mid, Int.toNat_natCast, wrap64]
      simp (disch := omega) only [wrap64, wrap_mid hd]
theorem markBatchS_ok : MkOk (.sl tBatch) (F_laws_markBatchS k) (F_laws_heldBatchS k) := by
  refine markS_ok hk ?_ ?_ ?_
  · intro G l n i hi
    simp only [lt_nat]
    rw [if_neg (by simp; omega)]
  · intro G l n i hi
    simp only [lt_nat]
    rw [if_neg (by simp; omega)]
  · intro x n h1 h2
    unfold markB at h2
    have t0 := tot_Batch hk x
    obtain ⟨n2, y2, e2, a2, b2, q2⟩ := markLabelS_ok hk (x.2.1) (n + 1) (by omega) (by unfold markB; omega)
    have z2 : decide (n2 < 0) = false := by simp; omega
    obtain ⟨n4, y4, e4, a4, b4, q4⟩ := markAlarmS_ok hk (x.2.2.2) (n2 + 1) (by omega) (by unfold markB; omega)
    have z4 : decide (n4 < 0) = false := by simp; omega
    refine ⟨n4, (n, (y2, (n2, y4))), by omega, by omega, fun G d r hd => ?_, fun G d r hd => ?_⟩
    · simp only [Int.toNat_natCast]
      refine if_lt_mid.trans ?_
      refine if_mid.trans ?_
      rw [letC_step (y := (n, x.2))]
      rotate_left
      · simp (disch := omega) only [getD_mid, Int.toNat_natCast, wrap64]
      refine if_mid.trans ?_
      refine (bind_eq (r := (n2, y2)) ?_ _).trans ?_
      · simp (disch := omega) only [getD_mid, Int.toNat_natCast, wrap64, e2]
      rw [letC_step (y := (n, (y2, x.2.2)))]
      rotate_left
      · simp (disch := omega) only [getD_mid, Int.toNat_natCast, wrap64]
      refine if_mid.trans ?_
      rw [letC_step (y := (n, (y2, (n2, x.2.2.2))))]
      rotate_left
      · simp (disch := omega) only [getD_mid, Int.toNat_natCast, wrap64]
      refine if_mid.trans ?_
      refine (bind_eq (r := (n4, y4)) ?_ _).trans ?_
      · simp (disch := omega) only [getD_mid, Int.toNat_natCast, wrap64, e4]
      rw [letC_step (y := (n, (y2, (n2, y4))))]
      rotate_left
      · simp (disch := omega) only [getD_mid, Int.toNat_natCast, wrap64]
      simp (disch := omega) only [wrap64, wrap_mid hd]
    · simp only [Int.toNat_natCast]
      refine if_lt_mid.trans ?_
      refine if_mid.trans ?_
      refine (if_no (bne_no ?_)).trans ?_
      · simp (disch := omega) only [getD_mid, Int.toNat_natCast, wrap64]
      refine if_mid.trans ?_
      refine (bind_eq (r := (n2, ())) ?_ _).trans ?_
      · simp (disch := omega) only [getD_mid, Int.toNat_natCast, wrap64, q2]
      refine (if_no z2).trans ?_
      refine if_mid.trans ?_
      refine (if_no (bne_no ?_)).trans ?_
      · simp (disch := omega) only [getD_mid, Int.toNat_natCast, wrap64]
      refine if_mid.trans ?_
      refine (bind_eq (r := (n4, ())) ?_ _).trans ?_
      · simp (disch := omega) only [getD_mid, Int.toNat_natCast, wrap64, q4]
      refine (if_no z4).trans ?_
      simp (disch := omega) only [wrap64, wrap_mid hd]
theorem markIntS_ok : MkOk (.sl (.int .i64)) (F_laws_markIntS k) (F_laws_heldIntS k) := by
  refine markS_ok hk ?_ ?_ ?_
  · intro G l n i hi
    simp only [lt_nat]
    rw [if_neg (by simp; omega)]
  · intro G l n i hi
    simp only [lt_nat]
    rw [if_neg (by simp; omega)]
  · intro x n h1 h2
    unfold markB at h2
    refine ⟨n + 1, n, by omega, by omega, fun G d r hd => ?_, fun G d r hd => ?_⟩
    · simp only [Int.toNat_natCast]
      refine if_lt_mid.trans ?_
      refine if_mid.trans ?_
      rw [letC_step (y := n)]
      rotate_left
      · simp (disch := omega) only [getD_mid, Int.toNat_natCast, wrap64]
      simp (disch := omega) only [wrap64, wrap_mid hd]
    · simp only [Int.toNat_natCast]
      refine if_lt_mid.trans ?_
      refine if_mid.trans ?_
      refine (if_no (bne_no ?_)).trans ?_
      · simp (disch := omega) only [getD_mid, Int.toNat_natCast, wrap64]
      simp (disch := omega) only [wrap64, wrap_mid hd]
set_option maxHeartbeats 4000000 in
theorem markTaskS_ok : MkOk (.sl tTask) (F_laws_markTaskS k) (F_laws_heldTaskS k) := by
  refine markS_ok hk ?_ ?_ ?_
  · intro G l n i hi
    simp only [lt_nat]
    rw [if_neg (by simp; omega)]
  · intro G l n i hi
    simp only [lt_nat]
    rw [if_neg (by simp; omega)]
  · intro x n h1 h2
    unfold markB at h2
    have t0 := tot_Task hk x
    have t1 := tot_Alarm hk x.2.2.1
    obtain ⟨n3, y3, e3, a3, b3, q3⟩ := markLabelS_ok hk (x.2.2.1.1) (n + 1 + 1) (by omega) (by unfold markB; omega)
    have z3 : decide (n3 < 0) = false := by simp; omega
    obtain ⟨s6, e6⟩ := markText_ok hk (n := n3 + 1 + 1) (by omega) (by unfold markB; omega)
    obtain ⟨n7, y7, e7, a7, b7, q7⟩ := markLabelS_ok hk (x.2.2.2.1) (n3 + 1 + 1 + 1) (by omega) (by unfold markB; omega)
    have z7 : decide (n7 < 0) = false := by simp; omega
    obtain ⟨n9, y9, e9, a9, b9, q9⟩ := markIntS_ok hk (x.2.2.2.2.2.1) (n7 + 1) (by omega) (by unfold markB; omega)
    have z9 : decide (n9 < 0) = false := by simp; omega
    obtain ⟨n10, y10, e10, a10, b10, q10⟩ := markAlarmS_ok hk (x.2.2.2.2.2.2.1) (n9) (by omega) (by unfold markB; omega)
    have z10 : decide (n10 < 0) = false := by simp; omega
    refine ⟨n10 + 1 + 1, (n, (n + 1, ((y3, (n3, (n3 + 1, s6))), (y7, (n7, (y9, (y10, (n10, n10 + 1)))))))), by omega, by omega, fun G d r hd => ?_, fun G d r hd => ?_⟩
    · simp only [Int.toNat_natCast]
      refine if_lt_mid.trans ?_
      refine if_mid.trans ?_
      rw [letC_step (y := (n, x.2))]
      rotate_left
      · simp (disch := omega) only [getD_mid, Int.toNat_natCast, wrap64]
      refine if_mid.trans ?_
      rw [letC_step (y := (n, (n + 1, x.2.2)))]
      rotate_left
      · simp (disch := omega) only [getD_mid, Int.toNat_natCast, wrap64]
      refine if_mid.trans ?_
      refine (bind_eq (r := (n3, y3)) ?_ _).trans ?_
      · simp (disch := omega) only [getD_mid, Int.toNat_natCast, wrap64, e3]
      rw [letC_step (y := (n, (n + 1, ((y3, x.2.2.1.2), x.2.2.2))))]
      rotate_left
      · simp (disch := omega) only [getD_mid, Int.toNat_natCast, wrap64]
      refine if_mid.trans ?_
      rw [letC_step (y := (n, (n + 1, ((y3, (n3, x.2.2.1.2.2)), x.2.2.2))))]
      rotate_left
      · simp (disch := omega) only [getD_mid, Int.toNat_natCast, wrap64]
      refine if_mid.trans ?_
      rw [letC_step (y := (n, (n + 1, ((y3, (n3, (n3 + 1, x.2.2.1.2.2.2))), x.2.2.2))))]
      rotate_left
      · simp (disch := omega) only [getD_mid, Int.toNat_natCast, wrap64]
      refine (bind_eq (r := (s6, ())) ?_ _).trans ?_
      · simp (disch := omega) only [getD_mid, Int.toNat_natCast, wrap64, e6]
      refine if_mid.trans ?_
      rw [letC_step (y := (n, (n + 1, ((y3, (n3, (n3 + 1, s6))), x.2.2.2))))]
      rotate_left
      · simp (disch := omega) only [getD_mid, Int.toNat_natCast, wrap64]
      refine if_mid.trans ?_
      refine (bind_eq (r := (n7, y7)) ?_ _).trans ?_
      · simp (disch := omega) only [getD_mid, Int.toNat_natCast, wrap64, e7]
      rw [letC_step (y := (n, (n + 1, ((y3, (n3, (n3 + 1, s6))), (y7, x.2.2.2.2)))))]
      rotate_left
      · simp (disch := omega) only [getD_mid, Int.toNat_natCast, wrap64]
      refine if_mid.trans ?_
      rw [letC_step (y := (n, (n + 1, ((y3, (n3, (n3 + 1, s6))), (y7, (n7, x.2.2.2.2.2))))))]
      rotate_left
      · simp (disch := omega) only [getD_mid, Int.toNat_natCast, wrap64]
      refine if_mid.trans ?_
      refine (bind_eq (r := (n9, y9)) ?_ _).trans ?_
      · simp (disch := omega) only [getD_mid, Int.toNat_natCast, wrap64, e9]
      rw [letC_step (y := (n, (n + 1, ((y3, (n3, (n3 + 1, s6))), (y7, (n7, (y9, x.2.2.2.2.2.2)))))))]
      rotate_left
      · simp (disch := omega) only [getD_mid, Int.toNat_natCast, wrap64]
      refine if_mid.trans ?_
      refine (bind_eq (r := (n10, y10)) ?_ _).trans ?_
      · simp (disch := omega) only [getD_mid, Int.toNat_natCast, wrap64, e10]
      rw [letC_step (y := (n, (n + 1, ((y3, (n3, (n3 + 1, s6))), (y7, (n7, (y9, (y10, x.2.2.2.2.2.2.2))))))))]
      rotate_left
      · simp (disch := omega) only [getD_mid, Int.toNat_natCast, wrap64]
      refine if_mid.trans ?_
      rw [letC_step (y := (n, (n + 1, ((y3, (n3, (n3 + 1, s6))), (y7, (n7, (y9, (y10, (n10, x.2.2.2.2.2.2.2.2)))))))))]
      rotate_left
      · simp (disch := omega) only [getD_mid, Int.toNat_natCast, wrap64]
      refine if_mid.trans ?_
      rw [letC_step (y := (n, (n + 1, ((y3, (n3, (n3 + 1, s6))), (y7, (n7, (y9, (y10, (n10, n10 + 1)))))))))]
      rotate_left
      · simp (disch := omega) only [getD_mid, Int.toNat_natCast, wrap64]
      simp (disch := omega) only [wrap64, wrap_mid hd]
    · simp only [Int.toNat_natCast]
      refine if_lt_mid.trans ?_
      refine if_mid.trans ?_
      refine (if_no (bne_no ?_)).trans ?_
      · simp (disch := omega) only [getD_mid, Int.toNat_natCast, wrap64]
      refine if_mid.trans ?_
      refine (if_no (bne_no ?_)).trans ?_
      · simp (disch := omega) only [getD_mid, Int.toNat_natCast, wrap64]
      refine if_mid.trans ?_
      refine (bind_eq (r := (n3, ())) ?_ _).trans ?_
      · simp (disch := omega) only [getD_mid, Int.toNat_natCast, wrap64, q3]
      refine (if_no z3).trans ?_
      refine if_mid.trans ?_
      refine (if_no (bne_no ?_)).trans ?_
      · simp (disch := omega) only [getD_mid, Int.toNat_natCast, wrap64]
      refine if_mid.trans ?_
      refine (if_no (bne_no ?_)).trans ?_
      · simp (disch := omega) only [getD_mid, Int.toNat_natCast, wrap64]
      refine if_mid.trans ?_
      refine (bind_eq (r := (s6, ())) ?_ _).trans ?_
      · simp (disch := omega) only [getD_mid, Int.toNat_natCast, wrap64, e6]
      refine (if_no (txt_no ?_)).trans ?_
      · simp (disch := omega) only [getD_mid, Int.toNat_natCast, wrap64]
      refine if_mid.trans ?_
      refine (bind_eq (r := (n7, ())) ?_ _).trans ?_
      · simp (disch := omega) only [getD_mid, Int.toNat_natCast, wrap64, q7]
      refine (if_no z7).trans ?_
      refine if_mid.trans ?_
      refine (if_no (bne_no ?_)).trans ?_
      · simp (disch := omega) only [getD_mid, Int.toNat_natCast, wrap64]
      refine if_mid.trans ?_
      refine (bind_eq (r := (n9, ())) ?_ _).trans ?_
      · simp (disch := omega) only [getD_mid, Int.toNat_natCast, wrap64, q9]
      refine (if_no z9).trans ?_
      refine if_mid.trans ?_
      refine (bind_eq (r := (n10, ())) ?_ _).trans ?_
      · simp (disch := omega) only [getD_mid, Int.toNat_natCast, wrap64, q10]
      refine (if_no z10).trans ?_
      refine if_mid.trans ?_
      refine (if_no (bne_no ?_)).trans ?_
      · simp (disch := omega) only [getD_mid, Int.toNat_natCast, wrap64]
      refine if_mid.trans ?_
      refine (if_no (bne_no ?_)).trans ?_
      · simp (disch := omega) only [getD_mid, Int.toNat_natCast, wrap64]
      simp (disch := omega) only [wrap64, wrap_mid hd]
set_option maxHeartbeats 4000000 in
theorem markDeedS_ok : MkOk (.sl tDeed) (F_laws_markDeedS k) (F_laws_heldDeedS k) := by
  refine markS_ok hk ?_ ?_ ?_
  · intro G l n i hi
    simp only [lt_nat]
    rw [if_neg (by simp; omega)]
  · intro G l n i hi
    simp only [lt_nat]
    rw [if_neg (by simp; omega)]
  · intro x n h1 h2
    unfold markB at h2
    have t0 := tot_Deed hk x
    have t1 := tot_Alarm hk x.2.2.1
    obtain ⟨n3, y3, e3, a3, b3, q3⟩ := markLabelS_ok hk (x.2.2.1.1) (n + 1 + 1) (by omega) (by unfold markB; omega)
    have z3 : decide (n3 < 0) = false := by simp; omega
    obtain ⟨s6, e6⟩ := markText_ok hk (n := n3 + 1 + 1) (by omega) (by unfold markB; omega)
    obtain ⟨n7, y7, e7, a7, b7, q7⟩ := markLabelS_ok hk (x.2.2.2.1) (n3 + 1 + 1 + 1) (by omega) (by unfold markB; omega)
    have z7 : decide (n7 < 0) = false := by simp; omega
    obtain ⟨n11, y11, e11, a11, b11, q11⟩ := markAlarmS_ok hk (x.2.2.2.2.2.2.2.1) (n7 + 1 + 1 + 1) (by omega) (by unfold markB; omega)
    have z11 : decide (n11 < 0) = false := by simp; omega
    refine ⟨n11 + 1 + 1 + 1 + 1, (n, (n + 1, ((y3, (n3, (n3 + 1, s6))), (y7, (n7, (n7 + 1, (n7 + 1 + 1, (y11, (n11, (n11 + 1, (n11 + 1 + 1, n11 + 1 + 1 + 1))))))))))), by omega, by omega, fun G d r hd => ?_, fun G d r hd => ?_⟩
    · simp only [Int.toNat_natCast]
      refine if_lt_mid.trans ?_
      refine if_mid.trans ?_
      rw [letC_step (y := (n, x.2))]
      rotate_left
      · simp (disch := omega) only [getD_mid, Int.toNat_natCast, wrap64]
      refine if_mid.trans ?_
      rw [letC_step (y := (n, (n + 1, x.2.2)))]
      rotate_left
      · simp (disch := omega) only [getD_mid, Int.toNat_natCast, wrap64]
      refine if_mid.trans ?_
      refine (bind_eq (r := (n3, y3)) ?_ _).trans ?_
      · simp (disch := omega) only [getD_mid, Int.toNat_natCast, wrap64, e3]
      rw [letC_step (y := (n, (n + 1, ((y3, x.2.2.1.2), x.2.2.2))))]
      rotate_left
      · simp (disch := omega) only [getD_mid, Int.toNat_natCast, wrap64]
      refine if_mid.trans ?_
      rw [letC_step (y := (n, (n + 1, ((y3, (n3, x.2.2.1.2.2)), x.2.2.2))))]
      rotate_left
      · simp (disch := omega) only [getD_mid, Int.toNat_natCast, wrap64]
      refine if_mid.trans ?_
      rw [letC_step (y := (n, (n + 1, ((y3, (n3, (n3 + 1, x.2.2.1.2.2.2))), x.2.2.2))))]
      rotate_left
      · simp (disch := omega) only [getD_mid, Int.toNat_natCast, wrap64]
      refine (bind_eq (r := (s6, ())) ?_ _).trans ?_
      · simp (disch := omega) only [getD_mid, Int.toNat_natCast, wrap64, e6]
      refine if_mid.trans ?_
      rw [letC_step (y := (n, (n + 1, ((y3, (n3, (n3 + 1, s6))), x.2.2.2))))]
      rotate_left
      · simp (disch := omega) only [getD_mid, Int.toNat_natCast, wrap64]
      refine if_mid.trans ?_
      refine (bind_eq (r := (n7, y7)) ?_ _).trans ?_
      · simp (disch := omega) only [getD_mid, Int.toNat_natCast, wrap64, e7]
      rw [letC_step (y := (n, (n + 1, ((y3, (n3, (n3 + 1, s6))), (y7, x.2.2.2.2)))))]
      rotate_left
      · simp (disch := omega) only [getD_mid, Int.toNat_natCast, wrap64]
      refine if_mid.trans ?_
      rw [letC_step (y := (n, (n + 1, ((y3, (n3, (n3 + 1, s6))), (y7, (n7, x.2.2.2.2.2))))))]
      rotate_left
      · simp (disch := omega) only [getD_mid, Int.toNat_natCast, wrap64]
      refine if_mid.trans ?_
      rw [letC_step (y := (n, (n + 1, ((y3, (n3, (n3 + 1, s6))), (y7, (n7, (n7 + 1, x.2.2.2.2.2.2)))))))]
      rotate_left
      · simp (disch := omega) only [getD_mid, Int.toNat_natCast, wrap64]
      refine if_mid.trans ?_
      rw [letC_step (y := (n, (n + 1, ((y3, (n3, (n3 + 1, s6))), (y7, (n7, (n7 + 1, (n7 + 1 + 1, x.2.2.2.2.2.2.2))))))))]
      rotate_left
      · simp (disch := omega) only [getD_mid, Int.toNat_natCast, wrap64]
      refine if_mid.trans ?_
      refine (bind_eq (r := (n11, y11)) ?_ _).trans ?_
      · simp (disch := omega) only [getD_mid, Int.toNat_natCast, wrap64, e11]
      rw [letC_step (y := (n, (n + 1, ((y3, (n3, (n3 + 1, s6))), (y7, (n7, (n7 + 1, (n7 + 1 + 1, (y11, x.2.2.2.2.2.2.2.2)))))))))]
      rotate_left
      · simp (disch := omega) only [getD_mid, Int.toNat_natCast, wrap64]
      refine if_mid.trans ?_
      rw [letC_step (y := (n, (n + 1, ((y3, (n3, (n3 + 1, s6))), (y7, (n7, (n7 + 1, (n7 + 1 + 1, (y11, (n11, x.2.2.2.2.2.2.2.2.2))))))))))]
      rotate_left
      · simp (disch := omega) only [getD_mid, Int.toNat_natCast, wrap64]
      refine if_mid.trans ?_
      rw [letC_step (y := (n, (n + 1, ((y3, (n3, (n3 + 1, s6))), (y7, (n7, (n7 + 1, (n7 + 1 + 1, (y11, (n11, (n11 + 1, x.2.2.2.2.2.2.2.2.2.2)))))))))))]
      rotate_left
      · simp (disch := omega) only [getD_mid, Int.toNat_natCast, wrap64]
      refine if_mid.trans ?_
      rw [letC_step (y := (n, (n + 1, ((y3, (n3, (n3 + 1, s6))), (y7, (n7, (n7 + 1, (n7 + 1 + 1, (y11, (n11, (n11 + 1, (n11 + 1 + 1, x.2.2.2.2.2.2.2.2.2.2.2))))))))))))]
      rotate_left
      · simp (disch := omega) only [getD_mid, Int.toNat_natCast, wrap64]
      refine if_mid.trans ?_
      rw [letC_step (y := (n, (n + 1, ((y3, (n3, (n3 + 1, s6))), (y7, (n7, (n7 + 1, (n7 + 1 + 1, (y11, (n11, (n11 + 1, (n11 + 1 + 1, n11 + 1 + 1 + 1))))))))))))]
      rotate_left
      · simp (disch := omega) only [getD_mid, Int.toNat_natCast, wrap64]
      simp (disch := omega) only [wrap64, wrap_mid hd]
    · simp only [Int.toNat_natCast]
      refine if_lt_mid.trans ?_
      refine if_mid.trans ?_
      refine (if_no (bne_no ?_)).trans ?_
      · simp (disch := omega) only [getD_mid, Int.toNat_natCast, wrap64]
      refine if_mid.trans ?_
      refine (if_no (bne_no ?_)).trans ?_
      · simp (disch := omega) only [getD_mid, Int.toNat_natCast, wrap64]
      refine if_mid.trans ?_
      refine (bind_eq (r := (n3, ())) ?_ _).trans ?_
      · simp (disch := omega) only [getD_mid, Int.toNat_natCast, wrap64, q3]
      refine (if_no z3).trans ?_
      refine if_mid.trans ?_
      refine (if_no (bne_no ?_)).trans ?_
      · simp (disch := omega) only [getD_mid, Int.toNat_natCast, wrap64]
      refine if_mid.trans ?_
      refine (if_no (bne_no ?_)).trans ?_
      · simp (disch := omega) only [getD_mid, Int.toNat_natCast, wrap64]
      refine if_mid.trans ?_
      refine (bind_eq (r := (s6, ())) ?_ _).trans ?_
      · simp (disch := omega) only [getD_mid, Int.toNat_natCast, wrap64, e6]
      refine (if_no (txt_no ?_)).trans ?_
      · simp (disch := omega) only [getD_mid, Int.toNat_natCast, wrap64]
      refine if_mid.trans ?_
      refine (bind_eq (r := (n7, ())) ?_ _).trans ?_
      · simp (disch := omega) only [getD_mid, Int.toNat_natCast, wrap64, q7]
      refine (if_no z7).trans ?_
      refine if_mid.trans ?_
      refine (if_no (bne_no ?_)).trans ?_
      · simp (disch := omega) only [getD_mid, Int.toNat_natCast, wrap64]
      refine if_mid.trans ?_
      refine (if_no (bne_no ?_)).trans ?_
      · simp (disch := omega) only [getD_mid, Int.toNat_natCast, wrap64]
      refine if_mid.trans ?_
      refine (if_no (bne_no ?_)).trans ?_
      · simp (disch := omega) only [getD_mid, Int.toNat_natCast, wrap64]
      refine if_mid.trans ?_
      refine (bind_eq (r := (n11, ())) ?_ _).trans ?_
      · simp (disch := omega) only [getD_mid, Int.toNat_natCast, wrap64, q11]
      refine (if_no z11).trans ?_
      refine if_mid.trans ?_
      refine (if_no (bne_no ?_)).trans ?_
      · simp (disch := omega) only [getD_mid, Int.toNat_natCast, wrap64]
      refine if_mid.trans ?_
      refine (if_no (bne_no ?_)).trans ?_
      · simp (disch := omega) only [getD_mid, Int.toNat_natCast, wrap64]
      refine if_mid.trans ?_
      refine (if_no (bne_no ?_)).trans ?_
      · simp (disch := omega) only [getD_mid, Int.toNat_natCast, wrap64]
      refine if_mid.trans ?_
      refine (if_no (bne_no ?_)).trans ?_
      · simp (disch := omega) only [getD_mid, Int.toNat_natCast, wrap64]
      simp (disch := omega) only [wrap64, wrap_mid hd]
set_option maxHeartbeats 4000000 in
theorem markWorld_ok : MkOk tWorld (F_laws_markWorld k) (F_laws_heldWorld k) := by
  intro x n h1 h2
  unfold markB at h2
  have t0 := tot_World hk x
  have t1 := tot_Conf hk x.1
  obtain ⟨n1, y1, e1, a1, b1, q1⟩ := markStringS_ok hk (x.1.2.2.2.2.2) (n) (by omega) (by unfold markB; omega)
  have z1 : decide (n1 < 0) = false := by simp; omega
  obtain ⟨n2, y2, e2, a2, b2, q2⟩ := markPartS_ok hk (x.2.2.2.1) (n1) (by omega) (by unfold markB; omega)
  have z2 : decide (n2 < 0) = false := by simp; omega
  obtain ⟨n3, y3, e3, a3, b3, q3⟩ := markSubS_ok hk (x.2.2.2.2.1) (n2) (by omega) (by unfold markB; omega)
  have z3 : decide (n3 < 0) = false := by simp; omega
  obtain ⟨n4, y4, e4, a4, b4, q4⟩ := markAlarmS_ok hk (x.2.2.2.2.2.1) (n3) (by omega) (by unfold markB; omega)
  have z4 : decide (n4 < 0) = false := by simp; omega
  obtain ⟨n5, y5, e5, a5, b5, q5⟩ := markGroupS_ok hk (x.2.2.2.2.2.2.2.1) (n4) (by omega) (by unfold markB; omega)
  have z5 : decide (n5 < 0) = false := by simp; omega
  obtain ⟨n6, y6, e6, a6, b6, q6⟩ := markTimerS_ok hk (x.2.2.2.2.2.2.2.2.2.1) (n5) (by omega) (by unfold markB; omega)
  have z6 : decide (n6 < 0) = false := by simp; omega
  obtain ⟨n7, y7, e7, a7, b7, q7⟩ := markBatchS_ok hk (x.2.2.2.2.2.2.2.2.2.2.1) (n6) (by omega) (by unfold markB; omega)
  have z7 : decide (n7 < 0) = false := by simp; omega
  obtain ⟨n8, y8, e8, a8, b8, q8⟩ := markAlarmS_ok hk (x.2.2.2.2.2.2.2.2.2.2.2.1) (n7) (by omega) (by unfold markB; omega)
  have z8 : decide (n8 < 0) = false := by simp; omega
  obtain ⟨n9, y9, e9, a9, b9, q9⟩ := markTaskS_ok hk (x.2.2.2.2.2.2.2.2.2.2.2.2.1) (n8) (by omega) (by unfold markB; omega)
  have z9 : decide (n9 < 0) = false := by simp; omega
  obtain ⟨n10, y10, e10, a10, b10, q10⟩ := markDeedS_ok hk (x.2.2.2.2.2.2.2.2.2.2.2.2.2) (n9) (by omega) (by unfold markB; omega)
  have z10 : decide (n10 < 0) = false := by simp; omega
  refine ⟨n10, ((x.1.1, (x.1.2.1, (x.1.2.2.1, (x.1.2.2.2.1, (x.1.2.2.2.2.1, y1))))), (x.2.1, (x.2.2.1, (y2, (y3, (y4, (x.2.2.2.2.2.2.1, (y5, (x.2.2.2.2.2.2.2.2.1, (y6, (y7, (y8, (y9, y10))))))))))))), ?_, by omega, by omega, ?_⟩
  · simp only [F_laws_markWorld, F_laws_markConf, e1, e2, e3, e4, e5, e6, e7, e8, e9, e10, Option.bind_some]
  · simp only [F_laws_heldWorld, F_laws_heldConf, q1, z1, q2, z2, q3, z3, q4, z4, q5, z5, q6, z6, q7, z7, q8, z8, q9, z9, q10, z10, Option.bind_some, Bool.false_eq_true, if_false]
theorem markWorld_at (x : DWorld) (n : Int) (h1 : 1 ≤ n) (h2 : n + 20 * (tot tWorld x : Int) ≤ markB) : ∃ (n9 : Int) (y1 : List ByteArray) (y2 : List DPart) (y3 : List DSub) (y4 : List DAlarm) (y5 : List DGroup) (y6 : List DTimer) (y7 : List DBatch) (y8 : List DAlarm) (y9 : List DTask) (y10 : List DDeed), F_laws_markWorld k x n = some (n9, (((x.1.1, (x.1.2.1, (x.1.2.2.1, (x.1.2.2.2.1, (x.1.2.2.2.2.1, y1))))), (x.2.1, (x.2.2.1, (y2, (y3, (y4, (x.2.2.2.2.2.2.1, (y5, (x.2.2.2.2.2.2.2.2.1, (y6, (y7, (y8, (y9, y10))))))))))))) : DWorld)) ∧ n ≤ n9 ∧ n9 ≤ n + 20 * (tot tWorld x : Int) ∧ F_laws_heldWorld k ((((x.1.1, (x.1.2.1, (x.1.2.2.1, (x.1.2.2.2.1, (x.1.2.2.2.2.1, y1))))), (x.2.1, (x.2.2.1, (y2, (y3, (y4, (x.2.2.2.2.2.2.1, (y5, (x.2.2.2.2.2.2.2.2.1, (y6, (y7, (y8, (y9, y10))))))))))))) : DWorld), n, ()) = some (n9, ()) := by
  unfold markB at h2
  have t0 := tot_World hk x
  have t1 := tot_Conf hk x.1
  obtain ⟨n1, y1, e1, a1, b1, q1⟩ := markStringS_ok hk (x.1.2.2.2.2.2) (n) (by omega) (by unfold markB; omega)
  have z1 : decide (n1 < 0) = false := by simp; omega
  obtain ⟨n2, y2, e2, a2, b2, q2⟩ := markPartS_ok hk (x.2.2.2.1) (n1) (by omega) (by unfold markB; omega)
  have z2 : decide (n2 < 0) = false := by simp; omega
  obtain ⟨n3, y3, e3, a3, b3, q3⟩ := markSubS_ok hk (x.2.2.2.2.1) (n2) (by omega) (by unfold markB; omega)
  have z3 : decide (n3 < 0) = false := by simp; omega
  obtain ⟨n4, y4, e4, a4, b4, q4⟩ := markAlarmS_ok hk (x.2.2.2.2.2.1) (n3) (by omega) (by unfold markB; omega)
  have z4 : decide (n4 < 0) = false := by simp; omega
  obtain ⟨n5, y5, e5, a5, b5, q5⟩ := markGroupS_ok hk (x.2.2.2.2.2.2.2.1) (n4) (by omega) (by unfold markB; omega)
  have z5 : decide (n5 < 0) = false := by simp; omega
  obtain ⟨n6, y6, e6, a6, b6, q6⟩ := markTimerS_ok hk (x.2.2.2.2.2.2.2.2.2.1) (n5) (by omega) (by unfold markB; omega)
  have z6 : decide (n6 < 0) = false := by simp; omega
  obtain ⟨n7, y7, e7, a7, b7, q7⟩ := markBatchS_ok hk (x.2.2.2.2.2.2.2.2.2.2.1) (n6) (by omega) (by unfold markB; omega)
  have z7 : decide (n7 < 0) = false := by simp; omega
  obtain ⟨n8, y8, e8, a8, b8, q8⟩ := markAlarmS_ok hk (x.2.2.2.2.2.2.2.2.2.2.2.1) (n7) (by omega) (by unfold markB; omega)
  have z8 : decide (n8 < 0) = false := by simp; omega
  obtain ⟨n9, y9, e9, a9, b9, q9⟩ := markTaskS_ok hk (x.2.2.2.2.2.2.2.2.2.2.2.2.1) (n8) (by omega) (by unfold markB; omega)
  have z9 : decide (n9 < 0) = false := by simp; omega
  obtain ⟨n10, y10, e10, a10, b10, q10⟩ := markDeedS_ok hk (x.2.2.2.2.2.2.2.2.2.2.2.2.2) (n9) (by omega) (by unfold markB; omega)
  have z10 : decide (n10 < 0) = false := by simp; omega
  refine ⟨n10, y1, y2, y3, y4, y5, y6, y7, y8, y9, y10, ?_, by omega, by omega, ?_⟩
  · simp only [F_laws_markWorld, F_laws_markConf, e1, e2, e3, e4, e5, e6, e7, e8, e9, e10, Option.bind_some]
  · simp only [F_laws_heldWorld, F_laws_heldConf, q1, z1, q2, z2, q3, z3, q4, z4, q5, z5, q6, z6, q7, z7, q8, z8, q9, z9, q10, z10, Option.bind_some, Bool.false_eq_true, if_false]
end
end Vg.Try
