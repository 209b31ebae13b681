/- Plain laws of what the functions compute: sizes, copies, comparisons (printed by famgen.py). -/
import Derived.Test.YtmoafmclhokdaaaVe
import Derived.Test.YtmoafmclhokdaaaF
namespace Vg.Try
open Go Vg
set_option linter.unusedVariables false
set_option linter.unusedSectionVars false
set_option linter.unusedSimpArgs false
section
variable {k : Nat} (hk : 9223372036854775808 ≤ k)
include hk
theorem tot_Label (x : DLabel) : tot tLabel x = x.1.size + x.2.size := by
  obtain ⟨x0, x1⟩ := x
  simp only [tot]
  try omega
theorem szLabel_ok {x : DLabel} {left : Int} (hx : Fits tLabel x) (h0 : 0 ≤ left) (h1 : left ≤ 1048576) : F_laws_szLabel k (x, left, ()) = some (szv (tot tLabel x) left, ()) := by
  rw [tot_Label hk]
  simp only [F_laws_szLabel]
  try simp only
  rw [str_neg hx.1 h0 h1]
  by_cases h2 : szv (x.1.size) left < 0
  · rw [if_pos (by simpa using h2)]; exact congrArg (fun z => some (z, ())) (szv_big h2 (by omega)).symm
  rw [if_neg (by simpa using h2)]
  rw [str_wrap hx.1 h0 h1 h2]
  try simp only
  rw [str_neg hx.2 (szv_some h2).1 (by have := szv_le (t := x.1.size) h0; omega)]
  rw [szv_add h2]
  by_cases h3 : szv (x.1.size + x.2.size) left < 0
  · rw [if_pos (by simpa using h3)]; exact congrArg (fun z => some (z, ())) (szv_big h3 (by omega)).symm
  rw [if_neg (by simpa using h3)]
  rw [str_wrap hx.2 (szv_some h2).1 (by have := szv_le (t := x.1.size) h0; omega) (by rw [szv_add h2]; exact h3), szv_add h2]
theorem szLabelS_ok {x : List DLabel} {left : Int} (hx : Fits (.sl tLabel) x) (h0 : 0 ≤ left) (h1 : left ≤ 1048576) : F_laws_szLabelS k (x, left, ()) = some (szv (tot (.sl tLabel) x) left, ()) := 
  szS_ok (d := tLabel.dflt) (S := F_laws_szLabel k) hk hx.1 h0 h1 (fun e he l a b => szLabel_ok hk (hx.2 e he) a b)
theorem tot_Alarm (x : DAlarm) : tot tAlarm x = tot (.sl tLabel) x.1 + x.2.2.2.size := by
  obtain ⟨x0, x1, x2, x3⟩ := x
  simp only [tot]
  try omega
theorem szAlarm_ok {x : DAlarm} {left : Int} (hx : Fits tAlarm x) (h0 : 0 ≤ left) (h1 : left ≤ 1048576) : F_laws_szAlarm k (x, left, ()) = some (szv (tot tAlarm x) left, ()) := by
  rw [tot_Alarm hk]
  simp only [F_laws_szAlarm]
  rw [szLabelS_ok hk hx.1 h0 h1, Option.bind_some]
  by_cases h2 : szv (tot (.sl tLabel) x.1) left < 0
  · rw [if_pos (by simpa using h2)]; exact congrArg (fun z => some (z, ())) (szv_big h2 (by omega)).symm
  rw [if_neg (by simpa using h2)]
  try simp only
  rw [str_neg hx.2.2.2 (szv_some h2).1 (by have := szv_le (t := tot (.sl tLabel) x.1) h0; omega)]
  rw [szv_add h2]
  by_cases h3 : szv (tot (.sl tLabel) x.1 + x.2.2.2.size) left < 0
  · rw [if_pos (by simpa using h3)]; exact congrArg (fun z => some (z, ())) (szv_big h3 (by omega)).symm
  rw [if_neg (by simpa using h3)]
  rw [str_wrap hx.2.2.2 (szv_some h2).1 (by have := szv_le (t := tot (.sl tLabel) x.1) h0; omega) (by rw [szv_add h2]; exact h3), szv_add h2]
theorem szAlarmS_ok {x : List DAlarm} {left : Int} (hx : Fits (.sl tAlarm) x) (h0 : 0 ≤ left) (h1 : left ≤ 1048576) : F_laws_szAlarmS k (x, left, ()) = some (szv (tot (.sl tAlarm) x) left, ()) := 
  szS_ok (d := tAlarm.dflt) (S := F_laws_szAlarm k) hk hx.1 h0 h1 (fun e he l a b => szAlarm_ok hk (hx.2 e he) a b)
theorem tot_Deed (x : DDeed) : tot tDeed x = tot tAlarm x.2.2.1 + tot (.sl tLabel) x.2.2.2.1 + tot (.sl tAlarm) x.2.2.2.2.2.2.2.1 := by
  obtain ⟨x0, x1, x2, x3, x4, x5, x6, x7, x8, x9, x10, x11⟩ := x
  simp only [tot]
  try omega
theorem szDeed_ok {x : DDeed} {left : Int} (hx : Fits tDeed x) (h0 : 0 ≤ left) (h1 : left ≤ 1048576) : F_laws_szDeed k (x, left, ()) = some (szv (tot tDeed x) left, ()) := by
  rw [tot_Deed hk]
  simp only [F_laws_szDeed]
  rw [szAlarm_ok hk hx.2.2.1 h0 h1, Option.bind_some]
  by_cases h2 : szv (tot tAlarm x.2.2.1) left < 0
  · rw [if_pos (by simpa using h2)]; exact congrArg (fun z => some (z, ())) (szv_big h2 (by omega)).symm
  rw [if_neg (by simpa using h2)]
  rw [szLabelS_ok hk hx.2.2.2.1 (szv_some h2).1 (by have := szv_le (t := tot tAlarm x.2.2.1) h0; omega), Option.bind_some]
  rw [szv_add h2]
  by_cases h3 : szv (tot tAlarm x.2.2.1 + tot (.sl tLabel) x.2.2.2.1) left < 0
  · rw [if_pos (by simpa using h3)]; exact congrArg (fun z => some (z, ())) (szv_big h3 (by omega)).symm
  rw [if_neg (by simpa using h3)]
  rw [szAlarmS_ok hk hx.2.2.2.2.2.2.2.1 (szv_some h3).1 (by have := szv_le (t := tot tAlarm x.2.2.1 + tot (.sl tLabel) x.2.2.2.1) h0; omega), Option.bind_some]
  rw [szv_add h3]
  by_cases h4 : szv (tot tAlarm x.2.2.1 + tot (.sl tLabel) x.2.2.2.1 + tot (.sl tAlarm) x.2.2.2.2.2.2.2.1) left < 0
  · rw [if_pos (by simpa using h4)]; exact congrArg (fun z => some (z, ())) (szv_big h4 (by omega)).symm
  rw [if_neg (by simpa using h4)]
theorem szDeedS_ok {x : List DDeed} {left : Int} (hx : Fits (.sl tDeed) x) (h0 : 0 ≤ left) (h1 : left ≤ 1048576) : F_laws_szDeedS k (x, left, ()) = some (szv (tot (.sl tDeed) x) left, ()) := 
  szS_ok (d := tDeed.dflt) (S := F_laws_szDeed k) hk hx.1 h0 h1 (fun e he l a b => szDeed_ok hk (hx.2 e he) a b)
theorem toLabel_ok {x : DLabel} (h : tot tLabel x ≤ 1048576) : F_laws_toLabel k (x, ()) = some (x, ()) := by
  rw [tot_Label hk] at h
  simp only [F_laws_toLabel]
  try rfl
theorem toLabelS_ok {x : List DLabel} (h : tot (.sl tLabel) x ≤ 1048576) : F_laws_toLabelS k (x, ()) = some (x, ()) := 
  toS_ok (d := tLabel.dflt) (S := F_laws_toLabel k) hk (Nat.le_trans (tot_len (e := tLabel)) h) (fun e he => toLabel_ok hk (Nat.le_trans (tot_mem (e := tLabel) he) h))
theorem toAlarm_ok {x : DAlarm} (h : tot tAlarm x ≤ 1048576) : F_laws_toAlarm k (x, ()) = some (x, ()) := by
  rw [tot_Alarm hk] at h
  simp only [F_laws_toAlarm]
  rw [toLabelS_ok hk (by omega)]
  try rfl
theorem toAlarmS_ok {x : List DAlarm} (h : tot (.sl tAlarm) x ≤ 1048576) : F_laws_toAlarmS k (x, ()) = some (x, ()) := 
  toS_ok (d := tAlarm.dflt) (S := F_laws_toAlarm k) hk (Nat.le_trans (tot_len (e := tAlarm)) h) (fun e he => toAlarm_ok hk (Nat.le_trans (tot_mem (e := tAlarm) he) h))
theorem toDeed_ok {x : DDeed} (h : tot tDeed x ≤ 1048576) : F_laws_toDeed k (x, ()) = some (x, ()) := by
  rw [tot_Deed hk] at h
  simp only [F_laws_toDeed]
  rw [toAlarm_ok hk (by omega), toLabelS_ok hk (by omega), toAlarmS_ok hk (by omega)]
  try rfl
theorem toDeedS_ok {x : List DDeed} (h : tot (.sl tDeed) x ≤ 1048576) : F_laws_toDeedS k (x, ()) = some (x, ()) := 
  toS_ok (d := tDeed.dflt) (S := F_laws_toDeed k) hk (Nat.le_trans (tot_len (e := tDeed)) h) (fun e he => toDeed_ok hk (Nat.le_trans (tot_mem (e := tDeed) he) h))
theorem eqIntS_ok {x : List Int} (h : tot (.sl (.int .i64)) x ≤ 1073741824) : F_laws_eqIntS k (x, x, ()) = some (true, ()) := 
  eqI_ok hk (Nat.le_trans (Nat.le_trans (tot_len (e := (.int .i64))) h) (by omega))
theorem eqLabel_ok {x : DLabel} (h : tot tLabel x ≤ 1073741824) : F_laws_eqLabel k (x, x, ()) = some (true, ()) := by
  rw [tot_Label hk] at h
  simp only [F_laws_eqLabel]
  simp
theorem eqLabelS_ok {x : List DLabel} (h : tot (.sl tLabel) x ≤ 1073741824) : F_laws_eqLabelS k (x, x, ()) = some (true, ()) := 
  eqS_ok (d := tLabel.dflt) (S := F_laws_eqLabel k) hk (Nat.le_trans (Nat.le_trans (tot_len (e := tLabel)) h) (by omega)) (fun e he => eqLabel_ok hk (Nat.le_trans (tot_mem (e := tLabel) he) h))
theorem eqAlarm_ok {x : DAlarm} (h : tot tAlarm x ≤ 1073741824) : F_laws_eqAlarm k (x, x, ()) = some (true, ()) := by
  rw [tot_Alarm hk] at h
  simp only [F_laws_eqAlarm]
  rw [eqLabelS_ok hk (by omega)]
  simp
theorem eqAlarmS_ok {x : List DAlarm} (h : tot (.sl tAlarm) x ≤ 1073741824) : F_laws_eqAlarmS k (x, x, ()) = some (true, ()) := 
  eqS_ok (d := tAlarm.dflt) (S := F_laws_eqAlarm k) hk (Nat.le_trans (Nat.le_trans (tot_len (e := tAlarm)) h) (by omega)) (fun e he => eqAlarm_ok hk (Nat.le_trans (tot_mem (e := tAlarm) he) h))
theorem eqDeed_ok {x : DDeed} (h : tot tDeed x ≤ 1073741824) : F_laws_eqDeed k (x, x, ()) = some (true, ()) := by
  rw [tot_Deed hk] at h
  simp only [F_laws_eqDeed]
  rw [eqAlarm_ok hk (by omega), eqLabelS_ok hk (by omega), eqAlarmS_ok hk (by omega)]
  simp
theorem eqDeedS_ok {x : List DDeed} (h : tot (.sl tDeed) x ≤ 1073741824) : F_laws_eqDeedS k (x, x, ()) = some (true, ()) := 
  eqS_ok (d := tDeed.dflt) (S := F_laws_eqDeed k) hk (Nat.le_trans (Nat.le_trans (tot_len (e := tDeed)) h) (by omega)) (fun e he => eqDeed_ok hk (Nat.le_trans (tot_mem (e := tDeed) he) h))
theorem markText_ok {n : Int} (h1 : 1 ≤ n) (h2 : n ≤ markB) : ∃ s, F_laws_markText k (n, ()) = some (s, ()) := by
  simp only [F_laws_markText, joinC]
  rw [if_neg (by simp; omega)]
  have red : ∀ {o : Option (ByteArray × Unit)}, (∃ r, o = some r) → ∃ s, o = some (s, ()) := fun ⟨⟨s, u⟩, h⟩ => ⟨s, h⟩
  refine red (markText_tot hk ?_ ?_ n h2)
  · intro G n s hn hs
    simp only
    rw [if_neg (by simp; omega), if_pos (by
      simp only [decide_eq_true_eq]
      show 1 + s.size < 4294967296
      omega)]
    exact ⟨_, rfl⟩
  · intro G n s hn hn2 hs
    simp only
    unfold markB at hn2
    rw [if_pos (by simpa using hn), if_pos (by simp), if_pos (by
      simp only [decide_eq_true_eq]
      show 1 + s.size < 4294967296
      omega), if_pos (by simp), wrap64 (by rw [Int.tdiv_eq_ediv_of_nonneg (by omega)]; omega) (by rw [Int.tdiv_eq_ediv_of_nonneg (by omega)]; omega)]
    refine ⟨_, rfl, ?_⟩
    rw [ByteArray.size_append]
    show 1 + s.size = s.size + 1
    omega
theorem markLabelS_ok : MkOk0 (.sl tLabel) (F_laws_markLabelS k) := by
  refine markS_ok0 hk ?_ ?_
  · intro G l n i hi
    simp only [lt_nat]
    rw [if_neg (by simp; omega)]
  · intro x n h1 h2
    unfold markB at h2
    have t0 := tot_Label hk x
    obtain ⟨s1, e1⟩ := markText_ok hk (n := n) (by omega) (by unfold markB; omega)
    obtain ⟨s2, e2⟩ := markText_ok hk (n := n + 1) (by omega) (by unfold markB; omega)
    refine ⟨n + 1 + 1, (s1, s2), by omega, by omega, fun G d r hd => ?_⟩
    · simp only [Int.toNat_natCast]
      refine if_lt_mid.trans ?_
      refine (bind_eq (r := (s1, ())) ?_ _).trans ?_
      · simp (disch := omega) only [getD_mid, Int.toNat_natCast, wrap64, e1]
      refine if_mid.trans ?_
      rw [letC_step (y := (s1, x.2))]
      rotate_left
      · simp (disch := omega) only [getD_mid, Int.toNat_natCast, wrap64]
      refine (bind_eq (r := (s2, ())) ?_ _).trans ?_
      · simp (disch := omega) only [getD_mid, Int.toNat_natCast, wrap64, e2]
      refine if_mid.trans ?_
      rw [letC_step (y := (s1, s2))]
      rotate_left
      · simp (disch := omega) only [getD_mid, Int.toNat_natCast, wrap64]
      simp (disch := omega) only [wrap64, wrap_mid hd]
theorem markAlarmS_ok : MkOk0 (.sl tAlarm) (F_laws_markAlarmS k) := by
  refine markS_ok0 hk ?_ ?_
  · intro G l n i hi
    simp only [lt_nat]
    rw [if_neg (by simp; omega)]
  · intro x n h1 h2
    unfold markB at h2
    have t0 := tot_Alarm hk x
    obtain ⟨n1, y1, e1, a1, b1, q1⟩ := markLabelS_ok hk (x.1) (n) (by omega) (by unfold markB; omega)
    have z1 : decide (n1 < 0) = false := by simp; omega
    obtain ⟨s4, e4⟩ := markText_ok hk (n := n1 + 1 + 1) (by omega) (by unfold markB; omega)
    refine ⟨n1 + 1 + 1 + 1, (y1, (n1, (n1 + 1, s4))), by omega, by omega, fun G d r hd => ?_⟩
    · simp only [Int.toNat_natCast]
      refine if_lt_mid.trans ?_
      refine if_mid.trans ?_
      refine (bind_eq (r := (n1, y1)) ?_ _).trans ?_
      · simp (disch := omega) only [getD_mid, Int.toNat_natCast, wrap64, e1]
      rw [letC_step (y := (y1, x.2))]
      rotate_left
      · simp (disch := omega) only [getD_mid, Int.toNat_natCast, wrap64]
      refine if_mid.trans ?_
      rw [letC_step (y := (y1, (n1, x.2.2)))]
      rotate_left
      · simp (disch := omega) only [getD_mid, Int.toNat_natCast, wrap64]
      refine if_mid.trans ?_
      rw [letC_step (y := (y1, (n1, (n1 + 1, x.2.2.2))))]
      rotate_left
      · simp (disch := omega) only [getD_mid, Int.toNat_natCast, wrap64]
      refine (bind_eq (r := (s4, ())) ?_ _).trans ?_
      · simp (disch := omega) only [getD_mid, Int.toNat_natCast, wrap64, e4]
      refine if_mid.trans ?_
      rw [letC_step (y := (y1, (n1, (n1 + 1, s4))))]
      rotate_left
      · simp (disch := omega) only [getD_mid, Int.toNat_natCast, wrap64]
      simp (disch := omega) only [wrap64, wrap_mid hd]
set_option maxHeartbeats 4000000 in
theorem markDeedS_ok : MkOk0 (.sl tDeed) (F_laws_markDeedS k) := by
  refine markS_ok0 hk ?_ ?_
  · intro G l n i hi
    simp only [lt_nat]
    rw [if_neg (by simp; omega)]
  · intro x n h1 h2
    unfold markB at h2
    have t0 := tot_Deed hk x
    have t1 := tot_Alarm hk x.2.2.1
    obtain ⟨n3, y3, e3, a3, b3, q3⟩ := markLabelS_ok hk (x.2.2.1.1) (n + 1 + 1) (by omega) (by unfold markB; omega)
    have z3 : decide (n3 < 0) = false := by simp; omega
    obtain ⟨s6, e6⟩ := markText_ok hk (n := n3 + 1 + 1) (by omega) (by unfold markB; omega)
    obtain ⟨n7, y7, e7, a7, b7, q7⟩ := markLabelS_ok hk (x.2.2.2.1) (n3 + 1 + 1 + 1) (by omega) (by unfold markB; omega)
    have z7 : decide (n7 < 0) = false := by simp; omega
    obtain ⟨n11, y11, e11, a11, b11, q11⟩ := markAlarmS_ok hk (x.2.2.2.2.2.2.2.1) (n7 + 1 + 1 + 1) (by omega) (by unfold markB; omega)
    have z11 : decide (n11 < 0) = false := by simp; omega
    refine ⟨n11 + 1 + 1 + 1 + 1, (n, (n + 1, ((y3, (n3, (n3 + 1, s6))), (y7, (n7, (n7 + 1, (n7 + 1 + 1, (y11, (n11, (n11 + 1, (n11 + 1 + 1, n11 + 1 + 1 + 1))))))))))), by omega, by omega, fun G d r hd => ?_⟩
    · simp only [Int.toNat_natCast]
      refine if_lt_mid.trans ?_
      refine if_mid.trans ?_
      rw [letC_step (y := (n, x.2))]
      rotate_left
      · simp (disch := omega) only [getD_mid, Int.toNat_natCast, wrap64]
      refine if_mid.trans ?_
      rw [letC_step (y := (n, (n + 1, x.2.2)))]
      rotate_left
      · simp (disch := omega) only [getD_mid, Int.toNat_natCast, wrap64]
      refine if_mid.trans ?_
      refine (bind_eq (r := (n3, y3)) ?_ _).trans ?_
      · simp (disch := omega) only [getD_mid, Int.toNat_natCast, wrap64, e3]
      rw [letC_step (y := (n, (n + 1, ((y3, x.2.2.1.2), x.2.2.2))))]
      rotate_left
      · simp (disch := omega) only [getD_mid, Int.toNat_natCast, wrap64]
      refine if_mid.trans ?_
      rw [letC_step (y := (n, (n + 1, ((y3, (n3, x.2.2.1.2.2)), x.2.2.2))))]
      rotate_left
      · simp (disch := omega) only [getD_mid, Int.toNat_natCast, wrap64]
      refine if_mid.trans ?_
      rw [letC_step (y := (n, (n + 1, ((y3, (n3, (n3 + 1, x.2.2.1.2.2.2))), x.2.2.2))))]
      rotate_left
      · simp (disch := omega) only [getD_mid, Int.toNat_natCast, wrap64]
      refine (bind_eq (r := (s6, ())) ?_ _).trans ?_
      · simp (disch := omega) only [getD_mid, Int.toNat_natCast, wrap64, e6]
      refine if_mid.trans ?_
      rw [letC_step (y := (n, (n + 1, ((y3, (n3, (n3 + 1, s6))), x.2.2.2))))]
      rotate_left
      · simp (disch := omega) only [getD_mid, Int.toNat_natCast, wrap64]
      refine if_mid.trans ?_
      refine (bind_eq (r := (n7, y7)) ?_ _).trans ?_
      · simp (disch := omega) only [getD_mid, Int.toNat_natCast, wrap64, e7]
      rw [letC_step (y := (n, (n + 1, ((y3, (n3, (n3 + 1, s6))), (y7, x.2.2.2.2)))))]
      rotate_left
      · simp (disch := omega) only [getD_mid, Int.toNat_natCast, wrap64]
      refine if_mid.trans ?_
      rw [letC_step (y := (n, (n + 1, ((y3, (n3, (n3 + 1, s6))), (y7, (n7, x.2.2.2.2.2))))))]
      rotate_left
      · simp (disch := omega) only [getD_mid, Int.toNat_natCast, wrap64]
      refine if_mid.trans ?_
      rw [letC_step (y := (n, (n + 1, ((y3, (n3, (n3 + 1, s6))), (y7, (n7, (n7 + 1, x.2.2.2.2.2.2)))))))]
      rotate_left
      · simp (disch := omega) only [getD_mid, Int.toNat_natCast, wrap64]
      refine if_mid.trans ?_
      rw [letC_step (y := (n, (n + 1, ((y3, (n3, (n3 + 1, s6))), (y7, (n7, (n7 + 1, (n7 + 1 + 1, x.2.2.2.2.2.2.2))))))))]
      rotate_left
      · simp (disch := omega) only [getD_mid, Int.toNat_natCast, wrap64]
      refine if_mid.trans ?_
      refine (bind_eq (r := (n11, y11)) ?_ _).trans ?_
      · simp (disch := omega) only [getD_mid, Int.toNat_natCast, wrap64, e11]
      rw [letC_step (y := (n, (n + 1, ((y3, (n3, (n3 + 1, s6))), (y7, (n7, (n7 + 1, (n7 + 1 + 1, (y11, x.2.2.2.2.2.2.2.2)))))))))]
      rotate_left
      · simp (disch := omega) only [getD_mid, Int.toNat_natCast, wrap64]
      refine if_mid.trans ?_
      rw [letC_step (y := (n, (n + 1, ((y3, (n3, (n3 + 1, s6))), (y7, (n7, (n7 + 1, (n7 + 1 + 1, (y11, (n11, x.2.2.2.2.2.2.2.2.2))))))))))]
      rotate_left
      · simp (disch := omega) only [getD_mid, Int.toNat_natCast, wrap64]
      refine if_mid.trans ?_
      rw [letC_step (y := (n, (n + 1, ((y3, (n3, (n3 + 1, s6))), (y7, (n7, (n7 + 1, (n7 + 1 + 1, (y11, (n11, (n11 + 1, x.2.2.2.2.2.2.2.2.2.2)))))))))))]
      rotate_left
      · simp (disch := omega) only [getD_mid, Int.toNat_natCast, wrap64]
      refine if_mid.trans ?_
      rw [letC_step (y := (n, (n + 1, ((y3, (n3, (n3 + 1, s6))), (y7, (n7, (n7 + 1, (n7 + 1 + 1, (y11, (n11, (n11 + 1, (n11 + 1 + 1, x.2.2.2.2.2.2.2.2.2.2.2))))))))))))]
      rotate_left
      · simp (disch := omega) only [getD_mid, Int.toNat_natCast, wrap64]
      refine if_mid.trans ?_
      rw [letC_step (y := (n, (n + 1, ((y3, (n3, (n3 + 1, s6))), (y7, (n7, (n7 + 1, (n7 + 1 + 1, (y11, (n11, (n11 + 1, (n11 + 1 + 1, n11 + 1 + 1 + 1))))))))))))]
      rotate_left
      · simp (disch := omega) only [getD_mid, Int.toNat_natCast, wrap64]
      simp (disch := omega) only [wrap64, wrap_mid hd]
theorem markIntS_ok : MkOk (.sl (.int .i64)) (F_laws_markIntS k) (F_laws_heldIntS k) := by
  refine markS_ok hk ?_ ?_ ?_
  · intro G l n i hi
    simp only [lt_nat]
    rw [if_neg (by simp; omega)]
  · intro G l n i hi
    simp only [lt_nat]
    rw [if_neg (by simp; omega)]
  · intro x n h1 h2
    unfold markB at h2
    refine ⟨n + 1, n, by omega, by omega, fun G d r hd => ?_, fun G d r hd => ?_⟩
    · simp only [Int.toNat_natCast]
      refine if_lt_mid.trans ?_
      refine if_mid.trans ?_
      rw [letC_step (y := n)]
      rotate_left
      · simp (disch := omega) only [getD_mid, Int.toNat_natCast, wrap64]
      simp (disch := omega) only [wrap64, wrap_mid hd]
    · simp only [Int.toNat_natCast]
      refine if_lt_mid.trans ?_
      refine if_mid.trans ?_
      refine (if_no (bne_no ?_)).trans ?_
      · simp (disch := omega) only [getD_mid, Int.toNat_natCast, wrap64]
      simp (disch := omega) only [wrap64, wrap_mid hd]
end
end Vg.Try
