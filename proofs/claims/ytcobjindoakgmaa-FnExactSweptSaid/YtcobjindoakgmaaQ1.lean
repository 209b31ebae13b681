/- Plain laws of what the functions compute: sizes, copies, comparisons (printed by famgen.py). -/
import Derived.Test.YtcobjindoakgmaaVc
import Derived.Test.YtcobjindoakgmaaF
namespace Vg.Try
open Go Vg
set_option linter.unusedVariables false
set_option linter.unusedSectionVars false
set_option linter.unusedSimpArgs false
section
variable {k : Nat} (hk : 9223372036854775808 ≤ k)
include hk
theorem tot_Label (x : DLabel) : tot tLabel x = x.1.size + x.2.size := by
  obtain ⟨x0, x1⟩ := x
  simp only [tot]
  try omega
theorem szLabel_ok {x : DLabel} {left : Int} (hx : Fits tLabel x) (h0 : 0 ≤ left) (h1 : left ≤ 1048576) : F_laws_szLabel k (x, left, ()) = some (szv (tot tLabel x) left, ()) := by
  rw [tot_Label hk]
  simp only [F_laws_szLabel]
  try simp only
  rw [str_neg hx.1 h0 h1]
  by_cases h2 : szv (x.1.size) left < 0
  · rw [if_pos (by simpa using h2)]; exact congrArg (fun z => some (z, ())) (szv_big h2 (by omega)).symm
  rw [if_neg (by simpa using h2)]
  rw [str_wrap hx.1 h0 h1 h2]
  try simp only
  rw [str_neg hx.2 (szv_some h2).1 (by have := szv_le (t := x.1.size) h0; omega)]
  rw [szv_add h2]
  by_cases h3 : szv (x.1.size + x.2.size) left < 0
  · rw [if_pos (by simpa using h3)]; exact congrArg (fun z => some (z, ())) (szv_big h3 (by omega)).symm
  rw [if_neg (by simpa using h3)]
  rw [str_wrap hx.2 (szv_some h2).1 (by have := szv_le (t := x.1.size) h0; omega) (by rw [szv_add h2]; exact h3), szv_add h2]
theorem szLabelS_ok {x : List DLabel} {left : Int} (hx : Fits (.sl tLabel) x) (h0 : 0 ≤ left) (h1 : left ≤ 1048576) : F_laws_szLabelS k (x, left, ()) = some (szv (tot (.sl tLabel) x) left, ()) := 
  szS_ok (d := tLabel.dflt) (S := F_laws_szLabel k) hk hx.1 h0 h1 (fun e he l a b => szLabel_ok hk (hx.2 e he) a b)
theorem tot_Alarm (x : DAlarm) : tot tAlarm x = tot (.sl tLabel) x.1 + x.2.2.2.size := by
  obtain ⟨x0, x1, x2, x3⟩ := x
  simp only [tot]
  try omega
theorem szAlarm_ok {x : DAlarm} {left : Int} (hx : Fits tAlarm x) (h0 : 0 ≤ left) (h1 : left ≤ 1048576) : F_laws_szAlarm k (x, left, ()) = some (szv (tot tAlarm x) left, ()) := by
  rw [tot_Alarm hk]
  simp only [F_laws_szAlarm]
  rw [szLabelS_ok hk hx.1 h0 h1, Option.bind_some]
  by_cases h2 : szv (tot (.sl tLabel) x.1) left < 0
  · rw [if_pos (by simpa using h2)]; exact congrArg (fun z => some (z, ())) (szv_big h2 (by omega)).symm
  rw [if_neg (by simpa using h2)]
  try simp only
  rw [str_neg hx.2.2.2 (szv_some h2).1 (by have := szv_le (t := tot (.sl tLabel) x.1) h0; omega)]
  rw [szv_add h2]
  by_cases h3 : szv (tot (.sl tLabel) x.1 + x.2.2.2.size) left < 0
  · rw [if_pos (by simpa using h3)]; exact congrArg (fun z => some (z, ())) (szv_big h3 (by omega)).symm
  rw [if_neg (by simpa using h3)]
  rw [str_wrap hx.2.2.2 (szv_some h2).1 (by have := szv_le (t := tot (.sl tLabel) x.1) h0; omega) (by rw [szv_add h2]; exact h3), szv_add h2]
theorem szAlarmS_ok {x : List DAlarm} {left : Int} (hx : Fits (.sl tAlarm) x) (h0 : 0 ≤ left) (h1 : left ≤ 1048576) : F_laws_szAlarmS k (x, left, ()) = some (szv (tot (.sl tAlarm) x) left, ()) := 
  szS_ok (d := tAlarm.dflt) (S := F_laws_szAlarm k) hk hx.1 h0 h1 (fun e he l a b => szAlarm_ok hk (hx.2 e he) a b)
theorem toLabel_ok {x : DLabel} (h : tot tLabel x ≤ 1048576) : F_laws_toLabel k (x, ()) = some (x, ()) := by
  rw [tot_Label hk] at h
  simp only [F_laws_toLabel]
  try rfl
theorem toLabelS_ok {x : List DLabel} (h : tot (.sl tLabel) x ≤ 1048576) : F_laws_toLabelS k (x, ()) = some (x, ()) := 
  toS_ok (d := tLabel.dflt) (S := F_laws_toLabel k) hk (Nat.le_trans (tot_len (e := tLabel)) h) (fun e he => toLabel_ok hk (Nat.le_trans (tot_mem (e := tLabel) he) h))
theorem toAlarm_ok {x : DAlarm} (h : tot tAlarm x ≤ 1048576) : F_laws_toAlarm k (x, ()) = some (x, ()) := by
  rw [tot_Alarm hk] at h
  simp only [F_laws_toAlarm]
  rw [toLabelS_ok hk (by omega)]
  try rfl
theorem toAlarmS_ok {x : List DAlarm} (h : tot (.sl tAlarm) x ≤ 1048576) : F_laws_toAlarmS k (x, ()) = some (x, ()) := 
  toS_ok (d := tAlarm.dflt) (S := F_laws_toAlarm k) hk (Nat.le_trans (tot_len (e := tAlarm)) h) (fun e he => toAlarm_ok hk (Nat.le_trans (tot_mem (e := tAlarm) he) h))
theorem eqLabel_ok {x : DLabel} (h : tot tLabel x ≤ 1048576) : F_laws_eqLabel k (x, x, ()) = some (true, ()) := by
  rw [tot_Label hk] at h
  simp only [F_laws_eqLabel]
  simp
theorem eqLabelS_ok {x : List DLabel} (h : tot (.sl tLabel) x ≤ 1048576) : F_laws_eqLabelS k (x, x, ()) = some (true, ()) := 
  eqS_ok (d := tLabel.dflt) (S := F_laws_eqLabel k) hk (Nat.le_trans (Nat.le_trans (tot_len (e := tLabel)) h) (by omega)) (fun e he => eqLabel_ok hk (Nat.le_trans (tot_mem (e := tLabel) he) h))
theorem eqAlarm_ok {x : DAlarm} (h : tot tAlarm x ≤ 1048576) : F_laws_eqAlarm k (x, x, ()) = some (true, ()) := by
  rw [tot_Alarm hk] at h
  simp only [F_laws_eqAlarm]
  rw [eqLabelS_ok hk (by omega)]
  simp
theorem eqAlarmS_ok {x : List DAlarm} (h : tot (.sl tAlarm) x ≤ 1048576) : F_laws_eqAlarmS k (x, x, ()) = some (true, ()) := 
  eqS_ok (d := tAlarm.dflt) (S := F_laws_eqAlarm k) hk (Nat.le_trans (Nat.le_trans (tot_len (e := tAlarm)) h) (by omega)) (fun e he => eqAlarm_ok hk (Nat.le_trans (tot_mem (e := tAlarm) he) h))
theorem markText_ok {n : Int} (h1 : 1 ≤ n) (h2 : n ≤ markB) : ∃ s, F_laws_markText k (n, ()) = some (s, ()) := by
  simp only [F_laws_markText, joinC]
  rw [if_neg (by simp; omega)]
  have red : ∀ {o : Option (ByteArray × Unit)}, (∃ r, o = some r) → ∃ s, o = some (s, ()) := fun ⟨⟨s, u⟩, h⟩ => ⟨s, h⟩
  refine red (markText_tot hk ?_ ?_ n h2)
  · intro G n s hn hs
    simp only
    rw [if_neg (by simp; omega), if_pos (by
      simp only [decide_eq_true_eq]
      show 1 + s.size < 4294967296
      omega)]
    exact ⟨_, rfl⟩
  · intro G n s hn hn2 hs
    simp only
    unfold markB at hn2
    rw [if_pos (by simpa using hn), if_pos (by simp), if_pos (by
      simp only [decide_eq_true_eq]
      show 1 + s.size < 4294967296
      omega), if_pos (by simp), wrap64 (by rw [Int.tdiv_eq_ediv_of_nonneg (by omega)]; omega) (by rw [Int.tdiv_eq_ediv_of_nonneg (by omega)]; omega)]
    refine ⟨_, rfl, ?_⟩
    rw [ByteArray.size_append]
    show 1 + s.size = s.size + 1
    omega
theorem markLabelS_ok : MkOk (.sl tLabel) (F_laws_markLabelS k) (F_laws_heldLabelS k) := by
  refine markS_ok hk ?_ ?_ ?_
  · intro G l n i hi
    simp only [lt_nat]
    rw [if_neg (by simp; omega)]
  · intro G l n i hi
    simp only [lt_nat]
    rw [if_neg (by simp; omega)]
  · intro x n h1 h2
    unfold markB at h2
    have t0 := tot_Label hk x
    obtain ⟨s1, e1⟩ := markText_ok hk (n := n) (by omega) (by unfold markB; omega)
    obtain ⟨s2, e2⟩ := markText_ok hk (n := n + 1) (by omega) (by unfold markB; omega)
    refine ⟨n + 1 + 1, (s1, s2), by omega, by omega, fun G l i hi hl hx => ?_, fun G l i hi hl hx => ?_⟩
    · have hi2 : i < 4611686018427387904 := by omega
      simp (disch := omega) only [letC, lt_nat, in_nat hi, hi, hx, decide_true, if_true, Int.toNat_natCast, e1, e2, Option.bind_some, List.length_set, getD_set_self hi, getD_set_self (l := List.set _ _ _) (by simpa using hi), List.set_set, wrap64, wrapS hi2, ne3, decide_not]
    · have hi2 : i < 4611686018427387904 := by omega
      simp (disch := omega) only [lt_nat, in_nat hi, hi, hx, decide_true, if_true, Int.toNat_natCast, e1, e2, Option.bind_some, beq_self_eq_true, bne_self_eq_false, Bool.not_true, Bool.false_eq_true, if_false, wrap64, wrapS hi2, ne3]
theorem markAlarmS_ok : MkOk (.sl tAlarm) (F_laws_markAlarmS k) (F_laws_heldAlarmS k) := by
  refine markS_ok hk ?_ ?_ ?_
  · intro G l n i hi
    simp only [lt_nat]
    rw [if_neg (by simp; omega)]
  · intro G l n i hi
    simp only [lt_nat]
    rw [if_neg (by simp; omega)]
  · intro x n h1 h2
    unfold markB at h2
    have t0 := tot_Alarm hk x
    obtain ⟨n1, y1, e1, a1, b1, q1⟩ := markLabelS_ok hk (x.1) (n) (by omega) (by unfold markB; omega)
    have z1 : decide (n1 < 0) = false := by simp; omega
    obtain ⟨s4, e4⟩ := markText_ok hk (n := n1 + 1 + 1) (by omega) (by unfold markB; omega)
    refine ⟨n1 + 1 + 1 + 1, (y1, (n1, (n1 + 1, s4))), by omega, by omega, fun G l i hi hl hx => ?_, fun G l i hi hl hx => ?_⟩
    · have hi2 : i < 4611686018427387904 := by omega
      simp (disch := omega) only [letC, lt_nat, in_nat hi, hi, hx, decide_true, if_true, Int.toNat_natCast, e1, e4, Option.bind_some, List.length_set, getD_set_self hi, getD_set_self (l := List.set _ _ _) (by simpa using hi), List.set_set, wrap64, wrapS hi2, ne3, decide_not]
    · have hi2 : i < 4611686018427387904 := by omega
      simp (disch := omega) only [lt_nat, in_nat hi, hi, hx, decide_true, if_true, Int.toNat_natCast, q1, z1, e4, Option.bind_some, beq_self_eq_true, bne_self_eq_false, Bool.not_true, Bool.false_eq_true, if_false, wrap64, wrapS hi2, ne3]
end
end Vg.Try
