/- Plain laws of what the functions compute: sizes, copies, comparisons. -/
import Derived.Test.YtcobjindoakgmaaVc
import Derived.Test.YtcobjindoakgmaaF
namespace Vg.Try
open Go Vg
set_option linter.unusedVariables false
set_option linter.unusedSectionVars false

section
variable {k : Nat} (hk : 9223372036854775808 ≤ k)
include hk

theorem szLabel_ok {x : DLabel} {left : Int} (hx : Fits tLabel x) (h0 : 0 ≤ left) (h1 : left ≤ 1048576) : F_laws_szLabel k (x, left, ()) = some (szv (tot tLabel x) left, ()) := by
  obtain ⟨a, b⟩ := x
  have ht : tot tLabel (a, b) = a.size + b.size := rfl
  simp only [F_laws_szLabel, ht]
  rw [str_neg hx.1 h0 h1]
  by_cases h : szv a.size left < 0
  · rw [if_pos (by simpa using h), szv_over h]
  · have hs := szv_some h
    have hl := szv_le (t := a.size) h0
    rw [if_neg (by simpa using h), str_wrap hx.1 h0 h1 h, str_neg hx.2 hs.1 (by omega), szv_add h]
    by_cases h2 : szv (a.size + b.size) left < 0
    · rw [if_pos (by simpa using h2)]
      rw [szv_neg] at h2
      unfold szv
      rw [if_neg h2]
    · rw [if_neg (by simpa using h2), str_wrap hx.2 hs.1 (by omega) (by rw [szv_add h]; exact h2), szv_add h]

theorem szLabelS_ok {x : List DLabel} {left : Int} (hx : Fits (.sl tLabel) x) (h0 : 0 ≤ left) (h1 : left ≤ 1048576) : F_laws_szLabelS k (x, left, ()) = some (szv (tot (.sl tLabel) x) left, ()) :=
  szS_ok (d := tLabel.dflt) (S := F_laws_szLabel k) hk hx.1 h0 h1 (fun e he l a b => szLabel_ok hk (hx.2 e he) a b)

theorem szAlarm_ok {x : DAlarm} {left : Int} (hx : Fits tAlarm x) (h0 : 0 ≤ left) (h1 : left ≤ 1048576) : F_laws_szAlarm k (x, left, ()) = some (szv (tot tAlarm x) left, ()) := by
  obtain ⟨l, s, e, n⟩ := x
  simp only [F_laws_szAlarm]
  rw [szLabelS_ok hk hx.1 h0 h1, Option.bind_some]
  have ht : tot tAlarm (l, s, e, n) = tot (.sl tLabel) l + n.size := by simp [tot]
  rw [ht]
  by_cases h : szv (tot (.sl tLabel) l) left < 0
  · rw [if_pos (by simpa using h), szv_over h]
  · have hs := szv_some h
    have hl := szv_le (t := tot (.sl tLabel) l) h0
    rw [if_neg (by simpa using h)]
    simp only
    rw [str_neg hx.2.2.2 hs.1 (by omega), szv_add h]
    by_cases h2 : szv (tot (.sl tLabel) l + n.size) left < 0
    · rw [if_pos (by simpa using h2)]
      rw [szv_neg] at h2
      unfold szv
      rw [if_neg h2]
    · rw [if_neg (by simpa using h2), str_wrap hx.2.2.2 hs.1 (by omega) (by rw [szv_add h]; exact h2), szv_add h]

theorem szAlarmS_ok {x : List DAlarm} {left : Int} (hx : Fits (.sl tAlarm) x) (h0 : 0 ≤ left) (h1 : left ≤ 1048576) : F_laws_szAlarmS k (x, left, ()) = some (szv (tot (.sl tAlarm) x) left, ()) :=
  szS_ok (d := tAlarm.dflt) (S := F_laws_szAlarm k) hk hx.1 h0 h1 (fun e he l a b => szAlarm_ok hk (hx.2 e he) a b)

theorem szDeed_ok {x : DDeed} {left : Int} (hx : Fits tDeed x) (h0 : 0 ≤ left) (h1 : left ≤ 1048576) : F_laws_szDeed k (x, left, ()) = some (szv (tot tDeed x) left, ()) := by
  obtain ⟨x1, x2, x3, x4, x5, x6, x7, x8, xr⟩ := x
  simp only [F_laws_szDeed]
  rw [szAlarm_ok hk hx.2.2.1 h0 h1, Option.bind_some]
  have ht : tot tDeed (x1, x2, x3, x4, x5, x6, x7, x8, xr) = tot tAlarm x3 + tot (.sl tLabel) x4 + tot (.sl tAlarm) x8 := by simp [tot]; omega
  rw [ht]
  by_cases h : szv (tot tAlarm x3) left < 0
  · rw [if_pos (by simpa using h), Nat.add_assoc, szv_over h]
  · have hs := szv_some h
    have hl := szv_le (t := tot tAlarm x3) h0
    rw [if_neg (by simpa using h), szLabelS_ok hk hx.2.2.2.1 hs.1 (by omega), Option.bind_some, szv_add h]
    clear h hs hl
    by_cases h : szv (tot tAlarm x3 + tot (.sl tLabel) x4) left < 0
    · rw [if_pos (by simpa using h), szv_over h]
    · have hs := szv_some h
      have hl := szv_le (t := tot tAlarm x3 + tot (.sl tLabel) x4) h0
      rw [if_neg (by simpa using h), szAlarmS_ok hk hx.2.2.2.2.2.2.2.1 hs.1 (by omega), Option.bind_some, szv_add h]
      clear h hs hl
      by_cases h : szv (tot tAlarm x3 + tot (.sl tLabel) x4 + tot (.sl tAlarm) x8) left < 0
      · rw [if_pos (by simpa using h)]
        rw [szv_neg] at h
        unfold szv
        rw [if_neg h]
      · rw [if_neg (by simpa using h)]

theorem toLabel_ok (x : DLabel) : F_laws_toLabel k (x, ()) = some (x, ()) := rfl

theorem toLabelS_ok {x : List DLabel} (h : tot (.sl tLabel) x ≤ 1048576) : F_laws_toLabelS k (x, ()) = some (x, ()) :=
  toS_ok (d := tLabel.dflt) (S := F_laws_toLabel k) hk (by simp only [tot] at h; omega) (fun e _ => toLabel_ok hk e)

theorem toAlarm_ok {x : DAlarm} (h : tot tAlarm x ≤ 1048576) : F_laws_toAlarm k (x, ()) = some (x, ()) := by
  obtain ⟨l, s, e, n⟩ := x
  simp only [F_laws_toAlarm]
  rw [toLabelS_ok hk (by simp only [tot] at h ⊢; omega)]
  rfl

theorem toAlarmS_ok {x : List DAlarm} (h : tot (.sl tAlarm) x ≤ 1048576) : F_laws_toAlarmS k (x, ()) = some (x, ()) :=
  toS_ok (d := tAlarm.dflt) (S := F_laws_toAlarm k) hk (by simp only [tot] at h; omega) (fun e he => toAlarm_ok hk (Nat.le_trans (tot_mem (e := tAlarm) he) h))

theorem toDeed_ok {x : DDeed} (h : tot tDeed x ≤ 1048576) : F_laws_toDeed k (x, ()) = some (x, ()) := by
  obtain ⟨x1, x2, x3, x4, x5, x6, x7, x8, xr⟩ := x
  have ht : tot tDeed (x1, x2, x3, x4, x5, x6, x7, x8, xr) = tot tAlarm x3 + tot (.sl tLabel) x4 + tot (.sl tAlarm) x8 := by simp [tot]; omega
  rw [ht] at h
  simp only [F_laws_toDeed]
  rw [toAlarm_ok hk (by omega), toLabelS_ok hk (by omega), toAlarmS_ok hk (by omega)]
  rfl

theorem eqLabel_ok (x : DLabel) : F_laws_eqLabel k (x, x, ()) = some (true, ()) := by simp [F_laws_eqLabel]

theorem eqLabelS_ok {x : List DLabel} (h : tot (.sl tLabel) x ≤ 1048576) : F_laws_eqLabelS k (x, x, ()) = some (true, ()) :=
  eqS_ok (d := tLabel.dflt) (S := F_laws_eqLabel k) hk (by simp only [tot] at h; omega) (fun e _ => eqLabel_ok hk e)

theorem eqAlarm_ok {x : DAlarm} (h : tot tAlarm x ≤ 1048576) : F_laws_eqAlarm k (x, x, ()) = some (true, ()) := by
  obtain ⟨l, s, e, n⟩ := x
  simp only [F_laws_eqAlarm]
  rw [eqLabelS_ok hk (by simp only [tot] at h ⊢; omega)]
  simp

theorem eqAlarmS_ok {x : List DAlarm} (h : tot (.sl tAlarm) x ≤ 1048576) : F_laws_eqAlarmS k (x, x, ()) = some (true, ()) :=
  eqS_ok (d := tAlarm.dflt) (S := F_laws_eqAlarm k) hk (by simp only [tot] at h; omega) (fun e he => eqAlarm_ok hk (Nat.le_trans (tot_mem (e := tAlarm) he) h))

theorem eqDeed_ok {x : DDeed} (h : tot tDeed x ≤ 1048576) : F_laws_eqDeed k (x, x, ()) = some (true, ()) := by
  obtain ⟨x1, x2, x3, x4, x5, x6, x7, x8, xr⟩ := x
  have ht : tot tDeed (x1, x2, x3, x4, x5, x6, x7, x8, xr) = tot tAlarm x3 + tot (.sl tLabel) x4 + tot (.sl tAlarm) x8 := by simp [tot]; omega
  rw [ht] at h
  simp only [F_laws_eqDeed]
  rw [eqAlarm_ok hk (by omega), eqLabelS_ok hk (by omega), eqAlarmS_ok hk (by omega)]
  simp

end
end Vg.Try
