/- Plain laws: deeds. -/
import Derived.Test.YtcobjindoakgmaaP2
namespace Vg.Try
open Go Vg
set_option linter.unusedVariables false
set_option linter.unusedSectionVars false

section
variable {k : Nat} (hk : 9223372036854775808 ≤ k)
include hk

theorem law_Ahead {x : DDeed × DDeed × Unit} (hx : Fits tDeed x.1 ∧ Fits tDeed x.2.1) : F_laws_FnExactAhead k x = some (true, ()) := by
  obtain ⟨a, b, u⟩ := x
  simp only at hx
  simp only [F_laws_FnExactAhead]
  rw [szDeed_ok hk hx.1 (by omega) (by omega), Option.bind_some]
  split
  · rfl
  · rename_i h1
    have h1 := szv_some (by simpa using h1)
    have hle := szv_le (t := tot tDeed a) (left := 1048576) (by omega)
    rw [szDeed_ok hk hx.2 h1.1 hle, Option.bind_some]
    split
    · rfl
    · rename_i h2
      have h2 := szv_some (by simpa using h2)
      rw [toDeed_ok hk (x := a) (by omega), toDeed_ok hk (x := b) (by omega)]
      simp only [Option.bind_some, F_spec_Ahead, F_impl_Ahead]
      rw [eqDeed_ok hk (by omega), eqDeed_ok hk (by omega)]
      simp

def sameA (a b : DAlarm) : Bool := if (if (if decide (a.1 = b.1) = true then (a.2.1 : Int) == b.2.1 else false) = true then (a.2.2.1 : Int) == b.2.2.1 else false) = true then ByteArray.toList a.2.2.2 == ByteArray.toList b.2.2.2 else false

theorem spec_SameAlarm_ok {a b : DAlarm} (ha : tot tAlarm a ≤ 1048576) : F_spec_SameAlarm k (a, b, ()) = some (sameA a b, ()) := by
  have := tot_len (e := tLabel) (l := a.1)
  simp only [F_spec_SameAlarm]
  rw [spec_SameSet_ok hk (by simp only [tot] at ha this ⊢; omega)]
  rfl

theorem impl_SameAlarm_ok {a b : DAlarm} (ha : tot tAlarm a ≤ 1048576) : F_impl_SameAlarm k (a, b, ()) = some (sameA a b, ()) := by
  have := tot_len (e := tLabel) (l := a.1)
  simp only [F_impl_SameAlarm]
  rw [impl_SameSet_ok hk (by simp only [tot] at ha this ⊢; omega)]
  rfl

theorem spec_l4Same_ok {a b : List DAlarm} (ha : tot (.sl tAlarm) a ≤ 1048576) : F_spec_l4Same k (a, b, ()) = some (allEq sameA a b, ()) :=
  eqS_all (d := tAlarm.dflt) (S := F_spec_SameAlarm k) hk (by have := tot_len (e := tAlarm) (l := a); omega) (fun x hx y _ => spec_SameAlarm_ok hk (Nat.le_trans (tot_mem (e := tAlarm) hx) ha))

theorem impl_sameAlarms_ok {a b : List DAlarm} (ha : tot (.sl tAlarm) a ≤ 1048576) : F_impl_sameAlarms k (a, b, ()) = some (allEq sameA a b, ()) :=
  eqR_all (d := tAlarm.dflt) (S := F_impl_SameAlarm k) hk (by have := tot_len (e := tAlarm) (l := a); omega) (fun x hx y _ => impl_SameAlarm_ok hk (Nat.le_trans (tot_mem (e := tAlarm) hx) ha))

theorem tot_deed (x : DDeed) : tot tDeed x = tot tAlarm x.2.2.1 + tot (.sl tLabel) x.2.2.2.1 + tot (.sl tAlarm) x.2.2.2.2.2.2.2.1 := by
  obtain ⟨x1, x2, x3, x4, x5, x6, x7, x8, xr⟩ := x
  simp [tot]; omega

theorem same_deed {a b : DDeed} (ha : tot tDeed a ≤ 1048576) : ∃ r, F_spec_SameDeed k (a, b, ()) = some (r, ()) ∧ F_impl_SameDeed k (a, b, ()) = some (r, ()) := by
  rw [tot_deed hk] at ha
  have hl := tot_len (e := tLabel) (l := a.2.2.2.1)
  apply Exists.intro
  apply And.intro
  · simp only [F_spec_SameDeed]
    rw [spec_SameAlarm_ok hk (by omega), spec_SameSet_ok hk (by omega), spec_l4Same_ok hk (by omega)]
    simp only [ite_some, Option.bind_some]
    rfl
  · simp only [F_impl_SameDeed]
    rw [impl_SameAlarm_ok hk (by omega), impl_SameSet_ok hk (by omega), impl_sameAlarms_ok hk (by omega)]
    simp only [ite_some, Option.bind_some]

theorem law_SameDeed {x : DDeed × DDeed × Unit} (hx : Fits tDeed x.1 ∧ Fits tDeed x.2.1) : F_laws_FnExactSameDeed k x = some (true, ()) := by
  obtain ⟨a, b, u⟩ := x
  simp only at hx
  simp only [F_laws_FnExactSameDeed]
  rw [szDeed_ok hk hx.1 (by omega) (by omega), Option.bind_some]
  split
  · rfl
  · rename_i h1
    have h1 := szv_some (by simpa using h1)
    have hle := szv_le (t := tot tDeed a) (left := 1048576) (by omega)
    rw [szDeed_ok hk hx.2 h1.1 hle, Option.bind_some]
    split
    · rfl
    · rename_i h2
      have h2 := szv_some (by simpa using h2)
      rw [toDeed_ok hk (x := a) (by omega), toDeed_ok hk (x := b) (by omega)]
      obtain ⟨r, e1, e2⟩ := same_deed hk (a := a) (b := b) (by omega)
      simp only [Option.bind_some]
      rw [e1, e2, eqDeed_ok hk (by omega), eqDeed_ok hk (by omega)]
      simp

theorem spec_l15Has_ok {l : List Int} {n : Int} (hl : l.length ≤ 10) : F_spec_l15Has k (l, n, ()) = some (decide (n ∈ l), ()) := by
  simp only [F_spec_l15Has]
  rw [loopN_ix (g := fun (t : List Int × Int × Int × Unit) => some (decide (n ∈ l.drop t.2.2.1.toNat), ())) (m := fun (t : List Int × Int × Int × Unit) => l.length - t.2.2.1.toNat)
    (I := fun (t : List Int × Int × Int × Unit) => t.1 = l ∧ t.2.1 = n ∧ 0 ≤ t.2.2.1 ∧ t.2.2.1 ≤ (l.length : Int))]
  · simp
  · rintro G ⟨l', n', i, u⟩ ⟨e1, e2, hi0, hi1⟩ hG
    change l' = l at e1
    change n' = n at e2
    subst e1 e2
    simp only at hi0 hi1 hG ⊢
    by_cases hi : i < (l'.length : Int)
    · have h1 : i.toNat < l'.length := by omega
      rw [if_pos (by simpa using hi), if_pos (by simpa using ⟨hi0, hi⟩), drop_getD (d := (0 : Int)) h1]
      by_cases he : n' = l'.getD i.toNat 0
      · rw [if_pos (by rw [he]; simp)]
        simp only [List.mem_cons, he, true_or, decide_true]
      · rw [if_neg (by simp only [beq_iff_eq]; exact fun h => he h.symm), wrap64 (by omega) (by omega), hG (l', n', i + 1, ()) ⟨rfl, rfl, by simp only; omega, by simp only; omega⟩ (by simp only; omega)]
        simp only [List.mem_cons, he, false_or]
        rw [show (i + 1).toNat = i.toNat + 1 by omega]
    · rw [if_neg (by simpa using hi), List.drop_eq_nil_of_le (by omega)]
      simp
  · exact ⟨rfl, rfl, by simp, by simp⟩
  · simp only
    omega

theorem codes_ok (op n : Int) : ∃ l, F_spec_l15Codes k (op, ()) = some (l, ()) ∧ l.length ≤ 10 ∧ F_impl_codeFits k (op, n, ()) = some (decide (n ∈ l), ()) := by
  simp only [F_spec_l15Codes, F_impl_codeFits, F_impl_in, Option.bind_some, beq_iff_eq]
  split
  · exact ⟨_, rfl, by simp, by congr 2; rw [Bool.eq_iff_iff]; simp; omega⟩
  split
  · exact ⟨_, rfl, by simp, by congr 2; rw [Bool.eq_iff_iff]; simp; omega⟩
  split
  · exact ⟨_, rfl, by simp, by congr 2; rw [Bool.eq_iff_iff]; simp; omega⟩
  split
  · exact ⟨_, rfl, by simp, by congr 2; rw [Bool.eq_iff_iff]; simp⟩
  split
  · exact ⟨_, rfl, by simp, by congr 2; rw [Bool.eq_iff_iff]; simp; omega⟩
  · exact ⟨_, rfl, by simp, by congr 2; rw [Bool.eq_iff_iff]; simp⟩

theorem deed_ok (d : DDeed) : ∃ r, F_spec_DeedOk k (d, ()) = some r ∧ F_impl_DeedOk k (d, ()) = some r := by
  obtain ⟨op, task, a, l, i, n, code, got, now, inv, lin, res⟩ := d
  obtain ⟨cs, c1, c2, c3⟩ := codes_ok hk op code
  simp only [F_spec_DeedOk, F_impl_DeedOk, F_spec_l1In, F_impl_in, Option.bind_some, ite_some, c1, c3, spec_l15Has_ok hk c2]
  generalize decide (code ∈ cs) = q
  refine ⟨_, rfl, congrArg some (Prod.ext ?_ rfl)⟩
  simp only [apply_ite Prod.fst]
  rw [Bool.eq_iff_iff]
  by_cases hl : lin = -1 <;> by_cases hr : res = -1 <;> by_cases hi : inv ≤ lin <;> by_cases hj : lin ≤ res <;> cases q <;> simp [hl, hr, hi, hj] <;> omega

theorem law_DeedOk {x : DDeed × Unit} (hx : Fits tDeed x.1) : F_laws_FnExactDeedOk k x = some (true, ()) := by
  obtain ⟨a, u⟩ := x
  simp only at hx
  simp only [F_laws_FnExactDeedOk]
  rw [szDeed_ok hk hx (by omega) (by omega), Option.bind_some]
  split
  · rfl
  · rename_i h1
    have h1 := szv_some (by simpa using h1)
    rw [toDeed_ok hk (x := a) (by omega)]
    obtain ⟨r, e1, e2⟩ := deed_ok hk a
    simp only [Option.bind_some]
    rw [e1, e2, eqDeed_ok hk (by omega)]
    simp

end
end Vg.Try
