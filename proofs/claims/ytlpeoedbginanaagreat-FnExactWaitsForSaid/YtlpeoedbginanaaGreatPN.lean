/- Plain laws: locks as the plain reading counts them; groups that are timed. -/
import Derived.Test.YtlpeoedbginanaaGreatPM
namespace Vg.Tryz
open Go Vg
set_option linter.unusedVariables false
set_option linter.unusedSectionVars false
set_option linter.unusedSimpArgs false

def heldL (k : Nat) (w : DWorld) (j : Nat) : List Int := (List.range w.2.2.2.1.length).map (fun i : Nat => whoF (fun a => decide (holdAt k w a = (i : Int))) j)

theorem heldL_len (k : Nat) (w : DWorld) (j : Nat) : (heldL k w j).length = w.2.2.2.1.length := by simp [heldL]

theorem heldL_at (k : Nat) (w : DWorld) (j : Nat) {i : Nat} (hi : i < w.2.2.2.1.length) : (heldL k w j).getD i 0 = whoF (fun a => decide (holdAt k w a = (i : Int))) j := by
  simp [heldL, List.getD_eq_getElem?_getD, List.getElem?_map, List.getElem?_range hi]

theorem heldL_set (k : Nat) (w : DWorld) (j : Nat) (h : 0 ≤ holdAt k w j) : (heldL k w j).set (holdAt k w j).toNat (j : Int) = heldL k w (j + 1) := by
  apply List.ext_getElem
  · simp [heldL]
  · intro i h1 h2
    simp only [heldL, List.getElem_set, List.getElem_map, List.getElem_range, whoF, decide_eq_true_eq]
    by_cases e : holdAt k w j = (i : Int)
    · rw [if_pos (by omega), if_pos e]
    · rw [if_neg (by omega), if_neg e]

theorem heldL_keep (k : Nat) (w : DWorld) (j : Nat) (h : holdAt k w j < 0) : heldL k w j = heldL k w (j + 1) := by
  unfold heldL
  apply List.map_congr_left
  intro i _
  simp only [whoF, decide_eq_true_eq]
  rw [if_neg (by omega)]

theorem heldL_zero (k : Nat) (w : DWorld) : heldL k w 0 = List.replicate w.2.2.2.1.length (-1) := by
  apply List.ext_getElem
  · simp [heldL]
  · intro i h1 h2
    simp [heldL, whoF]

section
variable {k : Nat} (hk : 9223372036854775808 ≤ k)
include hk

theorem spec_l16Locks_ok {w : DWorld} (hs : tot tWorld w ≤ 1048576) (hp : ∀ i, i < w.2.2.2.1.length → inB (w.2.2.2.1.getD i tPart.dflt).1 (-1) 4 = true) (ht : w.2.2.2.2.2.2.2.2.2.2.2.2.1.length = 5)
    (hh : ∀ j, j < 5 → holdAt k w j < w.2.2.2.1.length) : F_spec_l16Locks k (w, ()) = some (okLocks k w, ()) := by
  rw [← locks_same hp ht hh]
  obtain ⟨_, w2, _, _, _, _, _, w8, w9⟩ := world_parts hk hs
  have hn := tot_len (e := tPart) (l := w.2.2.2.1)
  have htask : ∀ j : Nat, tot tTask (w.2.2.2.2.2.2.2.2.2.2.2.2.1.getD j tTask.dflt) ≤ 1048576 := fun j => any_at hk (e := tTask) rfl w8 j
  simp only [F_spec_l16Locks, joinC]
  refine loop_run (fun i : Nat => (w, List.replicate i (-1 : Int), (i : Int), ())) w.2.2.2.1.length (fun G i hi => ?_) (fun G => ?_) k 0 (by omega) (by omega)
  · simp only [lt_nat, hi, decide_true, if_true, List.length_replicate, List.length_cons, List.length_nil]
    rw [if_pos (by simp only [decide_eq_true_eq]; omega), wrapS (by omega), List.replicate_succ']
  simp only [lt_nat, Nat.lt_irrefl, decide_false, Bool.false_eq_true, if_false]
  rw [← heldL_zero k w]
  refine (loop_alln (fun j : Nat => (w, heldL k w j, whoF (grAt w) j, (j : Int), ())) (passAt k w) w.2.2.2.2.2.2.2.2.2.2.2.2.1.length
    (e := some (allB 0 w.2.2.2.1.length (fun i => decide ((w.2.2.2.1.getD i tPart.dflt).1 = whoF (fun a => decide (holdAt k w a = i)) w.2.2.2.2.2.2.2.2.2.2.2.2.1.length)) &&
      decide (w.2.2.2.2.2.2.1 = whoF (grAt w) w.2.2.2.2.2.2.2.2.2.2.2.2.1.length), ())) (no := some (false, ())) ?_ ?_ k 0 (by omega) (by omega)).trans ?_
  · intro G j hj
    have hlt := hh j (by omega)
    simp only [lt_nat, in_nat hj, hj, decide_true, if_true, Int.toNat_natCast, spec_HoldsPart_ok hk (htask j), spec_HoldsGroups_ok hk, Option.bind_some, bne_dec, heldL_len]
    change (if decide (holdAt k w j ≥ 0) = true then (if decide (0 ≤ holdAt k w j ∧ holdAt k w j < (w.2.2.2.1.length : Int)) = true then (if (!decide ((heldL k w j).getD (holdAt k w j).toNat 0 = -1)) = true then some (false, ()) else (if decide (0 ≤ holdAt k w j ∧ holdAt k w j < (w.2.2.2.1.length : Int)) = true then
        (if grAt w j = true then (if (!decide (whoF (grAt w) j = -1)) = true then some (false, ()) else G (w, (heldL k w j).set (holdAt k w j).toNat (j : Int), (j : Int), IntKind.i64.wrap ((j : Int) + 1), ())) else G (w, (heldL k w j).set (holdAt k w j).toNat (j : Int), whoF (grAt w) j, IntKind.i64.wrap ((j : Int) + 1), ())) else none)) else none) else
        (if grAt w j = true then (if (!decide (whoF (grAt w) j = -1)) = true then some (false, ()) else G (w, heldL k w j, (j : Int), IntKind.i64.wrap ((j : Int) + 1), ())) else G (w, heldL k w j, whoF (grAt w) j, IntKind.i64.wrap ((j : Int) + 1), ()))) = _
    rw [wrapS (by omega)]
    have hg : grAt w j = true → whoF (grAt w) (j + 1) = (j : Int) := fun h => by simp [whoF, h]
    have hg2 : grAt w j = false → whoF (grAt w) (j + 1) = whoF (grAt w) j := fun h => by simp [whoF, h]
    unfold passAt
    by_cases h0 : 0 ≤ holdAt k w j
    · rw [if_pos (by simpa using h0), if_pos (by simp only [decide_eq_true_eq]; omega), heldL_at k w j (show (holdAt k w j).toNat < _ by omega), heldL_set k w j h0, Int.toNat_of_nonneg h0]
      rw [show decide (holdAt k w j < 0) = false by simp only [decide_eq_false_iff_not]; omega]
      by_cases hw : whoF (fun a => decide (holdAt k w a = holdAt k w j)) j = -1
      · rw [if_neg (by simp [hw])]
        cases hgr : grAt w j with
        | true => rw [hg hgr]; by_cases hw2 : whoF (grAt w) j = -1 <;> simp [hw, hw2] <;> omega
        | false => rw [hg2 hgr]; simp [hw]; omega
      · rw [if_pos (by simp [hw])]; simp [hw]
    · rw [if_neg (by simp; omega), heldL_keep k w j (by omega)]
      rw [show decide (holdAt k w j < 0) = true by simp only [decide_eq_true_eq]; omega]
      cases hgr : grAt w j with
      | true => rw [hg hgr]; by_cases hw2 : whoF (grAt w) j = -1 <;> simp [hw2]
      | false => rw [hg2 hgr]; simp
  · intro G
    simp only [lt_nat, Nat.lt_irrefl, decide_false, Bool.false_eq_true, if_false]
    generalize w.2.2.2.2.2.2.2.2.2.2.2.2.1.length = m
    refine (loop_alln (fun i : Nat => (w, heldL k w m, whoF (grAt w) m, (i : Int), ())) (fun i => decide ((w.2.2.2.1.getD i tPart.dflt).1 = whoF (fun a => decide (holdAt k w a = i)) m)) w.2.2.2.1.length
      (e := some (decide (w.2.2.2.2.2.2.1 = whoF (grAt w) m), ())) (no := some (false, ())) ?_ ?_ k 0 (by omega) (by omega)).trans ?_
    · intro G2 i hi
      simp only [lt_nat, heldL_len, in_nat hi, hi, decide_true, if_true, Int.toNat_natCast, bne_dec, heldL_at k w m hi]
      rw [wrapS (by omega)]
      rcases Bool.eq_false_or_eq_true (decide ((w.2.2.2.1.getD i tPart.dflt).1 = whoF (fun a => decide (holdAt k w a = (i : Int))) m)) with h | h <;> simp only [h, Bool.not_true, Bool.not_false, Bool.false_eq_true, if_false, if_true]
    · intro G2
      simp only [lt_nat, Nat.lt_irrefl, decide_false, Bool.false_eq_true, if_false, beq_dec]
    · cases allB 0 w.2.2.2.1.length (fun i => decide ((w.2.2.2.1.getD i tPart.dflt).1 = whoF (fun a => decide (holdAt k w a = i)) m)) <;> simp
  · generalize w.2.2.2.2.2.2.2.2.2.2.2.2.1.length = m
    cases allB 0 m (passAt k w) <;> simp

end
end Vg.Tryz
