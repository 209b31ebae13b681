/- CodeName: both readings, walked. -/
import Derived.Test.YtcgneeppjblmfaaDoorSplit
import Derived.Test.YtcgneeppjblmfaaDoorRows
import Derived.WalkKit
import Derived.ProofKit
import Derived.OpenShut
namespace Go.Proofs.YtcgneeppjblmfaaDoor
open Go.Shelf Go.RowKit Go.Lib
set_option linter.unusedVariables false
set_option linter.unusedSimpArgs false

def codes : List ByteArray := [⟨#[110, 101, 119]⟩, ⟨#[109, 101, 114, 103, 101, 100]⟩, ⟨#[102, 117, 108, 108]⟩, ⟨#[102, 111, 114, 109]⟩, ⟨#[102, 111, 117, 110, 100]⟩, ⟨#[110, 111, 110, 101]⟩, ⟨#[108, 97, 103]⟩, ⟨#[100, 111, 110, 101]⟩]
def codeOf (n : Int) : ByteArray := if 1 ≤ n ∧ n ≤ 8 then codes.getD (n - 1).toNat ByteArray.empty else ByteArray.empty

theorem spec_in (n : Int) (w : World) : Calls Tryd.prog 6 #[.int .i64 n, .int .i64 1, .int .i64 8] w fun e w' => e = .returned (.bool (decide (1 ≤ n ∧ n ≤ 8))) ∧ w' = w := by
  by_cases h1 : 1 ≤ n <;> by_cases h2 : n ≤ 8
  all_goals
    go_enter Tryd.func6, Tryd.ntmps6
    go_wp2
    go_ret
    simp [h1, h2]

theorem impl_in (n : Int) (w : World) : Calls Tryd.prog 7 #[.int .i64 n, .int .i64 1, .int .i64 8] w fun e w' => e = .returned (.bool (decide (1 ≤ n ∧ n ≤ 8))) ∧ w' = w := by
  by_cases h1 : 1 ≤ n <;> by_cases h2 : n ≤ 8
  all_goals
    go_enter Tryd.func7, Tryd.ntmps7
    go_wp2
    go_ret
    simp [h1, h2]

theorem spec_name (n : Int) (w : World) : Calls Tryd.prog 4 #[.int .i64 n] w fun e w' => e = .returned (.string (codeOf n)) ∧ Grown w w' := by
  by_cases h : 1 ≤ n ∧ n ≤ 8
  rotate_left
  · have hd : decide (1 ≤ n ∧ n ≤ 8) = false := by simp; omega
    have hc : codeOf n = ByteArray.empty := if_neg h
    rw [hc]
    go_enter Tryd.func4, Tryd.ntmps4
    go_wp2_with (refine (spec_in n _).mono ?_; rintro e w' ⟨rfl, rfl⟩; rw [hd])
    go_ret
    exact ⟨rfl, by repeat (first | exact Grown.refl _ | apply Grown.drew | apply Grown.alloc)⟩
  · have hn : n = 1 ∨ n = 2 ∨ n = 3 ∨ n = 4 ∨ n = 5 ∨ n = 6 ∨ n = 7 ∨ n = 8 := by omega
    clear h
    rcases hn with rfl | rfl | rfl | rfl | rfl | rfl | rfl | rfl
    all_goals
      go_enter Tryd.func4, Tryd.ntmps4
      go_wp2
      go_ret
      exact ⟨rfl, by repeat (first | exact Grown.refl _ | apply Grown.drew | apply Grown.alloc)⟩

def allCodes : ByteArray := ⟨#[110, 101, 119, 32, 109, 101, 114, 103, 101, 100, 32, 102, 117, 108, 108, 32, 102, 111, 114, 109, 32, 102, 111, 117, 110, 100, 32, 110, 111, 110, 101, 32, 108, 97, 103, 32, 100, 111, 110, 101]⟩
def blank : ByteArray := ⟨#[32]⟩
theorem split_count : Lib.countB allCodes blank = 7 := by kernel_rfl
theorem split_codes : Lib.splitB blank 0 7 allCodes = codes := by kernel_rfl

theorem split_all (m : Int) (w : World) (hm : w.cell? ⟨0, 0, none⟩ = some (.int .i64 m)) :
    Calls Tryd.prog 8 #[.string allCodes, .string blank] w fun e w' =>
      e = .returned (.slice (some ⟨w.heap.size, 0, none⟩) 8 8) ∧ w' = w.alloc (.cells (codes.map Value.string).toArray 9) := by
  have h := Tryd.strings_Split allCodes blank m w (by decide) hm (by decide)
  rw [split_count, split_codes] at h
  exact h

theorem impl_name (n m : Int) (w : World) (hm : w.cell? ⟨0, 0, none⟩ = some (.int .i64 m)) :
    Calls Tryd.prog 5 #[.int .i64 n] w fun e w' => e = .returned (.string (codeOf n)) ∧ Grown w w' := by
  by_cases h : 1 ≤ n ∧ n ≤ 8
  rotate_left
  · have hd : decide (1 ≤ n ∧ n ≤ 8) = false := by simp; omega
    have hc : codeOf n = ByteArray.empty := if_neg h
    rw [hc]
    go_enter Tryd.func5, Tryd.ntmps5
    go_wp2_with (refine (impl_in n _).mono ?_; rintro e w' ⟨rfl, rfl⟩; rw [hd])
    go_ret
    exact ⟨rfl, by repeat (first | exact Grown.refl _ | apply Grown.drew | apply Grown.alloc)⟩
  · have hn : n = 1 ∨ n = 2 ∨ n = 3 ∨ n = 4 ∨ n = 5 ∨ n = 6 ∨ n = 7 ∨ n = 8 := by omega
    have hd : decide (1 ≤ n ∧ n ≤ 8) = true := by simp; omega
    clear h
    rcases hn with rfl | rfl | rfl | rfl | rfl | rfl | rfl | rfl
    all_goals
      go_enter Tryd.func5, Tryd.ntmps5
      go_wp2_with (first | (refine (impl_in _ _).mono ?_; rintro e w' ⟨rfl, rfl⟩; rw [hd]) | (refine (split_all m _ hm).mono ?_; rintro e w' ⟨rfl, rfl⟩; simp only [codes, List.map_cons, List.map_nil]))
      go_ret
      exact ⟨rfl, by repeat (first | exact Grown.refl _ | apply Grown.drew | apply Grown.alloc)⟩

theorem grown_cell {W W' : World} (h : Grown W W') {v : Value} (hc : W.cell? ⟨0, 0, none⟩ = some v) : W'.cell? ⟨0, 0, none⟩ = some v := by
  have hb : (0 : Nat) < W.heap.size := by
    rcases Nat.eq_zero_or_pos W.heap.size with e | e
    · have : W.heap[0]? = none := by simp [e]
      simp [World.cell?, this] at hc
    · exact e
  exact (h.1.cell hb (fun f => f)).trans hc

theorem law_walk (n m : Int) (w : World) (hm : w.cell? ⟨0, 0, none⟩ = some (.int .i64 m)) : Calls Tryd.prog 3 #[.int .i64 n] w fun e w' => e = .returned (.bool true) ∧ Grown w w' := by
  go_enter Tryd.func3, Tryd.ntmps3
  go_wp2_with (first | (refine (spec_name n _).mono ?_; rintro e w1 ⟨rfl, g1⟩) | (refine (impl_name n m _ (grown_cell g1 hm)).mono ?_; rintro e w2 ⟨rfl, g2⟩))
  go_ret
  exact ⟨rfl, World.keptBut_trans g1.1 g2.1, fun a => (g2.2.1 a).trans (g1.2.1 a), Nat.le_trans g1.2.2 g2.2.2⟩

end Go.Proofs.YtcgneeppjblmfaaDoor
