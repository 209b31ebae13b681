/- Plain laws of draws: each ends; what it answers is small. -/
import Derived.Test.YtmoafmclhokdaaaVd
import Derived.Test.YtmoafmclhokdaaaQ1
namespace Vg.Try
open Go Vg
set_option linter.unusedVariables false
set_option linter.unusedSectionVars false
set_option linter.unusedSimpArgs false

section
variable {k : Nat} (hk : 9223372036854775808 ≤ k)
include hk

theorem l1New_dr {b : List Int} (hb : b.length ≤ 1048576) : Dr (F_spec_l1New k (b, ())) (fun r => CurOk r.1) := by
  simp only [F_spec_l1New]
  refine drJ (fun s => s.1 = b) (fun s hs => drS ⟨by rw [hs]; exact hb, by simp, by simp⟩) (fun J hJ => ?_)
  refine drL (fun s => b.length - s.2.2.1.toNat) (fun s => s.1 = b ∧ 0 ≤ s.2.2.1 ∧ s.2.2.1 ≤ (b.length : Int)) ?_ ⟨rfl, by simp, by simp⟩ (by simp only; omega)
  rintro G ⟨s, h, i, u⟩ ⟨e, h0, h1⟩ hG
  change s = b at e
  change 0 ≤ i at h0
  change i ≤ (b.length : Int) at h1
  subst e
  dsimp only
  refine drI (fun hc => ?_) (fun hc => hJ _ rfl)
  have hi : i < (s.length : Int) := by
    by_cases hi : i < (s.length : Int)
    · exact hi
    · simp [hi] at hc
  refine drT (by simp; omega) (hG _ ⟨rfl, ?_, ?_⟩ ?_) <;> (dsimp only; rw [wrap64 (by omega) (by omega)]; omega)

theorem l1Byte_dr {c : DL1Cur} (hc : CurOk c) : Dr (F_spec_l1Byte k (c, ())) (fun r => CurOk r.2.1 ∧ 0 ≤ r.1 ∧ r.1 ≤ 255) := by
  obtain ⟨b, i, h⟩ := c
  obtain ⟨h1, h2, h3⟩ := hc
  dsimp only at h1 h2 h3
  simp only [F_spec_l1Byte]
  refine drT (by decide) (drT (by decide) ?_)
  refine drI (fun hi => ?_) (fun hi => ?_)
  · have hi : i < (b.length : Int) := by simpa using hi
    refine drT (by simp; omega) (drS ⟨⟨h1, ?_, ?_⟩, and255 _⟩) <;> (dsimp only; rw [wrap64 (by omega) (by omega)]; omega)
  · exact drS ⟨⟨h1, h2, h3⟩, and255 _⟩

theorem l1Below_dr {c : DL1Cur} {n : Int} (hc : CurOk c) : Dr (F_spec_l1Below k (c, n, ())) (fun r => CurOk r.2.1 ∧ 0 ≤ r.1 ∧ (r.1 < n ∨ r.1 = 0)) := by
  simp only [F_spec_l1Below]
  refine drI (fun hn => drS ⟨hc, by simp, by simp⟩) (fun hn => ?_)
  have hn : 0 < n := by simpa using hn
  refine drI (fun hn2 => ?_) (fun hn2 => ?_)
  · refine drB (l1Byte_dr hk hc) (fun r hr => drT (by simp; omega) (drS ⟨hr.1, ?_, .inl ?_⟩))
    · exact Int.tmod_nonneg _ hr.2.1
    · exact Int.tmod_lt_of_pos _ hn
  · refine drB (l1Byte_dr hk hc) (fun r hr => drB (l1Byte_dr hk hr.1) (fun r2 hr2 => drB (l1Byte_dr hk hr2.1) (fun r3 hr3 => drT (by simp; omega) (drS ⟨hr3.1, ?_, .inl ?_⟩))))
    · refine Int.tmod_nonneg _ ?_
      have h1 := hr.2; have h2 := hr2.2; have h3 := hr3.2
      rw [wrap64 (n := r.1 * 65536) (by omega) (by omega), wrap64 (n := r2.1 * 256) (by omega) (by omega), wrap64 (n := r.1 * 65536 + r2.1 * 256) (by omega) (by omega), wrap64 (by omega) (by omega)]
      omega
    · exact Int.tmod_lt_of_pos _ hn

theorem l1Once_dr {c : DL1Cur} {n : Int} (hc : CurOk c) : Dr (F_spec_l1Once k (c, n, ())) (fun r => CurOk r.2.1) := by
  simp only [F_spec_l1Once]
  exact drB (l1Below_dr hk hc) (fun r hr => drS hr.1)

theorem l1Int_dr {c : DL1Cur} {l : List Int} (hc : CurOk c) (hl : 0 < l.length) : Dr (F_spec_l1Int k (c, l, ())) (fun r => CurOk r.2.1 ∧ r.1 ∈ l) := by
  simp only [F_spec_l1Int]
  refine drB (l1Below_dr hk hc) (fun r hr => drT (by simp; omega) (drS ⟨hr.1, ?_⟩))
  exact getD_mem (by omega)

theorem l1Str_dr {c : DL1Cur} {l : List ByteArray} (hc : CurOk c) (hl : 0 < l.length) : Dr (F_spec_l1Str k (c, l, ())) (fun r => CurOk r.2.1 ∧ r.1 ∈ l) := by
  simp only [F_spec_l1Str]
  refine drB (l1Below_dr hk hc) (fun r hr => drT (by simp; omega) (drS ⟨hr.1, ?_⟩))
  exact getD_mem (by omega)

end
end Vg.Try
