/- impl.SetLess reads: by hand. -/
import Derived.Test.YtlpeoedbginanaaGreatVc
import Derived.Test.YtlpeoedbginanaaGreatProg
import Derived.Deep.QuietTactic
import Derived.WalkKit
namespace Go.Proofs
open Go.RowKit

def vgIntOf : Value → Int | .int _ q => q | _ => 0

set_option maxHeartbeats 4000000 in
set_option maxRecDepth 100000 in
theorem Tryz.setLess_reads (pa pb : Option Addr) (ca cb : Nat) (a b : List (ByteArray × ByteArray)) (W : World) (la : a.length < 4611686018427387904) (lb : b.length < 4611686018427387904)
    (ha : ∀ i, i < a.length → ∃ bk o, pa = some ⟨bk, o, none⟩ ∧ W.cell? ⟨bk, o + i * 2, none⟩ = some (.string (a.getD i (ByteArray.empty, ByteArray.empty)).1) ∧ W.cell? ⟨bk, o + i * 2 + 1, none⟩ = some (.string (a.getD i (ByteArray.empty, ByteArray.empty)).2))
    (hb : ∀ i, i < b.length → ∃ bk o, pb = some ⟨bk, o, none⟩ ∧ W.cell? ⟨bk, o + i * 2, none⟩ = some (.string (b.getD i (ByteArray.empty, ByteArray.empty)).1) ∧ W.cell? ⟨bk, o + i * 2 + 1, none⟩ = some (.string (b.getD i (ByteArray.empty, ByteArray.empty)).2)) :
    Calls Tryz.prog 352 #[.slice pa a.length ca, .slice pb b.length cb] W fun e w' => e = .returned (.bool (Vg.setLess a b)) ∧ ∃ q, w' = W.drewN q := by
  go_enter Tryz.func352, Tryz.ntmps352
  go_wp2
  go_loopw [5] (fun vi wr => ∃ (t q : Nat), vi = .int .i64 (t : Int) ∧ t ≤ a.length ∧ t ≤ b.length ∧ wr = W.drewN q ∧ Vg.setLess a b = Vg.setLess (a.drop t) (b.drop t)) (fun vi _ => a.length + 1 - (vgIntOf vi).toNat)
  case atStart => exact ⟨0, 0, rfl, by omega, by omega, rfl, rfl⟩
  case round =>
    obtain ⟨t, q, rfl, ht1, ht2, hw, hR⟩ := hrel
    by_cases hin : t < a.length ∧ t < b.length
    · obtain ⟨hi1, hi2⟩ := hin
      obtain ⟨ba, oa, ea, a1, a2⟩ := ha t hi1
      obtain ⟨bb, ob, eb, b1, b2⟩ := hb t hi2
      have c1 : wr.cell? ⟨ba, oa + t * 2, none⟩ = some (.string (a.getD t (ByteArray.empty, ByteArray.empty)).1) := by rw [hw]; exact a1
      have c2 : wr.cell? ⟨ba, oa + t * 2 + 1, none⟩ = some (.string (a.getD t (ByteArray.empty, ByteArray.empty)).2) := by rw [hw]; exact a2
      have c3 : wr.cell? ⟨bb, ob + t * 2, none⟩ = some (.string (b.getD t (ByteArray.empty, ByteArray.empty)).1) := by rw [hw]; exact b1
      have c4 : wr.cell? ⟨bb, ob + t * 2 + 1, none⟩ = some (.string (b.getD t (ByteArray.empty, ByteArray.empty)).2) := by rw [hw]; exact b2
      have hs : Vg.setLess (a.drop t) (b.drop t) = if (a.getD t (ByteArray.empty, ByteArray.empty)).1.toList == (b.getD t (ByteArray.empty, ByteArray.empty)).1.toList then (if (a.getD t (ByteArray.empty, ByteArray.empty)).2.toList == (b.getD t (ByteArray.empty, ByteArray.empty)).2.toList then Vg.setLess (a.drop (t + 1)) (b.drop (t + 1)) else Vg.lessB (a.getD t (ByteArray.empty, ByteArray.empty)).2 (b.getD t (ByteArray.empty, ByteArray.empty)).2) else Vg.lessB (a.getD t (ByteArray.empty, ByteArray.empty)).1 (b.getD t (ByteArray.empty, ByteArray.empty)).1 := by
        rw [List.drop_eq_getElem_cons hi1, List.drop_eq_getElem_cons hi2]
        simp only [Vg.setLess, List.getD_eq_getElem?_getD, List.getElem?_eq_getElem hi1, List.getElem?_eq_getElem hi2, Option.getD_some]
      generalize (a.getD t (ByteArray.empty, ByteArray.empty)).1 = x1 at c1 hs
      generalize (a.getD t (ByteArray.empty, ByteArray.empty)).2 = x2 at c2 hs
      generalize (b.getD t (ByteArray.empty, ByteArray.empty)).1 = y1 at c3 hs
      generalize (b.getD t (ByteArray.empty, ByteArray.empty)).2 = y2 at c4 hs
      subst ea eb
      have HW : Hid (wr = W.drewN q) := hw
      have HR : Hid (Vg.setLess a b = Vg.setLess (a.drop t) (b.drop t)) := hR
      have HS : Hid (_ = _) := hs
      clear hw hR hs ha hb a1 a2 b1 b2
      go_wp2
      go_quiet (fail)
      go_wp2
      · have hne : (!x1.toList == y1.toList) = true := by assumption
        go_quiet (fail)
        go_wp2
        go_ret
        have hv : Vg.setLess a b = Op.bytesLess x1.toList y1.toList := by
          rw [HR.out, HS.out, if_neg (by simpa using hne)]; rfl
        refine ⟨?_, _, by rw [HW.out, World.drewN_drewN, World.drewN_drewN]⟩
        rw [hv]; rfl
      · have hne : (!x1.toList == y1.toList) = false := by assumption
        go_quiet (fail)
        go_wp2
        · have hne2 : (!x2.toList == y2.toList) = true := by assumption
          go_quiet (fail)
          go_wp2
          go_ret
          have hv : Vg.setLess a b = Op.bytesLess x2.toList y2.toList := by
            rw [HR.out, HS.out, if_pos (by simpa using hne), if_neg (by simpa using hne2)]; rfl
          refine ⟨?_, _, by rw [HW.out, World.drewN_drewN, World.drewN_drewN, World.drewN_drewN]⟩
          rw [hv]; rfl
        · have hne2 : (!x2.toList == y2.toList) = false := by assumption
          refine ⟨⟨t + 1, _, by congr 1, by omega, by omega, by rw [HW.out, World.drewN_drewN], ?_⟩, ?_⟩
          · rw [HR.out, HS.out, if_pos (by simpa using hne), if_pos (by simpa using hne2)]
          · simp [vgIntOf]; omega
    · have hv : Vg.setLess a b = decide (a.length < b.length) := by
        rw [hR]
        by_cases h1 : t < a.length
        · have h2 : t = b.length := by omega
          subst h2
          rw [List.drop_length, List.drop_eq_getElem_cons h1]
          simp only [Vg.setLess]
          rw [decide_eq_false (by omega)]
        · have h2 : t = a.length := by omega
          subst h2
          rw [List.drop_length]
          cases hd : b.drop a.length with
          | nil =>
            have := congrArg List.length hd
            simp only [List.length_drop, List.length_nil] at this
            simp only [Vg.setLess, List.isEmpty_nil, Bool.not_true]
            rw [decide_eq_false (by omega)]
          | cons z zs =>
            have := congrArg List.length hd
            simp only [List.length_drop, List.length_cons] at this
            simp only [Vg.setLess, List.isEmpty_cons, Bool.not_false]
            rw [decide_eq_true (by omega)]
      have HW : Hid (wr = W.drewN q) := hw
      have HV : Hid (_ = _) := hv
      clear hw hR hv ha hb
      by_cases h1 : t < a.length
      · have h2 : ¬ t < b.length := fun h => hin ⟨h1, h⟩
        clear hin
        go_wp2
        go_ret
        refine ⟨?_, _, HW.out⟩
        rw [HV.out]; rfl
      · clear hin
        go_wp2
        go_ret
        refine ⟨?_, _, HW.out⟩
        rw [HV.out]; rfl

set_option maxHeartbeats 4000000 in
set_option maxRecDepth 100000 in
/-- The closure: it reads the cell that it is bound to, two elements' labels; it draws; nothing turns. -/
theorem Tryz.byLabels_less (blk off c Bs n : Nat) (W : World) (i j : Nat) (hi : i < n) (hj : j < n) (hn : n < 4611686018427387904) (va vb : Value) (r : Bool)
    (hs : W.cell? ⟨Bs, 0, none⟩ = some (.slice (some ⟨blk, off, none⟩) n c)) (hva : W.cell? ⟨blk, off + i * 4, none⟩ = some va) (hvb : W.cell? ⟨blk, off + j * 4, none⟩ = some vb)
    (hc : ∀ q, Calls Tryz.prog 352 #[va, vb] (W.drewN q) fun e w' => e = .returned (.bool r) ∧ ∃ m, w' = (W.drewN q).drewN m) :
    Calls Tryz.prog 351 #[.int .i64 i, .int .i64 j, .pointer (some ⟨Bs, 0, none⟩)] W fun e w' => e = .returned (.bool r) ∧ ∃ q, w' = W.drewN q := by
  have HC : Hid (∀ q, Calls Tryz.prog 352 #[va, vb] (W.drewN q) fun e w' => e = .returned (.bool r) ∧ ∃ m, w' = (W.drewN q).drewN m) := hc
  clear hc
  go_enter Tryz.func351, Tryz.ntmps351
  go_wp2
  go_quiet (first | (go_at_call 352; refine Calls.quiet_of (HC.out _)))
  go_wp2
  go_ret
  trace_state
  exact ⟨rfl, nq, rfl⟩

end Go.Proofs
