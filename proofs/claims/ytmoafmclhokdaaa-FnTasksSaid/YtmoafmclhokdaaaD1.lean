/- Plain laws of draws: tasks. -/
import Derived.Test.YtmoafmclhokdaaaPX
namespace Vg.Try
open Go Vg
set_option linter.unusedVariables false
set_option linter.unusedSectionVars false
set_option linter.unusedSimpArgs false

section
variable {k : Nat} (hk : 9223372036854775808 ≤ k)
include hk

theorem totI (l : List Int) : tot (.sl (.int .i64)) l = l.length := by
  induction l with
  | nil => exact tot_nil (e := .int .i64)
  | cons x l ih =>
    have := tot_cons (e := .int .i64) x l
    have h0 : tot (.int .i64) x = 0 := rfl
    rw [List.length_cons]
    omega

theorem totZ : tot tAlarm (([] : List DLabel), (0 : Int), (0 : Int), ByteArray.empty) = 0 := by
  rw [tot_Alarm hk]
  dsimp only
  rw [totL_nil hk]
  rfl

theorem l5List_dr {c : DL1Cur} (hc : CurOk c) : Dr (F_spec_l5List k (c, ())) (fun r => CurOk r.2.1 ∧ tot (.sl tAlarm) r.1 ≤ 700) := by
  simp only [F_spec_l5List]
  refine drB (l1Below_dr hk hc) (fun r1 h1 => ?_)
  obtain ⟨h1, h2, h3⟩ := h1
  refine drL (fun s => s.2.2.1.toNat) (fun s => CurOk s.1 ∧ (tot (.sl tAlarm) s.2.1 : Int) ≤ 650 - 130 * s.2.2.1 ∧ 0 ≤ s.2.2.1 ∧ s.2.2.1 ≤ 5) ?_ ⟨h1, by dsimp only; rw [totA_nil hk]; omega, h2, by dsimp only; omega⟩ (by dsimp only; omega)
  rintro G ⟨c, l, i, u⟩ ⟨g1, g3, g4, g5⟩ hG
  dsimp only at g1 g3 g4 g5 ⊢
  have hl := tot_len (e := tAlarm) (l := l)
  refine drI (fun hi => ?_) (fun hi => drS ⟨g1, by dsimp only; omega⟩)
  have hi : 0 < i := by simpa using hi
  have hw : IntKind.i64.wrap (i - 1) = i - 1 := wrap64 (by omega) (by omega)
  rw [hw]
  refine drB (l4Draw_dr hk g1) (fun r4 h4 => drT (by simp; omega) (hG _ ⟨h4.1, ?_, by dsimp only; omega, by dsimp only; omega⟩ (by dsimp only; omega)))
  have := h4.2
  dsimp only
  rw [totA_app hk, totA_cons hk, totA_nil hk]
  omega

theorem l14Any_dr {c : DL1Cur} (hc : CurOk c) : Dr (F_spec_l14Any k (c, ())) (fun r => CurOk r.2.1 ∧ tot tTask r.1 ≤ 2000) := by
  simp only [F_spec_l14Any]
  refine drB (l1Below_dr hk hc) (fun r1 h1 => drB (l1Below_dr hk h1.1) (fun r2 h2 => ?_))
  have hz := totZ hk
  have hn := totL_nil hk
  have ha := totA_nil hk
  have hi0 : tot (.sl (.int .i64)) ([] : List Int) = 0 := totI hk []
  refine drJ (fun s => CurOk s.1 ∧ tot tTask s.2.2.1 ≤ 1000) (fun s hs => ?_) (fun J hJ => ?_)
  · refine drJ (fun s => CurOk s.1 ∧ tot tTask s.2.2.1 ≤ 1000) (fun s hs => ?_) (fun J hJ => ?_)
    · obtain ⟨hs1, hs2⟩ := hs
      obtain ⟨c, z, t, u⟩ := s
      obtain ⟨op, pc, a, l, i, se, gt, n, h⟩ := t
      dsimp only at hs1 hs2 ⊢
      rw [tot_Task hk] at hs2
      dsimp only at hs2
      rw [totI hk] at hs2
      have hl := tot_len (e := tAlarm) (l := gt)
      refine drB (l1Below_dr hk hs1) (fun r h3 => ?_)
      refine drI (fun _ => drB (l1Int_any hk h3.1 (by decide)) (fun r4 h4 => drS ⟨h4, by dsimp only; rw [tot_Task hk]; dsimp only; rw [totI hk]; omega⟩)) (fun _ => ?_)
      refine drI (fun _ => drB (l1Int_any hk h3.1 (by decide)) (fun r4 h4 => drS ⟨h4, by dsimp only; rw [tot_Task hk]; dsimp only; rw [totI hk]; omega⟩)) (fun _ => ?_)
      refine drI (fun _ => drB (l4Any_dr hk h3.1) (fun r4 h4 => drS ⟨h4.1, by have := h4.2; dsimp only; rw [tot_Task hk]; dsimp only; rw [totI hk]; omega⟩)) (fun _ => ?_)
      refine drI (fun _ => drB (l2Any_dr hk h3.1) (fun r4 h4 => drS ⟨h4.1, by have := h4.2; dsimp only; rw [tot_Task hk]; dsimp only; rw [totI hk]; omega⟩)) (fun _ => ?_)
      refine drI (fun _ => drB (l1Int_any hk h3.1 (by decide)) (fun r4 h4 => drS ⟨h4, by dsimp only; rw [tot_Task hk]; dsimp only; rw [totI hk]; omega⟩)) (fun _ => ?_)
      refine drI (fun _ => drB (l1Int_any hk h3.1 (by decide)) (fun r4 h4 => drT (by simp; omega) (drS ⟨h4, by dsimp only; rw [tot_Task hk]; dsimp only; rw [totI hk]; simp only [List.length_append, List.length_singleton]; omega⟩))) (fun _ => ?_)
      refine drI (fun _ => drB (l4Any_dr hk h3.1) (fun r4 h4 => drT (by simp; omega) (drS ⟨h4.1, by have := h4.2; dsimp only; rw [tot_Task hk]; dsimp only; rw [totI hk, totA_app hk, totA_cons hk, totA_nil hk]; omega⟩))) (fun _ => ?_)
      refine drI (fun _ => drB (l1Int_any hk h3.1 (by decide)) (fun r4 h4 => drS ⟨h4, by dsimp only; rw [tot_Task hk]; dsimp only; rw [totI hk]; omega⟩)) (fun _ => ?_)
      refine drI (fun _ => drS ⟨h3.1, by dsimp only; rw [tot_Task hk]; dsimp only; rw [totI hk]; omega⟩) (fun _ => drS ⟨h3.1, by dsimp only; rw [tot_Task hk]; dsimp only; rw [totI hk]; omega⟩)
    · obtain ⟨hs1, hs2⟩ := hs
      rw [tot_Task hk] at hs2
      refine drI (fun _ => drB (l1Below_dr hk hs1) (fun r h3 => hJ _ ⟨h3.1, by dsimp only; rw [tot_Task hk]; exact hs2⟩)) (fun _ => hJ _ ⟨hs1, by dsimp only; rw [tot_Task hk]; exact hs2⟩)
  · refine drI (fun _ => ?_) (fun _ => ?_)
    · refine drB (l4Draw_dr hk h2.1) (fun r5 h5 => drB (l1Below_dr hk h5.1) (fun r6 h6 => hJ _ ⟨h6.1, ?_⟩))
      have := h5.2
      dsimp only; rw [tot_Task hk]; dsimp only; omega
    refine drI (fun _ => ?_) (fun _ => ?_)
    · refine drB (l2Draw_dr hk h2.1) (fun r5 h5 => hJ _ ⟨h5.1, ?_⟩)
      have := h5.2
      dsimp only; rw [tot_Task hk]; dsimp only; omega
    refine drI (fun _ => ?_) (fun _ => ?_)
    · refine drB (l1Below_dr hk h2.1) (fun r8 h8 => ?_)
      obtain ⟨h8, h9, h10⟩ := h8
      refine drJ (fun s => CurOk s.1 ∧ tot tTask s.2.2.1 ≤ 10 ∧ s.2.2.1.2.2.2.2.2.2.1 = []) (fun s hs => ?_) (fun J2 hJ2 => ?_)
      · obtain ⟨hs1, hs2, hs3⟩ := hs
        rw [tot_Task hk, hs3, ha] at hs2
        refine drB (l5List_dr hk hs1) (fun r h3 => ?_)
        have h33 := h3.2
        have key : ∀ {c : DL1Cur} {op pc : Int}, CurOk c → Dr (J (c, s.2.1, (op, pc, s.2.2.1.2.2.1, s.2.2.1.2.2.2.1, s.2.2.1.2.2.2.2.1, s.2.2.1.2.2.2.2.2.1, r.1, s.2.2.1.2.2.2.2.2.2.2), ())) (fun r => CurOk r.2.1 ∧ tot tTask r.1 ≤ 2000) := by
          intro c op pc hc
          refine hJ _ ⟨hc, ?_⟩
          dsimp only
          rw [tot_Task hk]
          dsimp only
          omega
        refine drI (fun _ => drB (l1Once_dr hk h3.1) (fun r h4 => drI (fun _ => key h4) (fun _ => key h4))) (fun _ => drI (fun _ => key h3.1) (fun _ => key h3.1))
      · refine drL (fun s => (r8.1 - s.2.2.1.2.2.2.2.2.1.length).toNat) (fun s => CurOk s.1 ∧ s.2.2.1.2.2.2.2.1 = r8.1 ∧ (s.2.2.1.2.2.2.2.2.1.length : Int) ≤ 2 ∧ s.2.2.1.2.2.1 = (([] : List DLabel), (0 : Int), (0 : Int), ByteArray.empty) ∧ s.2.2.1.2.2.2.1 = [] ∧ s.2.2.1.2.2.2.2.2.2.1 = []) ?_ ⟨h8, rfl, by simp, rfl, rfl, rfl⟩ (by dsimp only; simp only [List.length_nil]; omega)
        rintro G ⟨c, z, ⟨op, pc, a, l, i, se, gt, n, h⟩, u⟩ ⟨g1, g2, g3, g4, g5, g6⟩ hG
        dsimp only at g1 g2 g3 g4 g5 g6 ⊢
        subst g2 g4 g5 g6
        refine drI (fun hc => ?_) (fun hc => hJ2 _ ⟨g1, ?_, rfl⟩)
        · have hc : (se.length : Int) < r8.1 := by simpa using hc
          refine drB (l1Below_dr hk g1) (fun r h3 => drT (by simp; omega) (hG _ ⟨h3.1, rfl, ?_, rfl, rfl, rfl⟩ ?_))
          · dsimp only; simp only [List.length_append, List.length_singleton]; omega
          · dsimp only; simp only [List.length_append, List.length_singleton]; omega
        · dsimp only; rw [tot_Task hk]; dsimp only; rw [totI hk]; omega
    refine drI (fun _ => ?_) (fun _ => ?_)
    · refine drB (l1Below_dr hk h2.1) (fun r5 h5 => hJ _ ⟨h5.1, ?_⟩)
      dsimp only; rw [tot_Task hk]; dsimp only; omega
    refine drI (fun _ => ?_) (fun _ => ?_)
    · refine drB (l4Draw_dr hk h2.1) (fun r5 h5 => hJ _ ⟨h5.1, ?_⟩)
      have := h5.2
      dsimp only; rw [tot_Task hk]; dsimp only; omega
    refine drI (fun _ => ?_) (fun _ => hJ _ ⟨h2.1, ?_⟩)
    · refine drB (l1Below_dr hk h2.1) (fun r5 h5 => hJ _ ⟨h5.1, ?_⟩)
      dsimp only; rw [tot_Task hk]; dsimp only; omega
    · dsimp only; rw [tot_Task hk]; dsimp only; omega

theorem DrawTaskOk_dr {b : List Int} (hb : b.length ≤ 1048576) : Dr (F_spec_DrawTaskOk k (b, ())) (fun r => tot tTask r.1 ≤ 2000) := by
  simp only [F_spec_DrawTaskOk]
  refine drB (l1New_dr hk hb) (fun r1 h1 => drB (l14Any_dr hk h1) (fun r2 h2 => drB (l1Below_dr hk h2.1) (fun r3 h3 => ?_)))
  refine drJ (fun s => CurOk s.2.2.2.1 ∧ tot tTask s.2.1 ≤ 2000) (fun s hs => ?_) (fun J hJ => drI (fun _ => hJ _ ⟨h3.1, h2.2⟩) (fun _ => hJ _ ⟨h3.1, h2.2⟩))
  refine drJ (fun s => CurOk s.2.2.2.1 ∧ tot tTask s.2.1 ≤ 2000) (fun s hs => ?_) (fun J hJ => drI (fun _ => hJ _ hs) (fun _ => hJ _ hs))
  exact drB (l1Once_dr hk hs.1) (fun r h4 => drI (fun _ => drB (l1Below_dr hk h4) (fun r h5 => drS hs.2)) (fun _ => drS hs.2))

theorem DrawHoldsPart_dr {b : List Int} (hb : b.length ≤ 1048576) : Dr (F_spec_DrawHoldsPart k (b, ())) (fun r => tot tTask r.1 ≤ 2000) := by
  simp only [F_spec_DrawHoldsPart]
  exact drB (l1New_dr hk hb) (fun r1 h1 => drB (l14Any_dr hk h1) (fun r2 h2 => drB (l1Below_dr hk h2.1) (fun r3 h3 => drS h2.2)))

theorem DrawWantsPart_dr {b : List Int} (hb : b.length ≤ 1048576) : Dr (F_spec_DrawWantsPart k (b, ())) (fun r => tot tTask r.1 ≤ 2000) := by
  simp only [F_spec_DrawWantsPart]
  exact drB (l1New_dr hk hb) (fun r1 h1 => drB (l14Any_dr hk h1) (fun r2 h2 => drB (l1Below_dr hk h2.1) (fun r3 h3 => drS h2.2)))

theorem DrawHoldsGroups_dr {b : List Int} (hb : b.length ≤ 1048576) : Dr (F_spec_DrawHoldsGroups k (b, ())) (fun r => tot tTask r.1 ≤ 2000) := by
  simp only [F_spec_DrawHoldsGroups]
  exact drB (l1New_dr hk hb) (fun r1 h1 => drB (l14Any_dr hk h1) (fun r2 h2 => drS h2.2))

theorem DrawWantsGroups_dr {b : List Int} (hb : b.length ≤ 1048576) : Dr (F_spec_DrawWantsGroups k (b, ())) (fun r => tot tTask r.1 ≤ 2000) := by
  simp only [F_spec_DrawWantsGroups]
  exact drB (l1New_dr hk hb) (fun r1 h1 => drB (l14Any_dr hk h1) (fun r2 h2 => drS h2.2))

end
end Vg.Try
