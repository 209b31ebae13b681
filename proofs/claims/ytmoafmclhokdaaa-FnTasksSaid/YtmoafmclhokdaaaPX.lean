/- Plain laws of draws: sets, alarms, groups. -/
import Derived.Test.YtmoafmclhokdaaaPV
import Derived.Test.YtmoafmclhokdaaaPW
namespace Vg.Try
open Go Vg
set_option linter.unusedVariables false
set_option linter.unusedSectionVars false
set_option linter.unusedSimpArgs false

section
variable {k : Nat} (hk : 9223372036854775808 ≤ k)
include hk

theorem totL_app (l m : List DLabel) : tot (.sl tLabel) (l ++ m) = tot (.sl tLabel) l + tot (.sl tLabel) m := tot_app (e := tLabel) l m
theorem totL_cons (x : DLabel) (l : List DLabel) : tot (.sl tLabel) (x :: l) = 1 + (x.1.size + x.2.size) + tot (.sl tLabel) l := by rw [tot_cons (e := tLabel), tot_Label hk]
theorem totL_nil : tot (.sl tLabel) ([] : List DLabel) = 0 := tot_nil (e := tLabel)
theorem totA_app (l m : List DAlarm) : tot (.sl tAlarm) (l ++ m) = tot (.sl tAlarm) l + tot (.sl tAlarm) m := tot_app (e := tAlarm) l m
theorem totA_cons (x : DAlarm) (l : List DAlarm) : tot (.sl tAlarm) (x :: l) = 1 + tot tAlarm x + tot (.sl tAlarm) l := tot_cons (e := tAlarm) x l
theorem totA_nil : tot (.sl tAlarm) ([] : List DAlarm) = 0 := tot_nil (e := tAlarm)

theorem l1Str_sz {c : DL1Cur} {l : List ByteArray} (n : Nat) (hc : CurOk c) (hl : 0 < l.length) (hs : l.all (fun s => decide (s.size ≤ n)) = true) : Dr (F_spec_l1Str k (c, l, ())) (fun r => CurOk r.2.1 ∧ r.1.size ≤ n) :=
  drM (l1Str_dr hk hc hl) (fun r hr => ⟨hr.1, of_decide_eq_true (List.all_eq_true.1 hs _ hr.2)⟩)

theorem l1Int_le {c : DL1Cur} {l : List Int} (a b : Int) (hc : CurOk c) (hl : 0 < l.length) (hs : l.all (fun s => decide (a ≤ s ∧ s ≤ b)) = true) : Dr (F_spec_l1Int k (c, l, ())) (fun r => CurOk r.2.1 ∧ a ≤ r.1 ∧ r.1 ≤ b) :=
  drM (l1Int_dr hk hc hl) (fun r hr => ⟨hr.1, of_decide_eq_true (List.all_eq_true.1 hs _ hr.2)⟩)

theorem l1Int_any {c : DL1Cur} {l : List Int} (hc : CurOk c) (hl : 0 < l.length) : Dr (F_spec_l1Int k (c, l, ())) (fun r => CurOk r.2.1) :=
  drM (l1Int_dr hk hc hl) (fun r hr => hr.1)

theorem l1Plain_dr {c : DL1Cur} (hc : CurOk c) : Dr (F_spec_l1Plain k (c, ())) (fun r => CurOk r.2.1 ∧ r.1.size ≤ 13) := by
  simp only [F_spec_l1Plain]
  exact drB (l1Str_sz hk 13 hc (by decide) (by decide)) (fun r hr => drS hr)

theorem l1Names_dr {c : DL1Cur} (hc : CurOk c) : Dr (F_spec_l1Names k (c, ())) (fun r => CurOk r.2.1 ∧ r.1.size ≤ 13) := by
  simp only [F_spec_l1Names]
  exact drB (l1Str_sz hk 13 hc (by decide) (by decide)) (fun r hr => drS hr)

theorem l1AnyName_dr {c : DL1Cur} (hc : CurOk c) : Dr (F_spec_l1AnyName k (c, ())) (fun r => CurOk r.2.1 ∧ r.1.size ≤ 13) := by
  simp only [F_spec_l1AnyName]
  refine drB (l1Once_dr hk hc) (fun r hr => drI (fun _ => ?_) (fun _ => ?_))
  · exact drB (l1Names_dr hk hr) (fun r hr => drS hr)
  · exact drB (l1Str_sz hk 13 hr (by decide) (by decide)) (fun r hr => drS hr)

theorem l1AnyPlain_dr {c : DL1Cur} (hc : CurOk c) : Dr (F_spec_l1AnyPlain k (c, ())) (fun r => CurOk r.2.1 ∧ r.1.size ≤ 13) := by
  simp only [F_spec_l1AnyPlain]
  refine drB (l1Once_dr hk hc) (fun r hr => drI (fun _ => ?_) (fun _ => ?_))
  · exact drB (l1Plain_dr hk hr) (fun r hr => drS hr)
  · exact drB (l1Str_sz hk 13 hr (by decide) (by decide)) (fun r hr => drS hr)

theorem l1Odd_dr {c : DL1Cur} (hc : CurOk c) : Dr (F_spec_l1Odd k (c, ())) (fun r => CurOk r.2.1) := by
  simp only [F_spec_l1Odd]
  exact drB (l1Int_any hk hc (by decide)) (fun r hr => drS hr)

theorem l1Raw_dr {c : DL1Cur} (hc : CurOk c) : Dr (F_spec_l1Raw k (c, ())) (fun r => CurOk r.2.1) := by
  simp only [F_spec_l1Raw]
  refine drB (l1Once_dr hk hc) (fun r hr => drI (fun _ => ?_) (fun _ => ?_))
  · exact drB (l1Odd_dr hk hr) (fun r hr => drS hr)
  · exact drB (l1Int_any hk hr (by decide)) (fun r hr => drS hr)

theorem l2Draw_dr {c : DL1Cur} (hc : CurOk c) : Dr (F_spec_l2Draw k (c, ())) (fun r => CurOk r.2.1 ∧ 0 < r.1.length ∧ tot (.sl tLabel) r.1 ≤ 108) := by
  simp only [F_spec_l2Draw]
  refine drB (l1Str_sz hk 13 hc (by decide) (by decide)) (fun r hr => ?_)
  refine drL (fun s => 3 - s.2.2.2.2.1.toNat) (fun s => CurOk s.1 ∧ 0 < s.2.1.length ∧ (tot (.sl tLabel) s.2.1 : Int) ≤ 27 + 27 * s.2.2.2.2.1 ∧ s.2.2.1 = [(⟨#[104, 111, 115, 116]⟩ : ByteArray), (⟨#[115, 101, 118]⟩ : ByteArray), (⟨#[122, 111, 110, 101]⟩ : ByteArray)] ∧ s.2.2.2.1 = 3 ∧ 0 ≤ s.2.2.2.2.1 ∧ s.2.2.2.2.1 ≤ 3) ?_ ⟨hr.1, by simp, ?_, rfl, rfl, by simp, by simp⟩ (by simp only; omega)
  · rintro G ⟨c, l, m, n, i, u⟩ ⟨h1, h2, h3, h4, h5, h6, h7⟩ hG
    dsimp only at h1 h2 h3 h4 h5 h6 h7 ⊢
    subst h4
    subst h5
    have hl := tot_len (e := tLabel) (l := l)
    refine drI (fun hi => ?_) (fun hi => drS ⟨h1, h2, by dsimp only; omega⟩)
    have hi : i < 3 := by simpa using hi
    have hw : IntKind.i64.wrap (i + 1) = i + 1 := wrap64 (by omega) (by omega)
    rw [hw]
    refine drT (by simp; omega) ?_
    refine drB (l1Once_dr hk h1) (fun r hr => drI (fun _ => ?_) (fun _ => hG _ ⟨hr, h2, by dsimp only; omega, rfl, rfl, by dsimp only; omega, by dsimp only; omega⟩ (by dsimp only; omega)))
    refine drB (l1Str_sz hk 13 hr (by decide) (by decide)) (fun r2 hr2 => drT (by simp; omega) (hG _ ⟨hr2.1, by simp, ?_, rfl, rfl, by dsimp only; omega, by dsimp only; omega⟩ (by dsimp only; omega)))
    have hb : ([(⟨#[104, 111, 115, 116]⟩ : ByteArray), (⟨#[115, 101, 118]⟩ : ByteArray), (⟨#[122, 111, 110, 101]⟩ : ByteArray)].getD i.toNat ByteArray.empty).size ≤ 13 :=
      of_decide_eq_true (List.all_eq_true.1 (show ([(⟨#[104, 111, 115, 116]⟩ : ByteArray), (⟨#[115, 101, 118]⟩ : ByteArray), (⟨#[122, 111, 110, 101]⟩ : ByteArray)].all (fun s => decide (s.size ≤ 13))) = true by decide) _ (getD_mem (by simp; omega)))
    dsimp only
    rw [totL_app hk, totL_cons hk, totL_nil hk]
    have := hr2.2
    dsimp only
    omega
  · rw [totL_cons hk, totL_nil hk]
    have h0 : (⟨#[97, 112, 112]⟩ : ByteArray).size = 3 := by decide
    have := hr.2
    dsimp only
    omega

theorem l2Any_dr {c : DL1Cur} (hc : CurOk c) : Dr (F_spec_l2Any k (c, ())) (fun r => CurOk r.2.1 ∧ tot (.sl tLabel) r.1 ≤ 220) := by
  simp only [F_spec_l2Any]
  refine drB (l2Draw_dr hk hc) (fun r1 h1 => drB (l1Below_dr hk h1.1) (fun r2 h2 => ?_))
  have hl := tot_len (e := tLabel) (l := r1.1)
  obtain ⟨_, hp, ht⟩ := h1
  refine drI (fun _ => ?_) (fun _ => ?_)
  · refine drB (l1AnyName_dr hk h2.1) (fun r3 h3 => drB (l1AnyPlain_dr hk h3.1) (fun r4 h4 => drT (by simp; omega) (drS ⟨h4.1, ?_⟩)))
    dsimp only
    rw [totL_app hk, totL_cons hk, totL_nil hk]
    have := h3.2; have := h4.2
    dsimp only
    omega
  refine drI (fun _ => ?_) (fun _ => ?_)
  · refine drT (by simp; omega) (drS ⟨h2.1, ?_⟩)
    dsimp only
    rw [totL_app hk, totL_cons hk, totL_nil hk]
    have h0 : (⟨#[122, 122]⟩ : ByteArray).size = 2 := by decide
    have h0 : (⟨#[49]⟩ : ByteArray).size = 1 := by decide
    dsimp only
    omega
  refine drI (fun _ => ?_) (fun _ => ?_)
  · refine drT (by simp; omega) (drT (by simp; omega) (drS ⟨h2.1, ?_⟩))
    have hm := tot_mem (e := tLabel) (getD_mem (l := r1.1) (i := 0) (d := tLabel.dflt) hp)
    rw [tot_Label hk] at hm
    dsimp only
    rw [totL_app hk, totL_cons hk, totL_nil hk]
    simp only [show Int.toNat 0 = 0 from rfl]
    omega
  refine drI (fun _ => ?_) (fun _ => ?_)
  · refine drT (by simp; omega) (drS ⟨h2.1, ?_⟩)
    dsimp only
    rw [totL_app hk, totL_cons hk, totL_cons hk, totL_cons hk, totL_cons hk, totL_nil hk]
    have e1 : (⟨#[122, 117]⟩ : ByteArray).size = 2 := by decide
    have e2 : (⟨#[122, 118]⟩ : ByteArray).size = 2 := by decide
    have e3 : (⟨#[122, 119]⟩ : ByteArray).size = 2 := by decide
    have e4 : (⟨#[122, 120]⟩ : ByteArray).size = 2 := by decide
    have e5 : ByteArray.empty.size = 0 := by decide
    dsimp only
    omega
  refine drI (fun _ => ?_) (fun _ => ?_)
  · refine drB (l1AnyPlain_dr hk h2.1) (fun r3 h3 => drT (by simp; omega) (drS ⟨h3.1, ?_⟩))
    have hs := tot_set (e := tLabel) r1.1 0 ((r1.1.getD 0 tLabel.dflt).1, r3.1) hp
    rw [tot_Label hk, tot_Label hk] at hs
    have := h3.2
    simp only [show Int.toNat 0 = 0 from rfl]
    dsimp only at hs ⊢
    omega
  refine drI (fun _ => drS ⟨h2.1, by dsimp only; rw [totL_nil hk]; omega⟩) (fun _ => drS ⟨h2.1, by dsimp only; omega⟩)

theorem l4Draw_dr {c : DL1Cur} (hc : CurOk c) : Dr (F_spec_l4Draw k (c, ())) (fun r => CurOk r.2.1 ∧ tot tAlarm r.1 ≤ 121) := by
  simp only [F_spec_l4Draw]
  refine drB (l2Draw_dr hk hc) (fun r1 h1 => drB (l1Below_dr hk h1.1) (fun r2 h2 => drB (l1Plain_dr hk h2.1) (fun r3 h3 => drB (l1Int_any hk h3.1 (by decide)) (fun r4 h4 => drS ⟨h4, ?_⟩))))
  dsimp only
  rw [tot_Alarm hk]
  have := h1.2; have := h3.2
  dsimp only
  omega

theorem l4Any_dr {c : DL1Cur} (hc : CurOk c) : Dr (F_spec_l4Any k (c, ())) (fun r => CurOk r.2.1 ∧ tot tAlarm r.1 ≤ 400) := by
  simp only [F_spec_l4Any]
  refine drB (l4Draw_dr hk hc) (fun r1 h1 => drB (l1Below_dr hk h1.1) (fun r2 h2 => ?_))
  have ht := h1.2
  rw [tot_Alarm hk] at ht
  refine drI (fun _ => ?_) (fun _ => ?_)
  · refine drB (l2Any_dr hk h2.1) (fun r3 h3 => drS ⟨h3.1, ?_⟩)
    dsimp only
    rw [tot_Alarm hk]
    have := h3.2
    dsimp only
    omega
  refine drI (fun _ => ?_) (fun _ => ?_)
  · refine drB (l1Int_any hk h2.1 (by decide)) (fun r3 h3 => drS ⟨h3, ?_⟩)
    dsimp only
    rw [tot_Alarm hk]
    dsimp only
    omega
  refine drI (fun _ => ?_) (fun _ => ?_)
  · refine drB (l1Raw_dr hk h2.1) (fun r3 h3 => drS ⟨h3, ?_⟩)
    dsimp only
    rw [tot_Alarm hk]
    dsimp only
    omega
  refine drI (fun _ => ?_) (fun _ => drS ⟨h2.1, by dsimp only; rw [tot_Alarm hk]; omega⟩)
  refine drB (l1AnyPlain_dr hk h2.1) (fun r3 h3 => drS ⟨h3.1, ?_⟩)
  dsimp only
  rw [tot_Alarm hk]
  have := h3.2
  dsimp only
  omega

end
end Vg.Try
