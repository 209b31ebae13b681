/- Plain laws: which locks are held; which groups are timed. -/
import Derived.Test.YtlpeoedbginanaaGreatPL
namespace Vg.Tryz
open Go Vg
set_option linter.unusedVariables false
set_option linter.unusedSectionVars false
set_option linter.unusedSimpArgs false

/-- The last before j for whom h holds; -1 for none. -/
def whoF (h : Nat → Bool) : Nat → Int
  | 0 => -1
  | j + 1 => if h j = true then (j : Int) else whoF h j

theorem whoF_none {h : Nat → Bool} : ∀ {j : Nat}, (∀ a, a < j → h a = false) → whoF h j = -1
  | 0, _ => rfl
  | j + 1, H => by
    unfold whoF
    rw [H j (by omega), if_neg (by simp)]
    exact whoF_none (fun a ha => H a (by omega))

theorem whoF_some {h : Nat → Bool} : ∀ {j : Nat}, whoF h j ≠ -1 → ∃ a, a < j ∧ h a = true ∧ whoF h j = (a : Int)
  | 0, H => absurd rfl H
  | j + 1, H => by
    unfold whoF at H ⊢
    by_cases hj : h j = true
    · rw [if_pos hj]; exact ⟨j, by omega, hj, rfl⟩
    · rw [if_neg hj] at H ⊢
      obtain ⟨a, h1, h2, h3⟩ := whoF_some H
      exact ⟨a, by omega, h2, h3⟩

theorem whoF_one {h : Nat → Bool} {m : Nat} (hp : ∀ j, j < m → h j = true → whoF h j = -1) {a : Nat} (ha : a < m) (h2 : h a = true) : whoF h m = (a : Int) := by
  have hm : whoF h m ≠ -1 := by
    intro e
    have : ∀ {j : Nat}, (∀ b, b < j → h b = true → False) ∨ whoF h j ≠ -1 := by
      intro j
      induction j with
      | zero => exact Or.inl (fun b hb _ => by omega)
      | succ j ih =>
        unfold whoF
        by_cases hj : h j = true
        · rw [if_pos hj]; right; omega
        · rw [if_neg hj]
          rcases ih with ih | ih
          · left
            intro b hb hbt
            by_cases hbj : b = j
            · subst hbj; exact hj hbt
            · exact ih b (by omega) hbt
          · exact Or.inr ih
    rcases @this m with H | H
    · exact H a ha h2
    · exact H e
  obtain ⟨b, h3, h4, h5⟩ := whoF_some hm
  rw [h5]
  by_cases hab : a = b
  · rw [hab]
  · exfalso
    have key : ∀ x y : Nat, x < y → y < m → h x = true → h y = true → False := by
      intro x y hxy hy hx hyt
      have e := hp y hy hyt
      have : ∀ {j : Nat}, x < j → whoF h j ≠ -1 := by
        intro j
        induction j with
        | zero => intro q; omega
        | succ j ih =>
          intro q
          unfold whoF
          by_cases hj : h j = true
          · rw [if_pos hj]; omega
          · rw [if_neg hj]
            by_cases hxj : x = j
            · subst hxj; exact absurd hx hj
            · exact ih (by omega)
      exact this hxy e
    rcases Nat.lt_or_ge a b with q | q
    · exact key a b q h3 h2 h4
    · exact key b a (by omega) ha h4 h2

def holdAt (k : Nat) (w : DWorld) (j : Nat) : Int := holdsPart k (w.2.2.2.2.2.2.2.2.2.2.2.2.1.getD j tTask.dflt) w.2.2.2.1.length
def grAt (w : DWorld) (j : Nat) : Bool := holdsGr (w.2.2.2.2.2.2.2.2.2.2.2.2.1.getD j tTask.dflt)
def okLocks (k : Nat) (w : DWorld) : Bool :=
  allB 0 w.2.2.2.1.length (fun i => allB 0 w.2.2.2.2.2.2.2.2.2.2.2.2.1.length (fun j => decide (holdAt k w j = i) == decide ((w.2.2.2.1.getD i tPart.dflt).1 = j))) &&
  (allB 0 w.2.2.2.2.2.2.2.2.2.2.2.2.1.length (fun j => grAt w j == decide (w.2.2.2.2.2.2.1 = j)) && inB w.2.2.2.2.2.2.1 (-1) 4)

def passAt (k : Nat) (w : DWorld) (j : Nat) : Bool :=
  (decide (holdAt k w j < 0) || decide (whoF (fun a => decide (holdAt k w a = holdAt k w j)) j = -1)) && (!grAt w j || decide (whoF (grAt w) j = -1))

theorem locks_same {k : Nat} {w : DWorld} (hp : ∀ i, i < w.2.2.2.1.length → inB (w.2.2.2.1.getD i tPart.dflt).1 (-1) 4 = true) (ht : w.2.2.2.2.2.2.2.2.2.2.2.2.1.length = 5)
    (hh : ∀ j, j < 5 → holdAt k w j < w.2.2.2.1.length) :
    (allB 0 w.2.2.2.2.2.2.2.2.2.2.2.2.1.length (passAt k w) && (allB 0 w.2.2.2.1.length (fun i => decide ((w.2.2.2.1.getD i tPart.dflt).1 = whoF (fun a => decide (holdAt k w a = i)) w.2.2.2.2.2.2.2.2.2.2.2.2.1.length)) &&
      decide (w.2.2.2.2.2.2.1 = whoF (grAt w) w.2.2.2.2.2.2.2.2.2.2.2.2.1.length))) = okLocks k w := by
  unfold okLocks
  rw [ht]
  rw [Bool.eq_iff_iff]
  simp only [Bool.and_eq_true, allB_iff, passAt, Bool.or_eq_true, decide_eq_true_eq, Bool.not_eq_true', beq_iff_eq, inB] at hp ⊢
  constructor
  · rintro ⟨h1, h2, h3⟩
    refine ⟨fun i _ hi j _ hj => ?_, fun j _ hj => ?_, ?_⟩
    · rw [h2 i (by omega) hi]
      rw [Bool.eq_iff_iff]
      simp only [decide_eq_true_eq]
      constructor
      · intro e
        refine whoF_one (h := fun a => decide (holdAt k w a = i)) (m := 5) (fun b hb hbt => ?_) hj (by simpa using e)
        have hbe : holdAt k w b = (i : Int) := by simpa using hbt
        rcases (h1 b (by omega) hb).1 with q | q
        · omega
        · rw [hbe] at q; exact q
      · intro e
        obtain ⟨a, _, ha, hb⟩ := whoF_some (h := fun a => decide (holdAt k w a = i)) (j := 5) (by rw [e]; omega)
        rw [e] at hb
        have : a = j := by omega
        subst this
        simpa using ha
    · rw [h3, Bool.eq_iff_iff]
      simp only [decide_eq_true_eq]
      constructor
      · intro e
        refine whoF_one (h := grAt w) (m := 5) (fun b hb hbt => ?_) hj e
        rcases (h1 b (by omega) hb).2 with q | q
        · rw [hbt] at q; exact absurd q (by simp)
        · exact q
      · intro e
        obtain ⟨a, _, ha, hb⟩ := whoF_some (h := grAt w) (j := 5) (by rw [e]; omega)
        rw [e] at hb
        have : a = j := by omega
        subst this
        exact ha
    · rw [h3]
      by_cases e : whoF (grAt w) 5 = -1
      · omega
      · obtain ⟨a, h4, _, h5⟩ := whoF_some e
        omega
  · rintro ⟨h1, h2, h3, h4⟩
    have hI : ∀ i, i < w.2.2.2.1.length → ∀ j, j < 5 → (holdAt k w j = (i : Int) ↔ (w.2.2.2.1.getD i tPart.dflt).1 = (j : Int)) := by
      intro i hi j hj
      have := h1 i (by omega) hi j (by omega) hj
      rw [Bool.eq_iff_iff] at this
      simpa only [decide_eq_true_eq] using this
    have hG : ∀ j, j < 5 → (grAt w j = true ↔ w.2.2.2.2.2.2.1 = (j : Int)) := by
      intro j hj
      have := h2 j (by omega) hj
      rw [Bool.eq_iff_iff] at this
      simpa only [decide_eq_true_eq] using this
    refine ⟨fun j _ hj => ⟨?_, ?_⟩, fun i _ hi => ?_, ?_⟩
    · by_cases hn : holdAt k w j < 0
      · exact Or.inl hn
      · right
        apply whoF_none
        intro a ha
        simp only [decide_eq_false_iff_not]
        intro e
        have hlt := hh j hj
        have q1 := (hI (holdAt k w j).toNat (by omega) j hj).1 (by omega)
        have q2 := (hI (holdAt k w j).toNat (by omega) a (by omega)).1 (by omega)
        omega
    · by_cases hg : grAt w j = true
      · right
        apply whoF_none
        intro a ha
        cases hga : grAt w a with
        | false => rfl
        | true =>
          have q1 := (hG j hj).1 hg
          have q2 := (hG a (by omega)).1 hga
          omega
      · left; simpa using hg
    · by_cases e : whoF (fun a => decide (holdAt k w a = i)) 5 = -1
      · rw [e]
        have hb := hp i hi
        by_cases e2 : (w.2.2.2.1.getD i tPart.dflt).1 = -1
        · exact e2
        · exfalso
          have q := (hI i hi (w.2.2.2.1.getD i tPart.dflt).1.toNat (by omega)).2 (by omega)
          have : whoF (fun a => decide (holdAt k w a = i)) 5 ≠ -1 := by
            rw [whoF_one (h := fun a => decide (holdAt k w a = i)) (m := 5) (a := (w.2.2.2.1.getD i tPart.dflt).1.toNat) (fun b hb2 hbt => ?_) (by omega) (by simpa using q)]
            · omega
            · apply whoF_none
              intro a ha
              simp only [decide_eq_false_iff_not]
              intro e3
              have hbe : holdAt k w b = (i : Int) := by simpa using hbt
              have q1 := (hI i hi b hb2).1 hbe
              have q2 := (hI i hi a (by omega)).1 e3
              omega
          exact this e
      · obtain ⟨a, h5, h6, h7⟩ := whoF_some e
        rw [h7]
        exact (hI i hi a h5).1 (by simpa using h6)
    · by_cases e : whoF (grAt w) 5 = -1
      · rw [e]
        by_cases e2 : w.2.2.2.2.2.2.1 = -1
        · exact e2
        · exfalso
          have q := (hG w.2.2.2.2.2.2.1.toNat (by omega)).2 (by omega)
          have : whoF (grAt w) 5 ≠ -1 := by
            rw [whoF_one (h := grAt w) (m := 5) (a := w.2.2.2.2.2.2.1.toNat) (fun b hb2 hbt => ?_) (by omega) q]
            · omega
            · apply whoF_none
              intro a ha
              cases hga : grAt w a with
              | false => rfl
              | true =>
                have q1 := (hG b hb2).1 hbt
                have q2 := (hG a (by omega)).1 hga
                omega
          exact this e
      · obtain ⟨a, h5, h6, h7⟩ := whoF_some e
        rw [h7]
        exact (hG a h5).1 h6

section
variable {k : Nat} (hk : 9223372036854775808 ≤ k)
include hk

theorem impl_locksRight_ok {w : DWorld} (hs : tot tWorld w ≤ 1048576) : F_impl_locksRight k (w, ()) = some (okLocks k w, ()) := by
  obtain ⟨_, w2, _, _, _, _, _, w8, w9⟩ := world_parts hk hs
  have hn := tot_len (e := tPart) (l := w.2.2.2.1)
  have hm := tot_len (e := tTask) (l := w.2.2.2.2.2.2.2.2.2.2.2.2.1)
  have htask : ∀ j : Nat, tot tTask (w.2.2.2.2.2.2.2.2.2.2.2.2.1.getD j tTask.dflt) ≤ 1048576 := fun j => any_at hk (e := tTask) rfl w8 j
  simp only [F_impl_locksRight, joinC]
  refine (loop_alln (fun i : Nat => (w, w.2.2.2.1, (w.2.2.2.1.length : Int), (i : Int), ())) (fun i => allB 0 w.2.2.2.2.2.2.2.2.2.2.2.2.1.length (fun j => decide (holdAt k w j = i) == decide ((w.2.2.2.1.getD i tPart.dflt).1 = j))) w.2.2.2.1.length
    (e := some (allB 0 w.2.2.2.2.2.2.2.2.2.2.2.2.1.length (fun j => grAt w j == decide (w.2.2.2.2.2.2.1 = j)) && inB w.2.2.2.2.2.2.1 (-1) 4, ())) (no := some (false, ())) ?_ ?_ k 0 (by omega) (by omega)).trans ?_
  · intro G i hi
    simp only [lt_nat, in_nat hi, hi, decide_true, if_true, Int.toNat_natCast]
    refine (loop_alln (fun j : Nat => (w, (i : Int), w.2.2.2.1.getD i tPart.dflt, w.2.2.2.1, (w.2.2.2.1.length : Int), (i : Int), w.2.2.2.2.2.2.2.2.2.2.2.2.1, (w.2.2.2.2.2.2.2.2.2.2.2.2.1.length : Int), (j : Int), ()))
      (fun j => decide (holdAt k w j = i) == decide ((w.2.2.2.1.getD i tPart.dflt).1 = j)) w.2.2.2.2.2.2.2.2.2.2.2.2.1.length
      (e := G (w, w.2.2.2.1, (w.2.2.2.1.length : Int), ((i + 1 : Nat) : Int), ())) (no := some (false, ())) ?_ ?_ k 0 (by omega) (by omega)).trans ?_
    · intro G2 j hj
      simp only [lt_nat, in_nat hj, hj, decide_true, if_true, Int.toNat_natCast, impl_HoldsPart_ok hk (htask j), Option.bind_some, beq_dec]
      rw [wrapS (by omega)]
      show (if (!(decide (holdAt k w j = i) == decide ((w.2.2.2.1.getD i tPart.dflt).1 = j))) = true then _ else _) = _
      cases (decide (holdAt k w j = i) == decide ((w.2.2.2.1.getD i tPart.dflt).1 = (j : Int))) <;> rfl
    · intro G2
      simp only [lt_nat, Nat.lt_irrefl, decide_false, Bool.false_eq_true, if_false]
      rw [wrapS (by omega)]
    · rfl
  · intro G
    simp only [lt_nat, Nat.lt_irrefl, decide_false, Bool.false_eq_true, if_false]
    refine (loop_alln (fun j : Nat => (w, w.2.2.2.2.2.2.2.2.2.2.2.2.1, (w.2.2.2.2.2.2.2.2.2.2.2.2.1.length : Int), (j : Int), ()))
      (fun j => grAt w j == decide (w.2.2.2.2.2.2.1 = j)) w.2.2.2.2.2.2.2.2.2.2.2.2.1.length
      (e := some (inB w.2.2.2.2.2.2.1 (-1) 4, ())) (no := some (false, ())) ?_ ?_ k 0 (by omega) (by omega)).trans ?_
    · intro G2 j hj
      simp only [lt_nat, in_nat hj, hj, decide_true, if_true, Int.toNat_natCast, impl_HoldsGroups_ok hk, Option.bind_some, beq_dec]
      rw [wrapS (by omega)]
      show (if (!(grAt w j == decide (w.2.2.2.2.2.2.1 = j))) = true then _ else _) = _
      cases (grAt w j == decide (w.2.2.2.2.2.2.1 = (j : Int))) <;> rfl
    · intro G2
      simp only [lt_nat, Nat.lt_irrefl, decide_false, Bool.false_eq_true, if_false, impl_in_ok hk, Option.bind_some]
    · cases allB 0 w.2.2.2.2.2.2.2.2.2.2.2.2.1.length (fun j => grAt w j == decide (w.2.2.2.2.2.2.1 = j)) <;> simp
  · unfold okLocks
    cases allB 0 w.2.2.2.1.length (fun i => allB 0 w.2.2.2.2.2.2.2.2.2.2.2.2.1.length (fun j => decide (holdAt k w j = i) == decide ((w.2.2.2.1.getD i tPart.dflt).1 = j))) <;> simp

end
end Vg.Tryz
