/- Plain laws: all alarms, how many; what is found; heaps; when a group is due. -/
import Derived.Test.YtlpeoedbginanaaGreatPG
namespace Vg.Tryz
open Go Vg
set_option linter.unusedVariables false
set_option linter.unusedSectionVars false
set_option linter.unusedSimpArgs false

theorem if_noB {β : Type} {c : Bool} {a b : β} (h : c = false) : (if c = true then a else b) = b := by rw [h]; rfl

theorem wrapA {a b : Nat} (h : a + b < 4611686018427387904) : IntKind.i64.wrap ((a : Int) + (b : Int)) = ((a + b : Nat) : Int) := by
  rw [wrap64 (by omega) (by omega)]; omega

theorem ge0_dec (u : Int) : decide (0 ≤ u) = !decide (u < 0) := by by_cases h : u < 0 <;> simp [h] <;> omega

theorem half_wrap {q : Nat} (h : q < 4611686018427387904) : IntKind.i64.wrap (Int.tdiv (IntKind.i64.wrap (((q + 1 : Nat) : Int) - 1)) 2) = ((q / 2 : Nat) : Int) := by
  rw [wrapQ h, Int.tdiv_eq_ediv_of_nonneg (by omega), wrap64 (by omega) (by omega)]
  omega

section
variable {k : Nat} (hk : 9223372036854775808 ≤ k)
include hk

theorem spec_AllAlarms_ok {l : List DPart} (hs : tot (.sl tPart) l ≤ 1048576) : F_spec_AllAlarms k (l, ()) = some (sortL (allIn l), ()) := by
  have hl := tot_len (e := tPart) (l := l)
  simp only [F_spec_AllAlarms, joinC]
  refine loop_run (fun i : Nat => (l, (l.take i).flatMap alarmsIn, (i : Int), ())) l.length (fun G i hi => ?_) (fun G => ?_) k 0 (by omega) (by omega)
  · have h1 := part_at hk hs hi
    have hb := allIn_tot hk (l.take i)
    unfold allIn at hb
    have hb1 := alarmsIn_tot hk (l.getD i tPart.dflt)
    have hb2 := tot_take (e := tPart) l i
    have hb3 := tot_len (e := tAlarm) (l := (l.take i).flatMap alarmsIn)
    have hb4 := tot_len (e := tAlarm) (l := alarmsIn (l.getD i tPart.dflt))
    simp only [lt_nat, in_nat hi, hi, decide_true, if_true, Int.toNat_natCast]
    rw [spec_AlarmsIn_ok hk h1, Option.bind_some, if_pos (by simp only [decide_eq_true_eq]; omega), wrapS (by omega), flatMap_take tPart.dflt hi]
  · have hb := allIn_tot hk l
    simp only [lt_nat, Nat.lt_irrefl, decide_false, Bool.false_eq_true, if_false, List.take_length]
    show Option.bind (F_spec_l8Sort k (allIn l, ())) _ = _
    rw [l8Sort_ok hk (by omega)]
    rfl

theorem impl_AllAlarms_ok {l : List DPart} (hs : tot (.sl tPart) l ≤ 1048576) (hn : countL l < 20) : F_impl_AllAlarms k (l, ()) = some (sortL (allIn l), ()) := by
  have hl := tot_len (e := tPart) (l := l)
  simp only [F_impl_AllAlarms, joinC]
  refine loop_run (fun i : Nat => ((l.take i).flatMap alarmsIn, l, (l.length : Int), (i : Int), ())) l.length (fun G i hi => ?_) (fun G => ?_) k 0 (by omega) (by omega)
  · have h1 := part_at hk hs hi
    have hb := allIn_tot hk (l.take i)
    unfold allIn at hb
    have hb1 := alarmsIn_tot hk (l.getD i tPart.dflt)
    have hb2 := tot_take (e := tPart) l i
    have hb3 := tot_len (e := tAlarm) (l := (l.take i).flatMap alarmsIn)
    have hb4 := tot_len (e := tAlarm) (l := alarmsIn (l.getD i tPart.dflt))
    simp only [lt_nat, in_nat hi, hi, decide_true, if_true, Int.toNat_natCast]
    rw [impl_AlarmsIn_ok hk h1, Option.bind_some, if_pos (by simp only [decide_eq_true_eq]; omega), wrapS (by omega), flatMap_take tPart.dflt hi]
  · simp only [lt_nat, Nat.lt_irrefl, decide_false, Bool.false_eq_true, if_false, List.take_length]
    show Option.bind (F_impl_byLabels k (allIn l, ())) _ = _
    simp only [F_impl_byLabels, bylabF]
    rw [if_pos ?_]
    · rfl
    · simp only [Bool.and_eq_true, decide_eq_true_eq, List.all_eq_true]
      refine ⟨hn, fun a ha => ?_⟩
      have hb := allIn_tot hk l
      have hm := tot_mem (e := tAlarm) ha
      have h1 := tot_Alarm hk a
      have h2 := tot_len (e := tLabel) (l := a.1)
      omega

theorem countL_le {l : List DPart} (hs : tot (.sl tPart) l ≤ 1048576) : countL l ≤ 1048576 := by
  have h1 := allIn_tot hk l
  have h2 := tot_len (e := tAlarm) (l := allIn l)
  unfold countL
  omega

theorem impl_CountOf_ok {l : List DPart} (hs : tot (.sl tPart) l ≤ 1048576) : F_impl_CountOf k (l, ()) = some ((countL l : Int), ()) := by
  have hl := tot_len (e := tPart) (l := l)
  simp only [F_impl_CountOf]
  refine loop_run (fun i : Nat => (((((l.take i).flatMap alarmsIn).length : Nat) : Int), l, (l.length : Int), (i : Int), ())) l.length (fun G i hi => ?_) (fun G => ?_) k 0 (by omega) (by omega)
  · have h1 := part_at hk hs hi
    have hb := allIn_tot hk (l.take i)
    unfold allIn at hb
    have hb2 := tot_take (e := tPart) l i
    have hb3 := tot_len (e := tAlarm) (l := (l.take i).flatMap alarmsIn)
    rw [flatMap_take tPart.dflt hi, List.length_append]
    simp only [lt_nat, in_nat hi, hi, decide_true, if_true, Int.toNat_natCast]
    have hp := h1
    rw [tot_Part hk] at hp
    have hpl := tot_len (e := tChain) (l := (l.getD i tPart.dflt).2.2)
    refine loop_run (fun j : Nat => (((((l.take i).flatMap alarmsIn).length + (((l.getD i tPart.dflt).2.2.take j).flatMap chL).length : Nat) : Int), l.getD i tPart.dflt, l, (l.length : Int), (i : Int), (l.getD i tPart.dflt).2.2, ((l.getD i tPart.dflt).2.2.length : Int), (j : Int), ())) (l.getD i tPart.dflt).2.2.length (fun G2 j hj => ?_) (fun G2 => ?_) k 0 (by omega) (by omega)
    · have hc := tot_flat hk (e := tChain) (f := tAlarm) (g := chL) (fun c => by rw [tot_Chain hk]; exact Nat.le_refl _) ((l.getD i tPart.dflt).2.2.take j)
      have hc1 := tot_take (e := tChain) (l.getD i tPart.dflt).2.2 j
      have hc2 := tot_len (e := tAlarm) (l := ((l.getD i tPart.dflt).2.2.take j).flatMap chL)
      obtain ⟨h3, h4⟩ := chain_at hk h1 hj
      have hc3 := tot_len (e := tAlarm) (l := ((l.getD i tPart.dflt).2.2.getD j tChain.dflt).2)
      simp only [in_nat hj, lt_nat, hj, decide_true, if_true, Int.toNat_natCast]
      rw [wrapA (by omega), wrapS (by omega), flatMap_take tChain.dflt hj, List.length_append, Nat.add_assoc]
    · simp only [lt_nat, Nat.lt_irrefl, decide_false, Bool.false_eq_true, if_false, List.take_length]
      rw [wrapS (by omega)]
      rfl
  · simp only [lt_nat, Nat.lt_irrefl, decide_false, Bool.false_eq_true, if_false, List.take_length]
    rfl

theorem spec_chainAt_ok {p : DPart} {f : Int} (hl : p.2.2.length ≤ 1048576) : F_spec_l7At k (p, f, ()) = some (posI (chainAt p f), ()) := by
  simp only [F_spec_l7At]
  refine (loop_find (fun i : Nat => (f, p, (i : Int), ())) (fun i => decide ((p.2.2.getD i tChain.dflt).1 = f)) p.2.2.length (e := some (-1, ())) (fun i => some ((i : Int), ())) (fun G i hi => ?_) (fun G => ?_) k (by omega)).trans ?_
  · simp only [lt_nat, in_nat hi, hi, decide_true, if_true, Int.toNat_natCast, beq_dec]
    rw [wrapS (by omega)]
  · simp
  · unfold chainAt
    cases idxB p.2.2.length (fun i => decide ((p.2.2.getD i tChain.dflt).1 = f)) <;> rfl

theorem impl_chainOf_ok {p : DPart} {f : Int} (hl : p.2.2.length ≤ 1048576) : F_impl_chainOf k (p, f, ()) = some (posI (chainAt p f), ()) := by
  simp only [F_impl_chainOf]
  refine (loop_find (fun i : Nat => (f, p, p.2.2, (p.2.2.length : Int), (i : Int), ())) (fun i => decide ((p.2.2.getD i tChain.dflt).1 = f)) p.2.2.length (e := some (-1, ())) (fun i => some ((i : Int), ())) (fun G i hi => ?_) (fun G => ?_) k (by omega)).trans ?_
  · simp only [lt_nat, in_nat hi, hi, decide_true, if_true, Int.toNat_natCast, beq_dec]
    rw [wrapS (by omega)]
  · simp
  · unfold chainAt
    cases idxB p.2.2.length (fun i => decide ((p.2.2.getD i tChain.dflt).1 = f)) <;> rfl

omit hk in
theorem posI_none : decide (posI none < 0) = true := rfl
omit hk in
theorem posI_some (i : Nat) : decide (posI (some i) < 0) = false := decide_eq_false (by simp only [posI]; omega)
omit hk in
theorem posI_in {i n : Nat} (h : i < n) : decide (0 ≤ posI (some i) ∧ posI (some i) < (n : Int)) = true := by simp only [posI]; exact in_nat h
omit hk in
theorem posI_nat (i : Nat) : (posI (some i)).toNat = i := by simp [posI]

theorem spec_FindIn_ok {p : DPart} {s : List DLabel} (hs : tot tPart p ≤ 1048576) (hl : tot (.sl tLabel) s ≤ 1048576) : F_spec_FindIn k (p, s, ()) = some ((findIn k p s).1, (findIn k p s).2, ()) := by
  have hpl : p.2.2.length ≤ 1048576 := by rw [tot_Part hk] at hs; have := tot_len (e := tChain) (l := p.2.2); omega
  simp only [F_spec_FindIn, spec_Finger_ok hk hl, spec_chainAt_ok hk hpl, Option.bind_some, findIn]
  cases hc : chainAt p (fing k s) with
  | none => rfl
  | some i =>
    obtain ⟨hi, _, _⟩ := idxB_some.1 hc
    obtain ⟨h1, h2⟩ := chain_at hk hs hi
    refine (if_noB (posI_some i)).trans ?_
    refine (if_pos (posI_in hi)).trans ?_
    rw [posI_nat, spec_InChain_ok hk h2, Option.bind_some]
    dsimp only
    cases hq : lblAt (p.2.2.getD i tChain.dflt).2 s with
    | none => rfl
    | some j =>
      obtain ⟨hj, _, _⟩ := idxB_some.1 hq
      have h3 := tot_at (e := tAlarm) (d := tAlarm.dflt) hj
      refine (if_noB (posI_some j)).trans ?_
      refine (if_pos (posI_in hi)).trans ?_
      refine (if_pos (posI_in hj)).trans ?_
      rw [posI_nat, l4Copy_ok hk (by omega)]
      rfl

theorem impl_FindIn_ok {p : DPart} {s : List DLabel} (hs : tot tPart p ≤ 1048576) (hl : tot (.sl tLabel) s ≤ 1048576) : F_impl_FindIn k (p, s, ()) = some ((findIn k p s).1, (findIn k p s).2, ()) := by
  have hpl : p.2.2.length ≤ 1048576 := by rw [tot_Part hk] at hs; have := tot_len (e := tChain) (l := p.2.2); omega
  simp only [F_impl_FindIn, impl_Finger_ok hk hl, impl_chainOf_ok hk hpl, Option.bind_some, findIn]
  cases hc : chainAt p (fing k s) with
  | none => rfl
  | some i =>
    obtain ⟨hi, _, _⟩ := idxB_some.1 hc
    obtain ⟨h1, h2⟩ := chain_at hk hs hi
    refine (if_noB (posI_some i)).trans ?_
    refine (if_pos (posI_in hi)).trans ?_
    rw [posI_nat, impl_InChain_ok hk h2, Option.bind_some]
    dsimp only
    cases hq : lblAt (p.2.2.getD i tChain.dflt).2 s with
    | none => rfl
    | some j =>
      obtain ⟨hj, _, _⟩ := idxB_some.1 hq
      have h3 := tot_at (e := tAlarm) (d := tAlarm.dflt) hj
      refine (if_noB (posI_some j)).trans ?_
      refine (if_pos (posI_in hi)).trans ?_
      refine (if_pos (posI_in hj)).trans ?_
      rw [posI_nat, copyAlarm_ok hk (by omega)]
      rfl

theorem spec_HomeOf_ok {l : List DPart} {s : List DLabel} (hl : tot (.sl tLabel) s ≤ 1048576) : F_spec_HomeOf k (l, s, ()) = some (homeOf k l s, ()) := by
  simp only [F_spec_HomeOf, spec_Finger_ok hk hl, spec_PartOf_ok hk, Option.bind_some, homeOf]

theorem impl_HomeOf_ok {l : List DPart} {s : List DLabel} (hl : tot (.sl tLabel) s ≤ 1048576) : F_impl_HomeOf k (l, s, ()) = some (homeOf k l s, ()) := by
  simp only [F_impl_HomeOf, impl_Finger_ok hk hl, impl_PartOf_ok hk, Option.bind_some, homeOf]

omit hk in
theorem homeOf_lt {l : List DPart} {s : List DLabel} (h : l.length ≠ 0) : 0 ≤ homeOf k l s ∧ homeOf k l s < (l.length : Int) ∧ (homeOf k l s).toNat < l.length := by
  have := partOfI_lt (f := fing k s) (n := (l.length : Int)) (by omega)
  unfold homeOf
  omega

theorem spec_FindAlarm_ok {l : List DPart} {s : List DLabel} (hs : tot (.sl tPart) l ≤ 1048576) (hl : tot (.sl tLabel) s ≤ 1048576) : F_spec_FindAlarm k (l, s, ()) = some ((findAl k l s).1, (findAl k l s).2, ()) := by
  simp only [F_spec_FindAlarm, spec_HomeOf_ok hk hl, Option.bind_some, findAl]
  by_cases h0 : l.length = 0
  · rw [if_pos (by simpa using h0), if_pos h0]; rfl
  · obtain ⟨a, b, c⟩ := homeOf_lt (k := k) (l := l) (s := s) h0
    rw [if_neg (by simpa using h0), if_pos (by simpa using ⟨a, b⟩), spec_FindIn_ok hk (part_at hk hs c) hl, Option.bind_some, if_neg h0]

theorem impl_FindAlarm_ok {l : List DPart} {s : List DLabel} (hs : tot (.sl tPart) l ≤ 1048576) (hl : tot (.sl tLabel) s ≤ 1048576) : F_impl_FindAlarm k (l, s, ()) = some ((findAl k l s).1, (findAl k l s).2, ()) := by
  simp only [F_impl_FindAlarm, impl_HomeOf_ok hk hl, Option.bind_some, findAl]
  by_cases h0 : l.length = 0
  · rw [if_pos (by simpa using h0), if_pos h0]; rfl
  · obtain ⟨a, b, c⟩ := homeOf_lt (k := k) (l := l) (s := s) h0
    rw [if_neg (by simpa using h0), if_pos (by simpa using ⟨a, b⟩), impl_FindIn_ok hk (part_at hk hs c) hl, Option.bind_some, if_neg h0]

theorem before_eq (a b : DTimer) : F_impl_Before k (a, b, ()) = some (beforeB a b, ()) := by
  simp only [F_impl_Before, beforeB, beq_dec]
  by_cases h1 : a.1 < b.1 <;> by_cases h2 : a.1 = b.1 <;> simp [h1, h2]

theorem spec_before_eq (a b : DTimer) : F_spec_Before k (a, b, ()) = some (beforeB a b, ()) := by
  simp only [F_spec_Before, beforeB, beq_dec]
  by_cases h1 : a.1 < b.1 <;> by_cases h2 : a.1 = b.1 <;> simp [h1, h2]

theorem impl_HeapOk_ok {l : List DTimer} (hl : l.length ≤ 1048576) : F_impl_HeapOk k (l, ()) = some (okHeap l, ()) := by
  simp only [F_impl_HeapOk, joinC]
  refine (loop_all (fun i : Nat => (l, l, (l.length : Int), (i : Int), ())) (fun i => (decide (0 ≤ (l.getD i tTimer.dflt).1) && decide (0 ≤ (l.getD i tTimer.dflt).2)) && (i == 0 || !beforeB (l.getD i tTimer.dflt) (l.getD ((i - 1) / 2) tTimer.dflt))) l.length
    (e := some (decide (l.length ≤ 16), ())) (no := some (false, ())) ?_ ?_ k 0 (by omega)).trans ?_
  · intro G i hi
    cases i with
    | zero =>
      simp only [lt_nat, in_nat hi, hi, gtZ, decide_true, if_true, Int.toNat_natCast, before_eq hk, Option.bind_some, ite_some]
      rw [wrapS (by omega)]
      simp only [ge0_dec]
      rcases Bool.eq_false_or_eq_true (decide ((l.getD 0 tTimer.dflt).1 < 0)) with h1 | h1 <;> rcases Bool.eq_false_or_eq_true (decide ((l.getD 0 tTimer.dflt).2 < 0)) with h2 | h2 <;>
        simp only [h1, h2, if_true, Bool.false_eq_true, if_false, beq_self_eq_true, Bool.and_false, Bool.and_true, Bool.true_and, Bool.false_and, Bool.not_false, Bool.not_true, Bool.true_or, Bool.or_true, tbf, fbt, Bool.or_self, Bool.and_self]
    | succ q =>
      have hq : q / 2 < l.length := by omega
      simp only [lt_nat, in_nat hi, in_nat hq, hi, gtS, half_wrap (show q < 4611686018427387904 by omega), decide_true, if_true, Int.toNat_natCast, before_eq hk, Option.bind_some, ite_some, Bool.or_true, ne_eq, Nat.add_sub_cancel]
      rw [wrapS (by omega)]
      have hb : ((q + 1 : Nat) == 0) = false := rfl
      rw [hb]
      have e2 : decide (¬ (2 : Int) = 0) = true := rfl
      rw [e2]
      simp only [ge0_dec]
      rcases Bool.eq_false_or_eq_true (decide ((l.getD (q + 1) tTimer.dflt).1 < 0)) with h1 | h1 <;> rcases Bool.eq_false_or_eq_true (decide ((l.getD (q + 1) tTimer.dflt).2 < 0)) with h2 | h2 <;>
        rcases Bool.eq_false_or_eq_true (beforeB (l.getD (q + 1) tTimer.dflt) (l.getD (q / 2) tTimer.dflt)) with h3 | h3 <;>
        simp only [h1, h2, h3, if_true, Bool.false_eq_true, if_false, beq_self_eq_true, Bool.and_false, Bool.and_true, Bool.true_and, Bool.false_and, Bool.not_false, Bool.not_true, Bool.true_or, Bool.or_true, Bool.or_false, Bool.false_or, tbf, fbt, Bool.or_self, Bool.and_self]
  · intro G i hi
    simp only [lt_nat]
    rw [if_neg (by simp; omega)]
    congr 2
    rw [Bool.eq_iff_iff]; simp; omega
  · unfold okHeap
    generalize allB 0 l.length _ = b
    cases b <;> simp

theorem spec_HeapOk_ok {l : List DTimer} (hl : l.length ≤ 1048576) : F_spec_HeapOk k (l, ()) = some (okHeap l, ()) := by
  simp only [F_spec_HeapOk, joinC]
  refine (loop_all (fun i : Nat => (l, (i : Int), ())) (fun i => (decide (0 ≤ (l.getD i tTimer.dflt).1) && decide (0 ≤ (l.getD i tTimer.dflt).2)) && (i == 0 || !beforeB (l.getD i tTimer.dflt) (l.getD ((i - 1) / 2) tTimer.dflt))) l.length
    (e := some (decide (l.length ≤ 16), ())) (no := some (false, ())) ?_ ?_ k 0 (by omega)).trans ?_
  · intro G i hi
    cases i with
    | zero =>
      simp only [lt_nat, in_nat hi, hi, gtZ, decide_true, if_true, Int.toNat_natCast, spec_before_eq hk, Option.bind_some, ite_some, Bool.or_true]
      rw [wrapS (by omega)]
      simp only [ge0_dec]
      rcases Bool.eq_false_or_eq_true (decide ((l.getD 0 tTimer.dflt).1 < 0)) with h1 | h1 <;> rcases Bool.eq_false_or_eq_true (decide ((l.getD 0 tTimer.dflt).2 < 0)) with h2 | h2 <;>
        simp only [h1, h2, if_true, Bool.false_eq_true, if_false, beq_self_eq_true, Bool.and_false, Bool.and_true, Bool.true_and, Bool.false_and, Bool.not_false, Bool.not_true, Bool.true_or, Bool.or_true, tbf, fbt, Bool.or_self, Bool.and_self]
    | succ q =>
      have hq : q / 2 < l.length := by omega
      simp only [lt_nat, in_nat hi, in_nat hq, hi, gtS, half_wrap (show q < 4611686018427387904 by omega), decide_true, if_true, Int.toNat_natCast, spec_before_eq hk, Option.bind_some, ite_some, Bool.or_true, ne_eq, Nat.add_sub_cancel]
      rw [wrapS (by omega)]
      have hb : ((q + 1 : Nat) == 0) = false := rfl
      rw [hb]
      have e2 : decide (¬ (2 : Int) = 0) = true := rfl
      rw [e2]
      simp only [ge0_dec]
      rcases Bool.eq_false_or_eq_true (decide ((l.getD (q + 1) tTimer.dflt).1 < 0)) with h1 | h1 <;> rcases Bool.eq_false_or_eq_true (decide ((l.getD (q + 1) tTimer.dflt).2 < 0)) with h2 | h2 <;>
        rcases Bool.eq_false_or_eq_true (beforeB (l.getD (q + 1) tTimer.dflt) (l.getD (q / 2) tTimer.dflt)) with h3 | h3 <;>
        simp only [h1, h2, h3, if_true, Bool.false_eq_true, if_false, beq_self_eq_true, Bool.and_false, Bool.and_true, Bool.true_and, Bool.false_and, Bool.not_false, Bool.not_true, Bool.true_or, Bool.or_true, Bool.or_false, Bool.false_or, tbf, fbt, Bool.or_self, Bool.and_self]
  · intro G i hi
    simp only [lt_nat]
    rw [if_neg (by simp; omega)]
    congr 2
    rw [Bool.eq_iff_iff]; simp; omega
  · unfold okHeap
    generalize allB 0 l.length _ = b
    cases b <;> simp

theorem impl_Due_ok {c : DConf} {g : DGroup} : F_impl_Due k (c, g, ()) = some (dueOf c g, ()) := by
  simp only [F_impl_Due, F_impl_NextDue, dueOf, beq_dec]
  by_cases h : g.2.2.2.1 = -1 <;> simp [h]

theorem spec_Due_ok {c : DConf} {g : DGroup} : F_spec_Due k (c, g, ()) = some (dueOf c g, ()) := by
  simp only [F_spec_Due, F_spec_NextDue, dueOf, beq_dec]
  by_cases h : g.2.2.2.1 = -1 <;> simp [h]

end
end Vg.Tryz
