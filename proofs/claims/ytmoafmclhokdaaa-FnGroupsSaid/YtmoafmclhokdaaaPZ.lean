/- Plain laws: who joins which group; groups that are drawn. -/
import Derived.Test.YtmoafmclhokdaaaPY
namespace Vg.Try
open Go Vg
set_option linter.unusedVariables false
set_option linter.unusedSectionVars false
set_option linter.unusedSimpArgs false

def keyIx (l : List DGroup) (key : List DLabel) : Option Nat := idxB l.length (fun i => decide ((l.getD i tGroup.dflt).2.1 = key))
def joinAllL (l : List DGroup) (a : DAlarm) (by_ : List ByteArray) (n now : Int) : List DGroup :=
  match keyIx l (keyOf a by_) with
  | some i => l.set i (joinG (l.getD i tGroup.dflt) a)
  | none => l ++ [(n, keyOf a by_, now, -1, [a])]
def memIx (l : List DGroup) (s : List DLabel) : Option Nat := idxB l.length (fun i => (labIx (l.getD i tGroup.dflt).2.2.2.2 s).isSome)
def memN (l : List DGroup) (s : List DLabel) : Int := match memIx l s with | some i => (l.getD i tGroup.dflt).1 | none => -1

section
variable {k : Nat} (hk : 9223372036854775808 ≤ k)
include hk

theorem totG_app (l m : List DGroup) : tot (.sl tGroup) (l ++ m) = tot (.sl tGroup) l + tot (.sl tGroup) m := tot_app (e := tGroup) l m
theorem totG_cons (x : DGroup) (l : List DGroup) : tot (.sl tGroup) (x :: l) = 1 + tot tGroup x + tot (.sl tGroup) l := tot_cons (e := tGroup) x l
theorem totG_nil : tot (.sl tGroup) ([] : List DGroup) = 0 := tot_nil (e := tGroup)

theorem impl_GroupOf_ix {l : List DGroup} {key : List DLabel} (h : tot (.sl tGroup) l ≤ 1048576) : F_impl_GroupOf k (l, key, ()) = some (posI (keyIx l key), ()) := by
  have h2 := tot_len (e := tGroup) (l := l)
  simp only [F_impl_GroupOf]
  refine (loop_find (fun i : Nat => (key, l, (l.length : Int), (i : Int), ())) (fun i => decide ((l.getD i tGroup.dflt).2.1 = key)) l.length (e := some (-1, ())) (fun i => some ((i : Int), ())) (fun G i hi => ?_) (fun G => ?_) k (by omega)).trans ?_
  · simp only [lt_nat, in_nat hi, hi, decide_true, if_true, Int.toNat_natCast]
    rw [wrapS (by omega), impl_SameSet_ok hk (group_at hk h hi).2, Option.bind_some]
  · simp
  · unfold keyIx
    cases idxB l.length (fun i => decide ((l.getD i tGroup.dflt).2.1 = key)) <;> rfl

theorem spec_GroupOf_ix {l : List DGroup} {key : List DLabel} (h : tot (.sl tGroup) l ≤ 1048576) : F_spec_GroupOf k (l, key, ()) = some (posI (keyIx l key), ()) := by
  have h2 := tot_len (e := tGroup) (l := l)
  simp only [F_spec_GroupOf]
  refine (loop_find (fun i : Nat => (l, key, (i : Int), ())) (fun i => decide ((l.getD i tGroup.dflt).2.1 = key)) l.length (e := some (-1, ())) (fun i => some ((i : Int), ())) (fun G i hi => ?_) (fun G => ?_) k (by omega)).trans ?_
  · simp only [lt_nat, in_nat hi, hi, decide_true, if_true, Int.toNat_natCast]
    rw [wrapS (by omega), spec_SameSet_ok hk (group_at hk h hi).2, Option.bind_some]
  · simp
  · unfold keyIx
    cases idxB l.length (fun i => decide ((l.getD i tGroup.dflt).2.1 = key)) <;> rfl

theorem impl_JoinAll_ok {l : List DGroup} {a : DAlarm} {by_ : List ByteArray} {n now : Int} (hl : tot (.sl tGroup) l ≤ 1048576) (ha : tot tAlarm a ≤ 1048576) (hb : by_.length ≤ 1048576) :
    F_impl_JoinAll k (l, a, by_, n, now, ()) = some (joinAllL l a by_ n now, (keyIx l (keyOf a by_)).isNone, ()) := by
  have h2 := tot_len (e := tGroup) (l := l)
  simp only [F_impl_JoinAll]
  rw [copyGroups_ok hk (by omega), Option.bind_some, impl_KeyOf_ok hk ha hb, Option.bind_some]
  unfold joinAllL
  cases h : keyIx l (keyOf a by_) with
  | none =>
    have e : F_impl_GroupOf k (l, keyOf a by_, ()) = some (-1, ()) := by rw [impl_GroupOf_ix hk hl, h]; rfl
    rw [e, Option.bind_some, if_neg (by decide), copyAlarm_ok hk (by omega), Option.bind_some, if_pos (by simp; omega)]
    rfl
  | some i =>
    have hi := (idxB_some.1 h).1
    have e : F_impl_GroupOf k (l, keyOf a by_, ()) = some ((i : Int), ()) := by rw [impl_GroupOf_ix hk hl, h]; rfl
    rw [e, Option.bind_some, if_pos (by simp), if_pos (in_nat hi)]
    simp only [Int.toNat_natCast]
    rw [impl_JoinIn_ok hk (group_at hk hl hi).1 ha, Option.bind_some, if_pos (in_nat hi)]
    rfl

theorem spec_JoinAll_ok {l : List DGroup} {a : DAlarm} {by_ : List ByteArray} {n now : Int} (hl : tot (.sl tGroup) l ≤ 1048576) (ha : tot tAlarm a ≤ 1048576) (hb : by_.length ≤ 1048576) :
    F_spec_JoinAll k (l, a, by_, n, now, ()) = some (joinAllL l a by_ n now, (keyIx l (keyOf a by_)).isNone, ()) := by
  have h2 := tot_len (e := tGroup) (l := l)
  simp only [F_spec_JoinAll]
  rw [l12Copy_ok hk (by omega), Option.bind_some, spec_KeyOf_ok hk ha hb, Option.bind_some]
  unfold joinAllL
  cases h : keyIx l (keyOf a by_) with
  | none =>
    have e : F_spec_GroupOf k (l, keyOf a by_, ()) = some (-1, ()) := by rw [spec_GroupOf_ix hk hl, h]; rfl
    rw [e, Option.bind_some, if_neg (by decide), l4Copy_ok hk (by omega), Option.bind_some, if_pos (by simp; omega)]
    rfl
  | some i =>
    have hi := (idxB_some.1 h).1
    have e : F_spec_GroupOf k (l, keyOf a by_, ()) = some ((i : Int), ()) := by rw [spec_GroupOf_ix hk hl, h]; rfl
    rw [e, Option.bind_some, if_pos (by simp), if_pos (in_nat hi)]
    simp only [Int.toNat_natCast]
    rw [spec_JoinIn_ok hk (group_at hk hl hi).1 ha, Option.bind_some, if_pos (in_nat hi)]
    rfl

theorem keyOf_tot (a : DAlarm) (by_ : List ByteArray) : tot (.sl tLabel) (keyOf a by_) ≤ tot tAlarm a := by
  have h11 : tot (.sl tLabel) (keyOf a by_) ≤ tot (.sl tLabel) a.1 := tot_filter (e := tLabel) _ _
  have h12 := tot_Alarm hk a
  omega

theorem joinAllL_tot {l : List DGroup} {a : DAlarm} {by_ : List ByteArray} {n now : Int} : tot (.sl tGroup) (joinAllL l a by_ n now) ≤ tot (.sl tGroup) l + 2 * tot tAlarm a + 2 := by
  unfold joinAllL
  cases h : keyIx l (keyOf a by_) with
  | none =>
    dsimp only
    have h1 := keyOf_tot hk a by_
    rw [totG_app hk, totG_cons hk, totG_nil hk, tot_Group hk]
    dsimp only
    rw [totA_cons hk, totA_nil hk]
    omega
  | some i =>
    have hi := (idxB_some.1 h).1
    have h1 := tot_set (e := tGroup) l i (joinG (l.getD i tGroup.dflt) a) hi
    have h2 := joinG_tot hk (g := l.getD i tGroup.dflt) (a := a)
    dsimp only
    omega

theorem impl_MemberOf_ok {l : List DGroup} {s : List DLabel} (h : tot (.sl tGroup) l ≤ 1048576) : F_impl_MemberOf k (l, s, ()) = some (memN l s, ()) := by
  have h2 := tot_len (e := tGroup) (l := l)
  simp only [F_impl_MemberOf]
  refine (loop_find (fun i : Nat => (s, l, (l.length : Int), (i : Int), ())) (fun i => (labIx (l.getD i tGroup.dflt).2.2.2.2 s).isSome) l.length (e := some (-1, ())) (fun i => some ((l.getD i tGroup.dflt).1, ())) (fun G i hi => ?_) (fun G => ?_) k (by omega)).trans ?_
  · have hg := (group_at hk h hi).1
    rw [tot_Group hk] at hg
    simp only [lt_nat, in_nat hi, hi, decide_true, if_true, Int.toNat_natCast]
    rw [wrapS (by omega), impl_labelsAt_ok hk (by omega), Option.bind_some]
    cases hx : labIx (l.getD i tGroup.dflt).2.2.2.2 s with
    | none =>
      have : decide ((posI none : Int) ≥ 0) = false := by decide
      simp only [this, Option.isSome_none, Bool.false_eq_true, if_false]
    | some j =>
      have : decide ((posI (some j) : Int) ≥ 0) = true := by simp [posI]
      simp only [this, Option.isSome_some, if_true]
  · simp
  · unfold memN memIx
    cases idxB l.length (fun i => (labIx (l.getD i tGroup.dflt).2.2.2.2 s).isSome) <;> rfl

theorem spec_MemberOf_ok {l : List DGroup} {s : List DLabel} (h : tot (.sl tGroup) l ≤ 1048576) : F_spec_MemberOf k (l, s, ()) = some (memN l s, ()) := by
  have h2 := tot_len (e := tGroup) (l := l)
  simp only [F_spec_MemberOf]
  refine (loop_find (fun i : Nat => (l, s, (i : Int), ())) (fun i => (labIx (l.getD i tGroup.dflt).2.2.2.2 s).isSome) l.length (e := some (-1, ())) (fun i => some ((l.getD i tGroup.dflt).1, ())) (fun G i hi => ?_) (fun G => ?_) k (by omega)).trans ?_
  · have hg := (group_at hk h hi).1
    rw [tot_Group hk] at hg
    have h3 := tot_len (e := tAlarm) (l := (l.getD i tGroup.dflt).2.2.2.2)
    simp only [lt_nat, hi, decide_true, if_true]
    refine (loop_find (fun j : Nat => (l, s, (i : Int), (j : Int), ())) (fun j => decide (((l.getD i tGroup.dflt).2.2.2.2.getD j tAlarm.dflt).1 = s)) (l.getD i tGroup.dflt).2.2.2.2.length (e := G (l, s, ((i + 1 : Nat) : Int), ())) (fun j => some ((l.getD i tGroup.dflt).1, ())) (fun G' j hj => ?_) (fun G' => ?_) k (by omega)).trans ?_
    · simp only [in_nat hi, if_true, Int.toNat_natCast, lt_nat, hj, decide_true, in_nat hj]
      rw [wrapS (by omega), spec_SameSet_ok hk (alarm_at hk (by omega) hj).2, Option.bind_some]
    · simp only [in_nat hi, if_true, Int.toNat_natCast, lt_nat, Nat.lt_irrefl, decide_false, Bool.false_eq_true, if_false]
      rw [wrapS (by omega)]
    · unfold labIx
      cases idxB (l.getD i tGroup.dflt).2.2.2.2.length (fun j => decide (((l.getD i tGroup.dflt).2.2.2.2.getD j tAlarm.dflt).1 = s)) <;> simp
  · simp
  · unfold memN memIx
    cases idxB l.length (fun i => (labIx (l.getD i tGroup.dflt).2.2.2.2 s).isSome) <;> rfl

theorem l12Draw_dr {c : DL1Cur} {by_ : List ByteArray} (hc : CurOk c) (hb : by_.length ≤ 1048576) : Dr (F_spec_l12Draw k (c, by_, ())) (fun r => CurOk r.2.1 ∧ tot (.sl tGroup) r.1 ≤ 1600) := by
  simp only [F_spec_l12Draw]
  refine drB (l1Below_dr hk hc) (fun r1 h1 => ?_)
  obtain ⟨h1, h2, h3⟩ := h1
  refine drL (fun s => s.2.2.2.2.1.toNat) (fun s => CurOk s.1 ∧ s.2.1 = by_ ∧ (tot (.sl tGroup) s.2.2.1 : Int) ≤ 1500 - 250 * s.2.2.2.2.1 ∧ 0 ≤ s.2.2.2.2.1 ∧ s.2.2.2.2.1 ≤ 6) ?_ ⟨h1, rfl, by dsimp only; rw [totG_nil hk]; omega, h2, by dsimp only; omega⟩ (by dsimp only; omega)
  rintro G ⟨c, b, l, n, i, u⟩ ⟨g1, g2, g3, g4, g5⟩ hG
  dsimp only at g1 g2 g3 g4 g5 ⊢
  subst g2
  refine drI (fun hi => ?_) (fun hi => drS ⟨g1, by dsimp only; omega⟩)
  have hi : 0 < i := by simpa using hi
  have hw : IntKind.i64.wrap (i - 1) = i - 1 := wrap64 (by omega) (by omega)
  rw [hw]
  refine drB (l4Draw_dr hk g1) (fun r4 h4 => drB (l1Below_dr hk h4.1) (fun r5 h5 => ?_))
  have h44 := h4.2
  have hj := joinAllL_tot hk (l := l) (a := r4.1) (by_ := b) (n := n) (now := r5.1)
  refine drBE (spec_JoinAll_ok hk (by omega) (by omega) hb) (drI (fun _ => ?_) (fun _ => ?_))
  · exact drB (l1Below_dr hk h5.1) (fun r7 h7 => hG _ ⟨h7.1, rfl, by dsimp only; omega, by dsimp only; omega, by dsimp only; omega⟩ (by dsimp only; omega))
  · exact hG _ ⟨h5.1, rfl, by dsimp only; omega, by dsimp only; omega, by dsimp only; omega⟩ (by dsimp only; omega)

theorem l12Any_dr {c : DL1Cur} {by_ : List ByteArray} (hc : CurOk c) (hb : by_.length ≤ 1048576) : Dr (F_spec_l12Any k (c, by_, ())) (fun r => CurOk r.2.1 ∧ tot (.sl tGroup) r.1 ≤ 5000) := by
  simp only [F_spec_l12Any]
  refine drB (l12Draw_dr hk hc hb) (fun r1 h1 => drB (l1Below_dr hk h1.1) (fun r2 h2 => ?_))
  have h11 := h1.2
  have hl := tot_len (e := tGroup) (l := r1.1)
  refine drI (fun _ => ?_) (fun _ => ?_)
  · refine drB (l11Any_dr hk h2.1 hb) (fun r3 h3 => drT (by simp; omega) (drS ⟨h3.1, ?_⟩))
    have := h3.2
    dsimp only
    rw [totG_app hk, totG_cons hk, totG_nil hk]
    omega
  refine drI (fun _ => drI (fun hp => ?_) (fun _ => drS ⟨h2.1, by dsimp only; omega⟩)) (fun _ => drS ⟨h2.1, by dsimp only; omega⟩)
  have hp : 0 < r1.1.length := by simpa using hp
  refine drB (l11Any_dr hk h2.1 hb) (fun r3 h3 => drT (by simp; omega) (drS ⟨h3.1, ?_⟩))
  have h33 := h3.2
  have hs := tot_set (e := tGroup) r1.1 0 r3.1 hp
  simp only [show Int.toNat 0 = 0 from rfl]
  omega

theorem DrawJoinAll_dr {b : List Int} (hb : b.length ≤ 1048576) : Dr (F_spec_DrawJoinAll k (b, ())) (fun r => tot (.sl tGroup) r.1 ≤ 5000 ∧ tot tAlarm r.2.1 ≤ 121 ∧ r.2.2.1.length ≤ 2) := by
  simp only [F_spec_DrawJoinAll]
  exact drB (l1New_dr hk hb) (fun r1 h1 => drB (l5By_dr hk h1) (fun r2 h2 => drB (l12Any_dr hk h2.1 (by omega)) (fun r3 h3 => drB (l4Draw_dr hk h3.1) (fun r4 h4 => drB (l1Below_dr hk h4.1) (fun r5 h5 => drS ⟨h3.2, h4.2, h2.2.1⟩)))))

theorem DrawFlushAt_dr {b : List Int} (hb : b.length ≤ 1048576) : Dr (F_spec_DrawFlushAt k (b, ())) (fun r => tot (.sl tGroup) r.1 ≤ 5000) := by
  simp only [F_spec_DrawFlushAt]
  refine drB (l1New_dr hk hb) (fun r1 h1 => drB (l5By_dr hk h1) (fun r2 h2 => drB (l12Any_dr hk h2.1 (by omega)) (fun r3 h3 => drB (l1Below_dr hk h3.1) (fun r4 h4 => ?_))))
  refine drI (fun hp => ?_) (fun hp => ?_)
  · refine drB (l1Once_dr hk h4.1) (fun r5 h5 => drI (fun _ => ?_) (fun _ => drB (l1Below_dr hk h5) (fun r6 h6 => drS h3.2)))
    have hp : 0 < r3.1.length := by simpa using hp
    exact drB (l1Below_dr hk h5) (fun r6 h6 => drT (by simp; omega) (drB (l1Below_dr hk h6.1) (fun r7 h7 => drS h3.2)))
  · refine drI (fun h => ?_) (fun _ => drB (l1Below_dr hk h4.1) (fun r6 h6 => drS h3.2))
    have hp : ¬ 0 < r3.1.length := by simpa using hp
    simp [hp] at h

theorem DrawGroupsOk_dr {b : List Int} (hb : b.length ≤ 1048576) : Dr (F_spec_DrawGroupsOk k (b, ())) (fun r => tot (.sl tGroup) r.1 ≤ 5000 ∧ r.2.1.length ≤ 2) := by
  simp only [F_spec_DrawGroupsOk]
  exact drB (l1New_dr hk hb) (fun r1 h1 => drB (l5By_dr hk h1) (fun r2 h2 => drB (l12Any_dr hk h2.1 (by omega)) (fun r3 h3 => drS ⟨h3.2, h2.2.1⟩)))

theorem DrawGroupOf_dr {b : List Int} (hb : b.length ≤ 1048576) : Dr (F_spec_DrawGroupOf k (b, ())) (fun r => tot (.sl tGroup) r.1 ≤ 5000) := by
  simp only [F_spec_DrawGroupOf]
  refine drB (l1New_dr hk hb) (fun r1 h1 => drB (l5By_dr hk h1) (fun r2 h2 => drB (l12Any_dr hk h2.1 (by omega)) (fun r3 h3 => ?_)))
  have free : ∀ {c : DL1Cur}, CurOk c → Dr (Option.bind (F_spec_l4Draw k (c, ())) fun r6 => Option.bind (F_spec_KeyOf k (r6.1, r2.1, ())) fun r7 => some (r3.1, r7.1, ())) (fun r => tot (.sl tGroup) r.1 ≤ 5000) :=
    fun hc => drB (l4Draw_dr hk hc) (fun r h => drBE (spec_KeyOf_ok hk (by have := h.2; omega) (by omega)) (drS h3.2))
  refine drI (fun hp => ?_) (fun hp => ?_)
  · refine drB (l1Once_dr hk h3.1) (fun r5 h5 => drI (fun _ => ?_) (fun _ => free h5))
    have hp : 0 < r3.1.length := by simpa using hp
    refine drB (l1Below_dr hk h5) (fun r6 h6 => drT (by simp; omega) (drT (decide_eq_true ?_) (drS h3.2)))
    have := (group_at hk (l := r3.1) (by have := h3.2; omega) (show r6.1.toNat < r3.1.length by omega)).2
    simp only [List.length_nil]
    omega
  · refine drI (fun h => ?_) (fun _ => free h3.1)
    simp at h

theorem DrawGroupAt_dr {b : List Int} (hb : b.length ≤ 1048576) : Dr (F_spec_DrawGroupAt k (b, ())) (fun r => tot (.sl tGroup) r.1 ≤ 5000) := by
  simp only [F_spec_DrawGroupAt]
  exact drB (l1New_dr hk hb) (fun r1 h1 => drB (l5By_dr hk h1) (fun r2 h2 => drB (l12Any_dr hk h2.1 (by omega)) (fun r3 h3 => drB (l1Below_dr hk h3.1) (fun r4 h4 => drS h3.2))))

theorem DrawMemberOf_dr {b : List Int} (hb : b.length ≤ 1048576) : Dr (F_spec_DrawMemberOf k (b, ())) (fun r => tot (.sl tGroup) r.1 ≤ 5000) := by
  simp only [F_spec_DrawMemberOf]
  refine drB (l1New_dr hk hb) (fun r1 h1 => drB (l5By_dr hk h1) (fun r2 h2 => drB (l12Any_dr hk h2.1 (by omega)) (fun r3 h3 => ?_)))
  refine drI (fun hp => ?_) (fun hp => ?_)
  · have hp : 0 < r3.1.length := by simpa using hp
    refine drB (l1Below_dr hk h3.1) (fun r6 h6 => drT (by simp; omega) ?_)
    have hg := (group_at hk (l := r3.1) (by have := h3.2; omega) (show r6.1.toNat < r3.1.length by omega)).1
    rw [tot_Group hk] at hg
    exact drB (l7Labels_dr hk h6.1 (by omega)) (fun r7 h7 => drS h3.2)
  · exact drB (l2Draw_dr hk h3.1) (fun r7 h7 => drS h3.2)

theorem sameGroups_ok {l : List DGroup} (hl : tot (.sl tGroup) l ≤ 1048576) : F_laws_sameGroups k (l, l, ()) = some (true, ()) := by
  have h1 := tot_len (e := tGroup) (l := l)
  simp only [F_laws_sameGroups]
  rw [if_neg (by simp)]
  refine (loop_run (fun i : Nat => (l, l, (i : Int), ())) l.length (e := some (true, ())) (fun G i hi => ?_) (fun G => ?_) k 0 (by omega) (by omega))
  · simp only [lt_nat, in_nat hi, hi, decide_true, if_true, Int.toNat_natCast]
    rw [wrapS (by omega), impl_SameGroup_ok hk (group_at hk hl hi).1, Option.bind_some]
    simp
  · simp

end
end Vg.Try
