/- The law FnGroups. -/
import Derived.Test.YtmoafmclhokdaaaPZ
namespace Vg.Try
open Go Vg
set_option linter.unusedVariables false
set_option linter.unusedSectionVars false
set_option linter.unusedSimpArgs false

theorem getD_app_end {α : Type} (l : List α) (x d : α) : (l ++ [x]).getD l.length d = x := by simp [List.getD_eq_getElem?_getD]
theorem getD_app_lt {α : Type} (l : List α) (x d : α) {i : Nat} (h : i < l.length) : (l ++ [x]).getD i d = l.getD i d := by simp [List.getD_eq_getElem?_getD, List.getElem?_append, h]
theorem getD_set_same {α : Type} (l : List α) (x d : α) {i : Nat} (h : i < l.length) : (l.set i x).getD i d = x := by simp [List.getD_eq_getElem?_getD, h]
theorem getD_set_ne {α : Type} (l : List α) (x d : α) {i j : Nat} (h : i ≠ j) : (l.set i x).getD j d = l.getD j d := by simp [List.getD_eq_getElem?_getD, h]

theorem keyIx_none {l : List DGroup} {a : DAlarm} {by_ : List ByteArray} {n now : Int} (h : keyIx l (keyOf a by_) = none) : keyIx (joinAllL l a by_ n now) (keyOf a by_) = some l.length := by
  have e : joinAllL l a by_ n now = l ++ [(n, keyOf a by_, now, -1, [a])] := by unfold joinAllL; rw [h]
  rw [e]
  refine idxB_some.2 ⟨by simp, ?_, fun j hj => ?_⟩
  · rw [getD_app_end]; exact decide_eq_true rfl
  · rw [getD_app_lt _ _ _ hj]
    exact idxB_none.1 h j hj

theorem keyIx_some {l : List DGroup} {a : DAlarm} {by_ : List ByteArray} {n now : Int} {i : Nat} (h : keyIx l (keyOf a by_) = some i) : keyIx (joinAllL l a by_ n now) (keyOf a by_) = some i := by
  have e : joinAllL l a by_ n now = l.set i (joinG (l.getD i tGroup.dflt) a) := by unfold joinAllL; rw [h]
  obtain ⟨h1, h2, h3⟩ := idxB_some.1 h
  rw [e]
  refine idxB_some.2 ⟨by simpa using h1, ?_, fun j hj => ?_⟩
  · rw [getD_set_same _ _ _ h1]; exact h2
  · rw [getD_set_ne _ _ _ (by omega)]; exact h3 j hj

section
variable {k : Nat} (hk : 9223372036854775808 ≤ k)
include hk

theorem law0_Groups (x : List Int) : F_laws_FnGroups k (x, ()) = some (true, ()) := by
  simp only [F_laws_FnGroups]
  have hbig : F_laws_big k (x, ()) = some (decide ((x.length : Int) > 1048576), ()) := rfl
  rw [hbig, Option.bind_some]
  by_cases hx : (x.length : Int) > 1048576
  · rw [if_pos (by simpa using hx)]
  rw [if_neg (by simpa using hx)]
  have hx : x.length ≤ 1048576 := by omega
  obtain ⟨⟨l, a, by_, n, now, u⟩, e1, h1, h2, h3⟩ := DrawJoinAll_dr hk hx
  obtain ⟨⟨f, fn, ft, u⟩, e2, h4⟩ := DrawFlushAt_dr hk hx
  obtain ⟨⟨o, ob, u⟩, e3, h5, h6⟩ := DrawGroupsOk_dr hk hx
  obtain ⟨⟨p, q, u⟩, e4, h7⟩ := DrawGroupOf_dr hk hx
  obtain ⟨⟨b, c, u⟩, e5, h8⟩ := DrawGroupAt_dr hk hx
  obtain ⟨⟨d, m, u⟩, e6, h9⟩ := DrawMemberOf_dr hk hx
  dsimp only at h1 h2 h3 h4 h5 h6 h7 h8 h9
  have h10 := joinAllL_tot hk (l := l) (a := a) (by_ := by_) (n := n) (now := now)
  have h11 := flushL_tot hk (l := f) (n := fn) (now := ft)
  have h12 := flushLB_tot hk (l := f) (n := fn) (now := ft)
  have h13 := tot_len (e := tGroup) (l := l)
  have h14 := tot_len (e := tGroup) (l := f)
  have h15 := tot_len (e := tGroup) (l := b)
  rw [e1, Option.bind_some, impl_JoinAll_ok hk (by dsimp only; omega) (by dsimp only; omega) (by dsimp only; omega), Option.bind_some, spec_JoinAll_ok hk (by dsimp only; omega) (by dsimp only; omega) (by dsimp only; omega), Option.bind_some,
    e2, Option.bind_some, impl_FlushAt_ok hk (by dsimp only; omega), Option.bind_some, spec_FlushAt_ok hk (by dsimp only; omega), Option.bind_some,
    e3, Option.bind_some, e4, Option.bind_some, e5, Option.bind_some, e6, Option.bind_some, sameGroups_ok hk (by dsimp only; omega), Option.bind_some]
  simp only [Bool.not_true, Bool.false_eq_true, if_false, beq_self_eq_true, if_true]
  rw [sameGroups_ok hk (by omega), Option.bind_some]
  simp only [Bool.not_true, Bool.false_eq_true, if_false, beq_self_eq_true, if_true]
  rw [impl_SameBatch_ok hk (by omega), Option.bind_some, decide_eq_true rfl]
  simp only [Bool.not_true, Bool.false_eq_true, if_false, beq_self_eq_true, if_true]
  rw [impl_GroupsOk_ok hk (by omega) (by omega), Option.bind_some, spec_GroupsOk_ok hk (by omega) (by omega), Option.bind_some]
  simp only [Bool.not_true, Bool.false_eq_true, if_false, beq_self_eq_true, if_true]
  rw [impl_GroupOf_ix hk (by omega), Option.bind_some, spec_GroupOf_ix hk (by omega), Option.bind_some]
  simp only [Bool.not_true, Bool.false_eq_true, if_false, beq_self_eq_true, if_true, bne_self_eq_false]
  rw [impl_GroupAt_ok hk (by omega), Option.bind_some, spec_GroupAt_ok hk (by omega), Option.bind_some]
  simp only [Bool.not_true, Bool.false_eq_true, if_false, beq_self_eq_true, if_true, bne_self_eq_false]
  rw [impl_MemberOf_ok hk (by omega), Option.bind_some, spec_MemberOf_ok hk (by omega), Option.bind_some]
  rw [if_neg (by simp), impl_KeyOf_ok hk (by omega) (by omega), Option.bind_some, impl_GroupOf_ix hk (by omega), Option.bind_some]
  have fin : ∃ z, Option.bind ((if (((!flushLK f fn) : Bool) == true) = true then F_laws_sameGroups k (flushL f fn ft, f, ()) else some (false, ()))) (fun r27 =>
       some (if (if (!flushLK f fn) = true then r27.1 else false) = true then true else if (if (if flushLK f fn = true then ((flushLB f fn ft).1 : Int) == fn else false) = true then ((flushLB f fn ft).2.2.1 : Int) == ft else false) = true then if ((((List.length (flushL f fn ft) : Nat) : Int) : Int) == ((List.length f : Nat) : Int)) = true then true else (((List.length (flushL f fn ft) : Nat) : Int) : Int) == (IntKind.i64.wrap (((List.length f : Nat) : Int) - (1 : Int))) else false, ())) = z ∧ z = some (true, ()) := by
    refine ⟨_, rfl, ?_⟩
    unfold flushLK flushL flushLB
    cases hg : grpAt f fn with
    | none =>
      simp only [Option.isSome_none, Bool.not_false, beq_self_eq_true, if_true]
      rw [sameGroups_ok hk (by omega), Option.bind_some]
      simp
    | some i =>
      obtain ⟨hi, hp, -⟩ := idxB_some.1 hg
      have hp : (f.getD i tGroup.dflt).1 = fn := by simpa using hp
      simp only [Option.isSome_some, Bool.not_true, Bool.false_eq_true, if_false, if_true, Option.bind_some]
      have hb1 : (flushB (f.getD i tGroup.dflt) ft).1 = fn := hp
      have hb2 : (flushB (f.getD i tGroup.dflt) ft).2.2.1 = ft := rfl
      rw [hb1, hb2, wrapP (by omega)]
      by_cases hz : (flushG (f.getD i tGroup.dflt) ft).2.2.2.2 = []
      · rw [if_pos hz]
        have : ((f.take i ++ f.drop (i + 1)).length : Int) = (f.length : Int) - 1 := by rw [List.length_append, List.length_take, List.length_drop]; omega
        rw [this]
        simp
      · rw [if_neg hz]
        simp
  obtain ⟨z, hz1, hz2⟩ := fin
  subst hz2
  cases hq : keyIx l (keyOf a by_) with
  | none =>
    have hq2 := keyIx_none (n := n) (now := now) hq
    have e : joinAllL l a by_ n now = l ++ [(n, keyOf a by_, now, -1, [a])] := by unfold joinAllL; rw [hq]
    have hlen : (l ++ [(n, keyOf a by_, now, -1, [a])]).length = l.length + 1 := by simp
    rw [hq2]
    have hj : posI (some l.length) = (l.length : Int) := rfl
    have hn : decide ((l.length : Int) < 0) = false := by simp
    have hin : decide (0 ≤ (l.length : Int) ∧ (l.length : Int) < ((l.length + 1 : Nat) : Int)) = true := by simp; omega
    simp only [hj, hn, e, hlen, Bool.false_eq_true, if_false, beq_self_eq_true, if_true, Option.isNone_none]
    rw [Option.bind_some, impl_GroupOf_ix hk (by omega), Option.bind_some]
    have hm1 : posI (keyIx l (keyOf a by_)) = -1 := by rw [hq]; rfl
    have hlt : decide ((-1 : Int) < 0) = true := by decide
    simp only [hm1, hlt, hin, Int.toNat_natCast, getD_app_end, wrapS (i := l.length) (by omega), Bool.or_true, if_true, beq_self_eq_true, bne_self_eq_false, Bool.not_true, Bool.false_eq_true, if_false, List.length_singleton]
    simpa using hz1
  | some i =>
    have hq2 := keyIx_some (n := n) (now := now) hq
    have hi := (idxB_some.1 hq).1
    have e : joinAllL l a by_ n now = l.set i (joinG (l.getD i tGroup.dflt) a) := by unfold joinAllL; rw [hq]
    have hlen : (l.set i (joinG (l.getD i tGroup.dflt) a)).length = l.length := by simp
    rw [hq2]
    have hj : posI (some i) = (i : Int) := rfl
    have hn : decide ((i : Int) < 0) = false := by simp
    have hin := in_nat hi
    simp only [hj, hn, e, hlen, Bool.false_eq_true, if_false, beq_self_eq_true, if_true, Option.isNone_some]
    rw [Option.bind_some, impl_GroupOf_ix hk (by omega), Option.bind_some]
    have hm1 : posI (keyIx l (keyOf a by_)) = (i : Int) := by rw [hq]; rfl
    simp only [hm1, hn, hin, Bool.or_true, if_true, beq_self_eq_true, bne_self_eq_false, Bool.not_true, Bool.not_false, Bool.false_eq_true, if_false]
    simpa using hz1

theorem law_Groups {x : List Int × Unit} (hx : Fits (.sl (.int .u8)) x.1) : F_laws_FnGroups k x = some (true, ()) := law0_Groups hk x.1

end
end Vg.Try
