/- Plain laws: all alarms, how many, in order; what is found; heaps. -/
import Derived.Test.YtlpeoedbginanaaGreatPF
namespace Vg.Tryz
open Go Vg
set_option linter.unusedVariables false
set_option linter.unusedSectionVars false
set_option linter.unusedSimpArgs false

theorem insRev_eq {α : Type} (lt : α → α → Bool) (x : α) : ∀ r : List α, insRev lt x r = r.takeWhile (lt x) ++ x :: r.dropWhile (lt x)
  | [] => rfl
  | y :: r => by
    simp only [insRev, List.takeWhile_cons, List.dropWhile_cons]
    split
    · rw [insRev_eq lt x r]; rfl
    · rfl

theorem takeWhile_at {α : Type} (p : α → Bool) (d : α) : ∀ (r : List α) (m : Nat), m < (r.takeWhile p).length → p (r.getD m d) = true
  | [], m, h => by simp at h
  | y :: r, m, h => by
    rw [List.takeWhile_cons] at h
    split at h
    · cases m with
      | zero => simpa
      | succ m => rw [List.getD_cons_succ]; exact takeWhile_at p d r m (by simpa using h)
    · simp at h

theorem takeWhile_end {α : Type} (p : α → Bool) (d : α) : ∀ (r : List α), (r.takeWhile p).length < r.length → p (r.getD (r.takeWhile p).length d) = false
  | [], h => by simp at h
  | y :: r, h => by
    rw [List.takeWhile_cons] at h ⊢
    split
    · rename_i hp
      rw [if_pos hp] at h
      simp only [List.length_cons, List.getD_cons_succ]
      exact takeWhile_end p d r (by simpa using h)
    · simpa using ‹¬ p y = true›

theorem getD_rev {α : Type} (d : α) (l : List α) (m : Nat) (h : m < l.length) : l.reverse.getD m d = l.getD (l.length - 1 - m) d := by
  rw [List.getD_eq_getElem?_getD, List.getElem?_reverse h, ← List.getD_eq_getElem?_getD]

/-- x laid behind all that it is not less than. -/
def cntW {α : Type} (lt : α → α → Bool) (x : α) (out : List α) : Nat := (out.reverse.takeWhile (lt x)).length

theorem ins_take {α : Type} (lt : α → α → Bool) (x : α) (r : List α) : (insRev lt x r).reverse = r.reverse.take (r.reverse.length - cntW lt x r.reverse) ++ [x] ++ r.reverse.drop (r.reverse.length - cntW lt x r.reverse) := by
  have hc : (r.takeWhile (lt x)).length ≤ r.length := (List.takeWhile_sublist _).length_le
  have hc2 : cntW lt x r.reverse = (r.takeWhile (lt x)).length := by unfold cntW; rw [List.reverse_reverse]
  have hl : r.reverse.length = r.length := List.length_reverse ..
  rw [insRev_eq, hc2, hl, List.take_reverse, List.drop_reverse]
  have e1 : r.length - (r.length - (r.takeWhile (lt x)).length) = (r.takeWhile (lt x)).length := by omega
  rw [e1]
  have e2 : r.drop (r.takeWhile (lt x)).length = r.dropWhile (lt x) := by
    conv => lhs; arg 2; rw [← List.takeWhile_append_dropWhile (p := lt x) (l := r)]
    rw [List.drop_left]
  have e3 : r.take (r.takeWhile (lt x)).length = r.takeWhile (lt x) := by
    conv => lhs; arg 2; rw [← List.takeWhile_append_dropWhile (p := lt x) (l := r)]
    rw [List.take_left]
  rw [e2, e3]
  simp

def sortR {α : Type} (lt : α → α → Bool) (l : List α) : List α := l.foldl (fun r x => insRev lt x r) []

theorem insRev_len {α : Type} (lt : α → α → Bool) (x : α) : ∀ r : List α, (insRev lt x r).length = r.length + 1
  | [] => rfl
  | y :: r => by simp only [insRev]; split <;> simp [insRev_len lt x r]

theorem sortR_take {α : Type} (lt : α → α → Bool) {l : List α} {i : Nat} (d : α) (h : i < l.length) : sortR lt (l.take (i + 1)) = insRev lt (l.getD i d) (sortR lt (l.take i)) := by
  unfold sortR
  rw [take_getD d h, List.foldl_append]; rfl

theorem sortR_len {α : Type} (lt : α → α → Bool) (l : List α) : (sortR lt l).length = l.length := by
  have : ∀ (l r : List α), (l.foldl (fun r x => insRev lt x r) r).length = l.length + r.length := by
    intro l
    induction l with
    | nil => intro r; simp
    | cons x l ih => intro r; rw [List.foldl_cons, ih, insRev_len, List.length_cons]; omega
  simpa [sortR] using this l []

theorem insRev_tot {e : Ty} (lt : e.den → e.den → Bool) (x : e.den) : ∀ r : List e.den, tot (.sl e) (insRev lt x r) = 1 + tot e x + tot (.sl e) r
  | [] => by simp only [insRev]; rw [tot_cons]
  | y :: r => by
    simp only [insRev]
    split
    · rw [tot_cons, tot_cons, insRev_tot lt x r]; omega
    · rw [tot_cons, tot_cons]

theorem sortR_tot {e : Ty} (lt : e.den → e.den → Bool) (l : List e.den) : tot (.sl e) (sortR lt l) = tot (.sl e) l := by
  have : ∀ (l r : List e.den), tot (.sl e) (l.foldl (fun r x => insRev lt x r) r) = tot (.sl e) l + tot (.sl e) r := by
    intro l
    induction l with
    | nil => intro r; simp [tot]
    | cons x l ih => intro r; rw [List.foldl_cons, ih, insRev_tot, tot_cons]; omega
  have h := this l []
  rw [tot_nil] at h
  exact h

theorem tot_rev {e : Ty} (l : List e.den) : tot (.sl e) l.reverse = tot (.sl e) l := by
  simp only [tot, List.length_reverse, List.map_reverse, List.sum_reverse]

theorem sortBy_tot {e : Ty} (lt : e.den → e.den → Bool) (l : List e.den) : tot (.sl e) (sortBy lt l) = tot (.sl e) l := by
  show tot (.sl e) (sortR lt l).reverse = _
  rw [tot_rev, sortR_tot]

theorem sortL_tot (l : List DAlarm) : tot (.sl tAlarm) (sortL l) = tot (.sl tAlarm) l := sortBy_tot (e := tAlarm) lessA l

section
variable {k : Nat} (hk : 9223372036854775808 ≤ k)
include hk

theorem l8Sort_ok {l : List DAlarm} (hs : tot (.sl tAlarm) l ≤ 1048576) : F_spec_l8Sort k (l, ()) = some (sortL l, ()) := by
  have hl := tot_len (e := tAlarm) (l := l)
  simp only [F_spec_l8Sort]
  refine loop_run (fun i : Nat => (l, (sortR lessA (l.take i)).reverse, (i : Int), ())) l.length (fun G i hi => ?_) (fun G => ?_) k 0 (by omega) (by omega)
  · obtain ⟨h1, h2⟩ := alarm_at hk hs hi
    simp only [lt_nat, in_nat hi, hi, decide_true, if_true, Int.toNat_natCast]
    rw [l4Copy_ok hk (by omega), Option.bind_some, sortR_take lessA tAlarm.dflt hi, ins_take]
    generalize hx : l.getD i tAlarm.dflt = x at *
    have hol : (sortR lessA (l.take i)).reverse.length = i := by rw [List.length_reverse, sortR_len]; simp; omega
    generalize hout : (sortR lessA (l.take i)).reverse = out at *
    have hcl : cntW lessA x out ≤ out.length := by
      unfold cntW
      have := (List.takeWhile_sublist (lessA x) (l := out.reverse)).length_le
      simpa using this
    simp only [joinC]
    refine loop_run (fun m : Nat => (l, out, (i : Int), x, ((out.length - m : Nat) : Int), ())) (cntW lessA x out) (fun G2 m hm => ?_) (fun G2 => ?_) k 0 (by omega) (by omega)
    · have hlt : lessA x (out.getD (out.length - 1 - m) tAlarm.dflt) = true := by
        have := takeWhile_at (lessA x) tAlarm.dflt out.reverse m hm
        rwa [getD_rev _ _ _ (by omega)] at this
      obtain ⟨q, hq⟩ : ∃ q, out.length - m = q + 1 := ⟨out.length - m - 1, by omega⟩
      have hq2 : out.length - (m + 1) = q := by omega
      have hq3 : out.length - 1 - m = q := by omega
      rw [hq3] at hlt
      simp only [hq, gtS, wrapQ (show q < 4611686018427387904 by omega), in_nat (show q < out.length by omega), Bool.or_true, if_true, beq_self_eq_true, Int.toNat_natCast, impl_SetLess_ok hk h2, spec_SetLess_ok hk h2, Option.bind_some, hq2]
      rw [if_pos hlt]
    · have hend : (if decide (((out.length - cntW lessA x out : Nat) : Int) > 0) = true then lessA x (out.getD (out.length - cntW lessA x out - 1) tAlarm.dflt) else false) = false := by
        by_cases h0 : cntW lessA x out = out.length
        · rw [h0, Nat.sub_self]; rfl
        · rw [if_pos (by simp; omega)]
          have := takeWhile_end (lessA x) tAlarm.dflt out.reverse (by rw [List.length_reverse]; unfold cntW at h0 hcl; omega)
          rw [getD_rev _ _ _ (by unfold cntW at h0 hcl; omega)] at this
          unfold cntW
          rw [show out.length - (List.takeWhile (lessA x) out.reverse).length - 1 = out.length - 1 - (List.takeWhile (lessA x) out.reverse).length by omega]
          exact this
      have fin : (if (decide (0 ≤ (((out.length - cntW lessA x out : Nat) : Int)) ∧ (((out.length - cntW lessA x out : Nat) : Int)) ≤ ((List.length out : Nat) : Int))) = true then
          if (decide (List.length ([] : List DAlarm) + List.length (List.take (Int.toNat ((out.length - cntW lessA x out : Nat) : Int)) out) < 4294967296)) = true then
            if (decide (List.length (([] : List DAlarm) ++ (List.take (Int.toNat ((out.length - cntW lessA x out : Nat) : Int)) out)) + List.length ([x] : List DAlarm) < 4294967296)) = true then
              if (decide (0 ≤ (((out.length - cntW lessA x out : Nat) : Int)) ∧ (((out.length - cntW lessA x out : Nat) : Int)) ≤ ((List.length out : Nat) : Int))) = true then
                if (decide (List.length ((([] : List DAlarm) ++ (List.take (Int.toNat ((out.length - cntW lessA x out : Nat) : Int)) out)) ++ ([x] : List DAlarm)) + List.length (List.drop (Int.toNat ((out.length - cntW lessA x out : Nat) : Int)) out) < 4294967296)) = true then
                  G (l, ((([] : List DAlarm) ++ (List.take (Int.toNat ((out.length - cntW lessA x out : Nat) : Int)) out)) ++ ([x] : List DAlarm)) ++ (List.drop (Int.toNat ((out.length - cntW lessA x out : Nat) : Int)) out), IntKind.i64.wrap ((i : Int) + (1 : Int)), ())
                else none
              else none
            else none
          else none
        else none) = G (l, out.take (out.length - cntW lessA x out) ++ [x] ++ out.drop (out.length - cntW lessA x out), ((i + 1 : Nat) : Int), ()) := by
        rw [if_pos (by simp only [decide_eq_true_eq]; omega), if_pos (by simp only [decide_eq_true_eq, List.length_nil, List.length_take]; omega), if_pos (by simp only [decide_eq_true_eq, List.length_append, List.length_nil, List.length_take, List.length_singleton]; omega), if_pos (by simp only [decide_eq_true_eq]; omega), if_pos (by simp only [decide_eq_true_eq, List.length_append, List.length_nil, List.length_take, List.length_singleton, List.length_drop]; omega), wrapS (by omega), Int.toNat_natCast, List.nil_append]
      by_cases hz : out.length - cntW lessA x out = 0
      · rw [hz] at fin ⊢
        simp only [gtZ, Bool.false_eq_true, if_false, beq_self_eq_true, Bool.false_eq_true, Bool.not_false, Bool.true_or, if_true, Option.bind_some]
        have hg : (!((false : Bool) == true) || decide (0 ≤ IntKind.i64.wrap (((0 : Nat) : Int) - 1) ∧ IntKind.i64.wrap (((0 : Nat) : Int) - 1) < ((out.length : Nat) : Int))) = true := rfl
        rw [if_pos hg]
        exact fin
      · obtain ⟨q, hq⟩ : ∃ q, out.length - cntW lessA x out = q + 1 := ⟨out.length - cntW lessA x out - 1, by omega⟩
        rw [hq] at hend fin ⊢
        rw [gtS, if_pos rfl, Nat.add_sub_cancel] at hend
        simp only [gtS, wrapQ (show q < 4611686018427387904 by omega), in_nat (show q < out.length by omega), Bool.or_true, if_true, beq_self_eq_true, Int.toNat_natCast, spec_SetLess_ok hk h2, Option.bind_some]
        have hend2 : setLess x.1 (out.getD q tAlarm.dflt).1 = false := hend
        rw [if_neg (by rw [hend2]; simp)]
        exact fin
  · simp only [lt_nat, Nat.lt_irrefl, decide_false, Bool.false_eq_true, if_false, List.take_length]
    rfl

end
end Vg.Tryz
