/- Plain laws: all alarms, how many, in order; what is found; heaps. -/
import Derived.Test.YtmoafmclhokdaaaPF
namespace Vg.Try
open Go Vg
set_option linter.unusedVariables false
set_option linter.unusedSectionVars false
set_option linter.unusedSimpArgs false

theorem insRev_eq {α : Type} (lt : α → α → Bool) (x : α) : ∀ r : List α, insRev lt x r = r.takeWhile (lt x) ++ x :: r.dropWhile (lt x)
  | [] => rfl
  | y :: r => by
    simp only [insRev, List.takeWhile_cons, List.dropWhile_cons]
    split
    · rw [insRev_eq lt x r]; rfl
    · rfl

theorem takeWhile_at {α : Type} (p : α → Bool) (d : α) : ∀ (r : List α) (m : Nat), m < (r.takeWhile p).length → p (r.getD m d) = true
  | [], m, h => by simp at h
  | y :: r, m, h => by
    rw [List.takeWhile_cons] at h
    split at h
    · cases m with
      | zero => simpa
      | succ m => rw [List.getD_cons_succ]; exact takeWhile_at p d r m (by simpa using h)
    · simp at h

theorem takeWhile_end {α : Type} (p : α → Bool) (d : α) : ∀ (r : List α), (r.takeWhile p).length < r.length → p (r.getD (r.takeWhile p).length d) = false
  | [], h => by simp at h
  | y :: r, h => by
    rw [List.takeWhile_cons] at h ⊢
    split
    · rename_i hp
      rw [if_pos hp] at h
      simp only [List.length_cons, List.getD_cons_succ]
      exact takeWhile_end p d r (by simpa using h)
    · simpa using ‹¬ p y = true›

theorem getD_rev {α : Type} (d : α) (l : List α) (m : Nat) (h : m < l.length) : l.reverse.getD m d = l.getD (l.length - 1 - m) d := by
  rw [List.getD_eq_getElem?_getD, List.getElem?_reverse h, ← List.getD_eq_getElem?_getD]

/-- x laid behind all that it is not less than. -/
def cntW {α : Type} (lt : α → α → Bool) (x : α) (out : List α) : Nat := (out.reverse.takeWhile (lt x)).length

theorem ins_take {α : Type} (lt : α → α → Bool) (x : α) (r : List α) : (insRev lt x r).reverse = r.reverse.take (r.reverse.length - cntW lt x r.reverse) ++ [x] ++ r.reverse.drop (r.reverse.length - cntW lt x r.reverse) := by
  have hc : (r.takeWhile (lt x)).length ≤ r.length := (List.takeWhile_sublist _).length_le
  have hc2 : cntW lt x r.reverse = (r.takeWhile (lt x)).length := by unfold cntW; rw [List.reverse_reverse]
  have hl : r.reverse.length = r.length := List.length_reverse ..
  rw [insRev_eq, hc2, hl, List.take_reverse, List.drop_reverse]
  have e1 : r.length - (r.length - (r.takeWhile (lt x)).length) = (r.takeWhile (lt x)).length := by omega
  rw [e1]
  have e2 : r.drop (r.takeWhile (lt x)).length = r.dropWhile (lt x) := by
    conv => lhs; arg 2; rw [← List.takeWhile_append_dropWhile (p := lt x) (l := r)]
    rw [List.drop_left]
  have e3 : r.take (r.takeWhile (lt x)).length = r.takeWhile (lt x) := by
    conv => lhs; arg 2; rw [← List.takeWhile_append_dropWhile (p := lt x) (l := r)]
    rw [List.take_left]
  rw [e2, e3]
  simp

def sortR {α : Type} (lt : α → α → Bool) (l : List α) : List α := l.foldl (fun r x => insRev lt x r) []

theorem insRev_len {α : Type} (lt : α → α → Bool) (x : α) : ∀ r : List α, (insRev lt x r).length = r.length + 1
  | [] => rfl
  | y :: r => by simp only [insRev]; split <;> simp [insRev_len lt x r]

theorem sortR_take {α : Type} (lt : α → α → Bool) {l : List α} {i : Nat} (d : α) (h : i < l.length) : sortR lt (l.take (i + 1)) = insRev lt (l.getD i d) (sortR lt (l.take i)) := by
  unfold sortR
  rw [take_getD d h, List.foldl_append]; rfl

theorem sortR_len {α : Type} (lt : α → α → Bool) (l : List α) : (sortR lt l).length = l.length := by
  have : ∀ (l r : List α), (l.foldl (fun r x => insRev lt x r) r).length = l.length + r.length := by
    intro l
    induction l with
    | nil => intro r; simp
    | cons x l ih => intro r; rw [List.foldl_cons, ih, insRev_len, List.length_cons]; omega
  simpa [sortR] using this l []

theorem insRev_tot {e : Ty} (lt : e.den → e.den → Bool) (x : e.den) : ∀ r : List e.den, tot (.sl e) (insRev lt x r) = 1 + tot e x + tot (.sl e) r
  | [] => by simp only [insRev]; rw [tot_cons]
  | y :: r => by
    simp only [insRev]
    split
    · rw [tot_cons, tot_cons, insRev_tot lt x r]; omega
    · rw [tot_cons, tot_cons]

theorem sortR_tot {e : Ty} (lt : e.den → e.den → Bool) (l : List e.den) : tot (.sl e) (sortR lt l) = tot (.sl e) l := by
  have : ∀ (l r : List e.den), tot (.sl e) (l.foldl (fun r x => insRev lt x r) r) = tot (.sl e) l + tot (.sl e) r := by
    intro l
    induction l with
    | nil => intro r; simp [tot]
    | cons x l ih => intro r; rw [List.foldl_cons, ih, insRev_tot, tot_cons]; omega
  have h := this l []
  rw [tot_nil] at h
  exact h

theorem tot_rev {e : Ty} (l : List e.den) : tot (.sl e) l.reverse = tot (.sl e) l := by
  simp only [tot, List.length_reverse, List.map_reverse, List.sum_reverse]

theorem sortBy_tot {e : Ty} (lt : e.den → e.den → Bool) (l : List e.den) : tot (.sl e) (sortBy lt l) = tot (.sl e) l := by
  show tot (.sl e) (sortR lt l).reverse = _
  rw [tot_rev, sortR_tot]

theorem sortL_tot (l : List DAlarm) : tot (.sl tAlarm) (sortL l) = tot (.sl tAlarm) l := sortBy_tot (e := tAlarm) lessA l

section
variable {k : Nat} (hk : 9223372036854775808 ≤ k)
include hk

end
end Vg.Try
