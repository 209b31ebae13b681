/- Plain laws: parts, stores, heaps: what is right, what is found, what is in them. -/
import Derived.Test.YtlpeoedbginanaaGreatPE
namespace Vg.Tryz
open Go Vg
set_option linter.unusedVariables false
set_option linter.unusedSectionVars false
set_option linter.unusedSimpArgs false

theorem wrapQ {j : Nat} (h : j < 4611686018427387904) : IntKind.i64.wrap (((j + 1 : Nat) : Int) - 1) = (j : Int) := by
  rw [wrap64 (by omega) (by omega)]; omega
theorem gtS (j : Nat) : decide ((((j + 1 : Nat) : Int)) > 0) = true := by simp
theorem gtZ : decide ((((0 : Nat) : Int)) > 0) = false := by simp

def beforeB (a b : DTimer) : Bool := decide (a.1 < b.1) || (decide (a.1 = b.1) && decide (a.2 < b.2))
def okHeap (l : List DTimer) : Bool :=
  allB 0 l.length (fun i => (decide (0 ≤ (l.getD i tTimer.dflt).1) && decide (0 ≤ (l.getD i tTimer.dflt).2)) && (i == 0 || !beforeB (l.getD i tTimer.dflt) (l.getD ((i - 1) / 2) tTimer.dflt))) && decide (l.length ≤ 16)
abbrev chL (c : DChain) : List DAlarm := c.2
def alarmsIn (p : DPart) : List DAlarm := p.2.2.flatMap chL
def allIn (l : List DPart) : List DAlarm := l.flatMap alarmsIn
def countL (l : List DPart) : Nat := (allIn l).length
def chainAt (p : DPart) (f : Int) : Option Nat := idxB p.2.2.length (fun i => decide ((p.2.2.getD i tChain.dflt).1 = f))
def zAlarm : DAlarm := ([], 0, 0, ByteArray.empty)
def findIn (k : Nat) (p : DPart) (s : List DLabel) : DAlarm × Bool :=
  match chainAt p (fing k s) with
  | none => (zAlarm, false)
  | some i => match lblAt (p.2.2.getD i tChain.dflt).2 s with
    | none => (zAlarm, false)
    | some j => ((p.2.2.getD i tChain.dflt).2.getD j tAlarm.dflt, true)
def homeOf (k : Nat) (l : List DPart) (s : List DLabel) : Int := partOfI (fing k s) l.length
def findAl (k : Nat) (l : List DPart) (s : List DLabel) : DAlarm × Bool := if l.length = 0 then (zAlarm, false) else findIn k (l.getD (homeOf k l s).toNat tPart.dflt) s
def dueOf (c : DConf) (g : DGroup) : Int := IntKind.i64.wrap (if g.2.2.2.1 = -1 then g.2.2.1 + c.2.2.2.1 else g.2.2.2.1 + c.2.2.2.2.1)

theorem flatMap_take {α β : Type} {f : α → List β} {l : List α} {i : Nat} (d : α) (h : i < l.length) : (l.take (i + 1)).flatMap f = (l.take i).flatMap f ++ f (l.getD i d) := by
  rw [take_getD d h, List.flatMap_append]; simp

section
variable {k : Nat} (hk : 9223372036854775808 ≤ k)
include hk

theorem tot_flat {e f : Ty} {g : e.den → List f.den} (h : ∀ x, tot (.sl f) (g x) ≤ tot e x) : ∀ l : List e.den, tot (.sl f) (l.flatMap g) ≤ tot (.sl e) l
  | [] => by simp [tot]
  | x :: l => by
    have h1 := h x
    have h2 := tot_flat h l
    rw [List.flatMap_cons, tot_app, tot_cons]
    omega

theorem alarmsIn_tot (p : DPart) : tot (.sl tAlarm) (alarmsIn p) ≤ tot tPart p := by
  rw [tot_Part hk]
  exact tot_flat hk (e := tChain) (f := tAlarm) (g := chL) (fun c => by rw [tot_Chain hk]; exact Nat.le_refl _) p.2.2

theorem allIn_tot (l : List DPart) : tot (.sl tAlarm) (allIn l) ≤ tot (.sl tPart) l := tot_flat hk (e := tPart) (f := tAlarm) (g := alarmsIn) (alarmsIn_tot hk) l

theorem chain_at {p : DPart} {i : Nat} (hs : tot tPart p ≤ 1048576) (hi : i < p.2.2.length) : tot tChain (p.2.2.getD i tChain.dflt) ≤ 1048576 ∧ tot (.sl tAlarm) (p.2.2.getD i tChain.dflt).2 ≤ 1048576 := by
  rw [tot_Part hk] at hs
  have h1 := tot_at (e := tChain) (d := tChain.dflt) hi
  have h2 := tot_Chain hk (p.2.2.getD i tChain.dflt)
  omega

theorem impl_PartOk_ok {p : DPart} {i n : Int} (hs : tot tPart p ≤ 1048576) : F_impl_PartOk k (p, i, n, ()) = some (okPart k p i n, ()) := by
  have hl : p.2.2.length ≤ 1048576 := by rw [tot_Part hk] at hs; have := tot_len (e := tChain) (l := p.2.2); omega
  simp only [F_impl_PartOk, joinC]
  refine (loop_all (fun j : Nat => (i, n, p, p.2.2, (p.2.2.length : Int), (j : Int), ())) (fun j => okChain k (p.2.2.getD j tChain.dflt) && (decide (partOfI (p.2.2.getD j tChain.dflt).1 n = i) && ordC p.2.2 j)) p.2.2.length
    (e := some (inB p.1 (-1) 4 && decide (0 ≤ p.2.1), ())) (no := some (false, ())) ?_ ?_ k 0 (by omega)).trans ?_
  · intro G j hj
    obtain ⟨h1, _⟩ := chain_at hk hs hj
    cases j with
    | zero =>
      simp only [lt_nat, in_nat hj, hj, gtZ, decide_true, if_true, Int.toNat_natCast, impl_ChainOk_ok hk h1, impl_PartOf_ok hk, Option.bind_some, ite_some, beq_self_eq_true, Bool.false_eq_true, if_false, ordC, Bool.true_or, Bool.and_true]
      rw [wrapS (by omega)]
      generalize okChain k (p.2.2.getD 0 tChain.dflt) = b1
      generalize partOfI (p.2.2.getD 0 tChain.dflt).1 n = f
      cases b1 <;> by_cases hf : f = i <;> simp [hf]
    | succ m =>
      have hm : m < p.2.2.length := by omega
      simp only [lt_nat, in_nat hj, in_nat hm, hj, gtS, wrapQ (show m < 4611686018427387904 by omega), decide_true, if_true, Int.toNat_natCast, impl_ChainOk_ok hk h1, impl_PartOf_ok hk, Option.bind_some, ite_some, beq_self_eq_true, ordC, Bool.or_true, Nat.add_sub_cancel]
      rw [wrapS (by omega)]
      generalize okChain k (p.2.2.getD (m + 1) tChain.dflt) = b1
      generalize partOfI (p.2.2.getD (m + 1) tChain.dflt).1 n = f
      generalize (p.2.2.getD m tChain.dflt).1 = u
      generalize (p.2.2.getD (m + 1) tChain.dflt).1 = v
      have hb : ((m + 1 : Nat) == 0) = false := rfl
      rw [hb]
      cases b1 <;> by_cases hf : f = i <;> by_cases huv : u < v <;> simp [hf, huv] <;> omega
  · intro G j hj
    simp only [lt_nat]
    rw [if_neg (by simp; omega), impl_in_ok hk, Option.bind_some]
    generalize inB p.1 (-1) 4 = b
    cases b <;> simp
  · unfold okPart
    cases allB 0 p.2.2.length (fun j => okChain k (p.2.2.getD j tChain.dflt) && (decide (partOfI (p.2.2.getD j tChain.dflt).1 n = i) && ordC p.2.2 j)) <;> simp

theorem spec_PartOk_ok {p : DPart} {i n : Int} (hs : tot tPart p ≤ 1048576) : F_spec_PartOk k (p, i, n, ()) = some (okPart k p i n, ()) := by
  have hl : p.2.2.length ≤ 1048576 := by rw [tot_Part hk] at hs; have := tot_len (e := tChain) (l := p.2.2); omega
  simp only [F_spec_PartOk, joinC]
  refine (loop_all (fun j : Nat => (i, n, p, (j : Int), ())) (fun j => okChain k (p.2.2.getD j tChain.dflt) && (decide (partOfI (p.2.2.getD j tChain.dflt).1 n = i) && ordC p.2.2 j)) p.2.2.length
    (e := some (inB p.1 (-1) 4 && decide (0 ≤ p.2.1), ())) (no := some (false, ())) ?_ ?_ k 0 (by omega)).trans ?_
  · intro G j hj
    obtain ⟨h1, _⟩ := chain_at hk hs hj
    cases j with
    | zero =>
      simp only [lt_nat, in_nat hj, hj, gtZ, decide_true, if_true, Int.toNat_natCast, spec_ChainOk_ok hk h1, spec_PartOf_ok hk, Option.bind_some, ite_some, beq_self_eq_true, Bool.false_eq_true, if_false, ordC, Bool.true_or, Bool.and_true, Bool.or_true, Bool.and_false, Bool.not_false]
      rw [wrapS (by omega)]
      generalize okChain k (p.2.2.getD 0 tChain.dflt) = b1
      generalize partOfI (p.2.2.getD 0 tChain.dflt).1 n = f
      cases b1 <;> by_cases hf : f = i <;> simp [hf]
    | succ m =>
      have hm : m < p.2.2.length := by omega
      simp only [lt_nat, in_nat hj, in_nat hm, hj, gtS, wrapQ (show m < 4611686018427387904 by omega), decide_true, if_true, Int.toNat_natCast, spec_ChainOk_ok hk h1, spec_PartOf_ok hk, Option.bind_some, ite_some, beq_self_eq_true, ordC, Bool.or_true, Nat.add_sub_cancel]
      rw [wrapS (by omega)]
      generalize okChain k (p.2.2.getD (m + 1) tChain.dflt) = b1
      generalize partOfI (p.2.2.getD (m + 1) tChain.dflt).1 n = f
      generalize (p.2.2.getD m tChain.dflt).1 = u
      generalize (p.2.2.getD (m + 1) tChain.dflt).1 = v
      have hb : ((m + 1 : Nat) == 0) = false := rfl
      rw [hb]
      cases b1 <;> by_cases hf : f = i <;> by_cases huv : u < v <;> simp [hf, huv] <;> omega
  · intro G j hj
    simp only [lt_nat]
    rw [if_neg (by simp; omega), spec_in_ok hk, Option.bind_some]
    generalize inB p.1 (-1) 4 = b
    cases b <;> simp
  · unfold okPart
    cases allB 0 p.2.2.length (fun j => okChain k (p.2.2.getD j tChain.dflt) && (decide (partOfI (p.2.2.getD j tChain.dflt).1 n = i) && ordC p.2.2 j)) <;> simp

theorem part_at {l : List DPart} {i : Nat} (hs : tot (.sl tPart) l ≤ 1048576) (hi : i < l.length) : tot tPart (l.getD i tPart.dflt) ≤ 1048576 := by
  have h1 := tot_at (e := tPart) (d := tPart.dflt) hi
  omega

theorem impl_StoreOk_ok {l : List DPart} (hs : tot (.sl tPart) l ≤ 1048576) : F_impl_StoreOk k (l, ()) = some (okStore k l, ()) := by
  have hl := tot_len (e := tPart) (l := l)
  simp only [F_impl_StoreOk]
  rw [impl_in_ok hk, Option.bind_some]
  unfold okStore
  cases hin : inB l.length 1 3 with
  | false => simp
  | true =>
    rw [if_neg (by simp)]
    refine (loop_all (fun i : Nat => (l, l, (l.length : Int), (i : Int), ())) (fun i => okPart k (l.getD i tPart.dflt) i l.length) l.length (e := some (true, ())) (no := some (false, ())) ?_ ?_ k 0 (by omega)).trans ?_
    · intro G i hi
      simp only [lt_nat, in_nat hi, hi, decide_true, if_true, Int.toNat_natCast, impl_PartOk_ok hk (part_at hk hs hi), Option.bind_some]
      rw [wrapS (by omega)]
      cases okPart k (l.getD i tPart.dflt) i l.length <;> simp
    · intro G i hi
      simp only [lt_nat]
      rw [if_neg (by simp; omega)]
    · cases allB 0 l.length (fun i => okPart k (l.getD i tPart.dflt) i l.length) <;> simp

theorem spec_StoreOk_ok {l : List DPart} (hs : tot (.sl tPart) l ≤ 1048576) : F_spec_StoreOk k (l, ()) = some (okStore k l, ()) := by
  have hl := tot_len (e := tPart) (l := l)
  simp only [F_spec_StoreOk, joinC]
  unfold okStore
  refine (loop_all (fun i : Nat => (l, (i : Int), ())) (fun i => okPart k (l.getD i tPart.dflt) i l.length) l.length (e := some (inB l.length 1 3, ())) (no := some (false, ())) ?_ ?_ k 0 (by omega)).trans ?_
  · intro G i hi
    simp only [lt_nat, in_nat hi, hi, decide_true, if_true, Int.toNat_natCast, spec_PartOk_ok hk (part_at hk hs hi), Option.bind_some]
    rw [wrapS (by omega)]
    cases okPart k (l.getD i tPart.dflt) i l.length <;> simp
  · intro G i hi
    simp only [lt_nat]
    rw [if_neg (by simp; omega), spec_in_ok hk, Option.bind_some]
  · cases allB 0 l.length (fun i => okPart k (l.getD i tPart.dflt) i l.length) <;> simp

theorem spec_AlarmsIn_ok {p : DPart} (hs : tot tPart p ≤ 1048576) : F_spec_AlarmsIn k (p, ()) = some (alarmsIn p, ()) := by
  have hl : p.2.2.length ≤ 1048576 := by rw [tot_Part hk] at hs; have := tot_len (e := tChain) (l := p.2.2); omega
  simp only [F_spec_AlarmsIn]
  refine loop_run (fun i : Nat => (p, (p.2.2.take i).flatMap chL, (i : Int), ())) p.2.2.length (fun G i hi => ?_) (fun G => ?_) k 0 (by omega) (by omega)
  · obtain ⟨h1, h2⟩ := chain_at hk hs hi
    have hb := tot_flat hk (e := tChain) (f := tAlarm) (g := chL) (fun c => by rw [tot_Chain hk]; exact Nat.le_refl _) (p.2.2.take i)
    have hb2 := tot_take (e := tChain) p.2.2 i
    have hb3 := tot_len (e := tAlarm) (l := (p.2.2.take i).flatMap chL)
    have hb4 := tot_len (e := tAlarm) (l := (p.2.2.getD i tChain.dflt).2)
    rw [tot_Part hk] at hs
    simp only [lt_nat, in_nat hi, hi, decide_true, if_true, Int.toNat_natCast]
    rw [l4All_ok hk (by omega), Option.bind_some, if_pos (by simp only [decide_eq_true_eq]; omega), wrapS (by omega), flatMap_take tChain.dflt hi]
  · simp [alarmsIn]

theorem impl_AlarmsIn_ok {p : DPart} (hs : tot tPart p ≤ 1048576) : F_impl_AlarmsIn k (p, ()) = some (alarmsIn p, ()) := by
  have hl : p.2.2.length ≤ 1048576 := by rw [tot_Part hk] at hs; have := tot_len (e := tChain) (l := p.2.2); omega
  simp only [F_impl_AlarmsIn]
  refine loop_run (fun i : Nat => (p, (p.2.2.take i).flatMap chL, p.2.2, (p.2.2.length : Int), (i : Int), ())) p.2.2.length (fun G i hi => ?_) (fun G => ?_) k 0 (by omega) (by omega)
  · obtain ⟨h1, h2⟩ := chain_at hk hs hi
    have hb := tot_flat hk (e := tChain) (f := tAlarm) (g := chL) (fun c => by rw [tot_Chain hk]; exact Nat.le_refl _) (p.2.2.take i)
    have hb2 := tot_take (e := tChain) p.2.2 i
    have hb3 := tot_len (e := tAlarm) (l := (p.2.2.take i).flatMap chL)
    have hb4 := tot_len (e := tAlarm) (l := (p.2.2.getD i tChain.dflt).2)
    rw [tot_Part hk] at hs
    simp only [lt_nat, in_nat hi, hi, decide_true, if_true, Int.toNat_natCast]
    rw [copyAlarms_ok hk (by omega), Option.bind_some, if_pos (by simp only [decide_eq_true_eq]; omega), wrapS (by omega), flatMap_take tChain.dflt hi]
  · simp [alarmsIn]

end
end Vg.Tryz
