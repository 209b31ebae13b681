/- Plain laws: a new model, a new world. -/
import Derived.Test.YtoenkpiimjnmdaaPA
import Derived.Test.YtoenkpiimjnmdaaP3
namespace Vg.Try
open Go Vg
set_option linter.unusedVariables false
set_option linter.unusedSectionVars false
set_option linter.unusedSimpArgs false

def newSubs (c : DConf) : List DSub := List.replicate c.2.2.1.toNat ([], false)
def zConf : DConf := (0, 0, 0, 0, 0, [])
def newModel (c : DConf) : DModel := if okConf c = true then (c, [], newSubs c, [], [], 0) else (zConf, [], [], [], [], 0)
def zTask : DTask := (0, 0, ([], 0, 0, ByteArray.empty), [], 0, [], [], 0, 0)
def newStore (n : Int) : List DPart := List.replicate (if 1 ≤ n ∧ n ≤ 3 then n.toNat else 1) (-1, 0, [])
def newWorld (c : DConf) : DWorld := if okConf c = true then (c, 0, 0, newStore c.1, newSubs c, [], -1, [], 0, [], [], [], List.replicate 5 zTask, []) else (zConf, 0, 0, [], [], [], 0, [], 0, [], [], [], [], [])

theorem okConf_subs {c : DConf} (h : okConf c = true) : 1 ≤ c.2.2.1 ∧ c.2.2.1 ≤ 2 ∧ 1 ≤ c.1 ∧ c.1 ≤ 3 := by
  simp only [okConf, inB, Bool.and_eq_true, decide_eq_true_eq] at h
  omega

theorem rep_snoc {α : Type} (x : α) (i : Nat) : List.replicate (i + 1) x = List.replicate i x ++ [x] := by
  rw [List.replicate_succ']

section
variable {k : Nat} (hk : 9223372036854775808 ≤ k)
include hk

theorem impl_ModelNew_ok {c : DConf} (h : tot tConf c ≤ 1048576) : F_impl_ModelNew k (c, ()) = some (newModel c, ()) := by
  simp only [F_impl_ModelNew]
  rw [impl_ConfOk_ok hk h, Option.bind_some]
  unfold newModel
  cases hc : okConf c with
  | false => rfl
  | true =>
    have := okConf_subs hc
    rw [if_neg (by simp), copyConf_ok hk (by omega), Option.bind_some, if_pos (by simp; omega)]
    rfl

theorem spec_ModelNew_ok {c : DConf} (h : tot tConf c ≤ 1048576) : F_spec_ModelNew k (c, ()) = some (newModel c, ()) := by
  simp only [F_spec_ModelNew]
  rw [spec_ConfOk_ok hk h, Option.bind_some]
  unfold newModel
  cases hc : okConf c with
  | false => rfl
  | true =>
    have hs := okConf_subs hc
    rw [if_neg (by simp), l13Copy_ok hk (by omega), Option.bind_some]
    refine loop_run (fun i => (c, _, (c, ([] : List DAlarm), List.replicate i (([], false) : DSub), ([] : List DAlarm), ([] : List DGroup), (0 : Int)), (i : Int), ())) c.2.2.1.toNat (fun G i hi => ?_) (fun G => ?_) k 0 (by omega) (by omega)
    · simp only
      rw [if_pos (by simp; omega), if_pos (by simp; omega), wrapS (by omega), rep_snoc]
    · simp only
      rw [if_neg (by simp; omega)]
      rfl

theorem impl_StoreNew_ok {n : Int} : F_impl_StoreNew k (n, ()) = some (newStore n, ()) := by
  have key : ∀ m : Int, 1 ≤ m → m ≤ 3 → loopN k (fun G4 (t5 : List DPart × Int × Int × Unit) =>
      if (decide ((t5.2.2.1 : Int) < t5.2.1)) = true then
        if (decide (List.length t5.1 + List.length ([((-1 : Int), (0, ([] : List DChain)))] : List DPart) < 4294967296)) = true then
          G4 (t5.1 ++ ([((-1 : Int), (0, ([] : List DChain)))] : List DPart), t5.2.1, IntKind.i64.wrap (t5.2.2.1 + (1 : Int)), ())
        else
          none
      else
        some (t5.1, ())) (([] : List DPart), m, (0 : Int), ()) = some (List.replicate m.toNat (-1, 0, []), ()) := by
    intro m h1 h2
    refine loop_run (fun i => (List.replicate i ((-1, 0, []) : DPart), m, (i : Int), ())) m.toNat (fun G i hi => ?_) (fun G => ?_) k 0 (by omega) (by omega)
    · simp only
      rw [if_pos (by simp; omega), if_pos (by simp; omega), wrapS (by omega), rep_snoc]
    · simp only
      rw [if_neg (by simp; omega)]
  simp only [F_impl_StoreNew, joinC, impl_in_ok hk, Option.bind_some]
  unfold newStore
  by_cases hn : 1 ≤ n ∧ n ≤ 3
  · rw [if_pos hn, if_neg (by simp [inB]; omega)]
    exact key n hn.1 hn.2
  · rw [if_neg hn, if_pos (by simp [inB]; omega)]
    exact key 1 (by omega) (by omega)

theorem spec_StoreNew_ok {n : Int} : F_spec_StoreNew k (n, ()) = some (newStore n, ()) := by
  simp only [F_spec_StoreNew]
  unfold newStore
  by_cases hn : 1 ≤ n ∧ n ≤ 3
  · rw [if_pos hn]
    refine loop_run (fun i => (n, List.replicate (i + 1) ((-1, 0, []) : DPart), ())) (n.toNat - 1) (fun G i hi => ?_) (fun G => ?_) k 0 (by omega) (by omega)
    · simp only
      rw [if_pos (by simp; omega), if_pos (by simp; omega), ← rep_snoc]
    · simp only
      rw [if_neg (by simp; omega)]
      congr 3
      omega
  · rw [if_neg hn]
    obtain ⟨k, rfl⟩ : ∃ m, k = m + 1 := ⟨k - 1, by omega⟩
    show (if _ then _ else _) = _
    rw [if_neg (by simp; omega)]
    rfl

theorem impl_WorldNew_ok {c : DConf} (h : tot tConf c ≤ 1048576) : F_impl_WorldNew k (c, ()) = some (newWorld c, ()) := by
  simp only [F_impl_WorldNew]
  rw [impl_ConfOk_ok hk h, Option.bind_some]
  unfold newWorld
  cases hc : okConf c with
  | false => rfl
  | true =>
    have := okConf_subs hc
    rw [if_neg (by simp), copyConf_ok hk (by omega), Option.bind_some, impl_StoreNew_ok hk, Option.bind_some, if_pos (by simp; omega), if_pos (by simp)]
    rfl

theorem spec_WorldNew_ok {c : DConf} (h : tot tConf c ≤ 1048576) : F_spec_WorldNew k (c, ()) = some (newWorld c, ()) := by
  simp only [F_spec_WorldNew, joinC]
  rw [spec_ConfOk_ok hk h, Option.bind_some]
  unfold newWorld
  cases hc : okConf c with
  | false => rfl
  | true =>
    have hs := okConf_subs hc
    rw [if_neg (by simp), l13Copy_ok hk (by omega), Option.bind_some, spec_StoreNew_ok hk, Option.bind_some]
    refine loop_run (fun i => (c, _, (c, (0 : Int), (0 : Int), newStore c.1, List.replicate i (([], false) : DSub), ([] : List DAlarm), (-1 : Int), ([] : List DGroup), (0 : Int), ([] : List DTimer), ([] : List DBatch), ([] : List DAlarm), ([] : List DTask), ([] : List DDeed)), (i : Int), ())) c.2.2.1.toNat (fun G i hi => ?_) (fun G => ?_) k 0 (by omega) (by omega)
    · simp only
      rw [if_pos (by simp; omega), if_pos (by simp; omega), wrapS (by omega), rep_snoc]
    · simp only
      rw [if_neg (by simp; omega)]
      refine loop_run (fun i => (c, _, (c, (0 : Int), (0 : Int), newStore c.1, newSubs c, ([] : List DAlarm), (-1 : Int), ([] : List DGroup), (0 : Int), ([] : List DTimer), ([] : List DBatch), ([] : List DAlarm), List.replicate i zTask, ([] : List DDeed)), (i : Int), ())) 5 (fun G i hi => ?_) (fun G => ?_) k 0 (by omega) (by omega)
      · simp only
        rw [if_pos (by simp; omega), if_pos (by simp; omega), wrapS (by omega), rep_snoc]
        rfl
      · simp only
        rw [if_neg (by simp)]
        rfl

theorem newSubs_tot {c : DConf} : tot (.sl tSub) (newSubs c) = c.2.2.1.toNat := by
  unfold newSubs
  generalize c.2.2.1.toNat = n
  induction n with
  | zero => simp [tot]
  | succ n ih =>
    rw [List.replicate_succ, tot_cons, ih]
    simp [tot]
    omega

theorem newModel_tot {c : DConf} : tot tModel (newModel c) ≤ tot tConf c + 2 := by
  rw [tot_Model hk]
  unfold newModel
  cases hc : okConf c with
  | false => simp [tot, zConf]
  | true =>
    have := okConf_subs hc
    have h2 := newSubs_tot hk (c := c)
    have n1 := tot_nil (e := tAlarm)
    have n2 := tot_nil (e := tGroup)
    simp only [if_true]
    omega

theorem newWorld_tot {c : DConf} : tot tWorld (newWorld c) ≤ tot tConf c + 16 := by
  rw [tot_World hk]
  unfold newWorld
  cases hc : okConf c with
  | false => simp [tot, zConf]
  | true =>
    have hs := okConf_subs hc
    have h2 := newSubs_tot hk (c := c)
    have h3 : ∀ n, tot (.sl tPart) (List.replicate n ((-1, 0, []) : DPart)) = n := by
      intro n
      induction n with
      | zero => simp [tot]
      | succ n ih =>
        rw [List.replicate_succ, tot_cons, ih]
        simp [tot]
        omega
    have h4 : tot (.sl tPart) (newStore c.1) ≤ 3 := by
      unfold newStore
      rw [h3]
      split <;> omega
    have h5 : tot (.sl tTask) (List.replicate 5 zTask) = 5 := by
      simp [tot, zTask, List.replicate]
    have n1 := tot_nil (e := tAlarm)
    have n2 := tot_nil (e := tGroup)
    have n3 := tot_nil (e := tTimer)
    have n4 := tot_nil (e := tBatch)
    have n5 := tot_nil (e := tDeed)
    simp only [if_true, h5]
    omega

end
end Vg.Try
