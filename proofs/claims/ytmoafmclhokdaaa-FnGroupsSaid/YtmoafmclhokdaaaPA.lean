/- Plain laws: copies; what is swept; a group that is sent on. -/
import Derived.Test.YtmoafmclhokdaaaVd
import Derived.Test.YtmoafmclhokdaaaQ1
namespace Vg.Try
open Go Vg
set_option linter.unusedVariables false
set_option linter.unusedSectionVars false
set_option linter.unusedSimpArgs false

section
variable {k : Nat} (hk : 9223372036854775808 ≤ k)
include hk

theorem l4Copy_ok {a : DAlarm} (h : tot tAlarm a ≤ 1073741824) : F_spec_l4Copy k (a, ()) = some (a, ()) := by
  have h1 := tot_Alarm hk a
  have h2 := tot_len (e := tLabel) (l := a.1)
  simp only [F_spec_l4Copy]
  rw [if_pos (by simp; omega)]
  simp

theorem copySet_ok {l : List DLabel} (h : l.length ≤ 1073741824) : F_impl_copySet k (l, ()) = some (l, ()) := by
  simp only [F_impl_copySet]
  rw [if_pos (by simp; omega)]
  simp

theorem copyAlarm_ok {a : DAlarm} (h : tot tAlarm a ≤ 1073741824) : F_impl_copyAlarm k (a, ()) = some (a, ()) := by
  have h1 := tot_Alarm hk a
  have h2 := tot_len (e := tLabel) (l := a.1)
  simp only [F_impl_copyAlarm]
  rw [copySet_ok hk (by omega), Option.bind_some]

theorem l4All_ok {l : List DAlarm} (h : tot (.sl tAlarm) l ≤ 1073741824) : F_spec_l4All k (l, ()) = some (l, ()) :=
  cpS_id (d := tAlarm.dflt) (S := F_spec_l4Copy k) hk (Nat.le_trans (tot_len (e := tAlarm)) h) (fun e he => l4Copy_ok hk (Nat.le_trans (tot_mem (e := tAlarm) he) h))

theorem copyAlarms_ok {l : List DAlarm} (h : tot (.sl tAlarm) l ≤ 1073741824) : F_impl_copyAlarms k (l, ()) = some (l, ()) :=
  cpR_id (d := tAlarm.dflt) (S := F_impl_copyAlarm k) hk (Nat.le_trans (tot_len (e := tAlarm)) h) (fun e he => copyAlarm_ok hk (Nat.le_trans (tot_mem (e := tAlarm) he) h))

theorem l11Copy_ok {g : DGroup} (h : tot tGroup g ≤ 1073741824) : F_spec_l11Copy k (g, ()) = some (g, ()) := by
  have h1 := tot_Group hk g
  have h2 := tot_len (e := tLabel) (l := g.2.1)
  simp only [F_spec_l11Copy]
  rw [if_pos (by simp; omega), l4All_ok hk (by omega), Option.bind_some]
  simp

theorem copyGroup_ok {g : DGroup} (h : tot tGroup g ≤ 1073741824) : F_impl_copyGroup k (g, ()) = some (g, ()) := by
  have h1 := tot_Group hk g
  have h2 := tot_len (e := tLabel) (l := g.2.1)
  simp only [F_impl_copyGroup]
  rw [copySet_ok hk (by omega), Option.bind_some, copyAlarms_ok hk (by omega), Option.bind_some]

theorem l11Batch_ok {b : DBatch} (h1 : tot (.sl tLabel) b.2.1 ≤ 1073741824) (h3 : tot (.sl tAlarm) b.2.2.2 ≤ 1073741824) : F_spec_l11Batch k (b, ()) = some (b, ()) := by
  have h2 := tot_len (e := tLabel) (l := b.2.1)
  simp only [F_spec_l11Batch]
  rw [if_pos (by simp; omega), l4All_ok hk (by omega), Option.bind_some]
  simp

def sweptL (now : Int) (l : List DAlarm) : List DAlarm := l.filter fun a => !decide (a.2.2.1 ≤ now)

omit hk in
theorem sweptL_step {now : Int} {l : List DAlarm} {i : Nat} (h : i < l.length) : sweptL now (l.take (i + 1)) = if (!decide ((l.getD i tAlarm.dflt).2.2.1 ≤ now)) = true then sweptL now (l.take i) ++ [l.getD i tAlarm.dflt] else sweptL now (l.take i) := by
  rw [take_getD tAlarm.dflt h, sweptL, sweptL, List.filter_append, filter_one]
  split <;> simp

omit hk in
theorem sweptL_len {now : Int} {l : List DAlarm} : (sweptL now l).length ≤ l.length := List.length_filter_le ..

omit hk in
theorem sweptL_tot {now : Int} {l : List DAlarm} : tot (.sl tAlarm) (sweptL now l) ≤ tot (.sl tAlarm) l := tot_filter (e := tAlarm) _ l

theorem impl_Swept_ok {l : List DAlarm} {now : Int} (h : tot (.sl tAlarm) l ≤ 1073741824) : F_impl_Swept k (l, now, ()) = some (sweptL now l, ()) := by
  have hl := tot_len (e := tAlarm) (l := l)
  simp only [F_impl_Swept]
  refine loop_run (fun i => (now, sweptL now (l.take i), l, (l.length : Int), (i : Int), ())) l.length (fun G i hi => ?_) (fun G => ?_) k 0 (by omega) (by omega)
  · have hm := tot_mem (e := tAlarm) (getD_mem (d := tAlarm.dflt) hi)
    have hs := sweptL_len (now := now) (l := l.take i)
    rw [List.length_take] at hs
    simp only [lt_nat, in_nat hi, hi, decide_true, if_true, Int.toNat_natCast, F_impl_Over, Option.bind_some]
    rw [copyAlarm_ok hk (by omega), sweptL_step hi, wrapS (by omega)]
    simp only [Option.bind_some]
    split
    · rw [if_pos (by simp; omega)]
    · rfl
  · simp

/-- A group that is sent on. -/
def flushG (g : DGroup) (now : Int) : DGroup := (g.1, g.2.1, g.2.2.1, now, sweptL now g.2.2.2.2)
def flushB (g : DGroup) (now : Int) : DBatch := (g.1, g.2.1, now, g.2.2.2.2)

theorem spec_Flush_ok {g : DGroup} {now : Int} (h : tot tGroup g ≤ 1073741824) : F_spec_Flush k (g, now, ()) = some (flushG g now, flushB g now, ()) := by
  have h1 := tot_Group hk g
  have hl := tot_len (e := tAlarm) (l := g.2.2.2.2)
  simp only [F_spec_Flush, joinC]
  rw [l11Copy_ok hk h, Option.bind_some]
  refine loop_run (fun i => (now, g, _, _, (g.1, g.2.1, g.2.2.1, now, sweptL now (g.2.2.2.2.take i)), (i : Int), ())) g.2.2.2.2.length (fun G i hi => ?_) (fun G => ?_) k 0 (by omega) (by omega)
  · have hm := tot_mem (e := tAlarm) (getD_mem (d := tAlarm.dflt) hi)
    have hs := sweptL_len (now := now) (l := g.2.2.2.2.take i)
    rw [List.length_take] at hs
    simp only [lt_nat, in_nat hi, hi, decide_true, if_true, Int.toNat_natCast, F_spec_Over, Option.bind_some]
    rw [l4Copy_ok hk (by omega), sweptL_step hi, wrapS (by omega)]
    simp only [Option.bind_some]
    split
    · rw [if_pos (by simp; omega)]
    · rfl
  · simp only [lt_nat, Nat.lt_irrefl, decide_false, Bool.false_eq_true, if_false, List.take_length]
    rw [l11Batch_ok hk (by simp only; omega) (by simp only; omega), Option.bind_some]
    rfl

theorem impl_Flush_ok {g : DGroup} {now : Int} (h : tot tGroup g ≤ 1073741824) : F_impl_Flush k (g, now, ()) = some (flushG g now, flushB g now, ()) := by
  have h1 := tot_Group hk g
  have hl := tot_len (e := tLabel) (l := g.2.1)
  simp only [F_impl_Flush]
  rw [copyGroup_ok hk h, Option.bind_some, impl_Swept_ok hk (by omega), Option.bind_some, copySet_ok hk (by omega), Option.bind_some, copyAlarms_ok hk (by omega), Option.bind_some]
  rfl

theorem flushG_tot {g : DGroup} {now : Int} : tot tGroup (flushG g now) ≤ tot tGroup g := by
  rw [tot_Group hk, tot_Group hk]
  have := sweptL_tot (now := now) (l := g.2.2.2.2)
  simp only [flushG]
  omega

theorem flushB_tot {g : DGroup} {now : Int} : tot tBatch (flushB g now) = tot tGroup g := by
  rw [tot_Group hk, tot_Batch hk]
  rfl

end
end Vg.Try
