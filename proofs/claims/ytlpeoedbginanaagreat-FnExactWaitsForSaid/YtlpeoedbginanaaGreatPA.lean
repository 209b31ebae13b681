/- Plain laws: copies; what is swept; a group that is sent on. -/
import Derived.Test.YtlpeoedbginanaaGreatVc
import Derived.Test.YtlpeoedbginanaaGreatQ1
namespace Vg.Tryz
open Go Vg
set_option linter.unusedVariables false
set_option linter.unusedSectionVars false
set_option linter.unusedSimpArgs false

section
variable {k : Nat} (hk : 9223372036854775808 ≤ k)
include hk

theorem l4Copy_ok {a : DAlarm} (h : tot tAlarm a ≤ 1073741824) : F_spec_l4Copy k (a, ()) = some (a, ()) := by
  have h1 := tot_Alarm hk a
  have h2 := tot_len (e := tLabel) (l := a.1)
  simp only [F_spec_l4Copy]
  rw [if_pos (by simp; omega)]
  simp

theorem copySet_ok {l : List DLabel} (h : l.length ≤ 1073741824) : F_impl_copySet k (l, ()) = some (l, ()) := by
  simp only [F_impl_copySet]
  rw [if_pos (by simp; omega)]
  simp

theorem copyAlarm_ok {a : DAlarm} (h : tot tAlarm a ≤ 1073741824) : F_impl_copyAlarm k (a, ()) = some (a, ()) := by
  have h1 := tot_Alarm hk a
  have h2 := tot_len (e := tLabel) (l := a.1)
  simp only [F_impl_copyAlarm]
  rw [copySet_ok hk (by omega), Option.bind_some]

theorem l4All_ok {l : List DAlarm} (h : tot (.sl tAlarm) l ≤ 1073741824) : F_spec_l4All k (l, ()) = some (l, ()) :=
  cpS_id (d := tAlarm.dflt) (S := F_spec_l4Copy k) hk (Nat.le_trans (tot_len (e := tAlarm)) h) (fun e he => l4Copy_ok hk (Nat.le_trans (tot_mem (e := tAlarm) he) h))

theorem copyAlarms_ok {l : List DAlarm} (h : tot (.sl tAlarm) l ≤ 1073741824) : F_impl_copyAlarms k (l, ()) = some (l, ()) :=
  cpR_id (d := tAlarm.dflt) (S := F_impl_copyAlarm k) hk (Nat.le_trans (tot_len (e := tAlarm)) h) (fun e he => copyAlarm_ok hk (Nat.le_trans (tot_mem (e := tAlarm) he) h))

def sweptL (now : Int) (l : List DAlarm) : List DAlarm := l.filter fun a => !decide (a.2.2.1 ≤ now)

omit hk in
theorem sweptL_step {now : Int} {l : List DAlarm} {i : Nat} (h : i < l.length) : sweptL now (l.take (i + 1)) = if (!decide ((l.getD i tAlarm.dflt).2.2.1 ≤ now)) = true then sweptL now (l.take i) ++ [l.getD i tAlarm.dflt] else sweptL now (l.take i) := by
  rw [take_getD tAlarm.dflt h, sweptL, sweptL, List.filter_append, filter_one]
  split <;> simp

omit hk in
theorem sweptL_len {now : Int} {l : List DAlarm} : (sweptL now l).length ≤ l.length := List.length_filter_le ..

omit hk in
theorem sweptL_tot {now : Int} {l : List DAlarm} : tot (.sl tAlarm) (sweptL now l) ≤ tot (.sl tAlarm) l := tot_filter (e := tAlarm) _ l

/-- A group that is sent on. -/
def flushG (g : DGroup) (now : Int) : DGroup := (g.1, g.2.1, g.2.2.1, now, sweptL now g.2.2.2.2)
def flushB (g : DGroup) (now : Int) : DBatch := (g.1, g.2.1, now, g.2.2.2.2)

theorem flushG_tot {g : DGroup} {now : Int} : tot tGroup (flushG g now) ≤ tot tGroup g := by
  rw [tot_Group hk, tot_Group hk]
  have := sweptL_tot (now := now) (l := g.2.2.2.2)
  simp only [flushG]
  omega

theorem flushB_tot {g : DGroup} {now : Int} : tot tBatch (flushB g now) = tot tGroup g := by
  rw [tot_Group hk, tot_Batch hk]
  rfl

end
end Vg.Tryz
