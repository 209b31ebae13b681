/- What the functions compute, printed by vgen.py from the evaluator's run. -/
import Derived.Test.YtlpeoedbginanaaGreatVc
namespace Vg.Tryz
open Go Vg
set_option linter.unusedVariables false
abbrev tLabel : Ty := (.pair .str .str)
abbrev DLabel : Type := (ByteArray × ByteArray)
abbrev tTimer : Ty := (.pair (.int .i64) (.int .i64))
abbrev DTimer : Type := (Int × Int)
abbrev tAlarm : Ty := (.pair (.sl tLabel) (.pair (.int .i64) (.pair (.int .i64) .str)))
abbrev DAlarm : Type := (List DLabel × (Int × (Int × ByteArray)))
abbrev tConf : Ty := (.pair (.int .i64) (.pair (.int .i64) (.pair (.int .i64) (.pair (.int .i64) (.pair (.int .i64) (.sl .str))))))
abbrev DConf : Type := (Int × (Int × (Int × (Int × (Int × List ByteArray)))))
abbrev tChain : Ty := (.pair (.int .i64) (.sl tAlarm))
abbrev DChain : Type := (Int × List DAlarm)
abbrev tSub : Ty := (.pair (.sl tAlarm) .bool)
abbrev DSub : Type := (List DAlarm × Bool)
abbrev tPart : Ty := (.pair (.int .i64) (.pair (.int .i64) (.sl tChain)))
abbrev DPart : Type := (Int × (Int × List DChain))
abbrev tBatch : Ty := (.pair (.int .i64) (.pair (.sl tLabel) tChain))
abbrev DBatch : Type := (Int × (List DLabel × DChain))
abbrev tGroup : Ty := (.pair (.int .i64) (.pair (.sl tLabel) (.pair (.int .i64) tChain)))
abbrev DGroup : Type := (Int × (List DLabel × (Int × DChain)))
abbrev tTask : Ty := (.pair (.int .i64) (.pair (.int .i64) (.pair tAlarm (.pair (.sl tLabel) (.pair (.int .i64) (.pair (.sl (.int .i64)) (.pair (.sl tAlarm) tTimer)))))))
abbrev DTask : Type := (Int × (Int × (DAlarm × (List DLabel × (Int × (List Int × (List DAlarm × DTimer)))))))
abbrev tDeed : Ty := (.pair (.int .i64) (.pair (.int .i64) (.pair tAlarm (.pair (.sl tLabel) (.pair (.int .i64) (.pair (.int .i64) (.pair (.int .i64) (.pair (.sl tAlarm) (.pair (.int .i64) (.pair (.int .i64) tTimer))))))))))
abbrev DDeed : Type := (Int × (Int × (DAlarm × (List DLabel × (Int × (Int × (Int × (List DAlarm × (Int × (Int × DTimer))))))))))
abbrev tWorld : Ty := (.pair tConf (.pair (.int .i64) (.pair (.int .i64) (.pair (.sl tPart) (.pair (.sl tSub) (.pair (.sl tAlarm) (.pair (.int .i64) (.pair (.sl tGroup) (.pair (.int .i64) (.pair (.sl tTimer) (.pair (.sl tBatch) (.pair (.sl tAlarm) (.pair (.sl tTask) (.sl tDeed))))))))))))))
abbrev DWorld : Type := (DConf × (Int × (Int × (List DPart × (List DSub × (List DAlarm × (Int × (List DGroup × (Int × (List DTimer × (List DBatch × (List DAlarm × (List DTask × List DDeed)))))))))))))
def F_strings_Join (k : Nat) (x : List ByteArray × ByteArray × Unit) : Option (ByteArray × Unit) := joinF x
def F_impl_byLabels (k : Nat) (x : List DAlarm × Unit) : Option (List DAlarm × Unit) := bylabF x
def F_laws_szStringS (k : Nat) (x : List ByteArray × Int × Unit) : Option (Int × Unit) :=
  if (decide (((IntKind.i64.wrap (x.2.1 - ((List.length x.1 : Nat) : Int))) : Int) < (0 : Int))) = true then
    some ((-1 : Int), ())
  else
    loopN k (fun G1 (t2 : List ByteArray × Int × Int × Unit) =>
      if (decide ((t2.2.2.1 : Int) < ((List.length t2.1 : Nat) : Int))) = true then
        if (decide (0 ≤ t2.2.2.1 ∧ t2.2.2.1 < ((List.length t2.1 : Nat) : Int))) = true then
          if (decide (((IntKind.i64.wrap (t2.2.1 - ((ByteArray.size (List.getD t2.1 (Int.toNat t2.2.2.1) ByteArray.empty) : Nat) : Int))) : Int) < (0 : Int))) = true then
            some ((-1 : Int), ())
          else
            G1 (t2.1, IntKind.i64.wrap (t2.2.1 - ((ByteArray.size (List.getD t2.1 (Int.toNat t2.2.2.1) ByteArray.empty) : Nat) : Int)), IntKind.i64.wrap (t2.2.2.1 + (1 : Int)), ())
        else
          none
      else
        some (t2.2.1, ())) (x.1, IntKind.i64.wrap (x.2.1 - ((List.length x.1 : Nat) : Int)), (0 : Int), ())
def F_laws_szConf (k : Nat) (x : DConf × Int × Unit) : Option (Int × Unit) :=
  Option.bind (F_laws_szStringS k (x.1.2.2.2.2.2, x.2.1, ())) fun (r1 : Int × Unit) =>
  if (decide ((r1.1 : Int) < (0 : Int))) = true then
    some ((-1 : Int), ())
  else
    some (r1.1, ())
def F_laws_szLabel (k : Nat) (x : DLabel × Int × Unit) : Option (Int × Unit) :=
  if (decide (((IntKind.i64.wrap (x.2.1 - ((ByteArray.size x.1.1 : Nat) : Int))) : Int) < (0 : Int))) = true then
    some ((-1 : Int), ())
  else
    if (decide (((IntKind.i64.wrap ((IntKind.i64.wrap (x.2.1 - ((ByteArray.size x.1.1 : Nat) : Int))) - ((ByteArray.size x.1.2 : Nat) : Int))) : Int) < (0 : Int))) = true then
      some ((-1 : Int), ())
    else
      some (IntKind.i64.wrap ((IntKind.i64.wrap (x.2.1 - ((ByteArray.size x.1.1 : Nat) : Int))) - ((ByteArray.size x.1.2 : Nat) : Int)), ())
def F_laws_szLabelS (k : Nat) (x : List DLabel × Int × Unit) : Option (Int × Unit) :=
  if (decide (((IntKind.i64.wrap (x.2.1 - ((List.length x.1 : Nat) : Int))) : Int) < (0 : Int))) = true then
    some ((-1 : Int), ())
  else
    loopN k (fun G1 (t2 : List DLabel × Int × Int × Unit) =>
      if (decide ((t2.2.2.1 : Int) < ((List.length t2.1 : Nat) : Int))) = true then
        if (decide (0 ≤ t2.2.2.1 ∧ t2.2.2.1 < ((List.length t2.1 : Nat) : Int))) = true then
          Option.bind (F_laws_szLabel k (List.getD t2.1 (Int.toNat t2.2.2.1) tLabel.dflt, t2.2.1, ())) fun (r3 : Int × Unit) =>
          if (decide ((r3.1 : Int) < (0 : Int))) = true then
            some ((-1 : Int), ())
          else
            G1 (t2.1, r3.1, IntKind.i64.wrap (t2.2.2.1 + (1 : Int)), ())
        else
          none
      else
        some (t2.2.1, ())) (x.1, IntKind.i64.wrap (x.2.1 - ((List.length x.1 : Nat) : Int)), (0 : Int), ())
def F_laws_szAlarm (k : Nat) (x : DAlarm × Int × Unit) : Option (Int × Unit) :=
  Option.bind (F_laws_szLabelS k (x.1.1, x.2.1, ())) fun (r1 : Int × Unit) =>
  if (decide ((r1.1 : Int) < (0 : Int))) = true then
    some ((-1 : Int), ())
  else
    if (decide (((IntKind.i64.wrap (r1.1 - ((ByteArray.size x.1.2.2.2 : Nat) : Int))) : Int) < (0 : Int))) = true then
      some ((-1 : Int), ())
    else
      some (IntKind.i64.wrap (r1.1 - ((ByteArray.size x.1.2.2.2 : Nat) : Int)), ())
def F_laws_szAlarmS (k : Nat) (x : List DAlarm × Int × Unit) : Option (Int × Unit) :=
  if (decide (((IntKind.i64.wrap (x.2.1 - ((List.length x.1 : Nat) : Int))) : Int) < (0 : Int))) = true then
    some ((-1 : Int), ())
  else
    loopN k (fun G1 (t2 : List DAlarm × Int × Int × Unit) =>
      if (decide ((t2.2.2.1 : Int) < ((List.length t2.1 : Nat) : Int))) = true then
        if (decide (0 ≤ t2.2.2.1 ∧ t2.2.2.1 < ((List.length t2.1 : Nat) : Int))) = true then
          Option.bind (F_laws_szAlarm k (List.getD t2.1 (Int.toNat t2.2.2.1) tAlarm.dflt, t2.2.1, ())) fun (r3 : Int × Unit) =>
          if (decide ((r3.1 : Int) < (0 : Int))) = true then
            some ((-1 : Int), ())
          else
            G1 (t2.1, r3.1, IntKind.i64.wrap (t2.2.2.1 + (1 : Int)), ())
        else
          none
      else
        some (t2.2.1, ())) (x.1, IntKind.i64.wrap (x.2.1 - ((List.length x.1 : Nat) : Int)), (0 : Int), ())
def F_laws_szChain (k : Nat) (x : DChain × Int × Unit) : Option (Int × Unit) :=
  Option.bind (F_laws_szAlarmS k (x.1.2, x.2.1, ())) fun (r1 : Int × Unit) =>
  if (decide ((r1.1 : Int) < (0 : Int))) = true then
    some ((-1 : Int), ())
  else
    some (r1.1, ())
def F_laws_szChainS (k : Nat) (x : List DChain × Int × Unit) : Option (Int × Unit) :=
  if (decide (((IntKind.i64.wrap (x.2.1 - ((List.length x.1 : Nat) : Int))) : Int) < (0 : Int))) = true then
    some ((-1 : Int), ())
  else
    loopN k (fun G1 (t2 : List DChain × Int × Int × Unit) =>
      if (decide ((t2.2.2.1 : Int) < ((List.length t2.1 : Nat) : Int))) = true then
        if (decide (0 ≤ t2.2.2.1 ∧ t2.2.2.1 < ((List.length t2.1 : Nat) : Int))) = true then
          Option.bind (F_laws_szChain k (List.getD t2.1 (Int.toNat t2.2.2.1) tChain.dflt, t2.2.1, ())) fun (r3 : Int × Unit) =>
          if (decide ((r3.1 : Int) < (0 : Int))) = true then
            some ((-1 : Int), ())
          else
            G1 (t2.1, r3.1, IntKind.i64.wrap (t2.2.2.1 + (1 : Int)), ())
        else
          none
      else
        some (t2.2.1, ())) (x.1, IntKind.i64.wrap (x.2.1 - ((List.length x.1 : Nat) : Int)), (0 : Int), ())
def F_laws_szPart (k : Nat) (x : DPart × Int × Unit) : Option (Int × Unit) :=
  Option.bind (F_laws_szChainS k (x.1.2.2, x.2.1, ())) fun (r1 : Int × Unit) =>
  if (decide ((r1.1 : Int) < (0 : Int))) = true then
    some ((-1 : Int), ())
  else
    some (r1.1, ())
def F_laws_szPartS (k : Nat) (x : List DPart × Int × Unit) : Option (Int × Unit) :=
  if (decide (((IntKind.i64.wrap (x.2.1 - ((List.length x.1 : Nat) : Int))) : Int) < (0 : Int))) = true then
    some ((-1 : Int), ())
  else
    loopN k (fun G1 (t2 : List DPart × Int × Int × Unit) =>
      if (decide ((t2.2.2.1 : Int) < ((List.length t2.1 : Nat) : Int))) = true then
        if (decide (0 ≤ t2.2.2.1 ∧ t2.2.2.1 < ((List.length t2.1 : Nat) : Int))) = true then
          Option.bind (F_laws_szPart k (List.getD t2.1 (Int.toNat t2.2.2.1) tPart.dflt, t2.2.1, ())) fun (r3 : Int × Unit) =>
          if (decide ((r3.1 : Int) < (0 : Int))) = true then
            some ((-1 : Int), ())
          else
            G1 (t2.1, r3.1, IntKind.i64.wrap (t2.2.2.1 + (1 : Int)), ())
        else
          none
      else
        some (t2.2.1, ())) (x.1, IntKind.i64.wrap (x.2.1 - ((List.length x.1 : Nat) : Int)), (0 : Int), ())
def F_laws_szSub (k : Nat) (x : DSub × Int × Unit) : Option (Int × Unit) :=
  Option.bind (F_laws_szAlarmS k (x.1.1, x.2.1, ())) fun (r1 : Int × Unit) =>
  if (decide ((r1.1 : Int) < (0 : Int))) = true then
    some ((-1 : Int), ())
  else
    some (r1.1, ())
def F_laws_szSubS (k : Nat) (x : List DSub × Int × Unit) : Option (Int × Unit) :=
  if (decide (((IntKind.i64.wrap (x.2.1 - ((List.length x.1 : Nat) : Int))) : Int) < (0 : Int))) = true then
    some ((-1 : Int), ())
  else
    loopN k (fun G1 (t2 : List DSub × Int × Int × Unit) =>
      if (decide ((t2.2.2.1 : Int) < ((List.length t2.1 : Nat) : Int))) = true then
        if (decide (0 ≤ t2.2.2.1 ∧ t2.2.2.1 < ((List.length t2.1 : Nat) : Int))) = true then
          Option.bind (F_laws_szSub k (List.getD t2.1 (Int.toNat t2.2.2.1) tSub.dflt, t2.2.1, ())) fun (r3 : Int × Unit) =>
          if (decide ((r3.1 : Int) < (0 : Int))) = true then
            some ((-1 : Int), ())
          else
            G1 (t2.1, r3.1, IntKind.i64.wrap (t2.2.2.1 + (1 : Int)), ())
        else
          none
      else
        some (t2.2.1, ())) (x.1, IntKind.i64.wrap (x.2.1 - ((List.length x.1 : Nat) : Int)), (0 : Int), ())
def F_laws_szGroup (k : Nat) (x : DGroup × Int × Unit) : Option (Int × Unit) :=
  Option.bind (F_laws_szLabelS k (x.1.2.1, x.2.1, ())) fun (r1 : Int × Unit) =>
  if (decide ((r1.1 : Int) < (0 : Int))) = true then
    some ((-1 : Int), ())
  else
    Option.bind (F_laws_szAlarmS k (x.1.2.2.2.2, r1.1, ())) fun (r2 : Int × Unit) =>
    if (decide ((r2.1 : Int) < (0 : Int))) = true then
      some ((-1 : Int), ())
    else
      some (r2.1, ())
def F_laws_szGroupS (k : Nat) (x : List DGroup × Int × Unit) : Option (Int × Unit) :=
  if (decide (((IntKind.i64.wrap (x.2.1 - ((List.length x.1 : Nat) : Int))) : Int) < (0 : Int))) = true then
    some ((-1 : Int), ())
  else
    loopN k (fun G1 (t2 : List DGroup × Int × Int × Unit) =>
      if (decide ((t2.2.2.1 : Int) < ((List.length t2.1 : Nat) : Int))) = true then
        if (decide (0 ≤ t2.2.2.1 ∧ t2.2.2.1 < ((List.length t2.1 : Nat) : Int))) = true then
          Option.bind (F_laws_szGroup k (List.getD t2.1 (Int.toNat t2.2.2.1) tGroup.dflt, t2.2.1, ())) fun (r3 : Int × Unit) =>
          if (decide ((r3.1 : Int) < (0 : Int))) = true then
            some ((-1 : Int), ())
          else
            G1 (t2.1, r3.1, IntKind.i64.wrap (t2.2.2.1 + (1 : Int)), ())
        else
          none
      else
        some (t2.2.1, ())) (x.1, IntKind.i64.wrap (x.2.1 - ((List.length x.1 : Nat) : Int)), (0 : Int), ())
def F_laws_szTimerS (k : Nat) (x : List DTimer × Int × Unit) : Option (Int × Unit) :=
  if (decide (((IntKind.i64.wrap (x.2.1 - ((List.length x.1 : Nat) : Int))) : Int) < (0 : Int))) = true then
    some ((-1 : Int), ())
  else
    some (IntKind.i64.wrap (x.2.1 - ((List.length x.1 : Nat) : Int)), ())
def F_laws_szBatch (k : Nat) (x : DBatch × Int × Unit) : Option (Int × Unit) :=
  Option.bind (F_laws_szLabelS k (x.1.2.1, x.2.1, ())) fun (r1 : Int × Unit) =>
  if (decide ((r1.1 : Int) < (0 : Int))) = true then
    some ((-1 : Int), ())
  else
    Option.bind (F_laws_szAlarmS k (x.1.2.2.2, r1.1, ())) fun (r2 : Int × Unit) =>
    if (decide ((r2.1 : Int) < (0 : Int))) = true then
      some ((-1 : Int), ())
    else
      some (r2.1, ())
def F_laws_szBatchS (k : Nat) (x : List DBatch × Int × Unit) : Option (Int × Unit) :=
  if (decide (((IntKind.i64.wrap (x.2.1 - ((List.length x.1 : Nat) : Int))) : Int) < (0 : Int))) = true then
    some ((-1 : Int), ())
  else
    loopN k (fun G1 (t2 : List DBatch × Int × Int × Unit) =>
      if (decide ((t2.2.2.1 : Int) < ((List.length t2.1 : Nat) : Int))) = true then
        if (decide (0 ≤ t2.2.2.1 ∧ t2.2.2.1 < ((List.length t2.1 : Nat) : Int))) = true then
          Option.bind (F_laws_szBatch k (List.getD t2.1 (Int.toNat t2.2.2.1) tBatch.dflt, t2.2.1, ())) fun (r3 : Int × Unit) =>
          if (decide ((r3.1 : Int) < (0 : Int))) = true then
            some ((-1 : Int), ())
          else
            G1 (t2.1, r3.1, IntKind.i64.wrap (t2.2.2.1 + (1 : Int)), ())
        else
          none
      else
        some (t2.2.1, ())) (x.1, IntKind.i64.wrap (x.2.1 - ((List.length x.1 : Nat) : Int)), (0 : Int), ())
def F_laws_szIntS (k : Nat) (x : List Int × Int × Unit) : Option (Int × Unit) :=
  if (decide (((IntKind.i64.wrap (x.2.1 - ((List.length x.1 : Nat) : Int))) : Int) < (0 : Int))) = true then
    some ((-1 : Int), ())
  else
    some (IntKind.i64.wrap (x.2.1 - ((List.length x.1 : Nat) : Int)), ())
def F_laws_szTask (k : Nat) (x : DTask × Int × Unit) : Option (Int × Unit) :=
  Option.bind (F_laws_szAlarm k (x.1.2.2.1, x.2.1, ())) fun (r1 : Int × Unit) =>
  if (decide ((r1.1 : Int) < (0 : Int))) = true then
    some ((-1 : Int), ())
  else
    Option.bind (F_laws_szLabelS k (x.1.2.2.2.1, r1.1, ())) fun (r2 : Int × Unit) =>
    if (decide ((r2.1 : Int) < (0 : Int))) = true then
      some ((-1 : Int), ())
    else
      Option.bind (F_laws_szIntS k (x.1.2.2.2.2.2.1, r2.1, ())) fun (r3 : Int × Unit) =>
      if (decide ((r3.1 : Int) < (0 : Int))) = true then
        some ((-1 : Int), ())
      else
        Option.bind (F_laws_szAlarmS k (x.1.2.2.2.2.2.2.1, r3.1, ())) fun (r4 : Int × Unit) =>
        if (decide ((r4.1 : Int) < (0 : Int))) = true then
          some ((-1 : Int), ())
        else
          some (r4.1, ())
def F_laws_szTaskS (k : Nat) (x : List DTask × Int × Unit) : Option (Int × Unit) :=
  if (decide (((IntKind.i64.wrap (x.2.1 - ((List.length x.1 : Nat) : Int))) : Int) < (0 : Int))) = true then
    some ((-1 : Int), ())
  else
    loopN k (fun G1 (t2 : List DTask × Int × Int × Unit) =>
      if (decide ((t2.2.2.1 : Int) < ((List.length t2.1 : Nat) : Int))) = true then
        if (decide (0 ≤ t2.2.2.1 ∧ t2.2.2.1 < ((List.length t2.1 : Nat) : Int))) = true then
          Option.bind (F_laws_szTask k (List.getD t2.1 (Int.toNat t2.2.2.1) tTask.dflt, t2.2.1, ())) fun (r3 : Int × Unit) =>
          if (decide ((r3.1 : Int) < (0 : Int))) = true then
            some ((-1 : Int), ())
          else
            G1 (t2.1, r3.1, IntKind.i64.wrap (t2.2.2.1 + (1 : Int)), ())
        else
          none
      else
        some (t2.2.1, ())) (x.1, IntKind.i64.wrap (x.2.1 - ((List.length x.1 : Nat) : Int)), (0 : Int), ())
def F_laws_szDeed (k : Nat) (x : DDeed × Int × Unit) : Option (Int × Unit) :=
  Option.bind (F_laws_szAlarm k (x.1.2.2.1, x.2.1, ())) fun (r1 : Int × Unit) =>
  if (decide ((r1.1 : Int) < (0 : Int))) = true then
    some ((-1 : Int), ())
  else
    Option.bind (F_laws_szLabelS k (x.1.2.2.2.1, r1.1, ())) fun (r2 : Int × Unit) =>
    if (decide ((r2.1 : Int) < (0 : Int))) = true then
      some ((-1 : Int), ())
    else
      Option.bind (F_laws_szAlarmS k (x.1.2.2.2.2.2.2.2.1, r2.1, ())) fun (r3 : Int × Unit) =>
      if (decide ((r3.1 : Int) < (0 : Int))) = true then
        some ((-1 : Int), ())
      else
        some (r3.1, ())
def F_laws_szDeedS (k : Nat) (x : List DDeed × Int × Unit) : Option (Int × Unit) :=
  if (decide (((IntKind.i64.wrap (x.2.1 - ((List.length x.1 : Nat) : Int))) : Int) < (0 : Int))) = true then
    some ((-1 : Int), ())
  else
    loopN k (fun G1 (t2 : List DDeed × Int × Int × Unit) =>
      if (decide ((t2.2.2.1 : Int) < ((List.length t2.1 : Nat) : Int))) = true then
        if (decide (0 ≤ t2.2.2.1 ∧ t2.2.2.1 < ((List.length t2.1 : Nat) : Int))) = true then
          Option.bind (F_laws_szDeed k (List.getD t2.1 (Int.toNat t2.2.2.1) tDeed.dflt, t2.2.1, ())) fun (r3 : Int × Unit) =>
          if (decide ((r3.1 : Int) < (0 : Int))) = true then
            some ((-1 : Int), ())
          else
            G1 (t2.1, r3.1, IntKind.i64.wrap (t2.2.2.1 + (1 : Int)), ())
        else
          none
      else
        some (t2.2.1, ())) (x.1, IntKind.i64.wrap (x.2.1 - ((List.length x.1 : Nat) : Int)), (0 : Int), ())
def F_laws_szWorld (k : Nat) (x : DWorld × Int × Unit) : Option (Int × Unit) :=
  Option.bind (F_laws_szConf k (x.1.1, x.2.1, ())) fun (r1 : Int × Unit) =>
  if (decide ((r1.1 : Int) < (0 : Int))) = true then
    some ((-1 : Int), ())
  else
    Option.bind (F_laws_szPartS k (x.1.2.2.2.1, r1.1, ())) fun (r2 : Int × Unit) =>
    if (decide ((r2.1 : Int) < (0 : Int))) = true then
      some ((-1 : Int), ())
    else
      Option.bind (F_laws_szSubS k (x.1.2.2.2.2.1, r2.1, ())) fun (r3 : Int × Unit) =>
      if (decide ((r3.1 : Int) < (0 : Int))) = true then
        some ((-1 : Int), ())
      else
        Option.bind (F_laws_szAlarmS k (x.1.2.2.2.2.2.1, r3.1, ())) fun (r4 : Int × Unit) =>
        if (decide ((r4.1 : Int) < (0 : Int))) = true then
          some ((-1 : Int), ())
        else
          Option.bind (F_laws_szGroupS k (x.1.2.2.2.2.2.2.2.1, r4.1, ())) fun (r5 : Int × Unit) =>
          if (decide ((r5.1 : Int) < (0 : Int))) = true then
            some ((-1 : Int), ())
          else
            Option.bind (F_laws_szTimerS k (x.1.2.2.2.2.2.2.2.2.2.1, r5.1, ())) fun (r6 : Int × Unit) =>
            if (decide ((r6.1 : Int) < (0 : Int))) = true then
              some ((-1 : Int), ())
            else
              Option.bind (F_laws_szBatchS k (x.1.2.2.2.2.2.2.2.2.2.2.1, r6.1, ())) fun (r7 : Int × Unit) =>
              if (decide ((r7.1 : Int) < (0 : Int))) = true then
                some ((-1 : Int), ())
              else
                Option.bind (F_laws_szAlarmS k (x.1.2.2.2.2.2.2.2.2.2.2.2.1, r7.1, ())) fun (r8 : Int × Unit) =>
                if (decide ((r8.1 : Int) < (0 : Int))) = true then
                  some ((-1 : Int), ())
                else
                  Option.bind (F_laws_szTaskS k (x.1.2.2.2.2.2.2.2.2.2.2.2.2.1, r8.1, ())) fun (r9 : Int × Unit) =>
                  if (decide ((r9.1 : Int) < (0 : Int))) = true then
                    some ((-1 : Int), ())
                  else
                    Option.bind (F_laws_szDeedS k (x.1.2.2.2.2.2.2.2.2.2.2.2.2.2, r9.1, ())) fun (r10 : Int × Unit) =>
                    if (decide ((r10.1 : Int) < (0 : Int))) = true then
                      some ((-1 : Int), ())
                    else
                      some (r10.1, ())
def F_laws_toStringS (k : Nat) (x : List ByteArray × Unit) : Option (List ByteArray × Unit) :=
  if (decide (0 ≤ ((List.length x.1 : Nat) : Int) ∧ ((List.length x.1 : Nat) : Int) < 4294967296 ∧ ((List.length x.1 : Nat) : Int) = ((List.length x.1 : Nat) : Int))) = true then
    loopN k (fun G1 (t2 : List ByteArray × List ByteArray × Int × Unit) =>
      if (decide ((t2.2.2.1 : Int) < ((List.length t2.1 : Nat) : Int))) = true then
        if (decide (0 ≤ t2.2.2.1 ∧ t2.2.2.1 < ((List.length t2.1 : Nat) : Int))) = true then
          if (decide (0 ≤ t2.2.2.1 ∧ t2.2.2.1 < ((List.length t2.2.1 : Nat) : Int))) = true then
            G1 (t2.1, List.set t2.2.1 (Int.toNat t2.2.2.1) (List.getD t2.1 (Int.toNat t2.2.2.1) ByteArray.empty), IntKind.i64.wrap (t2.2.2.1 + (1 : Int)), ())
          else
            none
        else
          none
      else
        some (t2.2.1, ())) (x.1, List.replicate (Int.toNat ((List.length x.1 : Nat) : Int)) ByteArray.empty, (0 : Int), ())
  else
    none
def F_laws_toConf (k : Nat) (x : DConf × Unit) : Option (DConf × Unit) :=
  Option.bind (F_laws_toStringS k (x.1.2.2.2.2.2, ())) fun (r1 : List ByteArray × Unit) =>
  some ((x.1.1, (x.1.2.1, (x.1.2.2.1, (x.1.2.2.2.1, (x.1.2.2.2.2.1, r1.1))))), ())
def F_laws_toLabel (k : Nat) (x : DLabel × Unit) : Option (DLabel × Unit) :=
  some ((x.1.1, x.1.2), ())
def F_laws_toLabelS (k : Nat) (x : List DLabel × Unit) : Option (List DLabel × Unit) :=
  if (decide (0 ≤ ((List.length x.1 : Nat) : Int) ∧ ((List.length x.1 : Nat) : Int) < 4294967296 ∧ ((List.length x.1 : Nat) : Int) = ((List.length x.1 : Nat) : Int))) = true then
    loopN k (fun G1 (t2 : List DLabel × List DLabel × Int × Unit) =>
      if (decide ((t2.2.2.1 : Int) < ((List.length t2.1 : Nat) : Int))) = true then
        if (decide (0 ≤ t2.2.2.1 ∧ t2.2.2.1 < ((List.length t2.1 : Nat) : Int))) = true then
          Option.bind (F_laws_toLabel k (List.getD t2.1 (Int.toNat t2.2.2.1) tLabel.dflt, ())) fun (r3 : DLabel × Unit) =>
          if (decide (0 ≤ t2.2.2.1 ∧ t2.2.2.1 < ((List.length t2.2.1 : Nat) : Int))) = true then
            G1 (t2.1, List.set t2.2.1 (Int.toNat t2.2.2.1) r3.1, IntKind.i64.wrap (t2.2.2.1 + (1 : Int)), ())
          else
            none
        else
          none
      else
        some (t2.2.1, ())) (x.1, List.replicate (Int.toNat ((List.length x.1 : Nat) : Int)) tLabel.dflt, (0 : Int), ())
  else
    none
def F_laws_toAlarm (k : Nat) (x : DAlarm × Unit) : Option (DAlarm × Unit) :=
  Option.bind (F_laws_toLabelS k (x.1.1, ())) fun (r1 : List DLabel × Unit) =>
  some ((r1.1, (x.1.2.1, (x.1.2.2.1, x.1.2.2.2))), ())
def F_laws_toAlarmS (k : Nat) (x : List DAlarm × Unit) : Option (List DAlarm × Unit) :=
  if (decide (0 ≤ ((List.length x.1 : Nat) : Int) ∧ ((List.length x.1 : Nat) : Int) < 4294967296 ∧ ((List.length x.1 : Nat) : Int) = ((List.length x.1 : Nat) : Int))) = true then
    loopN k (fun G1 (t2 : List DAlarm × List DAlarm × Int × Unit) =>
      if (decide ((t2.2.2.1 : Int) < ((List.length t2.1 : Nat) : Int))) = true then
        if (decide (0 ≤ t2.2.2.1 ∧ t2.2.2.1 < ((List.length t2.1 : Nat) : Int))) = true then
          Option.bind (F_laws_toAlarm k (List.getD t2.1 (Int.toNat t2.2.2.1) tAlarm.dflt, ())) fun (r3 : DAlarm × Unit) =>
          if (decide (0 ≤ t2.2.2.1 ∧ t2.2.2.1 < ((List.length t2.2.1 : Nat) : Int))) = true then
            G1 (t2.1, List.set t2.2.1 (Int.toNat t2.2.2.1) r3.1, IntKind.i64.wrap (t2.2.2.1 + (1 : Int)), ())
          else
            none
        else
          none
      else
        some (t2.2.1, ())) (x.1, List.replicate (Int.toNat ((List.length x.1 : Nat) : Int)) tAlarm.dflt, (0 : Int), ())
  else
    none
def F_laws_toChain (k : Nat) (x : DChain × Unit) : Option (DChain × Unit) :=
  Option.bind (F_laws_toAlarmS k (x.1.2, ())) fun (r1 : List DAlarm × Unit) =>
  some ((x.1.1, r1.1), ())
def F_laws_toChainS (k : Nat) (x : List DChain × Unit) : Option (List DChain × Unit) :=
  if (decide (0 ≤ ((List.length x.1 : Nat) : Int) ∧ ((List.length x.1 : Nat) : Int) < 4294967296 ∧ ((List.length x.1 : Nat) : Int) = ((List.length x.1 : Nat) : Int))) = true then
    loopN k (fun G1 (t2 : List DChain × List DChain × Int × Unit) =>
      if (decide ((t2.2.2.1 : Int) < ((List.length t2.1 : Nat) : Int))) = true then
        if (decide (0 ≤ t2.2.2.1 ∧ t2.2.2.1 < ((List.length t2.1 : Nat) : Int))) = true then
          Option.bind (F_laws_toChain k (List.getD t2.1 (Int.toNat t2.2.2.1) tChain.dflt, ())) fun (r3 : DChain × Unit) =>
          if (decide (0 ≤ t2.2.2.1 ∧ t2.2.2.1 < ((List.length t2.2.1 : Nat) : Int))) = true then
            G1 (t2.1, List.set t2.2.1 (Int.toNat t2.2.2.1) r3.1, IntKind.i64.wrap (t2.2.2.1 + (1 : Int)), ())
          else
            none
        else
          none
      else
        some (t2.2.1, ())) (x.1, List.replicate (Int.toNat ((List.length x.1 : Nat) : Int)) tChain.dflt, (0 : Int), ())
  else
    none
def F_laws_toPart (k : Nat) (x : DPart × Unit) : Option (DPart × Unit) :=
  Option.bind (F_laws_toChainS k (x.1.2.2, ())) fun (r1 : List DChain × Unit) =>
  some ((x.1.1, (x.1.2.1, r1.1)), ())
def F_laws_toPartS (k : Nat) (x : List DPart × Unit) : Option (List DPart × Unit) :=
  if (decide (0 ≤ ((List.length x.1 : Nat) : Int) ∧ ((List.length x.1 : Nat) : Int) < 4294967296 ∧ ((List.length x.1 : Nat) : Int) = ((List.length x.1 : Nat) : Int))) = true then
    loopN k (fun G1 (t2 : List DPart × List DPart × Int × Unit) =>
      if (decide ((t2.2.2.1 : Int) < ((List.length t2.1 : Nat) : Int))) = true then
        if (decide (0 ≤ t2.2.2.1 ∧ t2.2.2.1 < ((List.length t2.1 : Nat) : Int))) = true then
          Option.bind (F_laws_toPart k (List.getD t2.1 (Int.toNat t2.2.2.1) tPart.dflt, ())) fun (r3 : DPart × Unit) =>
          if (decide (0 ≤ t2.2.2.1 ∧ t2.2.2.1 < ((List.length t2.2.1 : Nat) : Int))) = true then
            G1 (t2.1, List.set t2.2.1 (Int.toNat t2.2.2.1) r3.1, IntKind.i64.wrap (t2.2.2.1 + (1 : Int)), ())
          else
            none
        else
          none
      else
        some (t2.2.1, ())) (x.1, List.replicate (Int.toNat ((List.length x.1 : Nat) : Int)) tPart.dflt, (0 : Int), ())
  else
    none
def F_laws_toSub (k : Nat) (x : DSub × Unit) : Option (DSub × Unit) :=
  Option.bind (F_laws_toAlarmS k (x.1.1, ())) fun (r1 : List DAlarm × Unit) =>
  some ((r1.1, x.1.2), ())
def F_laws_toSubS (k : Nat) (x : List DSub × Unit) : Option (List DSub × Unit) :=
  if (decide (0 ≤ ((List.length x.1 : Nat) : Int) ∧ ((List.length x.1 : Nat) : Int) < 4294967296 ∧ ((List.length x.1 : Nat) : Int) = ((List.length x.1 : Nat) : Int))) = true then
    loopN k (fun G1 (t2 : List DSub × List DSub × Int × Unit) =>
      if (decide ((t2.2.2.1 : Int) < ((List.length t2.1 : Nat) : Int))) = true then
        if (decide (0 ≤ t2.2.2.1 ∧ t2.2.2.1 < ((List.length t2.1 : Nat) : Int))) = true then
          Option.bind (F_laws_toSub k (List.getD t2.1 (Int.toNat t2.2.2.1) tSub.dflt, ())) fun (r3 : DSub × Unit) =>
          if (decide (0 ≤ t2.2.2.1 ∧ t2.2.2.1 < ((List.length t2.2.1 : Nat) : Int))) = true then
            G1 (t2.1, List.set t2.2.1 (Int.toNat t2.2.2.1) r3.1, IntKind.i64.wrap (t2.2.2.1 + (1 : Int)), ())
          else
            none
        else
          none
      else
        some (t2.2.1, ())) (x.1, List.replicate (Int.toNat ((List.length x.1 : Nat) : Int)) tSub.dflt, (0 : Int), ())
  else
    none
def F_laws_toGroup (k : Nat) (x : DGroup × Unit) : Option (DGroup × Unit) :=
  Option.bind (F_laws_toLabelS k (x.1.2.1, ())) fun (r1 : List DLabel × Unit) =>
  Option.bind (F_laws_toAlarmS k (x.1.2.2.2.2, ())) fun (r2 : List DAlarm × Unit) =>
  some ((x.1.1, (r1.1, (x.1.2.2.1, (x.1.2.2.2.1, r2.1)))), ())
def F_laws_toGroupS (k : Nat) (x : List DGroup × Unit) : Option (List DGroup × Unit) :=
  if (decide (0 ≤ ((List.length x.1 : Nat) : Int) ∧ ((List.length x.1 : Nat) : Int) < 4294967296 ∧ ((List.length x.1 : Nat) : Int) = ((List.length x.1 : Nat) : Int))) = true then
    loopN k (fun G1 (t2 : List DGroup × List DGroup × Int × Unit) =>
      if (decide ((t2.2.2.1 : Int) < ((List.length t2.1 : Nat) : Int))) = true then
        if (decide (0 ≤ t2.2.2.1 ∧ t2.2.2.1 < ((List.length t2.1 : Nat) : Int))) = true then
          Option.bind (F_laws_toGroup k (List.getD t2.1 (Int.toNat t2.2.2.1) tGroup.dflt, ())) fun (r3 : DGroup × Unit) =>
          if (decide (0 ≤ t2.2.2.1 ∧ t2.2.2.1 < ((List.length t2.2.1 : Nat) : Int))) = true then
            G1 (t2.1, List.set t2.2.1 (Int.toNat t2.2.2.1) r3.1, IntKind.i64.wrap (t2.2.2.1 + (1 : Int)), ())
          else
            none
        else
          none
      else
        some (t2.2.1, ())) (x.1, List.replicate (Int.toNat ((List.length x.1 : Nat) : Int)) tGroup.dflt, (0 : Int), ())
  else
    none
def F_laws_toTimer (k : Nat) (x : DTimer × Unit) : Option (DTimer × Unit) :=
  some ((x.1.1, x.1.2), ())
def F_laws_toTimerS (k : Nat) (x : List DTimer × Unit) : Option (List DTimer × Unit) :=
  if (decide (0 ≤ ((List.length x.1 : Nat) : Int) ∧ ((List.length x.1 : Nat) : Int) < 4294967296 ∧ ((List.length x.1 : Nat) : Int) = ((List.length x.1 : Nat) : Int))) = true then
    loopN k (fun G1 (t2 : List DTimer × List DTimer × Int × Unit) =>
      if (decide ((t2.2.2.1 : Int) < ((List.length t2.1 : Nat) : Int))) = true then
        if (decide (0 ≤ t2.2.2.1 ∧ t2.2.2.1 < ((List.length t2.1 : Nat) : Int))) = true then
          Option.bind (F_laws_toTimer k (List.getD t2.1 (Int.toNat t2.2.2.1) tTimer.dflt, ())) fun (r3 : DTimer × Unit) =>
          if (decide (0 ≤ t2.2.2.1 ∧ t2.2.2.1 < ((List.length t2.2.1 : Nat) : Int))) = true then
            G1 (t2.1, List.set t2.2.1 (Int.toNat t2.2.2.1) r3.1, IntKind.i64.wrap (t2.2.2.1 + (1 : Int)), ())
          else
            none
        else
          none
      else
        some (t2.2.1, ())) (x.1, List.replicate (Int.toNat ((List.length x.1 : Nat) : Int)) tTimer.dflt, (0 : Int), ())
  else
    none
def F_laws_toBatch (k : Nat) (x : DBatch × Unit) : Option (DBatch × Unit) :=
  Option.bind (F_laws_toLabelS k (x.1.2.1, ())) fun (r1 : List DLabel × Unit) =>
  Option.bind (F_laws_toAlarmS k (x.1.2.2.2, ())) fun (r2 : List DAlarm × Unit) =>
  some ((x.1.1, (r1.1, (x.1.2.2.1, r2.1))), ())
def F_laws_toBatchS (k : Nat) (x : List DBatch × Unit) : Option (List DBatch × Unit) :=
  if (decide (0 ≤ ((List.length x.1 : Nat) : Int) ∧ ((List.length x.1 : Nat) : Int) < 4294967296 ∧ ((List.length x.1 : Nat) : Int) = ((List.length x.1 : Nat) : Int))) = true then
    loopN k (fun G1 (t2 : List DBatch × List DBatch × Int × Unit) =>
      if (decide ((t2.2.2.1 : Int) < ((List.length t2.1 : Nat) : Int))) = true then
        if (decide (0 ≤ t2.2.2.1 ∧ t2.2.2.1 < ((List.length t2.1 : Nat) : Int))) = true then
          Option.bind (F_laws_toBatch k (List.getD t2.1 (Int.toNat t2.2.2.1) tBatch.dflt, ())) fun (r3 : DBatch × Unit) =>
          if (decide (0 ≤ t2.2.2.1 ∧ t2.2.2.1 < ((List.length t2.2.1 : Nat) : Int))) = true then
            G1 (t2.1, List.set t2.2.1 (Int.toNat t2.2.2.1) r3.1, IntKind.i64.wrap (t2.2.2.1 + (1 : Int)), ())
          else
            none
        else
          none
      else
        some (t2.2.1, ())) (x.1, List.replicate (Int.toNat ((List.length x.1 : Nat) : Int)) tBatch.dflt, (0 : Int), ())
  else
    none
def F_laws_toIntS (k : Nat) (x : List Int × Unit) : Option (List Int × Unit) :=
  if (decide (0 ≤ ((List.length x.1 : Nat) : Int) ∧ ((List.length x.1 : Nat) : Int) < 4294967296 ∧ ((List.length x.1 : Nat) : Int) = ((List.length x.1 : Nat) : Int))) = true then
    loopN k (fun G1 (t2 : List Int × List Int × Int × Unit) =>
      if (decide ((t2.2.2.1 : Int) < ((List.length t2.1 : Nat) : Int))) = true then
        if (decide (0 ≤ t2.2.2.1 ∧ t2.2.2.1 < ((List.length t2.1 : Nat) : Int))) = true then
          if (decide (0 ≤ t2.2.2.1 ∧ t2.2.2.1 < ((List.length t2.2.1 : Nat) : Int))) = true then
            G1 (t2.1, List.set t2.2.1 (Int.toNat t2.2.2.1) (List.getD t2.1 (Int.toNat t2.2.2.1) 0), IntKind.i64.wrap (t2.2.2.1 + (1 : Int)), ())
          else
            none
        else
          none
      else
        some (t2.2.1, ())) (x.1, List.replicate (Int.toNat ((List.length x.1 : Nat) : Int)) 0, (0 : Int), ())
  else
    none
def F_laws_toTask (k : Nat) (x : DTask × Unit) : Option (DTask × Unit) :=
  Option.bind (F_laws_toAlarm k (x.1.2.2.1, ())) fun (r1 : DAlarm × Unit) =>
  Option.bind (F_laws_toLabelS k (x.1.2.2.2.1, ())) fun (r2 : List DLabel × Unit) =>
  Option.bind (F_laws_toIntS k (x.1.2.2.2.2.2.1, ())) fun (r3 : List Int × Unit) =>
  Option.bind (F_laws_toAlarmS k (x.1.2.2.2.2.2.2.1, ())) fun (r4 : List DAlarm × Unit) =>
  some ((x.1.1, (x.1.2.1, (r1.1, (r2.1, (x.1.2.2.2.2.1, (r3.1, (r4.1, (x.1.2.2.2.2.2.2.2.1, x.1.2.2.2.2.2.2.2.2)))))))), ())
def F_laws_toTaskS (k : Nat) (x : List DTask × Unit) : Option (List DTask × Unit) :=
  if (decide (0 ≤ ((List.length x.1 : Nat) : Int) ∧ ((List.length x.1 : Nat) : Int) < 4294967296 ∧ ((List.length x.1 : Nat) : Int) = ((List.length x.1 : Nat) : Int))) = true then
    loopN k (fun G1 (t2 : List DTask × List DTask × Int × Unit) =>
      if (decide ((t2.2.2.1 : Int) < ((List.length t2.1 : Nat) : Int))) = true then
        if (decide (0 ≤ t2.2.2.1 ∧ t2.2.2.1 < ((List.length t2.1 : Nat) : Int))) = true then
          Option.bind (F_laws_toTask k (List.getD t2.1 (Int.toNat t2.2.2.1) tTask.dflt, ())) fun (r3 : DTask × Unit) =>
          if (decide (0 ≤ t2.2.2.1 ∧ t2.2.2.1 < ((List.length t2.2.1 : Nat) : Int))) = true then
            G1 (t2.1, List.set t2.2.1 (Int.toNat t2.2.2.1) r3.1, IntKind.i64.wrap (t2.2.2.1 + (1 : Int)), ())
          else
            none
        else
          none
      else
        some (t2.2.1, ())) (x.1, List.replicate (Int.toNat ((List.length x.1 : Nat) : Int)) tTask.dflt, (0 : Int), ())
  else
    none
def F_laws_toDeed (k : Nat) (x : DDeed × Unit) : Option (DDeed × Unit) :=
  Option.bind (F_laws_toAlarm k (x.1.2.2.1, ())) fun (r1 : DAlarm × Unit) =>
  Option.bind (F_laws_toLabelS k (x.1.2.2.2.1, ())) fun (r2 : List DLabel × Unit) =>
  Option.bind (F_laws_toAlarmS k (x.1.2.2.2.2.2.2.2.1, ())) fun (r3 : List DAlarm × Unit) =>
  some ((x.1.1, (x.1.2.1, (r1.1, (r2.1, (x.1.2.2.2.2.1, (x.1.2.2.2.2.2.1, (x.1.2.2.2.2.2.2.1, (r3.1, (x.1.2.2.2.2.2.2.2.2.1, (x.1.2.2.2.2.2.2.2.2.2.1, (x.1.2.2.2.2.2.2.2.2.2.2.1, x.1.2.2.2.2.2.2.2.2.2.2.2))))))))))), ())
def F_laws_toDeedS (k : Nat) (x : List DDeed × Unit) : Option (List DDeed × Unit) :=
  if (decide (0 ≤ ((List.length x.1 : Nat) : Int) ∧ ((List.length x.1 : Nat) : Int) < 4294967296 ∧ ((List.length x.1 : Nat) : Int) = ((List.length x.1 : Nat) : Int))) = true then
    loopN k (fun G1 (t2 : List DDeed × List DDeed × Int × Unit) =>
      if (decide ((t2.2.2.1 : Int) < ((List.length t2.1 : Nat) : Int))) = true then
        if (decide (0 ≤ t2.2.2.1 ∧ t2.2.2.1 < ((List.length t2.1 : Nat) : Int))) = true then
          Option.bind (F_laws_toDeed k (List.getD t2.1 (Int.toNat t2.2.2.1) tDeed.dflt, ())) fun (r3 : DDeed × Unit) =>
          if (decide (0 ≤ t2.2.2.1 ∧ t2.2.2.1 < ((List.length t2.2.1 : Nat) : Int))) = true then
            G1 (t2.1, List.set t2.2.1 (Int.toNat t2.2.2.1) r3.1, IntKind.i64.wrap (t2.2.2.1 + (1 : Int)), ())
          else
            none
        else
          none
      else
        some (t2.2.1, ())) (x.1, List.replicate (Int.toNat ((List.length x.1 : Nat) : Int)) tDeed.dflt, (0 : Int), ())
  else
    none
def F_laws_toWorld (k : Nat) (x : DWorld × Unit) : Option (DWorld × Unit) :=
  Option.bind (F_laws_toConf k (x.1.1, ())) fun (r1 : DConf × Unit) =>
  Option.bind (F_laws_toPartS k (x.1.2.2.2.1, ())) fun (r2 : List DPart × Unit) =>
  Option.bind (F_laws_toSubS k (x.1.2.2.2.2.1, ())) fun (r3 : List DSub × Unit) =>
  Option.bind (F_laws_toAlarmS k (x.1.2.2.2.2.2.1, ())) fun (r4 : List DAlarm × Unit) =>
  Option.bind (F_laws_toGroupS k (x.1.2.2.2.2.2.2.2.1, ())) fun (r5 : List DGroup × Unit) =>
  Option.bind (F_laws_toTimerS k (x.1.2.2.2.2.2.2.2.2.2.1, ())) fun (r6 : List DTimer × Unit) =>
  Option.bind (F_laws_toBatchS k (x.1.2.2.2.2.2.2.2.2.2.2.1, ())) fun (r7 : List DBatch × Unit) =>
  Option.bind (F_laws_toAlarmS k (x.1.2.2.2.2.2.2.2.2.2.2.2.1, ())) fun (r8 : List DAlarm × Unit) =>
  Option.bind (F_laws_toTaskS k (x.1.2.2.2.2.2.2.2.2.2.2.2.2.1, ())) fun (r9 : List DTask × Unit) =>
  Option.bind (F_laws_toDeedS k (x.1.2.2.2.2.2.2.2.2.2.2.2.2.2, ())) fun (r10 : List DDeed × Unit) =>
  some ((r1.1, (x.1.2.1, (x.1.2.2.1, (r2.1, (r3.1, (r4.1, (x.1.2.2.2.2.2.2.1, (r5.1, (x.1.2.2.2.2.2.2.2.2.1, (r6.1, (r7.1, (r8.1, (r9.1, r10.1))))))))))))), ())
def F_spec_l1In (k : Nat) (x : Int × Int × Int × Unit) : Option (Bool × Unit) :=
  some (if (decide ((x.1 : Int) ≥ x.2.1)) = true then decide ((x.1 : Int) ≤ x.2.2.1) else false, ())
def F_spec_NameOk (k : Nat) (x : ByteArray × Unit) : Option (Bool × Unit) :=
  joinC (fun J1 =>
    loopN k (fun G3 (t4 : ByteArray × Int × Unit) =>
      if (decide ((t4.2.1 : Int) < ((ByteArray.size t4.1 : Nat) : Int))) = true then
        if (decide (0 ≤ t4.2.1 ∧ t4.2.1 < ((ByteArray.size t4.1 : Nat) : Int))) = true then
          if (!(((decide (((bt t4.1 t4.2.1) : Int) < (97 : Int))) : Bool) == false) || (decide (0 ≤ t4.2.1 ∧ t4.2.1 < ((ByteArray.size t4.1 : Nat) : Int)))) = true then
            if (if (decide (((bt t4.1 t4.2.1) : Int) < (97 : Int))) = true then true else decide (((bt t4.1 t4.2.1) : Int) > (122 : Int))) = true then
              some (false, ())
            else
              G3 (t4.1, IntKind.i64.wrap (t4.2.1 + (1 : Int)), ())
          else
            none
        else
          none
      else
        J1 (t4.1, ())) (x.1, (0 : Int), ())) (fun (t2 : ByteArray × Unit) =>
    Option.bind (F_spec_l1In k (((ByteArray.size t2.1 : Nat) : Int), (1 : Int), (8 : Int), ())) fun (r5 : Bool × Unit) =>
    some (r5.1, ()))
def F_spec_Less (k : Nat) (x : ByteArray × ByteArray × Unit) : Option (Bool × Unit) :=
  some (Op.bytesLess (ByteArray.toList x.1) (ByteArray.toList x.2.1), ())
def F_spec_InOrder (k : Nat) (x : List ByteArray × Unit) : Option (Bool × Unit) :=
  loopN k (fun G1 (t2 : List ByteArray × Int × Unit) =>
    if (decide ((t2.2.1 : Int) < ((List.length t2.1 : Nat) : Int))) = true then
      if (decide (0 ≤ (IntKind.i64.wrap (t2.2.1 - (1 : Int))) ∧ (IntKind.i64.wrap (t2.2.1 - (1 : Int))) < ((List.length t2.1 : Nat) : Int))) = true then
        if (decide (0 ≤ t2.2.1 ∧ t2.2.1 < ((List.length t2.1 : Nat) : Int))) = true then
          Option.bind (F_spec_Less k (List.getD t2.1 (Int.toNat (IntKind.i64.wrap (t2.2.1 - (1 : Int)))) ByteArray.empty, List.getD t2.1 (Int.toNat t2.2.1) ByteArray.empty, ())) fun (r3 : Bool × Unit) =>
          if (!r3.1) = true then
            some (false, ())
          else
            G1 (t2.1, IntKind.i64.wrap (t2.2.1 + (1 : Int)), ())
        else
          none
      else
        none
    else
      some (true, ())) (x.1, (1 : Int), ())
def F_spec_ByOk (k : Nat) (x : List ByteArray × Unit) : Option (Bool × Unit) :=
  joinC (fun J1 =>
    loopN k (fun G3 (t4 : List ByteArray × Int × Unit) =>
      if (decide ((t4.2.1 : Int) < ((List.length t4.1 : Nat) : Int))) = true then
        if (decide (0 ≤ t4.2.1 ∧ t4.2.1 < ((List.length t4.1 : Nat) : Int))) = true then
          Option.bind (F_spec_NameOk k (List.getD t4.1 (Int.toNat t4.2.1) ByteArray.empty, ())) fun (r5 : Bool × Unit) =>
          if (!r5.1) = true then
            some (false, ())
          else
            G3 (t4.1, IntKind.i64.wrap (t4.2.1 + (1 : Int)), ())
        else
          none
      else
        J1 (t4.1, ())) (x.1, (0 : Int), ())) (fun (t2 : List ByteArray × Unit) =>
    Option.bind ((if (((decide ((((List.length t2.1 : Nat) : Int) : Int) ≤ (2 : Int))) : Bool) == true) = true then F_spec_InOrder k (t2.1, ()) else some (false, ()))) fun (r6 : Bool × Unit) =>
    some (if (decide ((((List.length t2.1 : Nat) : Int) : Int) ≤ (2 : Int))) = true then r6.1 else false, ()))
def F_spec_ConfOk (k : Nat) (x : DConf × Unit) : Option (Bool × Unit) :=
  Option.bind (F_spec_l1In k (x.1.1, (1 : Int), (3 : Int), ())) fun (r1 : Bool × Unit) =>
  Option.bind ((if ((r1.1 : Bool) == true) = true then F_spec_l1In k (x.1.2.1, (1 : Int), (8 : Int), ()) else some (false, ()))) fun (r2 : Bool × Unit) =>
  Option.bind ((if (((if r1.1 = true then r2.1 else false) : Bool) == true) = true then F_spec_l1In k (x.1.2.2.1, (1 : Int), (2 : Int), ()) else some (false, ()))) fun (r3 : Bool × Unit) =>
  Option.bind ((if (((if (if r1.1 = true then r2.1 else false) = true then r3.1 else false) : Bool) == true) = true then F_spec_l1In k (x.1.2.2.2.1, (1 : Int), (9 : Int), ()) else some (false, ()))) fun (r4 : Bool × Unit) =>
  Option.bind ((if (((if (if (if r1.1 = true then r2.1 else false) = true then r3.1 else false) = true then r4.1 else false) : Bool) == true) = true then F_spec_l1In k (x.1.2.2.2.2.1, (1 : Int), (9 : Int), ()) else some (false, ()))) fun (r5 : Bool × Unit) =>
  Option.bind ((if (((if (if (if (if r1.1 = true then r2.1 else false) = true then r3.1 else false) = true then r4.1 else false) = true then r5.1 else false) : Bool) == true) = true then F_spec_ByOk k (x.1.2.2.2.2.2, ()) else some (false, ()))) fun (r6 : Bool × Unit) =>
  some (if (if (if (if (if r1.1 = true then r2.1 else false) = true then r3.1 else false) = true then r4.1 else false) = true then r5.1 else false) = true then r6.1 else false, ())
def F_spec_PlainOk (k : Nat) (x : ByteArray × Unit) : Option (Bool × Unit) :=
  joinC (fun J1 =>
    loopN k (fun G3 (t4 : ByteArray × Int × Unit) =>
      if (decide ((t4.2.1 : Int) < ((ByteArray.size t4.1 : Nat) : Int))) = true then
        if (decide (0 ≤ t4.2.1 ∧ t4.2.1 < ((ByteArray.size t4.1 : Nat) : Int))) = true then
          if (!(((decide (((bt t4.1 t4.2.1) : Int) < (32 : Int))) : Bool) == false) || (decide (0 ≤ t4.2.1 ∧ t4.2.1 < ((ByteArray.size t4.1 : Nat) : Int)))) = true then
            if (!(((if (decide (((bt t4.1 t4.2.1) : Int) < (32 : Int))) = true then true else decide (((bt t4.1 t4.2.1) : Int) > (126 : Int))) : Bool) == false) || (decide (0 ≤ t4.2.1 ∧ t4.2.1 < ((ByteArray.size t4.1 : Nat) : Int)))) = true then
              if (!(((if (if (decide (((bt t4.1 t4.2.1) : Int) < (32 : Int))) = true then true else decide (((bt t4.1 t4.2.1) : Int) > (126 : Int))) = true then true else ((bt t4.1 t4.2.1) : Int) == (34 : Int)) : Bool) == false) || (decide (0 ≤ t4.2.1 ∧ t4.2.1 < ((ByteArray.size t4.1 : Nat) : Int)))) = true then
                if (if (if (if (decide (((bt t4.1 t4.2.1) : Int) < (32 : Int))) = true then true else decide (((bt t4.1 t4.2.1) : Int) > (126 : Int))) = true then true else ((bt t4.1 t4.2.1) : Int) == (34 : Int)) = true then true else ((bt t4.1 t4.2.1) : Int) == (92 : Int)) = true then
                  some (false, ())
                else
                  G3 (t4.1, IntKind.i64.wrap (t4.2.1 + (1 : Int)), ())
              else
                none
            else
              none
          else
            none
        else
          none
      else
        J1 (t4.1, ())) (x.1, (0 : Int), ())) (fun (t2 : ByteArray × Unit) =>
    some (decide ((((ByteArray.size t2.1 : Nat) : Int) : Int) ≤ (12 : Int)), ()))
def F_spec_LabelOk (k : Nat) (x : DLabel × Unit) : Option (Bool × Unit) :=
  Option.bind (F_spec_NameOk k (x.1.1, ())) fun (r1 : Bool × Unit) =>
  Option.bind ((if ((r1.1 : Bool) == true) = true then F_spec_PlainOk k (x.1.2, ()) else some (false, ()))) fun (r2 : Bool × Unit) =>
  some (if r1.1 = true then r2.1 else false, ())
def F_spec_SetOk (k : Nat) (x : List DLabel × Unit) : Option (Bool × Unit) :=
  joinC (fun J1 =>
    loopN k (fun G3 (t4 : List DLabel × Int × Unit) =>
      if (decide ((t4.2.1 : Int) < ((List.length t4.1 : Nat) : Int))) = true then
        if (decide (0 ≤ t4.2.1 ∧ t4.2.1 < ((List.length t4.1 : Nat) : Int))) = true then
          Option.bind (F_spec_LabelOk k (List.getD t4.1 (Int.toNat t4.2.1) tLabel.dflt, ())) fun (r5 : Bool × Unit) =>
          if (!((((!r5.1) : Bool) == false) && (((decide ((t4.2.1 : Int) > (0 : Int))) : Bool) == true)) || (decide (0 ≤ (IntKind.i64.wrap (t4.2.1 - (1 : Int))) ∧ (IntKind.i64.wrap (t4.2.1 - (1 : Int))) < ((List.length t4.1 : Nat) : Int)))) = true then
            if (!((((!r5.1) : Bool) == false) && (((decide ((t4.2.1 : Int) > (0 : Int))) : Bool) == true)) || (decide (0 ≤ t4.2.1 ∧ t4.2.1 < ((List.length t4.1 : Nat) : Int)))) = true then
              Option.bind ((if ((((!r5.1) : Bool) == false) && (((decide ((t4.2.1 : Int) > (0 : Int))) : Bool) == true)) = true then F_spec_Less k ((List.getD t4.1 (Int.toNat (IntKind.i64.wrap (t4.2.1 - (1 : Int)))) tLabel.dflt).1, (List.getD t4.1 (Int.toNat t4.2.1) tLabel.dflt).1, ()) else some (false, ()))) fun (r6 : Bool × Unit) =>
              if (if (!r5.1) = true then true else if (decide ((t4.2.1 : Int) > (0 : Int))) = true then !r6.1 else false) = true then
                some (false, ())
              else
                G3 (t4.1, IntKind.i64.wrap (t4.2.1 + (1 : Int)), ())
            else
              none
          else
            none
        else
          none
      else
        J1 (t4.1, ())) (x.1, (0 : Int), ())) (fun (t2 : List DLabel × Unit) =>
    some (decide ((((List.length t2.1 : Nat) : Int) : Int) ≤ (4 : Int)), ()))
def F_spec_AlarmOk (k : Nat) (x : DAlarm × Unit) : Option (Bool × Unit) :=
  Option.bind (F_spec_SetOk k (x.1.1, ())) fun (r1 : Bool × Unit) =>
  Option.bind ((if (((if r1.1 = true then decide ((((List.length x.1.1 : Nat) : Int) : Int) > (0 : Int)) else false) : Bool) == true) = true then F_spec_l1In k (x.1.2.1, (0 : Int), (99999 : Int), ()) else some (false, ()))) fun (r2 : Bool × Unit) =>
  Option.bind ((if (((if (if r1.1 = true then decide ((((List.length x.1.1 : Nat) : Int) : Int) > (0 : Int)) else false) = true then r2.1 else false) : Bool) == true) = true then F_spec_l1In k (x.1.2.2.1, x.1.2.1, (99999 : Int), ()) else some (false, ()))) fun (r3 : Bool × Unit) =>
  Option.bind ((if (((if (if (if r1.1 = true then decide ((((List.length x.1.1 : Nat) : Int) : Int) > (0 : Int)) else false) = true then r2.1 else false) = true then r3.1 else false) : Bool) == true) = true then F_spec_PlainOk k (x.1.2.2.2, ()) else some (false, ()))) fun (r4 : Bool × Unit) =>
  some (if (if (if (if r1.1 = true then decide ((((List.length x.1.1 : Nat) : Int) : Int) > (0 : Int)) else false) = true then r2.1 else false) = true then r3.1 else false) = true then r4.1 else false, ())
def F_spec_SetText (k : Nat) (x : List DLabel × Unit) : Option (ByteArray × Unit) :=
  Option.bind (F_spec_SetOk k (x.1, ())) fun (r1 : Bool × Unit) =>
  if (!r1.1) = true then
    some ((⟨#[]⟩ : ByteArray), ())
  else
    joinC (fun J2 =>
      loopN k (fun G4 (t5 : List DLabel × ByteArray × Int × Unit) =>
        if (decide ((t5.2.2.1 : Int) < ((List.length t5.1 : Nat) : Int))) = true then
          joinC (fun J6 =>
            if (decide ((t5.2.2.1 : Int) > (0 : Int))) = true then
              if (decide ((t5.2.1).size + ((⟨#[44, 32]⟩ : ByteArray)).size < 4294967296)) = true then
                J6 (t5.1, t5.2.1 ++ (⟨#[44, 32]⟩ : ByteArray), t5.2.2.1, ())
              else
                none
            else
              J6 (t5.1, t5.2.1, t5.2.2.1, ())) (fun (t7 : List DLabel × ByteArray × Int × Unit) =>
            if (decide (0 ≤ t7.2.2.1 ∧ t7.2.2.1 < ((List.length t7.1 : Nat) : Int))) = true then
              if (decide ((t7.2.1).size + (((List.getD t7.1 (Int.toNat t7.2.2.1) tLabel.dflt).1)).size < 4294967296)) = true then
                if (decide (((t7.2.1 ++ ((List.getD t7.1 (Int.toNat t7.2.2.1) tLabel.dflt).1))).size + ((⟨#[61, 34]⟩ : ByteArray)).size < 4294967296)) = true then
                  if (decide (0 ≤ t7.2.2.1 ∧ t7.2.2.1 < ((List.length t7.1 : Nat) : Int))) = true then
                    if (decide ((((t7.2.1 ++ ((List.getD t7.1 (Int.toNat t7.2.2.1) tLabel.dflt).1)) ++ (⟨#[61, 34]⟩ : ByteArray))).size + (((List.getD t7.1 (Int.toNat t7.2.2.1) tLabel.dflt).2)).size < 4294967296)) = true then
                      if (decide (((((t7.2.1 ++ ((List.getD t7.1 (Int.toNat t7.2.2.1) tLabel.dflt).1)) ++ (⟨#[61, 34]⟩ : ByteArray)) ++ ((List.getD t7.1 (Int.toNat t7.2.2.1) tLabel.dflt).2))).size + ((⟨#[34]⟩ : ByteArray)).size < 4294967296)) = true then
                        G4 (t7.1, (((t7.2.1 ++ ((List.getD t7.1 (Int.toNat t7.2.2.1) tLabel.dflt).1)) ++ (⟨#[61, 34]⟩ : ByteArray)) ++ ((List.getD t7.1 (Int.toNat t7.2.2.1) tLabel.dflt).2)) ++ (⟨#[34]⟩ : ByteArray), IntKind.i64.wrap (t7.2.2.1 + (1 : Int)), ())
                      else
                        none
                    else
                      none
                  else
                    none
                else
                  none
              else
                none
            else
              none)
        else
          J2 (t5.2.1, ())) (x.1, (⟨#[123]⟩ : ByteArray), (0 : Int), ())) (fun (t3 : ByteArray × Unit) =>
      if (decide ((t3.1).size + ((⟨#[125]⟩ : ByteArray)).size < 4294967296)) = true then
        some (t3.1 ++ (⟨#[125]⟩ : ByteArray), ())
      else
        none)
def F_spec_Sum (k : Nat) (x : ByteArray × Unit) : Option (Int × Unit) :=
  loopN k (fun G1 (t2 : ByteArray × Int × Int × Unit) =>
    if (decide ((t2.2.2.1 : Int) < ((ByteArray.size t2.1 : Nat) : Int))) = true then
      if (decide (0 ≤ t2.2.2.1 ∧ t2.2.2.1 < ((ByteArray.size t2.1 : Nat) : Int))) = true then
        G1 (t2.1, bits (fun _ => (· &&& ·)) .i64 (IntKind.i64.wrap ((bits (fun _ => (· ^^^ ·)) .i64 t2.2.1 (IntKind.i64.wrap (bt t2.1 t2.2.2.1))) * (16777619 : Int))) (4294967295 : Int), IntKind.i64.wrap (t2.2.2.1 + (1 : Int)), ())
      else
        none
    else
      some (t2.2.1, ())) (x.1, (2166136261 : Int), (0 : Int), ())
def F_spec_Finger (k : Nat) (x : List DLabel × Unit) : Option (Int × Unit) :=
  Option.bind (F_spec_SetText k (x.1, ())) fun (r1 : ByteArray × Unit) =>
  Option.bind (F_spec_Sum k (r1.1, ())) fun (r2 : Int × Unit) =>
  if (decide (0 ≤ (16 : Int))) = true then
    if (decide ((32 : Int) ≠ 0)) = true then
      some (Int.tmod (bits (fun _ => (· ^^^ ·)) .i64 r2.1 (Int.fdiv r2.1 (2 ^ (min (Int.toNat (16 : Int)) IntKind.i64.bits)))) (32 : Int), ())
    else
      none
  else
    none
def F_spec_SameSet (k : Nat) (x : List DLabel × List DLabel × Unit) : Option (Bool × Unit) :=
  if ((((List.length x.1 : Nat) : Int) : Int) != ((List.length x.2.1 : Nat) : Int)) = true then
    some (false, ())
  else
    loopN k (fun G1 (t2 : List DLabel × List DLabel × Int × Unit) =>
      if (decide ((t2.2.2.1 : Int) < ((List.length t2.1 : Nat) : Int))) = true then
        if (decide (0 ≤ t2.2.2.1 ∧ t2.2.2.1 < ((List.length t2.1 : Nat) : Int))) = true then
          if (decide (0 ≤ t2.2.2.1 ∧ t2.2.2.1 < ((List.length t2.2.1 : Nat) : Int))) = true then
            if (!(eqv tLabel (List.getD t2.1 (Int.toNat t2.2.2.1) tLabel.dflt) (List.getD t2.2.1 (Int.toNat t2.2.2.1) tLabel.dflt))) = true then
              some (false, ())
            else
              G1 (t2.1, t2.2.1, IntKind.i64.wrap (t2.2.2.1 + (1 : Int)), ())
          else
            none
        else
          none
      else
        some (true, ())) (x.1, x.2.1, (0 : Int), ())
def F_spec_ChainOk (k : Nat) (x : DChain × Unit) : Option (Bool × Unit) :=
  joinC (fun J1 =>
    loopN k (fun G3 (t4 : DChain × Int × Unit) =>
      if (decide ((t4.2.1 : Int) < ((List.length t4.1.2 : Nat) : Int))) = true then
        if (decide (0 ≤ t4.2.1 ∧ t4.2.1 < ((List.length t4.1.2 : Nat) : Int))) = true then
          Option.bind (F_spec_AlarmOk k (List.getD t4.1.2 (Int.toNat t4.2.1) tAlarm.dflt, ())) fun (r5 : Bool × Unit) =>
          if (!(((!r5.1) : Bool) == false) || (decide (0 ≤ t4.2.1 ∧ t4.2.1 < ((List.length t4.1.2 : Nat) : Int)))) = true then
            Option.bind ((if (((!r5.1) : Bool) == false) = true then F_spec_Finger k ((List.getD t4.1.2 (Int.toNat t4.2.1) tAlarm.dflt).1, ()) else some (0, ()))) fun (r6 : Int × Unit) =>
            if (if (!r5.1) = true then true else (r6.1 : Int) != t4.1.1) = true then
              some (false, ())
            else
              loopN k (fun G7 (t8 : DChain × Int × Int × Unit) =>
                if (decide ((t8.2.2.1 : Int) < t8.2.1)) = true then
                  if (decide (0 ≤ t8.2.2.1 ∧ t8.2.2.1 < ((List.length t8.1.2 : Nat) : Int))) = true then
                    if (decide (0 ≤ t8.2.1 ∧ t8.2.1 < ((List.length t8.1.2 : Nat) : Int))) = true then
                      Option.bind (F_spec_SameSet k ((List.getD t8.1.2 (Int.toNat t8.2.2.1) tAlarm.dflt).1, (List.getD t8.1.2 (Int.toNat t8.2.1) tAlarm.dflt).1, ())) fun (r9 : Bool × Unit) =>
                      if r9.1 = true then
                        some (false, ())
                      else
                        G7 (t8.1, t8.2.1, IntKind.i64.wrap (t8.2.2.1 + (1 : Int)), ())
                    else
                      none
                  else
                    none
                else
                  G3 (t8.1, IntKind.i64.wrap (t8.2.1 + (1 : Int)), ())) (t4.1, t4.2.1, (0 : Int), ())
          else
            none
        else
          none
      else
        J1 (t4.1, ())) (x.1, (0 : Int), ())) (fun (t2 : DChain × Unit) =>
    some (decide ((((List.length t2.1.2 : Nat) : Int) : Int) > (0 : Int)), ()))
def F_spec_PartOf (k : Nat) (x : Int × Int × Unit) : Option (Int × Unit) :=
  if (if (decide ((x.2.1 : Int) < (1 : Int))) = true then true else decide ((x.1 : Int) < (0 : Int))) = true then
    some ((0 : Int), ())
  else
    if (decide (x.2.1 ≠ 0)) = true then
      some (Int.tmod x.1 x.2.1, ())
    else
      none
def F_spec_PartOk (k : Nat) (x : DPart × Int × Int × Unit) : Option (Bool × Unit) :=
  joinC (fun J1 =>
    loopN k (fun G3 (t4 : Int × Int × DPart × Int × Unit) =>
      if (decide ((t4.2.2.2.1 : Int) < ((List.length t4.2.2.1.2.2 : Nat) : Int))) = true then
        if (decide (0 ≤ t4.2.2.2.1 ∧ t4.2.2.2.1 < ((List.length t4.2.2.1.2.2 : Nat) : Int))) = true then
          Option.bind (F_spec_ChainOk k (List.getD t4.2.2.1.2.2 (Int.toNat t4.2.2.2.1) tChain.dflt, ())) fun (r5 : Bool × Unit) =>
          if (!((((!r5.1) : Bool) == false) && (((decide ((t4.2.2.2.1 : Int) > (0 : Int))) : Bool) == true)) || (decide (0 ≤ (IntKind.i64.wrap (t4.2.2.2.1 - (1 : Int))) ∧ (IntKind.i64.wrap (t4.2.2.2.1 - (1 : Int))) < ((List.length t4.2.2.1.2.2 : Nat) : Int)))) = true then
            if (!((((!r5.1) : Bool) == false) && (((decide ((t4.2.2.2.1 : Int) > (0 : Int))) : Bool) == true)) || (decide (0 ≤ t4.2.2.2.1 ∧ t4.2.2.2.1 < ((List.length t4.2.2.1.2.2 : Nat) : Int)))) = true then
              if (!(((if (!r5.1) = true then true else if (decide ((t4.2.2.2.1 : Int) > (0 : Int))) = true then decide ((((List.getD t4.2.2.1.2.2 (Int.toNat (IntKind.i64.wrap (t4.2.2.2.1 - (1 : Int)))) tChain.dflt).1) : Int) ≥ ((List.getD t4.2.2.1.2.2 (Int.toNat t4.2.2.2.1) tChain.dflt).1)) else false) : Bool) == false) || (decide (0 ≤ t4.2.2.2.1 ∧ t4.2.2.2.1 < ((List.length t4.2.2.1.2.2 : Nat) : Int)))) = true then
                Option.bind ((if (((if (!r5.1) = true then true else if (decide ((t4.2.2.2.1 : Int) > (0 : Int))) = true then decide ((((List.getD t4.2.2.1.2.2 (Int.toNat (IntKind.i64.wrap (t4.2.2.2.1 - (1 : Int)))) tChain.dflt).1) : Int) ≥ ((List.getD t4.2.2.1.2.2 (Int.toNat t4.2.2.2.1) tChain.dflt).1)) else false) : Bool) == false) = true then F_spec_PartOf k ((List.getD t4.2.2.1.2.2 (Int.toNat t4.2.2.2.1) tChain.dflt).1, t4.2.1, ()) else some (0, ()))) fun (r6 : Int × Unit) =>
                if (if (if (!r5.1) = true then true else if (decide ((t4.2.2.2.1 : Int) > (0 : Int))) = true then decide ((((List.getD t4.2.2.1.2.2 (Int.toNat (IntKind.i64.wrap (t4.2.2.2.1 - (1 : Int)))) tChain.dflt).1) : Int) ≥ ((List.getD t4.2.2.1.2.2 (Int.toNat t4.2.2.2.1) tChain.dflt).1)) else false) = true then true else (r6.1 : Int) != t4.1) = true then
                  some (false, ())
                else
                  G3 (t4.1, t4.2.1, t4.2.2.1, IntKind.i64.wrap (t4.2.2.2.1 + (1 : Int)), ())
              else
                none
            else
              none
          else
            none
        else
          none
      else
        J1 (t4.2.2.1, ())) (x.2.1, x.2.2.1, x.1, (0 : Int), ())) (fun (t2 : DPart × Unit) =>
    Option.bind (F_spec_l1In k (t2.1.1, (-1 : Int), (4 : Int), ())) fun (r7 : Bool × Unit) =>
    some (if r7.1 = true then decide ((t2.1.2.1 : Int) ≥ (0 : Int)) else false, ()))
def F_spec_StoreOk (k : Nat) (x : List DPart × Unit) : Option (Bool × Unit) :=
  joinC (fun J1 =>
    loopN k (fun G3 (t4 : List DPart × Int × Unit) =>
      if (decide ((t4.2.1 : Int) < ((List.length t4.1 : Nat) : Int))) = true then
        if (decide (0 ≤ t4.2.1 ∧ t4.2.1 < ((List.length t4.1 : Nat) : Int))) = true then
          Option.bind (F_spec_PartOk k (List.getD t4.1 (Int.toNat t4.2.1) tPart.dflt, t4.2.1, ((List.length t4.1 : Nat) : Int), ())) fun (r5 : Bool × Unit) =>
          if (!r5.1) = true then
            some (false, ())
          else
            G3 (t4.1, IntKind.i64.wrap (t4.2.1 + (1 : Int)), ())
        else
          none
      else
        J1 (t4.1, ())) (x.1, (0 : Int), ())) (fun (t2 : List DPart × Unit) =>
    Option.bind (F_spec_l1In k (((List.length t2.1 : Nat) : Int), (1 : Int), (3 : Int), ())) fun (r6 : Bool × Unit) =>
    some (r6.1, ()))
def F_spec_l4Copy (k : Nat) (x : DAlarm × Unit) : Option (DAlarm × Unit) :=
  if (decide (List.length ([] : List DLabel) + List.length x.1.1 < 4294967296)) = true then
    some ((([] : List DLabel) ++ x.1.1, x.1.2), ())
  else
    none
def F_spec_l4All (k : Nat) (x : List DAlarm × Unit) : Option (List DAlarm × Unit) :=
  loopN k (fun G1 (t2 : List DAlarm × List DAlarm × Int × Unit) =>
    if (decide ((t2.2.2.1 : Int) < ((List.length t2.1 : Nat) : Int))) = true then
      if (decide (0 ≤ t2.2.2.1 ∧ t2.2.2.1 < ((List.length t2.1 : Nat) : Int))) = true then
        Option.bind (F_spec_l4Copy k (List.getD t2.1 (Int.toNat t2.2.2.1) tAlarm.dflt, ())) fun (r3 : DAlarm × Unit) =>
        if (decide (List.length t2.2.1 + List.length ([r3.1] : List DAlarm) < 4294967296)) = true then
          G1 (t2.1, t2.2.1 ++ ([r3.1] : List DAlarm), IntKind.i64.wrap (t2.2.2.1 + (1 : Int)), ())
        else
          none
      else
        none
    else
      some (t2.2.1, ())) (x.1, ([] : List DAlarm), (0 : Int), ())
def F_spec_AlarmsIn (k : Nat) (x : DPart × Unit) : Option (List DAlarm × Unit) :=
  loopN k (fun G1 (t2 : DPart × List DAlarm × Int × Unit) =>
    if (decide ((t2.2.2.1 : Int) < ((List.length t2.1.2.2 : Nat) : Int))) = true then
      if (decide (0 ≤ t2.2.2.1 ∧ t2.2.2.1 < ((List.length t2.1.2.2 : Nat) : Int))) = true then
        Option.bind (F_spec_l4All k ((List.getD t2.1.2.2 (Int.toNat t2.2.2.1) tChain.dflt).2, ())) fun (r3 : List DAlarm × Unit) =>
        if (decide (List.length t2.2.1 + List.length r3.1 < 4294967296)) = true then
          G1 (t2.1, t2.2.1 ++ r3.1, IntKind.i64.wrap (t2.2.2.1 + (1 : Int)), ())
        else
          none
      else
        none
    else
      some (t2.2.1, ())) (x.1, ([] : List DAlarm), (0 : Int), ())
def F_spec_SetLess (k : Nat) (x : List DLabel × List DLabel × Unit) : Option (Bool × Unit) :=
  joinC (fun J1 =>
    loopN k (fun G3 (t4 : List DLabel × List DLabel × Int × Unit) =>
      if (if (decide ((t4.2.2.1 : Int) < ((List.length t4.1 : Nat) : Int))) = true then decide ((t4.2.2.1 : Int) < ((List.length t4.2.1 : Nat) : Int)) else false) = true then
        if (decide (0 ≤ t4.2.2.1 ∧ t4.2.2.1 < ((List.length t4.1 : Nat) : Int))) = true then
          if (decide (0 ≤ t4.2.2.1 ∧ t4.2.2.1 < ((List.length t4.2.1 : Nat) : Int))) = true then
            if (!(ByteArray.toList ((List.getD t4.1 (Int.toNat t4.2.2.1) tLabel.dflt).1) == ByteArray.toList ((List.getD t4.2.1 (Int.toNat t4.2.2.1) tLabel.dflt).1))) = true then
              if (decide (0 ≤ t4.2.2.1 ∧ t4.2.2.1 < ((List.length t4.1 : Nat) : Int))) = true then
                if (decide (0 ≤ t4.2.2.1 ∧ t4.2.2.1 < ((List.length t4.2.1 : Nat) : Int))) = true then
                  Option.bind (F_spec_Less k ((List.getD t4.1 (Int.toNat t4.2.2.1) tLabel.dflt).1, (List.getD t4.2.1 (Int.toNat t4.2.2.1) tLabel.dflt).1, ())) fun (r5 : Bool × Unit) =>
                  some (r5.1, ())
                else
                  none
              else
                none
            else
              if (decide (0 ≤ t4.2.2.1 ∧ t4.2.2.1 < ((List.length t4.1 : Nat) : Int))) = true then
                if (decide (0 ≤ t4.2.2.1 ∧ t4.2.2.1 < ((List.length t4.2.1 : Nat) : Int))) = true then
                  if (!(ByteArray.toList ((List.getD t4.1 (Int.toNat t4.2.2.1) tLabel.dflt).2) == ByteArray.toList ((List.getD t4.2.1 (Int.toNat t4.2.2.1) tLabel.dflt).2))) = true then
                    if (decide (0 ≤ t4.2.2.1 ∧ t4.2.2.1 < ((List.length t4.1 : Nat) : Int))) = true then
                      if (decide (0 ≤ t4.2.2.1 ∧ t4.2.2.1 < ((List.length t4.2.1 : Nat) : Int))) = true then
                        Option.bind (F_spec_Less k ((List.getD t4.1 (Int.toNat t4.2.2.1) tLabel.dflt).2, (List.getD t4.2.1 (Int.toNat t4.2.2.1) tLabel.dflt).2, ())) fun (r6 : Bool × Unit) =>
                        some (r6.1, ())
                      else
                        none
                    else
                      none
                  else
                    G3 (t4.1, t4.2.1, IntKind.i64.wrap (t4.2.2.1 + (1 : Int)), ())
                else
                  none
              else
                none
          else
            none
        else
          none
      else
        J1 (t4.1, t4.2.1, ())) (x.1, x.2.1, (0 : Int), ())) (fun (t2 : List DLabel × List DLabel × Unit) =>
    some (decide ((((List.length t2.1 : Nat) : Int) : Int) < ((List.length t2.2.1 : Nat) : Int)), ()))
def F_spec_l8Sort (k : Nat) (x : List DAlarm × Unit) : Option (List DAlarm × Unit) :=
  loopN k (fun G1 (t2 : List DAlarm × List DAlarm × Int × Unit) =>
    if (decide ((t2.2.2.1 : Int) < ((List.length t2.1 : Nat) : Int))) = true then
      if (decide (0 ≤ t2.2.2.1 ∧ t2.2.2.1 < ((List.length t2.1 : Nat) : Int))) = true then
        Option.bind (F_spec_l4Copy k (List.getD t2.1 (Int.toNat t2.2.2.1) tAlarm.dflt, ())) fun (r3 : DAlarm × Unit) =>
        joinC (fun J4 =>
          loopN k (fun G6 (t7 : List DAlarm × List DAlarm × Int × DAlarm × Int × Unit) =>
            if (!(((decide ((t7.2.2.2.2.1 : Int) > (0 : Int))) : Bool) == true) || (decide (0 ≤ (IntKind.i64.wrap (t7.2.2.2.2.1 - (1 : Int))) ∧ (IntKind.i64.wrap (t7.2.2.2.2.1 - (1 : Int))) < ((List.length t7.2.1 : Nat) : Int)))) = true then
              Option.bind ((if (((decide ((t7.2.2.2.2.1 : Int) > (0 : Int))) : Bool) == true) = true then F_spec_SetLess k (t7.2.2.2.1.1, (List.getD t7.2.1 (Int.toNat (IntKind.i64.wrap (t7.2.2.2.2.1 - (1 : Int)))) tAlarm.dflt).1, ()) else some (false, ()))) fun (r8 : Bool × Unit) =>
              if (if (decide ((t7.2.2.2.2.1 : Int) > (0 : Int))) = true then r8.1 else false) = true then
                G6 (t7.1, t7.2.1, t7.2.2.1, t7.2.2.2.1, IntKind.i64.wrap (t7.2.2.2.2.1 - (1 : Int)), ())
              else
                J4 (t7.1, t7.2.1, t7.2.2.1, t7.2.2.2.1, t7.2.2.2.2.1, ())
            else
              none) (t2.1, t2.2.1, t2.2.2.1, r3.1, ((List.length t2.2.1 : Nat) : Int), ())) (fun (t5 : List DAlarm × List DAlarm × Int × DAlarm × Int × Unit) =>
          if (decide (0 ≤ t5.2.2.2.2.1 ∧ t5.2.2.2.2.1 ≤ ((List.length t5.2.1 : Nat) : Int))) = true then
            if (decide (List.length ([] : List DAlarm) + List.length (List.take (Int.toNat t5.2.2.2.2.1) t5.2.1) < 4294967296)) = true then
              if (decide (List.length (([] : List DAlarm) ++ (List.take (Int.toNat t5.2.2.2.2.1) t5.2.1)) + List.length ([t5.2.2.2.1] : List DAlarm) < 4294967296)) = true then
                if (decide (0 ≤ t5.2.2.2.2.1 ∧ t5.2.2.2.2.1 ≤ ((List.length t5.2.1 : Nat) : Int))) = true then
                  if (decide (List.length ((([] : List DAlarm) ++ (List.take (Int.toNat t5.2.2.2.2.1) t5.2.1)) ++ ([t5.2.2.2.1] : List DAlarm)) + List.length (List.drop (Int.toNat t5.2.2.2.2.1) t5.2.1) < 4294967296)) = true then
                    G1 (t5.1, ((([] : List DAlarm) ++ (List.take (Int.toNat t5.2.2.2.2.1) t5.2.1)) ++ ([t5.2.2.2.1] : List DAlarm)) ++ (List.drop (Int.toNat t5.2.2.2.2.1) t5.2.1), IntKind.i64.wrap (t5.2.2.1 + (1 : Int)), ())
                  else
                    none
                else
                  none
              else
                none
            else
              none
          else
            none)
      else
        none
    else
      some (t2.2.1, ())) (x.1, ([] : List DAlarm), (0 : Int), ())
def F_spec_AllAlarms (k : Nat) (x : List DPart × Unit) : Option (List DAlarm × Unit) :=
  joinC (fun J1 =>
    loopN k (fun G3 (t4 : List DPart × List DAlarm × Int × Unit) =>
      if (decide ((t4.2.2.1 : Int) < ((List.length t4.1 : Nat) : Int))) = true then
        if (decide (0 ≤ t4.2.2.1 ∧ t4.2.2.1 < ((List.length t4.1 : Nat) : Int))) = true then
          Option.bind (F_spec_AlarmsIn k (List.getD t4.1 (Int.toNat t4.2.2.1) tPart.dflt, ())) fun (r5 : List DAlarm × Unit) =>
          if (decide (List.length t4.2.1 + List.length r5.1 < 4294967296)) = true then
            G3 (t4.1, t4.2.1 ++ r5.1, IntKind.i64.wrap (t4.2.2.1 + (1 : Int)), ())
          else
            none
        else
          none
      else
        J1 (t4.2.1, ())) (x.1, ([] : List DAlarm), (0 : Int), ())) (fun (t2 : List DAlarm × Unit) =>
    Option.bind (F_spec_l8Sort k (t2.1, ())) fun (r6 : List DAlarm × Unit) =>
    some (r6.1, ()))
def F_spec_Fits (k : Nat) (x : DConf × DAlarm × Unit) : Option (Bool × Unit) :=
  Option.bind (F_spec_AlarmOk k (x.2.1, ())) fun (r1 : Bool × Unit) =>
  some (if r1.1 = true then decide ((x.2.1.2.2.1 : Int) ≤ (99899 : Int)) else false, ())
def F_spec_l16Store (k : Nat) (x : DWorld × Unit) : Option (Bool × Unit) :=
  Option.bind (F_spec_StoreOk k (x.1.2.2.2.1, ())) fun (r1 : Bool × Unit) =>
  if (if (!r1.1) = true then true else (((List.length x.1.2.2.2.1 : Nat) : Int) : Int) != x.1.1.1) = true then
    some (false, ())
  else
    Option.bind (F_spec_AllAlarms k (x.1.2.2.2.1, ())) fun (r2 : List DAlarm × Unit) =>
    joinC (fun J3 =>
      loopN k (fun G5 (t6 : DWorld × List DAlarm × Int × Unit) =>
        if (decide ((t6.2.2.1 : Int) < ((List.length t6.2.1 : Nat) : Int))) = true then
          if (decide (0 ≤ t6.2.2.1 ∧ t6.2.2.1 < ((List.length t6.2.1 : Nat) : Int))) = true then
            Option.bind (F_spec_Fits k (t6.1.1, List.getD t6.2.1 (Int.toNat t6.2.2.1) tAlarm.dflt, ())) fun (r7 : Bool × Unit) =>
            if (!r7.1) = true then
              some (false, ())
            else
              G5 (t6.1, t6.2.1, IntKind.i64.wrap (t6.2.2.1 + (1 : Int)), ())
          else
            none
        else
          J3 (t6.1, t6.2.1, ())) (x.1, r2.1, (0 : Int), ())) (fun (t4 : DWorld × List DAlarm × Unit) =>
      some (decide ((((List.length t4.2.1 : Nat) : Int) : Int) ≤ t4.1.1.2.1), ()))
def F_spec_l14Got (k : Nat) (x : List DAlarm × Unit) : Option (Bool × Unit) :=
  loopN k (fun G1 (t2 : List DAlarm × Int × Unit) =>
    if (decide ((t2.2.1 : Int) < ((List.length t2.1 : Nat) : Int))) = true then
      if (decide (0 ≤ t2.2.1 ∧ t2.2.1 < ((List.length t2.1 : Nat) : Int))) = true then
        Option.bind (F_spec_AlarmOk k (List.getD t2.1 (Int.toNat t2.2.1) tAlarm.dflt, ())) fun (r3 : Bool × Unit) =>
        if (!r3.1) = true then
          some (false, ())
        else
          G1 (t2.1, IntKind.i64.wrap (t2.2.1 + (1 : Int)), ())
      else
        none
    else
      some (true, ())) (x.1, (0 : Int), ())
def F_spec_SubOk (k : Nat) (x : DSub × Unit) : Option (Bool × Unit) :=
  joinC (fun J1 =>
    loopN k (fun G3 (t4 : DSub × Int × Unit) =>
      if (decide ((t4.2.1 : Int) < ((List.length t4.1.1 : Nat) : Int))) = true then
        if (decide (0 ≤ t4.2.1 ∧ t4.2.1 < ((List.length t4.1.1 : Nat) : Int))) = true then
          Option.bind (F_spec_AlarmOk k (List.getD t4.1.1 (Int.toNat t4.2.1) tAlarm.dflt, ())) fun (r5 : Bool × Unit) =>
          if (!r5.1) = true then
            some (false, ())
          else
            G3 (t4.1, IntKind.i64.wrap (t4.2.1 + (1 : Int)), ())
        else
          none
      else
        J1 (t4.1, ())) (x.1, (0 : Int), ())) (fun (t2 : DSub × Unit) =>
    some (if (decide ((((List.length t2.1.1 : Nat) : Int) : Int) ≤ (3 : Int))) = true then if (!t2.1.2) = true then true else (((List.length t2.1.1 : Nat) : Int) : Int) == (0 : Int) else false, ()))
def F_spec_l15Codes (k : Nat) (x : Int × Unit) : Option (List Int × Unit) :=
  if ((x.1 : Int) == (1 : Int)) = true then
    some (([(1 : Int), (2 : Int), (3 : Int), (4 : Int)] : List Int), ())
  else
    if ((x.1 : Int) == (3 : Int)) = true then
      some (([(5 : Int), (6 : Int)] : List Int), ())
    else
      if ((x.1 : Int) == (7 : Int)) = true then
        some (([(1 : Int), (2 : Int), (3 : Int)] : List Int), ())
      else
        if ((x.1 : Int) == (8 : Int)) = true then
          some (([(8 : Int), (6 : Int)] : List Int), ())
        else
          if ((x.1 : Int) == (9 : Int)) = true then
            some (([(5 : Int), (6 : Int), (7 : Int)] : List Int), ())
          else
            some (([(8 : Int)] : List Int), ())
def F_spec_l15Has (k : Nat) (x : List Int × Int × Unit) : Option (Bool × Unit) :=
  loopN k (fun G1 (t2 : List Int × Int × Int × Unit) =>
    if (decide ((t2.2.2.1 : Int) < ((List.length t2.1 : Nat) : Int))) = true then
      if (decide (0 ≤ t2.2.2.1 ∧ t2.2.2.1 < ((List.length t2.1 : Nat) : Int))) = true then
        if (((List.getD t2.1 (Int.toNat t2.2.2.1) 0) : Int) == t2.2.1) = true then
          some (true, ())
        else
          G1 (t2.1, t2.2.1, IntKind.i64.wrap (t2.2.2.1 + (1 : Int)), ())
      else
        none
    else
      some (false, ())) (x.1, x.2.1, (0 : Int), ())
def F_spec_DeedOk (k : Nat) (x : DDeed × Unit) : Option (Bool × Unit) :=
  Option.bind (F_spec_l1In k (x.1.1, (1 : Int), (9 : Int), ())) fun (r1 : Bool × Unit) =>
  Option.bind ((if (((!r1.1) : Bool) == false) = true then F_spec_l1In k (x.1.2.1, (-1 : Int), (4 : Int), ()) else some (false, ()))) fun (r2 : Bool × Unit) =>
  if (if (if (if (if (if (!r1.1) = true then true else !r2.1) = true then true else decide ((x.1.2.2.2.2.2.2.2.2.2.1 : Int) < (0 : Int))) = true then true else decide ((x.1.2.2.2.2.1 : Int) < (0 : Int))) = true then true else decide ((x.1.2.2.2.2.2.1 : Int) < (0 : Int))) = true then true else decide ((x.1.2.2.2.2.2.2.2.2.1 : Int) < (0 : Int))) = true then
    some (false, ())
  else
    if (if (if ((x.1.2.2.2.2.2.2.2.2.2.2.1 : Int) != (-1 : Int)) = true then decide ((x.1.2.2.2.2.2.2.2.2.2.2.1 : Int) < x.1.2.2.2.2.2.2.2.2.2.1) else false) = true then true else if ((x.1.2.2.2.2.2.2.2.2.2.2.2 : Int) != (-1 : Int)) = true then if ((x.1.2.2.2.2.2.2.2.2.2.2.1 : Int) == (-1 : Int)) = true then true else decide ((x.1.2.2.2.2.2.2.2.2.2.2.2 : Int) < x.1.2.2.2.2.2.2.2.2.2.2.1) else false) = true then
      some (false, ())
    else
      if ((x.1.2.2.2.2.2.2.2.2.2.2.1 : Int) == (-1 : Int)) = true then
        some ((x.1.2.2.2.2.2.2.1 : Int) == (0 : Int), ())
      else
        Option.bind (F_spec_l15Codes k (x.1.1, ())) fun (r3 : List Int × Unit) =>
        Option.bind (F_spec_l15Has k (r3.1, x.1.2.2.2.2.2.2.1, ())) fun (r4 : Bool × Unit) =>
        some (r4.1, ())
def F_spec_SameAlarm (k : Nat) (x : DAlarm × DAlarm × Unit) : Option (Bool × Unit) :=
  Option.bind (F_spec_SameSet k (x.1.1, x.2.1.1, ())) fun (r1 : Bool × Unit) =>
  some (if (if (if r1.1 = true then (x.1.2.1 : Int) == x.2.1.2.1 else false) = true then (x.1.2.2.1 : Int) == x.2.1.2.2.1 else false) = true then ByteArray.toList x.1.2.2.2 == ByteArray.toList x.2.1.2.2.2 else false, ())
def F_spec_l14Zero (k : Nat) (x : DAlarm × Unit) : Option (Bool × Unit) :=
  Option.bind (F_spec_SameAlarm k (x.1, (([] : List DLabel), (0, (0, ByteArray.empty))), ())) fun (r1 : Bool × Unit) =>
  some (r1.1, ())
def F_spec_l14Seen (k : Nat) (x : DTask × Unit) : Option (Bool × Unit) :=
  joinC (fun J1 =>
    loopN k (fun G3 (t4 : DTask × Int × Unit) =>
      if (decide ((t4.2.1 : Int) < ((List.length t4.1.2.2.2.2.2.1 : Nat) : Int))) = true then
        if (decide (0 ≤ t4.2.1 ∧ t4.2.1 < ((List.length t4.1.2.2.2.2.2.1 : Nat) : Int))) = true then
          if (decide (((List.getD t4.1.2.2.2.2.2.1 (Int.toNat t4.2.1) 0) : Int) < (0 : Int))) = true then
            some (false, ())
          else
            G3 (t4.1, IntKind.i64.wrap (t4.2.1 + (1 : Int)), ())
        else
          none
      else
        J1 (t4.1, ())) (x.1, (0 : Int), ())) (fun (t2 : DTask × Unit) =>
    if ((t2.1.2.1 : Int) == (2 : Int)) = true then
      Option.bind (F_spec_l1In k (((List.length t2.1.2.2.2.2.2.1 : Nat) : Int), (1 : Int), (3 : Int), ())) fun (r5 : Bool × Unit) =>
      some (if r5.1 = true then (t2.1.2.2.2.2.1 : Int) == ((List.length t2.1.2.2.2.2.2.1 : Nat) : Int) else false, ())
    else
      some (if ((((List.length t2.1.2.2.2.2.2.1 : Nat) : Int) : Int) == t2.1.2.2.2.2.1) = true then decide ((t2.1.2.2.2.2.1 : Int) ≤ (2 : Int)) else false, ()))
def F_spec_TaskOk (k : Nat) (x : DTask × Int × Unit) : Option (Bool × Unit) :=
  Option.bind ((if (((decide ((x.1.2.2.2.2.2.2.2.2 : Int) < (0 : Int))) : Bool) == false) = true then F_spec_l1In k (x.1.2.1, (0 : Int), (2 : Int), ()) else some (false, ()))) fun (r1 : Bool × Unit) =>
  Option.bind ((if (((if (decide ((x.1.2.2.2.2.2.2.2.2 : Int) < (0 : Int))) = true then true else !r1.1) : Bool) == false) = true then F_spec_l1In k (x.2.1, (0 : Int), (4 : Int), ()) else some (false, ()))) fun (r2 : Bool × Unit) =>
  Option.bind ((if (((if (if (decide ((x.1.2.2.2.2.2.2.2.2 : Int) < (0 : Int))) = true then true else !r1.1) = true then true else !r2.1) : Bool) == false) = true then F_spec_l14Got k (x.1.2.2.2.2.2.2.1, ()) else some (false, ()))) fun (r3 : Bool × Unit) =>
  if (if (if (if (if (if (decide ((x.1.2.2.2.2.2.2.2.2 : Int) < (0 : Int))) = true then true else !r1.1) = true then true else !r2.1) = true then true else !r3.1) = true then true else decide ((x.1.2.2.2.2.1 : Int) < (0 : Int))) = true then true else decide ((x.1.2.2.2.2.2.2.2.1 : Int) < (0 : Int))) = true then
    some (false, ())
  else
    if ((x.1.1 : Int) == (0 : Int)) = true then
      Option.bind ((if ((((x.1.2.1 : Int) == (0 : Int)) : Bool) == true) = true then F_spec_l14Zero k (x.1.2.2.1, ()) else some (false, ()))) fun (r4 : Bool × Unit) =>
      some (if (if (if (if (if ((x.1.2.1 : Int) == (0 : Int)) = true then r4.1 else false) = true then (((List.length x.1.2.2.2.1 : Nat) : Int) : Int) == (0 : Int) else false) = true then if (if ((x.1.2.2.2.2.1 : Int) == (0 : Int)) = true then (((List.length x.1.2.2.2.2.2.1 : Nat) : Int) : Int) == (0 : Int) else false) = true then (((List.length x.1.2.2.2.2.2.2.1 : Nat) : Int) : Int) == (0 : Int) else false else false) = true then (x.1.2.2.2.2.2.2.2.1 : Int) == (0 : Int) else false) = true then (x.1.2.2.2.2.2.2.2.2 : Int) == (0 : Int) else false, ())
    else
      if ((x.1.1 : Int) == (1 : Int)) = true then
        Option.bind ((if (((decide ((x.2.1 : Int) < (3 : Int))) : Bool) == true) = true then F_spec_AlarmOk k (x.1.2.2.1, ()) else some (false, ()))) fun (r5 : Bool × Unit) =>
        some (if (if (if (if (decide ((x.2.1 : Int) < (3 : Int))) = true then r5.1 else false) = true then (((List.length x.1.2.2.2.1 : Nat) : Int) : Int) == (0 : Int) else false) = true then if (if ((x.1.2.2.2.2.1 : Int) == (0 : Int)) = true then (((List.length x.1.2.2.2.2.2.1 : Nat) : Int) : Int) == (0 : Int) else false) = true then (((List.length x.1.2.2.2.2.2.2.1 : Nat) : Int) : Int) == (0 : Int) else false else false) = true then (x.1.2.2.2.2.2.2.2.1 : Int) == (0 : Int) else false, ())
      else
        if ((x.1.1 : Int) == (2 : Int)) = true then
          Option.bind ((if (((if (decide ((x.2.1 : Int) < (3 : Int))) = true then decide ((x.1.2.1 : Int) < (2 : Int)) else false) : Bool) == true) = true then F_spec_l14Zero k (x.1.2.2.1, ()) else some (false, ()))) fun (r6 : Bool × Unit) =>
          Option.bind ((if (((if (if (decide ((x.2.1 : Int) < (3 : Int))) = true then decide ((x.1.2.1 : Int) < (2 : Int)) else false) = true then r6.1 else false) : Bool) == true) = true then F_spec_SetOk k (x.1.2.2.2.1, ()) else some (false, ()))) fun (r7 : Bool × Unit) =>
          some (if (if (if (if (if (decide ((x.2.1 : Int) < (3 : Int))) = true then decide ((x.1.2.1 : Int) < (2 : Int)) else false) = true then r6.1 else false) = true then r7.1 else false) = true then if (if ((x.1.2.2.2.2.1 : Int) == (0 : Int)) = true then (((List.length x.1.2.2.2.2.2.1 : Nat) : Int) : Int) == (0 : Int) else false) = true then (((List.length x.1.2.2.2.2.2.2.1 : Nat) : Int) : Int) == (0 : Int) else false else false) = true then (x.1.2.2.2.2.2.2.2.1 : Int) == (0 : Int) else false, ())
        else
          if ((x.1.1 : Int) == (3 : Int)) = true then
            Option.bind ((if (((decide ((x.2.1 : Int) < (3 : Int))) : Bool) == true) = true then F_spec_l14Zero k (x.1.2.2.1, ()) else some (false, ()))) fun (r8 : Bool × Unit) =>
            Option.bind ((if (((if (if (if (decide ((x.2.1 : Int) < (3 : Int))) = true then r8.1 else false) = true then (((List.length x.1.2.2.2.1 : Nat) : Int) : Int) == (0 : Int) else false) = true then (x.1.2.2.2.2.2.2.2.1 : Int) == (0 : Int) else false) : Bool) == true) = true then F_spec_l14Seen k (x.1, ()) else some (false, ()))) fun (r9 : Bool × Unit) =>
            some (if (if (if (if (decide ((x.2.1 : Int) < (3 : Int))) = true then r8.1 else false) = true then (((List.length x.1.2.2.2.1 : Nat) : Int) : Int) == (0 : Int) else false) = true then (x.1.2.2.2.2.2.2.2.1 : Int) == (0 : Int) else false) = true then r9.1 else false, ())
          else
            if ((x.1.1 : Int) == (4 : Int)) = true then
              Option.bind ((if (((if (decide ((x.2.1 : Int) < (3 : Int))) = true then decide ((x.1.2.1 : Int) < (2 : Int)) else false) : Bool) == true) = true then F_spec_l14Zero k (x.1.2.2.1, ()) else some (false, ()))) fun (r10 : Bool × Unit) =>
              some (if (if (if (if (if (if (if (decide ((x.2.1 : Int) < (3 : Int))) = true then decide ((x.1.2.1 : Int) < (2 : Int)) else false) = true then r10.1 else false) = true then (((List.length x.1.2.2.2.1 : Nat) : Int) : Int) == (0 : Int) else false) = true then (x.1.2.2.2.2.2.2.2.1 : Int) == (0 : Int) else false) = true then decide ((x.1.2.2.2.2.1 : Int) ≤ (2 : Int)) else false) = true then (((List.length x.1.2.2.2.2.2.1 : Nat) : Int) : Int) == (0 : Int) else false) = true then (((List.length x.1.2.2.2.2.2.2.1 : Nat) : Int) : Int) == (0 : Int) else false, ())
            else
              if ((x.1.1 : Int) == (5 : Int)) = true then
                Option.bind ((if (((if ((x.2.1 : Int) == (3 : Int)) = true then decide ((x.1.2.1 : Int) < (2 : Int)) else false) : Bool) == true) = true then F_spec_AlarmOk k (x.1.2.2.1, ()) else some (false, ()))) fun (r11 : Bool × Unit) =>
                some (if (if (if (if (if ((x.2.1 : Int) == (3 : Int)) = true then decide ((x.1.2.1 : Int) < (2 : Int)) else false) = true then r11.1 else false) = true then (((List.length x.1.2.2.2.1 : Nat) : Int) : Int) == (0 : Int) else false) = true then if (if ((x.1.2.2.2.2.1 : Int) == (0 : Int)) = true then (((List.length x.1.2.2.2.2.2.1 : Nat) : Int) : Int) == (0 : Int) else false) = true then (((List.length x.1.2.2.2.2.2.2.1 : Nat) : Int) : Int) == (0 : Int) else false else false) = true then (x.1.2.2.2.2.2.2.2.1 : Int) == (0 : Int) else false, ())
              else
                if ((x.1.1 : Int) == (6 : Int)) = true then
                  Option.bind ((if (((if ((x.2.1 : Int) == (4 : Int)) = true then decide ((x.1.2.1 : Int) < (2 : Int)) else false) : Bool) == true) = true then F_spec_l14Zero k (x.1.2.2.1, ()) else some (false, ()))) fun (r12 : Bool × Unit) =>
                  some (if (if (if (if ((x.2.1 : Int) == (4 : Int)) = true then decide ((x.1.2.1 : Int) < (2 : Int)) else false) = true then r12.1 else false) = true then (((List.length x.1.2.2.2.1 : Nat) : Int) : Int) == (0 : Int) else false) = true then if (if ((x.1.2.2.2.2.1 : Int) == (0 : Int)) = true then (((List.length x.1.2.2.2.2.2.1 : Nat) : Int) : Int) == (0 : Int) else false) = true then (((List.length x.1.2.2.2.2.2.2.1 : Nat) : Int) : Int) == (0 : Int) else false else false, ())
                else
                  some (false, ())
def F_spec_l16DeedOp (k : Nat) (x : Int × Unit) : Option (Int × Unit) :=
  if (decide (0 ≤ x.1 ∧ x.1 < ((List.length ([(0 : Int), (1 : Int), (3 : Int), (4 : Int), (6 : Int), (7 : Int), (8 : Int)] : List Int) : Nat) : Int))) = true then
    some (List.getD ([(0 : Int), (1 : Int), (3 : Int), (4 : Int), (6 : Int), (7 : Int), (8 : Int)] : List Int) (Int.toNat x.1) 0, ())
  else
    none
def F_spec_HomeOf (k : Nat) (x : List DPart × List DLabel × Unit) : Option (Int × Unit) :=
  Option.bind (F_spec_Finger k (x.2.1, ())) fun (r1 : Int × Unit) =>
  Option.bind (F_spec_PartOf k (r1.1, ((List.length x.1 : Nat) : Int), ())) fun (r2 : Int × Unit) =>
  some (r2.1, ())
def F_spec_l7At (k : Nat) (x : DPart × Int × Unit) : Option (Int × Unit) :=
  loopN k (fun G1 (t2 : Int × DPart × Int × Unit) =>
    if (decide ((t2.2.2.1 : Int) < ((List.length t2.2.1.2.2 : Nat) : Int))) = true then
      if (decide (0 ≤ t2.2.2.1 ∧ t2.2.2.1 < ((List.length t2.2.1.2.2 : Nat) : Int))) = true then
        if ((((List.getD t2.2.1.2.2 (Int.toNat t2.2.2.1) tChain.dflt).1) : Int) == t2.1) = true then
          some (t2.2.2.1, ())
        else
          G1 (t2.1, t2.2.1, IntKind.i64.wrap (t2.2.2.1 + (1 : Int)), ())
      else
        none
    else
      some ((-1 : Int), ())) (x.2.1, x.1, (0 : Int), ())
def F_spec_InChain (k : Nat) (x : DChain × List DLabel × Unit) : Option (Int × Unit) :=
  loopN k (fun G1 (t2 : List DLabel × DChain × Int × Unit) =>
    if (decide ((t2.2.2.1 : Int) < ((List.length t2.2.1.2 : Nat) : Int))) = true then
      if (decide (0 ≤ t2.2.2.1 ∧ t2.2.2.1 < ((List.length t2.2.1.2 : Nat) : Int))) = true then
        Option.bind (F_spec_SameSet k ((List.getD t2.2.1.2 (Int.toNat t2.2.2.1) tAlarm.dflt).1, t2.1, ())) fun (r3 : Bool × Unit) =>
        if r3.1 = true then
          some (t2.2.2.1, ())
        else
          G1 (t2.1, t2.2.1, IntKind.i64.wrap (t2.2.2.1 + (1 : Int)), ())
      else
        none
    else
      some ((-1 : Int), ())) (x.2.1, x.1, (0 : Int), ())
def F_spec_FindIn (k : Nat) (x : DPart × List DLabel × Unit) : Option (DAlarm × Bool × Unit) :=
  Option.bind (F_spec_Finger k (x.2.1, ())) fun (r1 : Int × Unit) =>
  Option.bind (F_spec_l7At k (x.1, r1.1, ())) fun (r2 : Int × Unit) =>
  if (decide ((r2.1 : Int) < (0 : Int))) = true then
    some ((([] : List DLabel), (0, (0, ByteArray.empty))), false, ())
  else
    if (decide (0 ≤ r2.1 ∧ r2.1 < ((List.length x.1.2.2 : Nat) : Int))) = true then
      Option.bind (F_spec_InChain k (List.getD x.1.2.2 (Int.toNat r2.1) tChain.dflt, x.2.1, ())) fun (r3 : Int × Unit) =>
      if (decide ((r3.1 : Int) < (0 : Int))) = true then
        some ((([] : List DLabel), (0, (0, ByteArray.empty))), false, ())
      else
        if (decide (0 ≤ r2.1 ∧ r2.1 < ((List.length x.1.2.2 : Nat) : Int))) = true then
          if (decide (0 ≤ r3.1 ∧ r3.1 < ((List.length ((List.getD x.1.2.2 (Int.toNat r2.1) tChain.dflt).2) : Nat) : Int))) = true then
            Option.bind (F_spec_l4Copy k (List.getD ((List.getD x.1.2.2 (Int.toNat r2.1) tChain.dflt).2) (Int.toNat r3.1) tAlarm.dflt, ())) fun (r4 : DAlarm × Unit) =>
            some (r4.1, true, ())
          else
            none
        else
          none
    else
      none
def F_spec_FindAlarm (k : Nat) (x : List DPart × List DLabel × Unit) : Option (DAlarm × Bool × Unit) :=
  if ((((List.length x.1 : Nat) : Int) : Int) == (0 : Int)) = true then
    some ((([] : List DLabel), (0, (0, ByteArray.empty))), false, ())
  else
    Option.bind (F_spec_HomeOf k (x.1, x.2.1, ())) fun (r1 : Int × Unit) =>
    if (decide (0 ≤ r1.1 ∧ r1.1 < ((List.length x.1 : Nat) : Int))) = true then
      Option.bind (F_spec_FindIn k (List.getD x.1 (Int.toNat r1.1) tPart.dflt, x.2.1, ())) fun (r2 : DAlarm × Bool × Unit) =>
      some (r2.1, r2.2.1, ())
    else
      none
def F_spec_l4Same (k : Nat) (x : List DAlarm × List DAlarm × Unit) : Option (Bool × Unit) :=
  if ((((List.length x.1 : Nat) : Int) : Int) != ((List.length x.2.1 : Nat) : Int)) = true then
    some (false, ())
  else
    loopN k (fun G1 (t2 : List DAlarm × List DAlarm × Int × Unit) =>
      if (decide ((t2.2.2.1 : Int) < ((List.length t2.1 : Nat) : Int))) = true then
        if (decide (0 ≤ t2.2.2.1 ∧ t2.2.2.1 < ((List.length t2.1 : Nat) : Int))) = true then
          if (decide (0 ≤ t2.2.2.1 ∧ t2.2.2.1 < ((List.length t2.2.1 : Nat) : Int))) = true then
            Option.bind (F_spec_SameAlarm k (List.getD t2.1 (Int.toNat t2.2.2.1) tAlarm.dflt, List.getD t2.2.1 (Int.toNat t2.2.2.1) tAlarm.dflt, ())) fun (r3 : Bool × Unit) =>
            if (!r3.1) = true then
              some (false, ())
            else
              G1 (t2.1, t2.2.1, IntKind.i64.wrap (t2.2.2.1 + (1 : Int)), ())
          else
            none
        else
          none
      else
        some (true, ())) (x.1, x.2.1, (0 : Int), ())
def F_spec_l16Seen (k : Nat) (x : DWorld × DTask × Unit) : Option (Bool × Unit) :=
  joinC (fun J1 =>
    loopN k (fun G3 (t4 : DWorld × DTask × List DAlarm × Bool × Int × Unit) =>
      if (decide ((t4.2.2.2.2.1 : Int) < ((List.length t4.2.1.2.2.2.2.2.1 : Nat) : Int))) = true then
        if (decide (0 ≤ t4.2.2.2.2.1 ∧ t4.2.2.2.2.1 < ((List.length t4.2.1.2.2.2.2.2.1 : Nat) : Int))) = true then
          if (decide (0 ≤ t4.2.2.2.2.1 ∧ t4.2.2.2.2.1 < ((List.length t4.1.2.2.2.1 : Nat) : Int))) = true then
            if (decide (((List.getD t4.2.1.2.2.2.2.2.1 (Int.toNat t4.2.2.2.2.1) 0) : Int) > (((List.getD t4.1.2.2.2.1 (Int.toNat t4.2.2.2.2.1) tPart.dflt).2).1))) = true then
              some (false, ())
            else
              if (!((t4.2.2.2.1 : Bool) == true) || (decide (0 ≤ t4.2.2.2.2.1 ∧ t4.2.2.2.2.1 < ((List.length t4.2.1.2.2.2.2.2.1 : Nat) : Int)))) = true then
                if (!((t4.2.2.2.1 : Bool) == true) || (decide (0 ≤ t4.2.2.2.2.1 ∧ t4.2.2.2.2.1 < ((List.length t4.1.2.2.2.1 : Nat) : Int)))) = true then
                  if (decide (0 ≤ t4.2.2.2.2.1 ∧ t4.2.2.2.2.1 < ((List.length t4.1.2.2.2.1 : Nat) : Int))) = true then
                    Option.bind (F_spec_AlarmsIn k (List.getD t4.1.2.2.2.1 (Int.toNat t4.2.2.2.2.1) tPart.dflt, ())) fun (r5 : List DAlarm × Unit) =>
                    if (decide (List.length t4.2.2.1 + List.length r5.1 < 4294967296)) = true then
                      G3 (t4.1, t4.2.1, t4.2.2.1 ++ r5.1, if t4.2.2.2.1 = true then ((List.getD t4.2.1.2.2.2.2.2.1 (Int.toNat t4.2.2.2.2.1) 0) : Int) == (((List.getD t4.1.2.2.2.1 (Int.toNat t4.2.2.2.2.1) tPart.dflt).2).1) else false, IntKind.i64.wrap (t4.2.2.2.2.1 + (1 : Int)), ())
                    else
                      none
                  else
                    none
                else
                  none
              else
                none
          else
            none
        else
          none
      else
        J1 (t4.1, t4.2.1, t4.2.2.1, t4.2.2.2.1, ())) (x.1, x.2.1, ([] : List DAlarm), true, (0 : Int), ())) (fun (t2 : DWorld × DTask × List DAlarm × Bool × Unit) =>
    Option.bind ((if (((!t2.2.2.2.1) : Bool) == false) = true then F_spec_l4Same k (t2.2.2.1, t2.2.1.2.2.2.2.2.2.1, ()) else some (false, ()))) fun (r6 : Bool × Unit) =>
    some (if (!t2.2.2.2.1) = true then true else r6.1, ()))
def F_spec_l16Task (k : Nat) (x : DWorld × Int × Unit) : Option (Bool × Unit) :=
  if (decide (0 ≤ x.2.1 ∧ x.2.1 < ((List.length x.1.2.2.2.2.2.2.2.2.2.2.2.2.1 : Nat) : Int))) = true then
    Option.bind (F_spec_TaskOk k (List.getD x.1.2.2.2.2.2.2.2.2.2.2.2.2.1 (Int.toNat x.2.1) tTask.dflt, x.2.1, ())) fun (r1 : Bool × Unit) =>
    if (!r1.1) = true then
      some (false, ())
    else
      if ((((List.getD x.1.2.2.2.2.2.2.2.2.2.2.2.2.1 (Int.toNat x.2.1) tTask.dflt).1) : Int) == (0 : Int)) = true then
        some (true, ())
      else
        if (decide (((((((((((List.getD x.1.2.2.2.2.2.2.2.2.2.2.2.2.1 (Int.toNat x.2.1) tTask.dflt).2).2).2).2).2).2).2).2) : Int) ≥ ((List.length x.1.2.2.2.2.2.2.2.2.2.2.2.2.2 : Nat) : Int))) = true then
          some (false, ())
        else
          if (decide (0 ≤ (((((((((List.getD x.1.2.2.2.2.2.2.2.2.2.2.2.2.1 (Int.toNat x.2.1) tTask.dflt).2).2).2).2).2).2).2).2) ∧ (((((((((List.getD x.1.2.2.2.2.2.2.2.2.2.2.2.2.1 (Int.toNat x.2.1) tTask.dflt).2).2).2).2).2).2).2).2) < ((List.length x.1.2.2.2.2.2.2.2.2.2.2.2.2.2 : Nat) : Int))) = true then
            Option.bind ((if (((if (((((List.getD x.1.2.2.2.2.2.2.2.2.2.2.2.2.2 (Int.toNat (((((((((List.getD x.1.2.2.2.2.2.2.2.2.2.2.2.2.1 (Int.toNat x.2.1) tTask.dflt).2).2).2).2).2).2).2).2)) tDeed.dflt).2).1) : Int) != x.2.1) = true then true else (((((((((((((List.getD x.1.2.2.2.2.2.2.2.2.2.2.2.2.2 (Int.toNat (((((((((List.getD x.1.2.2.2.2.2.2.2.2.2.2.2.2.1 (Int.toNat x.2.1) tTask.dflt).2).2).2).2).2).2).2).2)) tDeed.dflt).2).2).2).2).2).2).2).2).2).2).2) : Int) != (-1 : Int)) : Bool) == false) = true then F_spec_l16DeedOp k ((List.getD x.1.2.2.2.2.2.2.2.2.2.2.2.2.1 (Int.toNat x.2.1) tTask.dflt).1, ()) else some (0, ()))) fun (r2 : Int × Unit) =>
            if (if (if (if (((((List.getD x.1.2.2.2.2.2.2.2.2.2.2.2.2.2 (Int.toNat (((((((((List.getD x.1.2.2.2.2.2.2.2.2.2.2.2.2.1 (Int.toNat x.2.1) tTask.dflt).2).2).2).2).2).2).2).2)) tDeed.dflt).2).1) : Int) != x.2.1) = true then true else (((((((((((((List.getD x.1.2.2.2.2.2.2.2.2.2.2.2.2.2 (Int.toNat (((((((((List.getD x.1.2.2.2.2.2.2.2.2.2.2.2.2.1 (Int.toNat x.2.1) tTask.dflt).2).2).2).2).2).2).2).2)) tDeed.dflt).2).2).2).2).2).2).2).2).2).2).2) : Int) != (-1 : Int)) = true then true else (((List.getD x.1.2.2.2.2.2.2.2.2.2.2.2.2.2 (Int.toNat (((((((((List.getD x.1.2.2.2.2.2.2.2.2.2.2.2.2.1 (Int.toNat x.2.1) tTask.dflt).2).2).2).2).2).2).2).2)) tDeed.dflt).1) : Int) != r2.1) = true then true else !((((((((((((((((List.getD x.1.2.2.2.2.2.2.2.2.2.2.2.2.2 (Int.toNat (((((((((List.getD x.1.2.2.2.2.2.2.2.2.2.2.2.2.1 (Int.toNat x.2.1) tTask.dflt).2).2).2).2).2).2).2).2)) tDeed.dflt).2).2).2).2).2).2).2).2).2).2).1) : Int) != (-1 : Int)) : Bool) == (if ((((List.getD x.1.2.2.2.2.2.2.2.2.2.2.2.2.1 (Int.toNat x.2.1) tTask.dflt).1) : Int) == (1 : Int)) = true then ((((List.getD x.1.2.2.2.2.2.2.2.2.2.2.2.2.1 (Int.toNat x.2.1) tTask.dflt).2).1) : Int) == (2 : Int) else false))) = true then
              some (false, ())
            else
              joinC (fun J3 =>
                if ((((List.getD x.1.2.2.2.2.2.2.2.2.2.2.2.2.1 (Int.toNat x.2.1) tTask.dflt).1) : Int) == (1 : Int)) = true then
                  if (((((List.getD x.1.2.2.2.2.2.2.2.2.2.2.2.2.1 (Int.toNat x.2.1) tTask.dflt).2).1) : Int) == (2 : Int)) = true then
                    Option.bind (F_spec_FindAlarm k (x.1.2.2.2.1, ((((List.getD x.1.2.2.2.2.2.2.2.2.2.2.2.2.1 (Int.toNat x.2.1) tTask.dflt).2).2).1).1, ())) fun (r5 : DAlarm × Bool × Unit) =>
                    Option.bind ((if ((r5.2.1 : Bool) == true) = true then F_spec_SameAlarm k (r5.1, (((List.getD x.1.2.2.2.2.2.2.2.2.2.2.2.2.1 (Int.toNat x.2.1) tTask.dflt).2).2).1, ()) else some (false, ()))) fun (r6 : Bool × Unit) =>
                    Option.bind ((if (((if r5.2.1 = true then r6.1 else false) : Bool) == true) = true then F_spec_SameSet k (((((List.getD x.1.2.2.2.2.2.2.2.2.2.2.2.2.2 (Int.toNat (((((((((List.getD x.1.2.2.2.2.2.2.2.2.2.2.2.2.1 (Int.toNat x.2.1) tTask.dflt).2).2).2).2).2).2).2).2)) tDeed.dflt).2).2).1).1, ((((List.getD x.1.2.2.2.2.2.2.2.2.2.2.2.2.1 (Int.toNat x.2.1) tTask.dflt).2).2).1).1, ()) else some (false, ()))) fun (r7 : Bool × Unit) =>
                    some (if (if r5.2.1 = true then r6.1 else false) = true then r7.1 else false, ())
                  else
                    Option.bind (F_spec_SameAlarm k ((((List.getD x.1.2.2.2.2.2.2.2.2.2.2.2.2.2 (Int.toNat (((((((((List.getD x.1.2.2.2.2.2.2.2.2.2.2.2.2.1 (Int.toNat x.2.1) tTask.dflt).2).2).2).2).2).2).2).2)) tDeed.dflt).2).2).1, (((List.getD x.1.2.2.2.2.2.2.2.2.2.2.2.2.1 (Int.toNat x.2.1) tTask.dflt).2).2).1, ())) fun (r8 : Bool × Unit) =>
                    Option.bind ((if ((r8.1 : Bool) == true) = true then F_spec_Fits k (x.1.1, (((List.getD x.1.2.2.2.2.2.2.2.2.2.2.2.2.1 (Int.toNat x.2.1) tTask.dflt).2).2).1, ()) else some (false, ()))) fun (r9 : Bool × Unit) =>
                    some (if r8.1 = true then r9.1 else false, ())
                else
                  if ((((List.getD x.1.2.2.2.2.2.2.2.2.2.2.2.2.1 (Int.toNat x.2.1) tTask.dflt).1) : Int) == (2 : Int)) = true then
                    Option.bind (F_spec_SameSet k (((((List.getD x.1.2.2.2.2.2.2.2.2.2.2.2.2.2 (Int.toNat (((((((((List.getD x.1.2.2.2.2.2.2.2.2.2.2.2.2.1 (Int.toNat x.2.1) tTask.dflt).2).2).2).2).2).2).2).2)) tDeed.dflt).2).2).2).1, ((((List.getD x.1.2.2.2.2.2.2.2.2.2.2.2.2.1 (Int.toNat x.2.1) tTask.dflt).2).2).2).1, ())) fun (r10 : Bool × Unit) =>
                    some (r10.1, ())
                  else
                    if ((((List.getD x.1.2.2.2.2.2.2.2.2.2.2.2.2.1 (Int.toNat x.2.1) tTask.dflt).1) : Int) == (3 : Int)) = true then
                      if ((((List.getD x.1.2.2.2.2.2.2.2.2.2.2.2.2.1 (Int.toNat x.2.1) tTask.dflt).1) : Int) == (3 : Int)) = true then
                        if (((((List.getD x.1.2.2.2.2.2.2.2.2.2.2.2.2.1 (Int.toNat x.2.1) tTask.dflt).2).1) : Int) == (2 : Int)) = true then
                          Option.bind ((if ((((((List.length (((((((List.getD x.1.2.2.2.2.2.2.2.2.2.2.2.2.1 (Int.toNat x.2.1) tTask.dflt).2).2).2).2).2).1) : Nat) : Int) : Int) == x.1.1.1) : Bool) == true) = true then F_spec_l16Seen k (x.1, List.getD x.1.2.2.2.2.2.2.2.2.2.2.2.2.1 (Int.toNat x.2.1) tTask.dflt, ()) else some (false, ()))) fun (r11 : Bool × Unit) =>
                          some (if ((((List.length (((((((List.getD x.1.2.2.2.2.2.2.2.2.2.2.2.2.1 (Int.toNat x.2.1) tTask.dflt).2).2).2).2).2).1) : Nat) : Int) : Int) == x.1.1.1) = true then r11.1 else false, ())
                        else
                          Option.bind ((if (((decide ((((((((List.getD x.1.2.2.2.2.2.2.2.2.2.2.2.2.1 (Int.toNat x.2.1) tTask.dflt).2).2).2).2).1) : Int) < x.1.1.1)) : Bool) == true) = true then F_spec_l16Seen k (x.1, List.getD x.1.2.2.2.2.2.2.2.2.2.2.2.2.1 (Int.toNat x.2.1) tTask.dflt, ()) else some (false, ()))) fun (r12 : Bool × Unit) =>
                          some (if (decide ((((((((List.getD x.1.2.2.2.2.2.2.2.2.2.2.2.2.1 (Int.toNat x.2.1) tTask.dflt).2).2).2).2).1) : Int) < x.1.1.1)) = true then r12.1 else false, ())
                      else
                        if ((((List.getD x.1.2.2.2.2.2.2.2.2.2.2.2.2.1 (Int.toNat x.2.1) tTask.dflt).1) : Int) == (5 : Int)) = true then
                          Option.bind (F_spec_SameAlarm k ((((List.getD x.1.2.2.2.2.2.2.2.2.2.2.2.2.2 (Int.toNat (((((((((List.getD x.1.2.2.2.2.2.2.2.2.2.2.2.2.1 (Int.toNat x.2.1) tTask.dflt).2).2).2).2).2).2).2).2)) tDeed.dflt).2).2).1, (((List.getD x.1.2.2.2.2.2.2.2.2.2.2.2.2.1 (Int.toNat x.2.1) tTask.dflt).2).2).1, ())) fun (r13 : Bool × Unit) =>
                          some (r13.1, ())
                        else
                          J3 (x.1, List.getD x.1.2.2.2.2.2.2.2.2.2.2.2.2.1 (Int.toNat x.2.1) tTask.dflt, List.getD x.1.2.2.2.2.2.2.2.2.2.2.2.2.2 (Int.toNat (((((((((List.getD x.1.2.2.2.2.2.2.2.2.2.2.2.2.1 (Int.toNat x.2.1) tTask.dflt).2).2).2).2).2).2).2).2)) tDeed.dflt, ())
                    else
                      if ((((List.getD x.1.2.2.2.2.2.2.2.2.2.2.2.2.1 (Int.toNat x.2.1) tTask.dflt).1) : Int) == (4 : Int)) = true then
                        if (((((List.getD x.1.2.2.2.2.2.2.2.2.2.2.2.2.1 (Int.toNat x.2.1) tTask.dflt).2).1) : Int) == (2 : Int)) = true then
                          Option.bind ((if ((((((List.length (((((((List.getD x.1.2.2.2.2.2.2.2.2.2.2.2.2.1 (Int.toNat x.2.1) tTask.dflt).2).2).2).2).2).1) : Nat) : Int) : Int) == x.1.1.1) : Bool) == true) = true then F_spec_l16Seen k (x.1, List.getD x.1.2.2.2.2.2.2.2.2.2.2.2.2.1 (Int.toNat x.2.1) tTask.dflt, ()) else some (false, ()))) fun (r14 : Bool × Unit) =>
                          some (if ((((List.length (((((((List.getD x.1.2.2.2.2.2.2.2.2.2.2.2.2.1 (Int.toNat x.2.1) tTask.dflt).2).2).2).2).2).1) : Nat) : Int) : Int) == x.1.1.1) = true then r14.1 else false, ())
                        else
                          Option.bind ((if (((decide ((((((((List.getD x.1.2.2.2.2.2.2.2.2.2.2.2.2.1 (Int.toNat x.2.1) tTask.dflt).2).2).2).2).1) : Int) < x.1.1.1)) : Bool) == true) = true then F_spec_l16Seen k (x.1, List.getD x.1.2.2.2.2.2.2.2.2.2.2.2.2.1 (Int.toNat x.2.1) tTask.dflt, ()) else some (false, ()))) fun (r15 : Bool × Unit) =>
                          some (if (decide ((((((((List.getD x.1.2.2.2.2.2.2.2.2.2.2.2.2.1 (Int.toNat x.2.1) tTask.dflt).2).2).2).2).1) : Int) < x.1.1.1)) = true then r15.1 else false, ())
                      else
                        if ((((List.getD x.1.2.2.2.2.2.2.2.2.2.2.2.2.1 (Int.toNat x.2.1) tTask.dflt).1) : Int) == (5 : Int)) = true then
                          Option.bind (F_spec_SameAlarm k ((((List.getD x.1.2.2.2.2.2.2.2.2.2.2.2.2.2 (Int.toNat (((((((((List.getD x.1.2.2.2.2.2.2.2.2.2.2.2.2.1 (Int.toNat x.2.1) tTask.dflt).2).2).2).2).2).2).2).2)) tDeed.dflt).2).2).1, (((List.getD x.1.2.2.2.2.2.2.2.2.2.2.2.2.1 (Int.toNat x.2.1) tTask.dflt).2).2).1, ())) fun (r16 : Bool × Unit) =>
                          some (r16.1, ())
                        else
                          J3 (x.1, List.getD x.1.2.2.2.2.2.2.2.2.2.2.2.2.1 (Int.toNat x.2.1) tTask.dflt, List.getD x.1.2.2.2.2.2.2.2.2.2.2.2.2.2 (Int.toNat (((((((((List.getD x.1.2.2.2.2.2.2.2.2.2.2.2.2.1 (Int.toNat x.2.1) tTask.dflt).2).2).2).2).2).2).2).2)) tDeed.dflt, ())) (fun (t4 : DWorld × DTask × DDeed × Unit) =>
                some (if ((t4.2.2.1.2.2.2.2.2.1 : Int) == t4.2.1.2.2.2.2.2.2.2.1) = true then decide ((t4.2.1.2.2.2.2.2.2.2.1 : Int) < t4.1.2.2.2.2.2.2.2.2.1) else false, ()))
          else
            none
  else
    none
def F_spec_HoldsPart (k : Nat) (x : DTask × Int × Unit) : Option (Int × Unit) :=
  if (decide ((x.2.1 : Int) < (1 : Int))) = true then
    some ((-1 : Int), ())
  else
    if (if ((x.1.1 : Int) == (1 : Int)) = true then if ((x.1.2.1 : Int) == (1 : Int)) = true then true else (x.1.2.1 : Int) == (2 : Int) else false) = true then
      Option.bind (F_spec_Finger k (x.1.2.2.1.1, ())) fun (r1 : Int × Unit) =>
      Option.bind (F_spec_PartOf k (r1.1, x.2.1, ())) fun (r2 : Int × Unit) =>
      some (r2.1, ())
    else
      if (if ((x.1.1 : Int) == (2 : Int)) = true then (x.1.2.1 : Int) == (1 : Int) else false) = true then
        Option.bind (F_spec_Finger k (x.1.2.2.2.1, ())) fun (r3 : Int × Unit) =>
        Option.bind (F_spec_PartOf k (r3.1, x.2.1, ())) fun (r4 : Int × Unit) =>
        some (r4.1, ())
      else
        if (if (if ((x.1.1 : Int) == (3 : Int)) = true then true else (x.1.1 : Int) == (4 : Int)) = true then (x.1.2.1 : Int) == (1 : Int) else false) = true then
          some (x.1.2.2.2.2.1, ())
        else
          some ((-1 : Int), ())
def F_spec_HoldsGroups (k : Nat) (x : DTask × Unit) : Option (Bool × Unit) :=
  some (if (if ((x.1.1 : Int) == (5 : Int)) = true then true else (x.1.1 : Int) == (6 : Int)) = true then (x.1.2.1 : Int) == (1 : Int) else false, ())
def F_spec_l16Locks (k : Nat) (x : DWorld × Unit) : Option (Bool × Unit) :=
  joinC (fun J1 =>
    loopN k (fun G3 (t4 : DWorld × List Int × Int × Unit) =>
      if (decide ((t4.2.2.1 : Int) < ((List.length t4.1.2.2.2.1 : Nat) : Int))) = true then
        if (decide (List.length t4.2.1 + List.length ([(-1 : Int)] : List Int) < 4294967296)) = true then
          G3 (t4.1, t4.2.1 ++ ([(-1 : Int)] : List Int), IntKind.i64.wrap (t4.2.2.1 + (1 : Int)), ())
        else
          none
      else
        J1 (t4.1, t4.2.1, ())) (x.1, ([] : List Int), (0 : Int), ())) (fun (t2 : DWorld × List Int × Unit) =>
    joinC (fun J5 =>
      loopN k (fun G7 (t8 : DWorld × List Int × Int × Int × Unit) =>
        if (decide ((t8.2.2.2.1 : Int) < ((List.length t8.1.2.2.2.2.2.2.2.2.2.2.2.2.1 : Nat) : Int))) = true then
          if (decide (0 ≤ t8.2.2.2.1 ∧ t8.2.2.2.1 < ((List.length t8.1.2.2.2.2.2.2.2.2.2.2.2.2.1 : Nat) : Int))) = true then
            Option.bind (F_spec_HoldsPart k (List.getD t8.1.2.2.2.2.2.2.2.2.2.2.2.2.1 (Int.toNat t8.2.2.2.1) tTask.dflt, ((List.length t8.1.2.2.2.1 : Nat) : Int), ())) fun (r9 : Int × Unit) =>
            joinC (fun J10 =>
              if (decide ((r9.1 : Int) ≥ (0 : Int))) = true then
                if (decide (0 ≤ r9.1 ∧ r9.1 < ((List.length t8.2.1 : Nat) : Int))) = true then
                  if (((List.getD t8.2.1 (Int.toNat r9.1) 0) : Int) != (-1 : Int)) = true then
                    some (false, ())
                  else
                    if (decide (0 ≤ r9.1 ∧ r9.1 < ((List.length t8.2.1 : Nat) : Int))) = true then
                      J10 (t8.1, List.set t8.2.1 (Int.toNat r9.1) t8.2.2.2.1, t8.2.2.1, t8.2.2.2.1, ())
                    else
                      none
                else
                  none
              else
                J10 (t8.1, t8.2.1, t8.2.2.1, t8.2.2.2.1, ())) (fun (t11 : DWorld × List Int × Int × Int × Unit) =>
              if (decide (0 ≤ t11.2.2.2.1 ∧ t11.2.2.2.1 < ((List.length t11.1.2.2.2.2.2.2.2.2.2.2.2.2.1 : Nat) : Int))) = true then
                Option.bind (F_spec_HoldsGroups k (List.getD t11.1.2.2.2.2.2.2.2.2.2.2.2.2.1 (Int.toNat t11.2.2.2.1) tTask.dflt, ())) fun (r12 : Bool × Unit) =>
                if r12.1 = true then
                  if ((t11.2.2.1 : Int) != (-1 : Int)) = true then
                    some (false, ())
                  else
                    G7 (t11.1, t11.2.1, t11.2.2.2.1, IntKind.i64.wrap (t11.2.2.2.1 + (1 : Int)), ())
                else
                  G7 (t11.1, t11.2.1, t11.2.2.1, IntKind.i64.wrap (t11.2.2.2.1 + (1 : Int)), ())
              else
                none)
          else
            none
        else
          J5 (t8.1, t8.2.1, t8.2.2.1, ())) (t2.1, t2.2.1, (-1 : Int), (0 : Int), ())) (fun (t6 : DWorld × List Int × Int × Unit) =>
      joinC (fun J13 =>
        loopN k (fun G15 (t16 : DWorld × List Int × Int × Int × Unit) =>
          if (decide ((t16.2.2.2.1 : Int) < ((List.length t16.1.2.2.2.1 : Nat) : Int))) = true then
            if (decide (0 ≤ t16.2.2.2.1 ∧ t16.2.2.2.1 < ((List.length t16.1.2.2.2.1 : Nat) : Int))) = true then
              if (decide (0 ≤ t16.2.2.2.1 ∧ t16.2.2.2.1 < ((List.length t16.2.1 : Nat) : Int))) = true then
                if ((((List.getD t16.1.2.2.2.1 (Int.toNat t16.2.2.2.1) tPart.dflt).1) : Int) != (List.getD t16.2.1 (Int.toNat t16.2.2.2.1) 0)) = true then
                  some (false, ())
                else
                  G15 (t16.1, t16.2.1, t16.2.2.1, IntKind.i64.wrap (t16.2.2.2.1 + (1 : Int)), ())
              else
                none
            else
              none
          else
            J13 (t16.1, t16.2.2.1, ())) (t6.1, t6.2.1, t6.2.2.1, (0 : Int), ())) (fun (t14 : DWorld × Int × Unit) =>
        some ((t14.1.2.2.2.2.2.2.1 : Int) == t14.2.1, ()))))
def F_spec_l5Has (k : Nat) (x : List ByteArray × ByteArray × Unit) : Option (Bool × Unit) :=
  loopN k (fun G1 (t2 : List ByteArray × ByteArray × Int × Unit) =>
    if (decide ((t2.2.2.1 : Int) < ((List.length t2.1 : Nat) : Int))) = true then
      if (decide (0 ≤ t2.2.2.1 ∧ t2.2.2.1 < ((List.length t2.1 : Nat) : Int))) = true then
        if (ByteArray.toList (List.getD t2.1 (Int.toNat t2.2.2.1) ByteArray.empty) == ByteArray.toList t2.2.1) = true then
          some (true, ())
        else
          G1 (t2.1, t2.2.1, IntKind.i64.wrap (t2.2.2.1 + (1 : Int)), ())
      else
        none
    else
      some (false, ())) (x.1, x.2.1, (0 : Int), ())
def F_spec_Project (k : Nat) (x : List DLabel × List ByteArray × Unit) : Option (List DLabel × Unit) :=
  loopN k (fun G1 (t2 : List DLabel × List ByteArray × List DLabel × Int × Unit) =>
    if (decide ((t2.2.2.2.1 : Int) < ((List.length t2.1 : Nat) : Int))) = true then
      if (decide (0 ≤ t2.2.2.2.1 ∧ t2.2.2.2.1 < ((List.length t2.1 : Nat) : Int))) = true then
        Option.bind (F_spec_l5Has k (t2.2.1, (List.getD t2.1 (Int.toNat t2.2.2.2.1) tLabel.dflt).1, ())) fun (r3 : Bool × Unit) =>
        if r3.1 = true then
          if (decide (0 ≤ t2.2.2.2.1 ∧ t2.2.2.2.1 < ((List.length t2.1 : Nat) : Int))) = true then
            if (decide (List.length t2.2.2.1 + List.length ([List.getD t2.1 (Int.toNat t2.2.2.2.1) tLabel.dflt] : List DLabel) < 4294967296)) = true then
              G1 (t2.1, t2.2.1, t2.2.2.1 ++ ([List.getD t2.1 (Int.toNat t2.2.2.2.1) tLabel.dflt] : List DLabel), IntKind.i64.wrap (t2.2.2.2.1 + (1 : Int)), ())
            else
              none
          else
            none
        else
          G1 (t2.1, t2.2.1, t2.2.2.1, IntKind.i64.wrap (t2.2.2.2.1 + (1 : Int)), ())
      else
        none
    else
      some (t2.2.2.1, ())) (x.1, x.2.1, ([] : List DLabel), (0 : Int), ())
def F_spec_KeyOf (k : Nat) (x : DAlarm × List ByteArray × Unit) : Option (List DLabel × Unit) :=
  Option.bind (F_spec_Project k (x.1.1, x.2.1, ())) fun (r1 : List DLabel × Unit) =>
  some (r1.1, ())
def F_spec_GroupOk (k : Nat) (x : DGroup × List ByteArray × Unit) : Option (Bool × Unit) :=
  joinC (fun J1 =>
    loopN k (fun G3 (t4 : List ByteArray × DGroup × Int × Unit) =>
      if (decide ((t4.2.2.1 : Int) < ((List.length t4.2.1.2.2.2.2 : Nat) : Int))) = true then
        if (decide (0 ≤ t4.2.2.1 ∧ t4.2.2.1 < ((List.length t4.2.1.2.2.2.2 : Nat) : Int))) = true then
          Option.bind (F_spec_AlarmOk k (List.getD t4.2.1.2.2.2.2 (Int.toNat t4.2.2.1) tAlarm.dflt, ())) fun (r5 : Bool × Unit) =>
          if (!((((!r5.1) : Bool) == false) && (((decide ((t4.2.2.1 : Int) > (0 : Int))) : Bool) == true)) || (decide (0 ≤ (IntKind.i64.wrap (t4.2.2.1 - (1 : Int))) ∧ (IntKind.i64.wrap (t4.2.2.1 - (1 : Int))) < ((List.length t4.2.1.2.2.2.2 : Nat) : Int)))) = true then
            if (!((((!r5.1) : Bool) == false) && (((decide ((t4.2.2.1 : Int) > (0 : Int))) : Bool) == true)) || (decide (0 ≤ t4.2.2.1 ∧ t4.2.2.1 < ((List.length t4.2.1.2.2.2.2 : Nat) : Int)))) = true then
              Option.bind ((if ((((!r5.1) : Bool) == false) && (((decide ((t4.2.2.1 : Int) > (0 : Int))) : Bool) == true)) = true then F_spec_SetLess k ((List.getD t4.2.1.2.2.2.2 (Int.toNat (IntKind.i64.wrap (t4.2.2.1 - (1 : Int)))) tAlarm.dflt).1, (List.getD t4.2.1.2.2.2.2 (Int.toNat t4.2.2.1) tAlarm.dflt).1, ()) else some (false, ()))) fun (r6 : Bool × Unit) =>
              if (!(((if (!r5.1) = true then true else if (decide ((t4.2.2.1 : Int) > (0 : Int))) = true then !r6.1 else false) : Bool) == false) || (decide (0 ≤ t4.2.2.1 ∧ t4.2.2.1 < ((List.length t4.2.1.2.2.2.2 : Nat) : Int)))) = true then
                Option.bind ((if (((if (!r5.1) = true then true else if (decide ((t4.2.2.1 : Int) > (0 : Int))) = true then !r6.1 else false) : Bool) == false) = true then F_spec_KeyOf k (List.getD t4.2.1.2.2.2.2 (Int.toNat t4.2.2.1) tAlarm.dflt, t4.1, ()) else some (([] : List DLabel), ()))) fun (r7 : List DLabel × Unit) =>
                Option.bind ((if (((if (!r5.1) = true then true else if (decide ((t4.2.2.1 : Int) > (0 : Int))) = true then !r6.1 else false) : Bool) == false) = true then F_spec_SameSet k (r7.1, t4.2.1.2.1, ()) else some (false, ()))) fun (r8 : Bool × Unit) =>
                if (if (if (!r5.1) = true then true else if (decide ((t4.2.2.1 : Int) > (0 : Int))) = true then !r6.1 else false) = true then true else !r8.1) = true then
                  some (false, ())
                else
                  G3 (t4.1, t4.2.1, IntKind.i64.wrap (t4.2.2.1 + (1 : Int)), ())
              else
                none
            else
              none
          else
            none
        else
          none
      else
        J1 (t4.2.1, ())) (x.2.1, x.1, (0 : Int), ())) (fun (t2 : DGroup × Unit) =>
    Option.bind ((if (((decide ((t2.1.1 : Int) ≥ (0 : Int))) : Bool) == true) = true then F_spec_SetOk k (t2.1.2.1, ()) else some (false, ()))) fun (r9 : Bool × Unit) =>
    Option.bind ((if (((if (decide ((t2.1.1 : Int) ≥ (0 : Int))) = true then r9.1 else false) : Bool) == true) = true then F_spec_l1In k (t2.1.2.2.1, (0 : Int), (99999 : Int), ()) else some (false, ()))) fun (r10 : Bool × Unit) =>
    Option.bind ((if ((((if (if (decide ((t2.1.1 : Int) ≥ (0 : Int))) = true then r9.1 else false) = true then r10.1 else false) : Bool) == true) && ((((t2.1.2.2.2.1 : Int) == (-1 : Int)) : Bool) == false)) = true then F_spec_l1In k (t2.1.2.2.2.1, t2.1.2.2.1, (99999 : Int), ()) else some (false, ()))) fun (r11 : Bool × Unit) =>
    some (if (if (if (if (decide ((t2.1.1 : Int) ≥ (0 : Int))) = true then r9.1 else false) = true then r10.1 else false) = true then if ((t2.1.2.2.2.1 : Int) == (-1 : Int)) = true then true else r11.1 else false) = true then decide ((((List.length t2.1.2.2.2.2 : Nat) : Int) : Int) > (0 : Int)) else false, ()))
def F_spec_GroupsOk (k : Nat) (x : List DGroup × List ByteArray × Unit) : Option (Bool × Unit) :=
  joinC (fun J1 =>
    loopN k (fun G3 (t4 : List DGroup × List ByteArray × Int × Unit) =>
      if (decide ((t4.2.2.1 : Int) < ((List.length t4.1 : Nat) : Int))) = true then
        if (decide (0 ≤ t4.2.2.1 ∧ t4.2.2.1 < ((List.length t4.1 : Nat) : Int))) = true then
          Option.bind (F_spec_GroupOk k (List.getD t4.1 (Int.toNat t4.2.2.1) tGroup.dflt, t4.2.1, ())) fun (r5 : Bool × Unit) =>
          if (!((((!r5.1) : Bool) == false) && (((decide ((t4.2.2.1 : Int) > (0 : Int))) : Bool) == true)) || (decide (0 ≤ (IntKind.i64.wrap (t4.2.2.1 - (1 : Int))) ∧ (IntKind.i64.wrap (t4.2.2.1 - (1 : Int))) < ((List.length t4.1 : Nat) : Int)))) = true then
            if (!((((!r5.1) : Bool) == false) && (((decide ((t4.2.2.1 : Int) > (0 : Int))) : Bool) == true)) || (decide (0 ≤ t4.2.2.1 ∧ t4.2.2.1 < ((List.length t4.1 : Nat) : Int)))) = true then
              if (if (!r5.1) = true then true else if (decide ((t4.2.2.1 : Int) > (0 : Int))) = true then decide ((((List.getD t4.1 (Int.toNat (IntKind.i64.wrap (t4.2.2.1 - (1 : Int)))) tGroup.dflt).1) : Int) ≥ ((List.getD t4.1 (Int.toNat t4.2.2.1) tGroup.dflt).1)) else false) = true then
                some (false, ())
              else
                loopN k (fun G6 (t7 : List DGroup × List ByteArray × Int × Int × Unit) =>
                  if (decide ((t7.2.2.2.1 : Int) < t7.2.2.1)) = true then
                    if (decide (0 ≤ t7.2.2.2.1 ∧ t7.2.2.2.1 < ((List.length t7.1 : Nat) : Int))) = true then
                      if (decide (0 ≤ t7.2.2.1 ∧ t7.2.2.1 < ((List.length t7.1 : Nat) : Int))) = true then
                        Option.bind (F_spec_SameSet k (((List.getD t7.1 (Int.toNat t7.2.2.2.1) tGroup.dflt).2).1, ((List.getD t7.1 (Int.toNat t7.2.2.1) tGroup.dflt).2).1, ())) fun (r8 : Bool × Unit) =>
                        if r8.1 = true then
                          some (false, ())
                        else
                          G6 (t7.1, t7.2.1, t7.2.2.1, IntKind.i64.wrap (t7.2.2.2.1 + (1 : Int)), ())
                      else
                        none
                    else
                      none
                  else
                    G3 (t7.1, t7.2.1, IntKind.i64.wrap (t7.2.2.1 + (1 : Int)), ())) (t4.1, t4.2.1, t4.2.2.1, (0 : Int), ())
            else
              none
          else
            none
        else
          none
      else
        J1 (t4.1, ())) (x.1, x.2.1, (0 : Int), ())) (fun (t2 : List DGroup × Unit) =>
    some (decide ((((List.length t2.1 : Nat) : Int) : Int) ≤ (12 : Int)), ()))
def F_spec_Before (k : Nat) (x : DTimer × DTimer × Unit) : Option (Bool × Unit) :=
  some (if (decide ((x.1.1 : Int) < x.2.1.1)) = true then true else if ((x.1.1 : Int) == x.2.1.1) = true then decide ((x.1.2 : Int) < x.2.1.2) else false, ())
def F_spec_HeapOk (k : Nat) (x : List DTimer × Unit) : Option (Bool × Unit) :=
  joinC (fun J1 =>
    loopN k (fun G3 (t4 : List DTimer × Int × Unit) =>
      if (decide ((t4.2.1 : Int) < ((List.length t4.1 : Nat) : Int))) = true then
        if (decide (0 ≤ t4.2.1 ∧ t4.2.1 < ((List.length t4.1 : Nat) : Int))) = true then
          if (!(((decide ((((List.getD t4.1 (Int.toNat t4.2.1) tTimer.dflt).1) : Int) < (0 : Int))) : Bool) == false) || (decide (0 ≤ t4.2.1 ∧ t4.2.1 < ((List.length t4.1 : Nat) : Int)))) = true then
            if (!((((if (decide ((((List.getD t4.1 (Int.toNat t4.2.1) tTimer.dflt).1) : Int) < (0 : Int))) = true then true else decide ((((List.getD t4.1 (Int.toNat t4.2.1) tTimer.dflt).2) : Int) < (0 : Int))) : Bool) == false) && (((decide ((t4.2.1 : Int) > (0 : Int))) : Bool) == true)) || (decide (0 ≤ t4.2.1 ∧ t4.2.1 < ((List.length t4.1 : Nat) : Int)))) = true then
              if (!((((if (decide ((((List.getD t4.1 (Int.toNat t4.2.1) tTimer.dflt).1) : Int) < (0 : Int))) = true then true else decide ((((List.getD t4.1 (Int.toNat t4.2.1) tTimer.dflt).2) : Int) < (0 : Int))) : Bool) == false) && (((decide ((t4.2.1 : Int) > (0 : Int))) : Bool) == true)) || (decide ((2 : Int) ≠ 0))) = true then
                if (!((((if (decide ((((List.getD t4.1 (Int.toNat t4.2.1) tTimer.dflt).1) : Int) < (0 : Int))) = true then true else decide ((((List.getD t4.1 (Int.toNat t4.2.1) tTimer.dflt).2) : Int) < (0 : Int))) : Bool) == false) && (((decide ((t4.2.1 : Int) > (0 : Int))) : Bool) == true)) || (decide (0 ≤ (IntKind.i64.wrap (Int.tdiv (IntKind.i64.wrap (t4.2.1 - (1 : Int))) (2 : Int))) ∧ (IntKind.i64.wrap (Int.tdiv (IntKind.i64.wrap (t4.2.1 - (1 : Int))) (2 : Int))) < ((List.length t4.1 : Nat) : Int)))) = true then
                  Option.bind ((if ((((if (decide ((((List.getD t4.1 (Int.toNat t4.2.1) tTimer.dflt).1) : Int) < (0 : Int))) = true then true else decide ((((List.getD t4.1 (Int.toNat t4.2.1) tTimer.dflt).2) : Int) < (0 : Int))) : Bool) == false) && (((decide ((t4.2.1 : Int) > (0 : Int))) : Bool) == true)) = true then F_spec_Before k (List.getD t4.1 (Int.toNat t4.2.1) tTimer.dflt, List.getD t4.1 (Int.toNat (IntKind.i64.wrap (Int.tdiv (IntKind.i64.wrap (t4.2.1 - (1 : Int))) (2 : Int)))) tTimer.dflt, ()) else some (false, ()))) fun (r5 : Bool × Unit) =>
                  if (if (if (decide ((((List.getD t4.1 (Int.toNat t4.2.1) tTimer.dflt).1) : Int) < (0 : Int))) = true then true else decide ((((List.getD t4.1 (Int.toNat t4.2.1) tTimer.dflt).2) : Int) < (0 : Int))) = true then true else if (decide ((t4.2.1 : Int) > (0 : Int))) = true then r5.1 else false) = true then
                    some (false, ())
                  else
                    G3 (t4.1, IntKind.i64.wrap (t4.2.1 + (1 : Int)), ())
                else
                  none
              else
                none
            else
              none
          else
            none
        else
          none
      else
        J1 (t4.1, ())) (x.1, (0 : Int), ())) (fun (t2 : List DTimer × Unit) =>
    some (decide ((((List.length t2.1 : Nat) : Int) : Int) ≤ (16 : Int)), ()))
def F_spec_NextDue (k : Nat) (x : DGroup × Int × Int × Unit) : Option (Int × Unit) :=
  if ((x.1.2.2.2.1 : Int) == (-1 : Int)) = true then
    some (IntKind.i64.wrap (x.1.2.2.1 + x.2.1), ())
  else
    some (IntKind.i64.wrap (x.1.2.2.2.1 + x.2.2.1), ())
def F_spec_Due (k : Nat) (x : DConf × DGroup × Unit) : Option (Int × Unit) :=
  Option.bind (F_spec_NextDue k (x.2.1, x.1.2.2.2.1, x.1.2.2.2.2.1, ())) fun (r1 : Int × Unit) =>
  some (r1.1, ())
def F_spec_l16Groups (k : Nat) (x : DWorld × Unit) : Option (Bool × Unit) :=
  Option.bind (F_spec_GroupsOk k (x.1.2.2.2.2.2.2.2.1, x.1.1.2.2.2.2.2, ())) fun (r1 : Bool × Unit) =>
  Option.bind ((if (((!r1.1) : Bool) == false) = true then F_spec_HeapOk k (x.1.2.2.2.2.2.2.2.2.2.1, ()) else some (false, ()))) fun (r2 : Bool × Unit) =>
  if (if (!r1.1) = true then true else !r2.1) = true then
    some (false, ())
  else
    joinC (fun J3 =>
      loopN k (fun G5 (t6 : DWorld × Int × Unit) =>
        if (decide ((t6.2.1 : Int) < ((List.length t6.1.2.2.2.2.2.2.2.2.2.1 : Nat) : Int))) = true then
          if (decide (0 ≤ t6.2.1 ∧ t6.2.1 < ((List.length t6.1.2.2.2.2.2.2.2.2.2.1 : Nat) : Int))) = true then
            if (decide ((((List.getD t6.1.2.2.2.2.2.2.2.2.2.1 (Int.toNat t6.2.1) tTimer.dflt).2) : Int) ≥ t6.1.2.2.2.2.2.2.2.2.1)) = true then
              some (false, ())
            else
              loopN k (fun G7 (t8 : DWorld × Int × Int × Unit) =>
                if (decide ((t8.2.2.1 : Int) < t8.2.1)) = true then
                  if (decide (0 ≤ t8.2.2.1 ∧ t8.2.2.1 < ((List.length t8.1.2.2.2.2.2.2.2.2.2.1 : Nat) : Int))) = true then
                    if (decide (0 ≤ t8.2.1 ∧ t8.2.1 < ((List.length t8.1.2.2.2.2.2.2.2.2.2.1 : Nat) : Int))) = true then
                      if ((((List.getD t8.1.2.2.2.2.2.2.2.2.2.1 (Int.toNat t8.2.2.1) tTimer.dflt).2) : Int) == ((List.getD t8.1.2.2.2.2.2.2.2.2.2.1 (Int.toNat t8.2.1) tTimer.dflt).2)) = true then
                        some (false, ())
                      else
                        G7 (t8.1, t8.2.1, IntKind.i64.wrap (t8.2.2.1 + (1 : Int)), ())
                    else
                      none
                  else
                    none
                else
                  G5 (t8.1, IntKind.i64.wrap (t8.2.1 + (1 : Int)), ())) (t6.1, t6.2.1, (0 : Int), ())
          else
            none
        else
          J3 (t6.1, ())) (x.1, (0 : Int), ())) (fun (t4 : DWorld × Unit) =>
      loopN k (fun G9 (t10 : DWorld × Int × Unit) =>
        if (decide ((t10.2.1 : Int) < ((List.length t10.1.2.2.2.2.2.2.2.1 : Nat) : Int))) = true then
          if (decide (0 ≤ t10.2.1 ∧ t10.2.1 < ((List.length t10.1.2.2.2.2.2.2.2.1 : Nat) : Int))) = true then
            if (decide (0 ≤ (4 : Int) ∧ (4 : Int) < ((List.length t10.1.2.2.2.2.2.2.2.2.2.2.2.2.1 : Nat) : Int))) = true then
              if (!((((((List.getD t10.1.2.2.2.2.2.2.2.2.2.2.2.2.1 (Int.toNat (4 : Int)) tTask.dflt).1) : Int) == (6 : Int)) : Bool) == true) || (decide (0 ≤ (4 : Int) ∧ (4 : Int) < ((List.length t10.1.2.2.2.2.2.2.2.2.2.2.2.2.1 : Nat) : Int)))) = true then
                joinC (fun J11 =>
                  loopN k (fun G13 (t14 : DWorld × Int × DGroup × Bool × Int × Unit) =>
                    if (decide ((t14.2.2.2.2.1 : Int) < ((List.length t14.1.2.2.2.2.2.2.2.2.2.1 : Nat) : Int))) = true then
                      if (!((t14.2.2.2.1 : Bool) == false) || (decide (0 ≤ t14.2.2.2.2.1 ∧ t14.2.2.2.2.1 < ((List.length t14.1.2.2.2.2.2.2.2.2.2.1 : Nat) : Int)))) = true then
                        if (!(((t14.2.2.2.1 : Bool) == false) && ((((((List.getD t14.1.2.2.2.2.2.2.2.2.2.1 (Int.toNat t14.2.2.2.2.1) tTimer.dflt).2) : Int) == t14.2.2.1.1) : Bool) == true)) || (decide (0 ≤ t14.2.2.2.2.1 ∧ t14.2.2.2.2.1 < ((List.length t14.1.2.2.2.2.2.2.2.2.2.1 : Nat) : Int)))) = true then
                          Option.bind ((if (((t14.2.2.2.1 : Bool) == false) && ((((((List.getD t14.1.2.2.2.2.2.2.2.2.2.1 (Int.toNat t14.2.2.2.2.1) tTimer.dflt).2) : Int) == t14.2.2.1.1) : Bool) == true)) = true then F_spec_Due k (t14.1.1, t14.2.2.1, ()) else some (0, ()))) fun (r15 : Int × Unit) =>
                          G13 (t14.1, t14.2.1, t14.2.2.1, if t14.2.2.2.1 = true then true else if ((((List.getD t14.1.2.2.2.2.2.2.2.2.2.1 (Int.toNat t14.2.2.2.2.1) tTimer.dflt).2) : Int) == t14.2.2.1.1) = true then (((List.getD t14.1.2.2.2.2.2.2.2.2.2.1 (Int.toNat t14.2.2.2.2.1) tTimer.dflt).1) : Int) == r15.1 else false, IntKind.i64.wrap (t14.2.2.2.2.1 + (1 : Int)), ())
                        else
                          none
                      else
                        none
                    else
                      J11 (t14.1, t14.2.1, t14.2.2.1, t14.2.2.2.1, ())) (t10.1, t10.2.1, List.getD t10.1.2.2.2.2.2.2.2.1 (Int.toNat t10.2.1) tGroup.dflt, if ((((List.getD t10.1.2.2.2.2.2.2.2.2.2.2.2.2.1 (Int.toNat (4 : Int)) tTask.dflt).1) : Int) == (6 : Int)) = true then ((((((((((List.getD t10.1.2.2.2.2.2.2.2.2.2.2.2.2.1 (Int.toNat (4 : Int)) tTask.dflt).2).2).2).2).2).2).2).1) : Int) == ((List.getD t10.1.2.2.2.2.2.2.2.1 (Int.toNat t10.2.1) tGroup.dflt).1) else false, (0 : Int), ())) (fun (t12 : DWorld × Int × DGroup × Bool × Unit) =>
                  if (if (if (if (!t12.2.2.2.1) = true then true else decide ((t12.2.2.1.2.2.1 : Int) > t12.1.2.2.1)) = true then true else decide ((t12.2.2.1.2.2.2.1 : Int) > t12.1.2.2.1)) = true then true else decide ((t12.2.2.1.1 : Int) ≥ t12.1.2.2.2.2.2.2.2.2.1)) = true then
                    some (false, ())
                  else
                    G9 (t12.1, IntKind.i64.wrap (t12.2.1 + (1 : Int)), ()))
              else
                none
            else
              none
          else
            none
        else
          some (true, ())) (t4.1, (0 : Int), ()))
def F_spec_WorldOk (k : Nat) (x : DWorld × Unit) : Option (Bool × Unit) :=
  Option.bind (F_spec_ConfOk k (x.1.1, ())) fun (r1 : Bool × Unit) =>
  Option.bind ((if (((if (if (!r1.1) = true then true else decide ((x.1.2.1 : Int) < (0 : Int))) = true then true else decide ((x.1.2.2.2.2.2.2.2.2.1 : Int) < (0 : Int))) : Bool) == false) = true then F_spec_l1In k (x.1.2.2.1, (0 : Int), (99899 : Int), ()) else some (false, ()))) fun (r2 : Bool × Unit) =>
  Option.bind ((if (((if (if (if (!r1.1) = true then true else decide ((x.1.2.1 : Int) < (0 : Int))) = true then true else decide ((x.1.2.2.2.2.2.2.2.2.1 : Int) < (0 : Int))) = true then true else !r2.1) : Bool) == false) = true then F_spec_l16Store k (x.1, ()) else some (false, ()))) fun (r3 : Bool × Unit) =>
  Option.bind ((if (((if (if (if (if (if (if (!r1.1) = true then true else decide ((x.1.2.1 : Int) < (0 : Int))) = true then true else decide ((x.1.2.2.2.2.2.2.2.2.1 : Int) < (0 : Int))) = true then true else !r2.1) = true then true else !r3.1) = true then true else (((List.length x.1.2.2.2.2.1 : Nat) : Int) : Int) != x.1.1.2.2.1) = true then true else (((List.length x.1.2.2.2.2.2.2.2.2.2.2.2.2.1 : Nat) : Int) : Int) != (5 : Int)) : Bool) == false) = true then F_spec_l14Got k (x.1.2.2.2.2.2.1, ()) else some (false, ()))) fun (r4 : Bool × Unit) =>
  Option.bind ((if (((if (if (if (if (if (if (if (!r1.1) = true then true else decide ((x.1.2.1 : Int) < (0 : Int))) = true then true else decide ((x.1.2.2.2.2.2.2.2.2.1 : Int) < (0 : Int))) = true then true else !r2.1) = true then true else !r3.1) = true then true else (((List.length x.1.2.2.2.2.1 : Nat) : Int) : Int) != x.1.1.2.2.1) = true then true else (((List.length x.1.2.2.2.2.2.2.2.2.2.2.2.2.1 : Nat) : Int) : Int) != (5 : Int)) = true then true else !r4.1) : Bool) == false) = true then F_spec_l14Got k (x.1.2.2.2.2.2.2.2.2.2.2.2.1, ()) else some (false, ()))) fun (r5 : Bool × Unit) =>
  if (if (if (if (if (if (if (if (if (!r1.1) = true then true else decide ((x.1.2.1 : Int) < (0 : Int))) = true then true else decide ((x.1.2.2.2.2.2.2.2.2.1 : Int) < (0 : Int))) = true then true else !r2.1) = true then true else !r3.1) = true then true else (((List.length x.1.2.2.2.2.1 : Nat) : Int) : Int) != x.1.1.2.2.1) = true then true else (((List.length x.1.2.2.2.2.2.2.2.2.2.2.2.2.1 : Nat) : Int) : Int) != (5 : Int)) = true then true else !r4.1) = true then true else !r5.1) = true then
    some (false, ())
  else
    joinC (fun J6 =>
      loopN k (fun G8 (t9 : DWorld × Int × Unit) =>
        if (decide ((t9.2.1 : Int) < ((List.length t9.1.2.2.2.2.1 : Nat) : Int))) = true then
          if (decide (0 ≤ t9.2.1 ∧ t9.2.1 < ((List.length t9.1.2.2.2.2.1 : Nat) : Int))) = true then
            Option.bind (F_spec_SubOk k (List.getD t9.1.2.2.2.2.1 (Int.toNat t9.2.1) tSub.dflt, ())) fun (r10 : Bool × Unit) =>
            if (!r10.1) = true then
              some (false, ())
            else
              G8 (t9.1, IntKind.i64.wrap (t9.2.1 + (1 : Int)), ())
          else
            none
        else
          J6 (t9.1, ())) (x.1, (0 : Int), ())) (fun (t7 : DWorld × Unit) =>
      joinC (fun J11 =>
        loopN k (fun G13 (t14 : DWorld × Int × Unit) =>
          if (decide ((t14.2.1 : Int) < ((List.length t14.1.2.2.2.2.2.2.2.2.2.2.2.2.2 : Nat) : Int))) = true then
            if (decide (0 ≤ t14.2.1 ∧ t14.2.1 < ((List.length t14.1.2.2.2.2.2.2.2.2.2.2.2.2.2 : Nat) : Int))) = true then
              Option.bind (F_spec_DeedOk k (List.getD t14.1.2.2.2.2.2.2.2.2.2.2.2.2.2 (Int.toNat t14.2.1) tDeed.dflt, ())) fun (r15 : Bool × Unit) =>
              if (if (if (if (!r15.1) = true then true else decide (((((((((((((List.getD t14.1.2.2.2.2.2.2.2.2.2.2.2.2.2 (Int.toNat t14.2.1) tDeed.dflt).2).2).2).2).2).2).2).2).2).1) : Int) ≥ t14.1.2.1)) = true then true else decide ((((((((((((((List.getD t14.1.2.2.2.2.2.2.2.2.2.2.2.2.2 (Int.toNat t14.2.1) tDeed.dflt).2).2).2).2).2).2).2).2).2).2).1) : Int) ≥ t14.1.2.1)) = true then true else decide ((((((((((((((List.getD t14.1.2.2.2.2.2.2.2.2.2.2.2.2.2 (Int.toNat t14.2.1) tDeed.dflt).2).2).2).2).2).2).2).2).2).2).2) : Int) ≥ t14.1.2.1)) = true then
                some (false, ())
              else
                G13 (t14.1, IntKind.i64.wrap (t14.2.1 + (1 : Int)), ())
            else
              none
          else
            J11 (t14.1, ())) (t7.1, (0 : Int), ())) (fun (t12 : DWorld × Unit) =>
        joinC (fun J16 =>
          loopN k (fun G18 (t19 : DWorld × Int × Unit) =>
            if (decide ((t19.2.1 : Int) < ((List.length t19.1.2.2.2.2.2.2.2.2.2.2.2.2.1 : Nat) : Int))) = true then
              Option.bind (F_spec_l16Task k (t19.1, t19.2.1, ())) fun (r20 : Bool × Unit) =>
              if (!r20.1) = true then
                some (false, ())
              else
                G18 (t19.1, IntKind.i64.wrap (t19.2.1 + (1 : Int)), ())
            else
              J16 (t19.1, ())) (t12.1, (0 : Int), ())) (fun (t17 : DWorld × Unit) =>
          Option.bind (F_spec_l16Locks k (t17.1, ())) fun (r21 : Bool × Unit) =>
          Option.bind ((if ((r21.1 : Bool) == true) = true then F_spec_l16Groups k (t17.1, ()) else some (false, ()))) fun (r22 : Bool × Unit) =>
          some (if r21.1 = true then r22.1 else false, ()))))
def F_impl_in (k : Nat) (x : Int × Int × Int × Unit) : Option (Bool × Unit) :=
  some (if (decide ((x.1 : Int) ≥ x.2.1)) = true then decide ((x.1 : Int) ≤ x.2.2.1) else false, ())
def F_impl_NameOk (k : Nat) (x : ByteArray × Unit) : Option (Bool × Unit) :=
  Option.bind (F_impl_in k (((ByteArray.size x.1 : Nat) : Int), (1 : Int), (8 : Int), ())) fun (r1 : Bool × Unit) =>
  if (!r1.1) = true then
    some (false, ())
  else
    loopN k (fun G2 (t3 : ByteArray × Int × Unit) =>
      if (decide ((t3.2.1 : Int) < ((ByteArray.size t3.1 : Nat) : Int))) = true then
        if (decide (0 ≤ t3.2.1 ∧ t3.2.1 < ((ByteArray.size t3.1 : Nat) : Int))) = true then
          if (!(((decide (((bt t3.1 t3.2.1) : Int) < (97 : Int))) : Bool) == false) || (decide (0 ≤ t3.2.1 ∧ t3.2.1 < ((ByteArray.size t3.1 : Nat) : Int)))) = true then
            if (if (decide (((bt t3.1 t3.2.1) : Int) < (97 : Int))) = true then true else decide (((bt t3.1 t3.2.1) : Int) > (122 : Int))) = true then
              some (false, ())
            else
              G2 (t3.1, IntKind.i64.wrap (t3.2.1 + (1 : Int)), ())
          else
            none
        else
          none
      else
        some (true, ())) (x.1, (0 : Int), ())
def F_impl_InOrder (k : Nat) (x : List ByteArray × Unit) : Option (Bool × Unit) :=
  loopN k (fun G1 (t2 : List ByteArray × Int × Unit) =>
    if (decide ((t2.2.1 : Int) < ((List.length t2.1 : Nat) : Int))) = true then
      if (decide (0 ≤ (IntKind.i64.wrap (t2.2.1 - (1 : Int))) ∧ (IntKind.i64.wrap (t2.2.1 - (1 : Int))) < ((List.length t2.1 : Nat) : Int))) = true then
        if (decide (0 ≤ t2.2.1 ∧ t2.2.1 < ((List.length t2.1 : Nat) : Int))) = true then
          if (!(Op.bytesLess (ByteArray.toList (List.getD t2.1 (Int.toNat (IntKind.i64.wrap (t2.2.1 - (1 : Int)))) ByteArray.empty)) (ByteArray.toList (List.getD t2.1 (Int.toNat t2.2.1) ByteArray.empty)))) = true then
            some (false, ())
          else
            G1 (t2.1, IntKind.i64.wrap (t2.2.1 + (1 : Int)), ())
        else
          none
      else
        none
    else
      some (true, ())) (x.1, (1 : Int), ())
def F_impl_ByOk (k : Nat) (x : List ByteArray × Unit) : Option (Bool × Unit) :=
  joinC (fun J1 =>
    loopN k (fun G3 (t4 : List ByteArray × List ByteArray × Int × Int × Unit) =>
      if (decide ((t4.2.2.2.1 : Int) < t4.2.2.1)) = true then
        if (decide (0 ≤ t4.2.2.2.1 ∧ t4.2.2.2.1 < ((List.length t4.2.1 : Nat) : Int))) = true then
          Option.bind (F_impl_NameOk k (List.getD t4.2.1 (Int.toNat t4.2.2.2.1) ByteArray.empty, ())) fun (r5 : Bool × Unit) =>
          if (!r5.1) = true then
            some (false, ())
          else
            G3 (t4.1, t4.2.1, t4.2.2.1, IntKind.i64.wrap (t4.2.2.2.1 + (1 : Int)), ())
        else
          none
      else
        J1 (t4.1, ())) (x.1, x.1, ((List.length x.1 : Nat) : Int), (0 : Int), ())) (fun (t2 : List ByteArray × Unit) =>
    Option.bind ((if (((decide ((((List.length t2.1 : Nat) : Int) : Int) ≤ (2 : Int))) : Bool) == true) = true then F_impl_InOrder k (t2.1, ()) else some (false, ()))) fun (r6 : Bool × Unit) =>
    some (if (decide ((((List.length t2.1 : Nat) : Int) : Int) ≤ (2 : Int))) = true then r6.1 else false, ()))
def F_impl_ConfOk (k : Nat) (x : DConf × Unit) : Option (Bool × Unit) :=
  Option.bind (F_impl_in k (x.1.1, (1 : Int), (3 : Int), ())) fun (r1 : Bool × Unit) =>
  Option.bind ((if ((r1.1 : Bool) == true) = true then F_impl_in k (x.1.2.1, (1 : Int), (8 : Int), ()) else some (false, ()))) fun (r2 : Bool × Unit) =>
  Option.bind ((if (((if r1.1 = true then r2.1 else false) : Bool) == true) = true then F_impl_in k (x.1.2.2.1, (1 : Int), (2 : Int), ()) else some (false, ()))) fun (r3 : Bool × Unit) =>
  Option.bind ((if (((if (if r1.1 = true then r2.1 else false) = true then r3.1 else false) : Bool) == true) = true then F_impl_in k (x.1.2.2.2.1, (1 : Int), (9 : Int), ()) else some (false, ()))) fun (r4 : Bool × Unit) =>
  Option.bind ((if (((if (if (if r1.1 = true then r2.1 else false) = true then r3.1 else false) = true then r4.1 else false) : Bool) == true) = true then F_impl_in k (x.1.2.2.2.2.1, (1 : Int), (9 : Int), ()) else some (false, ()))) fun (r5 : Bool × Unit) =>
  Option.bind ((if (((if (if (if (if r1.1 = true then r2.1 else false) = true then r3.1 else false) = true then r4.1 else false) = true then r5.1 else false) : Bool) == true) = true then F_impl_ByOk k (x.1.2.2.2.2.2, ()) else some (false, ()))) fun (r6 : Bool × Unit) =>
  some (if (if (if (if (if r1.1 = true then r2.1 else false) = true then r3.1 else false) = true then r4.1 else false) = true then r5.1 else false) = true then r6.1 else false, ())
def F_impl_PlainOk (k : Nat) (x : ByteArray × Unit) : Option (Bool × Unit) :=
  if (decide ((((ByteArray.size x.1 : Nat) : Int) : Int) > (12 : Int))) = true then
    some (false, ())
  else
    loopN k (fun G1 (t2 : ByteArray × Int × Unit) =>
      if (decide ((t2.2.1 : Int) < ((ByteArray.size t2.1 : Nat) : Int))) = true then
        if (decide (0 ≤ t2.2.1 ∧ t2.2.1 < ((ByteArray.size t2.1 : Nat) : Int))) = true then
          if (if (if (if (decide (((bt t2.1 t2.2.1) : Int) < (32 : Int))) = true then true else decide (((bt t2.1 t2.2.1) : Int) > (126 : Int))) = true then true else ((bt t2.1 t2.2.1) : Int) == (34 : Int)) = true then true else ((bt t2.1 t2.2.1) : Int) == (92 : Int)) = true then
            some (false, ())
          else
            G1 (t2.1, IntKind.i64.wrap (t2.2.1 + (1 : Int)), ())
        else
          none
      else
        some (true, ())) (x.1, (0 : Int), ())
def F_impl_LabelOk (k : Nat) (x : DLabel × Unit) : Option (Bool × Unit) :=
  Option.bind (F_impl_NameOk k (x.1.1, ())) fun (r1 : Bool × Unit) =>
  Option.bind ((if ((r1.1 : Bool) == true) = true then F_impl_PlainOk k (x.1.2, ()) else some (false, ()))) fun (r2 : Bool × Unit) =>
  some (if r1.1 = true then r2.1 else false, ())
def F_impl_SetOk (k : Nat) (x : List DLabel × Unit) : Option (Bool × Unit) :=
  loopN k (fun G1 (t2 : List DLabel × List DLabel × Int × Int × Unit) =>
    if (decide ((t2.2.2.2.1 : Int) < t2.2.2.1)) = true then
      if (decide (0 ≤ t2.2.2.2.1 ∧ t2.2.2.2.1 < ((List.length t2.2.1 : Nat) : Int))) = true then
        Option.bind ((if (((decide ((t2.2.2.2.1 : Int) ≥ (4 : Int))) : Bool) == false) = true then F_impl_LabelOk k (List.getD t2.2.1 (Int.toNat t2.2.2.2.1) tLabel.dflt, ()) else some (false, ()))) fun (r3 : Bool × Unit) =>
        if (!((((if (decide ((t2.2.2.2.1 : Int) ≥ (4 : Int))) = true then true else !r3.1) : Bool) == false) && (((decide ((t2.2.2.2.1 : Int) > (0 : Int))) : Bool) == true)) || (decide (0 ≤ (IntKind.i64.wrap (t2.2.2.2.1 - (1 : Int))) ∧ (IntKind.i64.wrap (t2.2.2.2.1 - (1 : Int))) < ((List.length t2.1 : Nat) : Int)))) = true then
          if (if (if (decide ((t2.2.2.2.1 : Int) ≥ (4 : Int))) = true then true else !r3.1) = true then true else if (decide ((t2.2.2.2.1 : Int) > (0 : Int))) = true then !(Op.bytesLess (ByteArray.toList ((List.getD t2.1 (Int.toNat (IntKind.i64.wrap (t2.2.2.2.1 - (1 : Int)))) tLabel.dflt).1)) (ByteArray.toList ((List.getD t2.2.1 (Int.toNat t2.2.2.2.1) tLabel.dflt).1))) else false) = true then
            some (false, ())
          else
            G1 (t2.1, t2.2.1, t2.2.2.1, IntKind.i64.wrap (t2.2.2.2.1 + (1 : Int)), ())
        else
          none
      else
        none
    else
      some (true, ())) (x.1, x.1, ((List.length x.1 : Nat) : Int), (0 : Int), ())
def F_impl_AlarmOk (k : Nat) (x : DAlarm × Unit) : Option (Bool × Unit) :=
  Option.bind ((if (((decide ((((List.length x.1.1 : Nat) : Int) : Int) > (0 : Int))) : Bool) == true) = true then F_impl_SetOk k (x.1.1, ()) else some (false, ()))) fun (r1 : Bool × Unit) =>
  Option.bind ((if (((if (decide ((((List.length x.1.1 : Nat) : Int) : Int) > (0 : Int))) = true then r1.1 else false) : Bool) == true) = true then F_impl_in k (x.1.2.1, (0 : Int), (99999 : Int), ()) else some (false, ()))) fun (r2 : Bool × Unit) =>
  Option.bind ((if (((if (if (decide ((((List.length x.1.1 : Nat) : Int) : Int) > (0 : Int))) = true then r1.1 else false) = true then r2.1 else false) : Bool) == true) = true then F_impl_in k (x.1.2.2.1, x.1.2.1, (99999 : Int), ()) else some (false, ()))) fun (r3 : Bool × Unit) =>
  Option.bind ((if (((if (if (if (decide ((((List.length x.1.1 : Nat) : Int) : Int) > (0 : Int))) = true then r1.1 else false) = true then r2.1 else false) = true then r3.1 else false) : Bool) == true) = true then F_impl_PlainOk k (x.1.2.2.2, ()) else some (false, ()))) fun (r4 : Bool × Unit) =>
  some (if (if (if (if (decide ((((List.length x.1.1 : Nat) : Int) : Int) > (0 : Int))) = true then r1.1 else false) = true then r2.1 else false) = true then r3.1 else false) = true then r4.1 else false, ())
def F_impl_SetText (k : Nat) (x : List DLabel × Unit) : Option (ByteArray × Unit) :=
  Option.bind (F_impl_SetOk k (x.1, ())) fun (r1 : Bool × Unit) =>
  if (!r1.1) = true then
    some ((⟨#[]⟩ : ByteArray), ())
  else
    joinC (fun J2 =>
      loopN k (fun G4 (t5 : List ByteArray × List DLabel × Int × Int × Unit) =>
        if (decide ((t5.2.2.2.1 : Int) < t5.2.2.1)) = true then
          if (decide (0 ≤ t5.2.2.2.1 ∧ t5.2.2.2.1 < ((List.length t5.2.1 : Nat) : Int))) = true then
            if (decide ((((List.getD t5.2.1 (Int.toNat t5.2.2.2.1) tLabel.dflt).1)).size + ((⟨#[61, 34]⟩ : ByteArray)).size < 4294967296)) = true then
              if (decide (((((List.getD t5.2.1 (Int.toNat t5.2.2.2.1) tLabel.dflt).1) ++ (⟨#[61, 34]⟩ : ByteArray))).size + (((List.getD t5.2.1 (Int.toNat t5.2.2.2.1) tLabel.dflt).2)).size < 4294967296)) = true then
                if (decide ((((((List.getD t5.2.1 (Int.toNat t5.2.2.2.1) tLabel.dflt).1) ++ (⟨#[61, 34]⟩ : ByteArray)) ++ ((List.getD t5.2.1 (Int.toNat t5.2.2.2.1) tLabel.dflt).2))).size + ((⟨#[34]⟩ : ByteArray)).size < 4294967296)) = true then
                  if (decide (List.length t5.1 + List.length ([((((List.getD t5.2.1 (Int.toNat t5.2.2.2.1) tLabel.dflt).1) ++ (⟨#[61, 34]⟩ : ByteArray)) ++ ((List.getD t5.2.1 (Int.toNat t5.2.2.2.1) tLabel.dflt).2)) ++ (⟨#[34]⟩ : ByteArray)] : List ByteArray) < 4294967296)) = true then
                    G4 (t5.1 ++ ([((((List.getD t5.2.1 (Int.toNat t5.2.2.2.1) tLabel.dflt).1) ++ (⟨#[61, 34]⟩ : ByteArray)) ++ ((List.getD t5.2.1 (Int.toNat t5.2.2.2.1) tLabel.dflt).2)) ++ (⟨#[34]⟩ : ByteArray)] : List ByteArray), t5.2.1, t5.2.2.1, IntKind.i64.wrap (t5.2.2.2.1 + (1 : Int)), ())
                  else
                    none
                else
                  none
              else
                none
            else
              none
          else
            none
        else
          J2 (t5.1, ())) (([] : List ByteArray), x.1, ((List.length x.1 : Nat) : Int), (0 : Int), ())) (fun (t3 : List ByteArray × Unit) =>
      Option.bind (F_strings_Join k (t3.1, (⟨#[44, 32]⟩ : ByteArray), ())) fun (r6 : ByteArray × Unit) =>
      if (decide (((⟨#[123]⟩ : ByteArray)).size + (r6.1).size < 4294967296)) = true then
        if (decide ((((⟨#[123]⟩ : ByteArray) ++ r6.1)).size + ((⟨#[125]⟩ : ByteArray)).size < 4294967296)) = true then
          some (((⟨#[123]⟩ : ByteArray) ++ r6.1) ++ (⟨#[125]⟩ : ByteArray), ())
        else
          none
      else
        none)
def F_impl_Sum (k : Nat) (x : ByteArray × Unit) : Option (Int × Unit) :=
  joinC (fun J1 =>
    loopN k (fun G3 (t4 : ByteArray × Int × Int × Unit) =>
      if (decide ((t4.2.2.1 : Int) < ((ByteArray.size t4.1 : Nat) : Int))) = true then
        if (decide (0 ≤ t4.2.2.1 ∧ t4.2.2.1 < ((ByteArray.size t4.1 : Nat) : Int))) = true then
          G3 (t4.1, IntKind.u32.wrap ((bits (fun _ => (· ^^^ ·)) .u32 t4.2.1 (IntKind.u32.wrap (bt t4.1 t4.2.2.1))) * (16777619 : Int)), IntKind.i64.wrap (t4.2.2.1 + (1 : Int)), ())
        else
          none
      else
        J1 (t4.2.1, ())) (x.1, (2166136261 : Int), (0 : Int), ())) (fun (t2 : Int × Unit) =>
    some (IntKind.i64.wrap t2.1, ()))
def F_impl_Finger (k : Nat) (x : List DLabel × Unit) : Option (Int × Unit) :=
  Option.bind (F_impl_SetText k (x.1, ())) fun (r1 : ByteArray × Unit) =>
  Option.bind (F_impl_Sum k (r1.1, ())) fun (r2 : Int × Unit) =>
  if (decide (0 ≤ (16 : Int))) = true then
    if (decide ((32 : Int) ≠ 0)) = true then
      some (Int.tmod (bits (fun _ => (· ^^^ ·)) .i64 r2.1 (Int.fdiv r2.1 (2 ^ (min (Int.toNat (16 : Int)) IntKind.i64.bits)))) (32 : Int), ())
    else
      none
  else
    none
def F_impl_SameSet (k : Nat) (x : List DLabel × List DLabel × Unit) : Option (Bool × Unit) :=
  if ((((List.length x.1 : Nat) : Int) : Int) != ((List.length x.2.1 : Nat) : Int)) = true then
    some (false, ())
  else
    loopN k (fun G1 (t2 : List DLabel × List DLabel × Int × Int × Unit) =>
      if (decide ((t2.2.2.2.1 : Int) < t2.2.2.1)) = true then
        if (decide (0 ≤ t2.2.2.2.1 ∧ t2.2.2.2.1 < ((List.length t2.1 : Nat) : Int))) = true then
          if (decide (0 ≤ t2.2.2.2.1 ∧ t2.2.2.2.1 < ((List.length t2.2.1 : Nat) : Int))) = true then
            if (!(eqv tLabel (List.getD t2.1 (Int.toNat t2.2.2.2.1) tLabel.dflt) (List.getD t2.2.1 (Int.toNat t2.2.2.2.1) tLabel.dflt))) = true then
              some (false, ())
            else
              G1 (t2.1, t2.2.1, t2.2.2.1, IntKind.i64.wrap (t2.2.2.2.1 + (1 : Int)), ())
          else
            none
        else
          none
      else
        some (true, ())) (x.1, x.2.1, ((List.length x.1 : Nat) : Int), (0 : Int), ())
def F_impl_labelsAt (k : Nat) (x : List DAlarm × List DLabel × Unit) : Option (Int × Unit) :=
  loopN k (fun G1 (t2 : List DLabel × List DAlarm × Int × Int × Unit) =>
    if (decide ((t2.2.2.2.1 : Int) < t2.2.2.1)) = true then
      if (decide (0 ≤ t2.2.2.2.1 ∧ t2.2.2.2.1 < ((List.length t2.2.1 : Nat) : Int))) = true then
        Option.bind (F_impl_SameSet k ((List.getD t2.2.1 (Int.toNat t2.2.2.2.1) tAlarm.dflt).1, t2.1, ())) fun (r3 : Bool × Unit) =>
        if r3.1 = true then
          some (t2.2.2.2.1, ())
        else
          G1 (t2.1, t2.2.1, t2.2.2.1, IntKind.i64.wrap (t2.2.2.2.1 + (1 : Int)), ())
      else
        none
    else
      some ((-1 : Int), ())) (x.2.1, x.1, ((List.length x.1 : Nat) : Int), (0 : Int), ())
def F_impl_labelsApart (k : Nat) (x : List DAlarm × Unit) : Option (Bool × Unit) :=
  loopN k (fun G1 (t2 : List DAlarm × List DAlarm × Int × Int × Unit) =>
    if (decide ((t2.2.2.2.1 : Int) < t2.2.2.1)) = true then
      if (decide (0 ≤ t2.2.2.2.1 ∧ t2.2.2.2.1 < ((List.length t2.2.1 : Nat) : Int))) = true then
        if (decide (0 ≤ t2.2.2.2.1 ∧ t2.2.2.2.1 ≤ ((List.length t2.1 : Nat) : Int))) = true then
          Option.bind (F_impl_labelsAt k (List.take (Int.toNat t2.2.2.2.1) t2.1, (List.getD t2.2.1 (Int.toNat t2.2.2.2.1) tAlarm.dflt).1, ())) fun (r3 : Int × Unit) =>
          if (decide ((r3.1 : Int) ≥ (0 : Int))) = true then
            some (false, ())
          else
            G1 (t2.1, t2.2.1, t2.2.2.1, IntKind.i64.wrap (t2.2.2.2.1 + (1 : Int)), ())
        else
          none
      else
        none
    else
      some (true, ())) (x.1, x.1, ((List.length x.1 : Nat) : Int), (0 : Int), ())
def F_impl_ChainOk (k : Nat) (x : DChain × Unit) : Option (Bool × Unit) :=
  joinC (fun J1 =>
    loopN k (fun G3 (t4 : DChain × List DAlarm × Int × Int × Unit) =>
      if (decide ((t4.2.2.2.1 : Int) < t4.2.2.1)) = true then
        if (decide (0 ≤ t4.2.2.2.1 ∧ t4.2.2.2.1 < ((List.length t4.2.1 : Nat) : Int))) = true then
          Option.bind (F_impl_AlarmOk k (List.getD t4.2.1 (Int.toNat t4.2.2.2.1) tAlarm.dflt, ())) fun (r5 : Bool × Unit) =>
          Option.bind ((if (((!r5.1) : Bool) == false) = true then F_impl_Finger k ((List.getD t4.2.1 (Int.toNat t4.2.2.2.1) tAlarm.dflt).1, ()) else some (0, ()))) fun (r6 : Int × Unit) =>
          if (if (!r5.1) = true then true else (r6.1 : Int) != t4.1.1) = true then
            some (false, ())
          else
            G3 (t4.1, t4.2.1, t4.2.2.1, IntKind.i64.wrap (t4.2.2.2.1 + (1 : Int)), ())
        else
          none
      else
        J1 (t4.1, ())) (x.1, x.1.2, ((List.length x.1.2 : Nat) : Int), (0 : Int), ())) (fun (t2 : DChain × Unit) =>
    Option.bind ((if (((decide ((((List.length t2.1.2 : Nat) : Int) : Int) > (0 : Int))) : Bool) == true) = true then F_impl_labelsApart k (t2.1.2, ()) else some (false, ()))) fun (r7 : Bool × Unit) =>
    some (if (decide ((((List.length t2.1.2 : Nat) : Int) : Int) > (0 : Int))) = true then r7.1 else false, ()))
def F_impl_PartOf (k : Nat) (x : Int × Int × Unit) : Option (Int × Unit) :=
  if (if (decide ((x.2.1 : Int) < (1 : Int))) = true then true else decide ((x.1 : Int) < (0 : Int))) = true then
    some ((0 : Int), ())
  else
    if (decide (x.2.1 ≠ 0)) = true then
      some (Int.tmod x.1 x.2.1, ())
    else
      none
def F_impl_PartOk (k : Nat) (x : DPart × Int × Int × Unit) : Option (Bool × Unit) :=
  joinC (fun J1 =>
    loopN k (fun G3 (t4 : Int × Int × DPart × List DChain × Int × Int × Unit) =>
      if (decide ((t4.2.2.2.2.2.1 : Int) < t4.2.2.2.2.1)) = true then
        if (decide (0 ≤ t4.2.2.2.2.2.1 ∧ t4.2.2.2.2.2.1 < ((List.length t4.2.2.2.1 : Nat) : Int))) = true then
          Option.bind (F_impl_ChainOk k (List.getD t4.2.2.2.1 (Int.toNat t4.2.2.2.2.2.1) tChain.dflt, ())) fun (r5 : Bool × Unit) =>
          Option.bind ((if (((!r5.1) : Bool) == false) = true then F_impl_PartOf k ((List.getD t4.2.2.2.1 (Int.toNat t4.2.2.2.2.2.1) tChain.dflt).1, t4.2.1, ()) else some (0, ()))) fun (r6 : Int × Unit) =>
          if (!((((if (!r5.1) = true then true else (r6.1 : Int) != t4.1) : Bool) == false) && (((decide ((t4.2.2.2.2.2.1 : Int) > (0 : Int))) : Bool) == true)) || (decide (0 ≤ (IntKind.i64.wrap (t4.2.2.2.2.2.1 - (1 : Int))) ∧ (IntKind.i64.wrap (t4.2.2.2.2.2.1 - (1 : Int))) < ((List.length t4.2.2.1.2.2 : Nat) : Int)))) = true then
            if (if (if (!r5.1) = true then true else (r6.1 : Int) != t4.1) = true then true else if (decide ((t4.2.2.2.2.2.1 : Int) > (0 : Int))) = true then decide ((((List.getD t4.2.2.1.2.2 (Int.toNat (IntKind.i64.wrap (t4.2.2.2.2.2.1 - (1 : Int)))) tChain.dflt).1) : Int) ≥ ((List.getD t4.2.2.2.1 (Int.toNat t4.2.2.2.2.2.1) tChain.dflt).1)) else false) = true then
              some (false, ())
            else
              G3 (t4.1, t4.2.1, t4.2.2.1, t4.2.2.2.1, t4.2.2.2.2.1, IntKind.i64.wrap (t4.2.2.2.2.2.1 + (1 : Int)), ())
          else
            none
        else
          none
      else
        J1 (t4.2.2.1, ())) (x.2.1, x.2.2.1, x.1, x.1.2.2, ((List.length x.1.2.2 : Nat) : Int), (0 : Int), ())) (fun (t2 : DPart × Unit) =>
    Option.bind (F_impl_in k (t2.1.1, (-1 : Int), (4 : Int), ())) fun (r7 : Bool × Unit) =>
    some (if r7.1 = true then decide ((t2.1.2.1 : Int) ≥ (0 : Int)) else false, ()))
def F_impl_StoreOk (k : Nat) (x : List DPart × Unit) : Option (Bool × Unit) :=
  Option.bind (F_impl_in k (((List.length x.1 : Nat) : Int), (1 : Int), (3 : Int), ())) fun (r1 : Bool × Unit) =>
  if (!r1.1) = true then
    some (false, ())
  else
    loopN k (fun G2 (t3 : List DPart × List DPart × Int × Int × Unit) =>
      if (decide ((t3.2.2.2.1 : Int) < t3.2.2.1)) = true then
        if (decide (0 ≤ t3.2.2.2.1 ∧ t3.2.2.2.1 < ((List.length t3.2.1 : Nat) : Int))) = true then
          Option.bind (F_impl_PartOk k (List.getD t3.2.1 (Int.toNat t3.2.2.2.1) tPart.dflt, t3.2.2.2.1, ((List.length t3.1 : Nat) : Int), ())) fun (r4 : Bool × Unit) =>
          if (!r4.1) = true then
            some (false, ())
          else
            G2 (t3.1, t3.2.1, t3.2.2.1, IntKind.i64.wrap (t3.2.2.2.1 + (1 : Int)), ())
        else
          none
      else
        some (true, ())) (x.1, x.1, ((List.length x.1 : Nat) : Int), (0 : Int), ())
def F_impl_CountOf (k : Nat) (x : List DPart × Unit) : Option (Int × Unit) :=
  loopN k (fun G1 (t2 : Int × List DPart × Int × Int × Unit) =>
    if (decide ((t2.2.2.2.1 : Int) < t2.2.2.1)) = true then
      if (decide (0 ≤ t2.2.2.2.1 ∧ t2.2.2.2.1 < ((List.length t2.2.1 : Nat) : Int))) = true then
        loopN k (fun G3 (t4 : Int × DPart × List DPart × Int × Int × List DChain × Int × Int × Unit) =>
          if (decide ((t4.2.2.2.2.2.2.2.1 : Int) < t4.2.2.2.2.2.2.1)) = true then
            if (decide (0 ≤ t4.2.2.2.2.2.2.2.1 ∧ t4.2.2.2.2.2.2.2.1 < ((List.length t4.2.2.2.2.2.1 : Nat) : Int))) = true then
              G3 (IntKind.i64.wrap (t4.1 + ((List.length ((List.getD t4.2.2.2.2.2.1 (Int.toNat t4.2.2.2.2.2.2.2.1) tChain.dflt).2) : Nat) : Int)), t4.2.1, t4.2.2.1, t4.2.2.2.1, t4.2.2.2.2.1, t4.2.2.2.2.2.1, t4.2.2.2.2.2.2.1, IntKind.i64.wrap (t4.2.2.2.2.2.2.2.1 + (1 : Int)), ())
            else
              none
          else
            G1 (t4.1, t4.2.2.1, t4.2.2.2.1, IntKind.i64.wrap (t4.2.2.2.2.1 + (1 : Int)), ())) (t2.1, List.getD t2.2.1 (Int.toNat t2.2.2.2.1) tPart.dflt, t2.2.1, t2.2.2.1, t2.2.2.2.1, ((List.getD t2.2.1 (Int.toNat t2.2.2.2.1) tPart.dflt).2).2, ((List.length (((List.getD t2.2.1 (Int.toNat t2.2.2.2.1) tPart.dflt).2).2) : Nat) : Int), (0 : Int), ())
      else
        none
    else
      some (t2.1, ())) ((0 : Int), x.1, ((List.length x.1 : Nat) : Int), (0 : Int), ())
def F_impl_copySet (k : Nat) (x : List DLabel × Unit) : Option (List DLabel × Unit) :=
  if (decide (List.length ([] : List DLabel) + List.length x.1 < 4294967296)) = true then
    some (([] : List DLabel) ++ x.1, ())
  else
    none
def F_impl_copyAlarm (k : Nat) (x : DAlarm × Unit) : Option (DAlarm × Unit) :=
  Option.bind (F_impl_copySet k (x.1.1, ())) fun (r1 : List DLabel × Unit) =>
  some ((r1.1, x.1.2), ())
def F_impl_copyAlarms (k : Nat) (x : List DAlarm × Unit) : Option (List DAlarm × Unit) :=
  loopN k (fun G1 (t2 : List DAlarm × List DAlarm × Int × Int × Unit) =>
    if (decide ((t2.2.2.2.1 : Int) < t2.2.2.1)) = true then
      if (decide (0 ≤ t2.2.2.2.1 ∧ t2.2.2.2.1 < ((List.length t2.2.1 : Nat) : Int))) = true then
        Option.bind (F_impl_copyAlarm k (List.getD t2.2.1 (Int.toNat t2.2.2.2.1) tAlarm.dflt, ())) fun (r3 : DAlarm × Unit) =>
        if (decide (List.length t2.1 + List.length ([r3.1] : List DAlarm) < 4294967296)) = true then
          G1 (t2.1 ++ ([r3.1] : List DAlarm), t2.2.1, t2.2.2.1, IntKind.i64.wrap (t2.2.2.2.1 + (1 : Int)), ())
        else
          none
      else
        none
    else
      some (t2.1, ())) (([] : List DAlarm), x.1, ((List.length x.1 : Nat) : Int), (0 : Int), ())
def F_impl_AlarmsIn (k : Nat) (x : DPart × Unit) : Option (List DAlarm × Unit) :=
  loopN k (fun G1 (t2 : DPart × List DAlarm × List DChain × Int × Int × Unit) =>
    if (decide ((t2.2.2.2.2.1 : Int) < t2.2.2.2.1)) = true then
      if (decide (0 ≤ t2.2.2.2.2.1 ∧ t2.2.2.2.2.1 < ((List.length t2.2.2.1 : Nat) : Int))) = true then
        Option.bind (F_impl_copyAlarms k ((List.getD t2.2.2.1 (Int.toNat t2.2.2.2.2.1) tChain.dflt).2, ())) fun (r3 : List DAlarm × Unit) =>
        if (decide (List.length t2.2.1 + List.length r3.1 < 4294967296)) = true then
          G1 (t2.1, t2.2.1 ++ r3.1, t2.2.2.1, t2.2.2.2.1, IntKind.i64.wrap (t2.2.2.2.2.1 + (1 : Int)), ())
        else
          none
      else
        none
    else
      some (t2.2.1, ())) (x.1, ([] : List DAlarm), x.1.2.2, ((List.length x.1.2.2 : Nat) : Int), (0 : Int), ())
def F_impl_AllAlarms (k : Nat) (x : List DPart × Unit) : Option (List DAlarm × Unit) :=
  joinC (fun J1 =>
    loopN k (fun G3 (t4 : List DAlarm × List DPart × Int × Int × Unit) =>
      if (decide ((t4.2.2.2.1 : Int) < t4.2.2.1)) = true then
        if (decide (0 ≤ t4.2.2.2.1 ∧ t4.2.2.2.1 < ((List.length t4.2.1 : Nat) : Int))) = true then
          Option.bind (F_impl_AlarmsIn k (List.getD t4.2.1 (Int.toNat t4.2.2.2.1) tPart.dflt, ())) fun (r5 : List DAlarm × Unit) =>
          if (decide (List.length t4.1 + List.length r5.1 < 4294967296)) = true then
            G3 (t4.1 ++ r5.1, t4.2.1, t4.2.2.1, IntKind.i64.wrap (t4.2.2.2.1 + (1 : Int)), ())
          else
            none
        else
          none
      else
        J1 (t4.1, ())) (([] : List DAlarm), x.1, ((List.length x.1 : Nat) : Int), (0 : Int), ())) (fun (t2 : List DAlarm × Unit) =>
    Option.bind (F_impl_byLabels k (t2.1, ())) fun (r6 : List DAlarm × Unit) =>
    some (r6.1, ()))
def F_impl_Fits (k : Nat) (x : DConf × DAlarm × Unit) : Option (Bool × Unit) :=
  Option.bind (F_impl_AlarmOk k (x.2.1, ())) fun (r1 : Bool × Unit) =>
  some (if r1.1 = true then decide ((x.2.1.2.2.1 : Int) ≤ (99899 : Int)) else false, ())
def F_impl_storeRight (k : Nat) (x : DWorld × Unit) : Option (Bool × Unit) :=
  Option.bind (F_impl_StoreOk k (x.1.2.2.2.1, ())) fun (r1 : Bool × Unit) =>
  Option.bind ((if (((if (!r1.1) = true then true else (((List.length x.1.2.2.2.1 : Nat) : Int) : Int) != x.1.1.1) : Bool) == false) = true then F_impl_CountOf k (x.1.2.2.2.1, ()) else some (0, ()))) fun (r2 : Int × Unit) =>
  if (if (if (!r1.1) = true then true else (((List.length x.1.2.2.2.1 : Nat) : Int) : Int) != x.1.1.1) = true then true else decide ((r2.1 : Int) > x.1.1.2.1)) = true then
    some (false, ())
  else
    Option.bind (F_impl_AllAlarms k (x.1.2.2.2.1, ())) fun (r3 : List DAlarm × Unit) =>
    loopN k (fun G4 (t5 : DWorld × List DAlarm × Int × Int × Unit) =>
      if (decide ((t5.2.2.2.1 : Int) < t5.2.2.1)) = true then
        if (decide (0 ≤ t5.2.2.2.1 ∧ t5.2.2.2.1 < ((List.length t5.2.1 : Nat) : Int))) = true then
          Option.bind (F_impl_Fits k (t5.1.1, List.getD t5.2.1 (Int.toNat t5.2.2.2.1) tAlarm.dflt, ())) fun (r6 : Bool × Unit) =>
          if (!r6.1) = true then
            some (false, ())
          else
            G4 (t5.1, t5.2.1, t5.2.2.1, IntKind.i64.wrap (t5.2.2.2.1 + (1 : Int)), ())
        else
          none
      else
        some (true, ())) (x.1, r3.1, ((List.length r3.1 : Nat) : Int), (0 : Int), ())
def F_impl_alarmsOk (k : Nat) (x : List DAlarm × Unit) : Option (Bool × Unit) :=
  loopN k (fun G1 (t2 : List DAlarm × Int × Int × Unit) =>
    if (decide ((t2.2.2.1 : Int) < t2.2.1)) = true then
      if (decide (0 ≤ t2.2.2.1 ∧ t2.2.2.1 < ((List.length t2.1 : Nat) : Int))) = true then
        Option.bind (F_impl_AlarmOk k (List.getD t2.1 (Int.toNat t2.2.2.1) tAlarm.dflt, ())) fun (r3 : Bool × Unit) =>
        if (!r3.1) = true then
          some (false, ())
        else
          G1 (t2.1, t2.2.1, IntKind.i64.wrap (t2.2.2.1 + (1 : Int)), ())
      else
        none
    else
      some (true, ())) (x.1, ((List.length x.1 : Nat) : Int), (0 : Int), ())
def F_impl_SubOk (k : Nat) (x : DSub × Unit) : Option (Bool × Unit) :=
  if x.1.2 = true then
    some ((((List.length x.1.1 : Nat) : Int) : Int) == (0 : Int), ())
  else
    Option.bind ((if (((decide ((((List.length x.1.1 : Nat) : Int) : Int) ≤ (3 : Int))) : Bool) == true) = true then F_impl_alarmsOk k (x.1.1, ()) else some (false, ()))) fun (r1 : Bool × Unit) =>
    some (if (decide ((((List.length x.1.1 : Nat) : Int) : Int) ≤ (3 : Int))) = true then r1.1 else false, ())
def F_impl_subsRight (k : Nat) (x : List DSub × DConf × Unit) : Option (Bool × Unit) :=
  joinC (fun J1 =>
    loopN k (fun G3 (t4 : List DSub × DConf × List DSub × Int × Int × Unit) =>
      if (decide ((t4.2.2.2.2.1 : Int) < t4.2.2.2.1)) = true then
        if (decide (0 ≤ t4.2.2.2.2.1 ∧ t4.2.2.2.2.1 < ((List.length t4.2.2.1 : Nat) : Int))) = true then
          Option.bind (F_impl_SubOk k (List.getD t4.2.2.1 (Int.toNat t4.2.2.2.2.1) tSub.dflt, ())) fun (r5 : Bool × Unit) =>
          if (!r5.1) = true then
            some (false, ())
          else
            G3 (t4.1, t4.2.1, t4.2.2.1, t4.2.2.2.1, IntKind.i64.wrap (t4.2.2.2.2.1 + (1 : Int)), ())
        else
          none
      else
        J1 (t4.1, t4.2.1, ())) (x.1, x.2.1, x.1, ((List.length x.1 : Nat) : Int), (0 : Int), ())) (fun (t2 : List DSub × DConf × Unit) =>
    some ((((List.length t2.1 : Nat) : Int) : Int) == t2.2.1.2.2.1, ()))
def F_impl_codeFits (k : Nat) (x : Int × Int × Unit) : Option (Bool × Unit) :=
  if ((x.1 : Int) == (1 : Int)) = true then
    Option.bind (F_impl_in k (x.2.1, (1 : Int), (4 : Int), ())) fun (r1 : Bool × Unit) =>
    some (r1.1, ())
  else
    if ((x.1 : Int) == (3 : Int)) = true then
      Option.bind (F_impl_in k (x.2.1, (5 : Int), (6 : Int), ())) fun (r2 : Bool × Unit) =>
      some (r2.1, ())
    else
      if ((x.1 : Int) == (7 : Int)) = true then
        Option.bind (F_impl_in k (x.2.1, (1 : Int), (3 : Int), ())) fun (r3 : Bool × Unit) =>
        some (r3.1, ())
      else
        if ((x.1 : Int) == (8 : Int)) = true then
          some (if ((x.2.1 : Int) == (8 : Int)) = true then true else (x.2.1 : Int) == (6 : Int), ())
        else
          if ((x.1 : Int) == (9 : Int)) = true then
            Option.bind (F_impl_in k (x.2.1, (5 : Int), (7 : Int), ())) fun (r4 : Bool × Unit) =>
            some (r4.1, ())
          else
            some ((x.2.1 : Int) == (8 : Int), ())
def F_impl_DeedOk (k : Nat) (x : DDeed × Unit) : Option (Bool × Unit) :=
  Option.bind (F_impl_in k (x.1.1, (1 : Int), (9 : Int), ())) fun (r1 : Bool × Unit) =>
  Option.bind ((if (((!r1.1) : Bool) == false) = true then F_impl_in k (x.1.2.1, (-1 : Int), (4 : Int), ()) else some (false, ()))) fun (r2 : Bool × Unit) =>
  if (if (if (if (if (if (!r1.1) = true then true else !r2.1) = true then true else decide ((x.1.2.2.2.2.2.2.2.2.2.1 : Int) < (0 : Int))) = true then true else decide ((x.1.2.2.2.2.1 : Int) < (0 : Int))) = true then true else decide ((x.1.2.2.2.2.2.1 : Int) < (0 : Int))) = true then true else decide ((x.1.2.2.2.2.2.2.2.2.1 : Int) < (0 : Int))) = true then
    some (false, ())
  else
    if ((x.1.2.2.2.2.2.2.2.2.2.2.1 : Int) == (-1 : Int)) = true then
      some (if ((x.1.2.2.2.2.2.2.2.2.2.2.2 : Int) == (-1 : Int)) = true then (x.1.2.2.2.2.2.2.1 : Int) == (0 : Int) else false, ())
    else
      Option.bind ((if (((if (decide ((x.1.2.2.2.2.2.2.2.2.2.2.1 : Int) ≥ x.1.2.2.2.2.2.2.2.2.2.1)) = true then if ((x.1.2.2.2.2.2.2.2.2.2.2.2 : Int) == (-1 : Int)) = true then true else decide ((x.1.2.2.2.2.2.2.2.2.2.2.2 : Int) ≥ x.1.2.2.2.2.2.2.2.2.2.2.1) else false) : Bool) == true) = true then F_impl_codeFits k (x.1.1, x.1.2.2.2.2.2.2.1, ()) else some (false, ()))) fun (r3 : Bool × Unit) =>
      some (if (if (decide ((x.1.2.2.2.2.2.2.2.2.2.2.1 : Int) ≥ x.1.2.2.2.2.2.2.2.2.2.1)) = true then if ((x.1.2.2.2.2.2.2.2.2.2.2.2 : Int) == (-1 : Int)) = true then true else decide ((x.1.2.2.2.2.2.2.2.2.2.2.2 : Int) ≥ x.1.2.2.2.2.2.2.2.2.2.2.1) else false) = true then r3.1 else false, ())
def F_impl_SameAlarm (k : Nat) (x : DAlarm × DAlarm × Unit) : Option (Bool × Unit) :=
  Option.bind (F_impl_SameSet k (x.1.1, x.2.1.1, ())) fun (r1 : Bool × Unit) =>
  some (if (if (if r1.1 = true then (x.1.2.1 : Int) == x.2.1.2.1 else false) = true then (x.1.2.2.1 : Int) == x.2.1.2.2.1 else false) = true then ByteArray.toList x.1.2.2.2 == ByteArray.toList x.2.1.2.2.2 else false, ())
def F_impl_sameInts (k : Nat) (x : List Int × List Int × Unit) : Option (Bool × Unit) :=
  if ((((List.length x.1 : Nat) : Int) : Int) != ((List.length x.2.1 : Nat) : Int)) = true then
    some (false, ())
  else
    loopN k (fun G1 (t2 : List Int × List Int × Int × Int × Unit) =>
      if (decide ((t2.2.2.2.1 : Int) < t2.2.2.1)) = true then
        if (decide (0 ≤ t2.2.2.2.1 ∧ t2.2.2.2.1 < ((List.length t2.1 : Nat) : Int))) = true then
          if (decide (0 ≤ t2.2.2.2.1 ∧ t2.2.2.2.1 < ((List.length t2.2.1 : Nat) : Int))) = true then
            if (((List.getD t2.1 (Int.toNat t2.2.2.2.1) 0) : Int) != (List.getD t2.2.1 (Int.toNat t2.2.2.2.1) 0)) = true then
              some (false, ())
            else
              G1 (t2.1, t2.2.1, t2.2.2.1, IntKind.i64.wrap (t2.2.2.2.1 + (1 : Int)), ())
          else
            none
        else
          none
      else
        some (true, ())) (x.1, x.2.1, ((List.length x.1 : Nat) : Int), (0 : Int), ())
def F_impl_sameAlarms (k : Nat) (x : List DAlarm × List DAlarm × Unit) : Option (Bool × Unit) :=
  if ((((List.length x.1 : Nat) : Int) : Int) != ((List.length x.2.1 : Nat) : Int)) = true then
    some (false, ())
  else
    loopN k (fun G1 (t2 : List DAlarm × List DAlarm × Int × Int × Unit) =>
      if (decide ((t2.2.2.2.1 : Int) < t2.2.2.1)) = true then
        if (decide (0 ≤ t2.2.2.2.1 ∧ t2.2.2.2.1 < ((List.length t2.1 : Nat) : Int))) = true then
          if (decide (0 ≤ t2.2.2.2.1 ∧ t2.2.2.2.1 < ((List.length t2.2.1 : Nat) : Int))) = true then
            Option.bind (F_impl_SameAlarm k (List.getD t2.1 (Int.toNat t2.2.2.2.1) tAlarm.dflt, List.getD t2.2.1 (Int.toNat t2.2.2.2.1) tAlarm.dflt, ())) fun (r3 : Bool × Unit) =>
            if (!r3.1) = true then
              some (false, ())
            else
              G1 (t2.1, t2.2.1, t2.2.2.1, IntKind.i64.wrap (t2.2.2.2.1 + (1 : Int)), ())
          else
            none
        else
          none
      else
        some (true, ())) (x.1, x.2.1, ((List.length x.1 : Nat) : Int), (0 : Int), ())
def F_impl_sameTask (k : Nat) (x : DTask × DTask × Unit) : Option (Bool × Unit) :=
  Option.bind ((if (((if ((x.1.1 : Int) == x.2.1.1) = true then (x.1.2.1 : Int) == x.2.1.2.1 else false) : Bool) == true) = true then F_impl_SameAlarm k (x.1.2.2.1, x.2.1.2.2.1, ()) else some (false, ()))) fun (r1 : Bool × Unit) =>
  Option.bind ((if (((if (if ((x.1.1 : Int) == x.2.1.1) = true then (x.1.2.1 : Int) == x.2.1.2.1 else false) = true then r1.1 else false) : Bool) == true) = true then F_impl_SameSet k (x.1.2.2.2.1, x.2.1.2.2.2.1, ()) else some (false, ()))) fun (r2 : Bool × Unit) =>
  Option.bind ((if (((if (if (if (if ((x.1.1 : Int) == x.2.1.1) = true then (x.1.2.1 : Int) == x.2.1.2.1 else false) = true then r1.1 else false) = true then r2.1 else false) = true then (x.1.2.2.2.2.1 : Int) == x.2.1.2.2.2.2.1 else false) : Bool) == true) = true then F_impl_sameInts k (x.1.2.2.2.2.2.1, x.2.1.2.2.2.2.2.1, ()) else some (false, ()))) fun (r3 : Bool × Unit) =>
  Option.bind ((if (((if (if (if (if (if ((x.1.1 : Int) == x.2.1.1) = true then (x.1.2.1 : Int) == x.2.1.2.1 else false) = true then r1.1 else false) = true then r2.1 else false) = true then (x.1.2.2.2.2.1 : Int) == x.2.1.2.2.2.2.1 else false) = true then r3.1 else false) : Bool) == true) = true then F_impl_sameAlarms k (x.1.2.2.2.2.2.2.1, x.2.1.2.2.2.2.2.2.1, ()) else some (false, ()))) fun (r4 : Bool × Unit) =>
  some (if (if (if (if (if (if (if (if ((x.1.1 : Int) == x.2.1.1) = true then (x.1.2.1 : Int) == x.2.1.2.1 else false) = true then r1.1 else false) = true then r2.1 else false) = true then (x.1.2.2.2.2.1 : Int) == x.2.1.2.2.2.2.1 else false) = true then r3.1 else false) = true then r4.1 else false) = true then (x.1.2.2.2.2.2.2.2.1 : Int) == x.2.1.2.2.2.2.2.2.2.1 else false) = true then (x.1.2.2.2.2.2.2.2.2 : Int) == x.2.1.2.2.2.2.2.2.2.2 else false, ())
def F_impl_snapOk (k : Nat) (x : DTask × Unit) : Option (Bool × Unit) :=
  joinC (fun J1 =>
    loopN k (fun G3 (t4 : DTask × List Int × Int × Int × Unit) =>
      if (decide ((t4.2.2.2.1 : Int) < t4.2.2.1)) = true then
        if (decide (0 ≤ t4.2.2.2.1 ∧ t4.2.2.2.1 < ((List.length t4.2.1 : Nat) : Int))) = true then
          if (decide (((List.getD t4.2.1 (Int.toNat t4.2.2.2.1) 0) : Int) < (0 : Int))) = true then
            some (false, ())
          else
            G3 (t4.1, t4.2.1, t4.2.2.1, IntKind.i64.wrap (t4.2.2.2.1 + (1 : Int)), ())
        else
          none
      else
        J1 (t4.1, ())) (x.1, x.1.2.2.2.2.2.1, ((List.length x.1.2.2.2.2.2.1 : Nat) : Int), (0 : Int), ())) (fun (t2 : DTask × Unit) =>
    Option.bind ((if ((((((List.length t2.1.2.2.2.2.2.1 : Nat) : Int) : Int) != t2.1.2.2.2.2.1) : Bool) == false) = true then F_impl_alarmsOk k (t2.1.2.2.2.2.2.2.1, ()) else some (false, ()))) fun (r5 : Bool × Unit) =>
    if (if ((((List.length t2.1.2.2.2.2.2.1 : Nat) : Int) : Int) != t2.1.2.2.2.2.1) = true then true else !r5.1) = true then
      some (false, ())
    else
      if ((t2.1.2.1 : Int) == (2 : Int)) = true then
        Option.bind (F_impl_in k (t2.1.2.2.2.2.1, (1 : Int), (3 : Int), ())) fun (r6 : Bool × Unit) =>
        some (r6.1, ())
      else
        Option.bind (F_impl_in k (t2.1.2.2.2.2.1, (0 : Int), (2 : Int), ())) fun (r7 : Bool × Unit) =>
        some (r7.1, ()))
def F_impl_TaskOk (k : Nat) (x : DTask × Int × Unit) : Option (Bool × Unit) :=
  joinC (fun J1 =>
    Option.bind (F_impl_in k (x.2.1, (0 : Int), (4 : Int), ())) fun (r3 : Bool × Unit) =>
    if (!r3.1) = true then
      some (false, ())
    else
      if ((x.1.1 : Int) == (0 : Int)) = true then
        Option.bind (F_impl_sameTask k (x.1, (0, (0, ((([] : List DLabel), (0, (0, ByteArray.empty))), (([] : List DLabel), (0, (([] : List Int), (([] : List DAlarm), (0, 0)))))))), ())) fun (r4 : Bool × Unit) =>
        some (r4.1, ())
      else
        if (if ((x.1.1 : Int) == (1 : Int)) = true then decide ((x.2.1 : Int) < (3 : Int)) else false) = true then
          Option.bind (F_impl_AlarmOk k (x.1.2.2.1, ())) fun (r5 : Bool × Unit) =>
          J1 (x.1, (x.1.1, (x.1.2.1, (x.1.2.2.1, (([] : List DLabel), (0, (([] : List Int), (([] : List DAlarm), (0, x.1.2.2.2.2.2.2.2.2)))))))), r5.1, (2 : Int), ())
        else
          if (if ((x.1.1 : Int) == (2 : Int)) = true then decide ((x.2.1 : Int) < (3 : Int)) else false) = true then
            Option.bind (F_impl_SetOk k (x.1.2.2.2.1, ())) fun (r6 : Bool × Unit) =>
            J1 (x.1, (x.1.1, (x.1.2.1, ((([] : List DLabel), (0, (0, ByteArray.empty))), (x.1.2.2.2.1, (0, (([] : List Int), (([] : List DAlarm), (0, x.1.2.2.2.2.2.2.2.2)))))))), r6.1, (1 : Int), ())
          else
            if (if ((x.1.1 : Int) == (3 : Int)) = true then decide ((x.2.1 : Int) < (3 : Int)) else false) = true then
              Option.bind (F_impl_snapOk k (x.1, ())) fun (r7 : Bool × Unit) =>
              J1 (x.1, (x.1.1, (x.1.2.1, ((([] : List DLabel), (0, (0, ByteArray.empty))), (([] : List DLabel), (x.1.2.2.2.2.1, (x.1.2.2.2.2.2.1, (x.1.2.2.2.2.2.2.1, (0, x.1.2.2.2.2.2.2.2.2)))))))), r7.1, (2 : Int), ())
            else
              if (if ((x.1.1 : Int) == (4 : Int)) = true then decide ((x.2.1 : Int) < (3 : Int)) else false) = true then
                Option.bind (F_impl_in k (x.1.2.2.2.2.1, (0 : Int), (2 : Int), ())) fun (r8 : Bool × Unit) =>
                J1 (x.1, (x.1.1, (x.1.2.1, ((([] : List DLabel), (0, (0, ByteArray.empty))), (([] : List DLabel), (x.1.2.2.2.2.1, (([] : List Int), (([] : List DAlarm), (0, x.1.2.2.2.2.2.2.2.2)))))))), r8.1, (1 : Int), ())
              else
                if (if ((x.1.1 : Int) == (5 : Int)) = true then (x.2.1 : Int) == (3 : Int) else false) = true then
                  Option.bind (F_impl_AlarmOk k (x.1.2.2.1, ())) fun (r9 : Bool × Unit) =>
                  J1 (x.1, (x.1.1, (x.1.2.1, (x.1.2.2.1, (([] : List DLabel), (0, (([] : List Int), (([] : List DAlarm), (0, x.1.2.2.2.2.2.2.2.2)))))))), r9.1, (1 : Int), ())
                else
                  if (if ((x.1.1 : Int) == (6 : Int)) = true then (x.2.1 : Int) == (4 : Int) else false) = true then
                    J1 (x.1, (x.1.1, (x.1.2.1, ((([] : List DLabel), (0, (0, ByteArray.empty))), (([] : List DLabel), (0, (([] : List Int), (([] : List DAlarm), (x.1.2.2.2.2.2.2.2.1, x.1.2.2.2.2.2.2.2.2)))))))), decide ((x.1.2.2.2.2.2.2.2.1 : Int) ≥ (0 : Int)), (1 : Int), ())
                  else
                    J1 (x.1, (x.1.1, (x.1.2.1, ((([] : List DLabel), (0, (0, ByteArray.empty))), (([] : List DLabel), (0, (([] : List Int), (([] : List DAlarm), (0, x.1.2.2.2.2.2.2.2.2)))))))), false, (1 : Int), ())) (fun (t2 : DTask × DTask × Bool × Int × Unit) =>
    Option.bind ((if ((t2.2.2.1 : Bool) == true) = true then F_impl_in k (t2.1.2.1, (0 : Int), t2.2.2.2.1, ()) else some (false, ()))) fun (r10 : Bool × Unit) =>
    Option.bind ((if (((if (if t2.2.2.1 = true then r10.1 else false) = true then decide ((t2.1.2.2.2.2.2.2.2.2 : Int) ≥ (0 : Int)) else false) : Bool) == true) = true then F_impl_sameTask k (t2.1, t2.2.1, ()) else some (false, ()))) fun (r11 : Bool × Unit) =>
    some (if (if (if t2.2.2.1 = true then r10.1 else false) = true then decide ((t2.1.2.2.2.2.2.2.2.2 : Int) ≥ (0 : Int)) else false) = true then r11.1 else false, ()))
def F_impl_HomeOf (k : Nat) (x : List DPart × List DLabel × Unit) : Option (Int × Unit) :=
  Option.bind (F_impl_Finger k (x.2.1, ())) fun (r1 : Int × Unit) =>
  Option.bind (F_impl_PartOf k (r1.1, ((List.length x.1 : Nat) : Int), ())) fun (r2 : Int × Unit) =>
  some (r2.1, ())
def F_impl_chainOf (k : Nat) (x : DPart × Int × Unit) : Option (Int × Unit) :=
  loopN k (fun G1 (t2 : Int × DPart × List DChain × Int × Int × Unit) =>
    if (decide ((t2.2.2.2.2.1 : Int) < t2.2.2.2.1)) = true then
      if (decide (0 ≤ t2.2.2.2.2.1 ∧ t2.2.2.2.2.1 < ((List.length t2.2.2.1 : Nat) : Int))) = true then
        if ((((List.getD t2.2.2.1 (Int.toNat t2.2.2.2.2.1) tChain.dflt).1) : Int) == t2.1) = true then
          some (t2.2.2.2.2.1, ())
        else
          G1 (t2.1, t2.2.1, t2.2.2.1, t2.2.2.2.1, IntKind.i64.wrap (t2.2.2.2.2.1 + (1 : Int)), ())
      else
        none
    else
      some ((-1 : Int), ())) (x.2.1, x.1, x.1.2.2, ((List.length x.1.2.2 : Nat) : Int), (0 : Int), ())
def F_impl_InChain (k : Nat) (x : DChain × List DLabel × Unit) : Option (Int × Unit) :=
  Option.bind (F_impl_labelsAt k (x.1.2, x.2.1, ())) fun (r1 : Int × Unit) =>
  some (r1.1, ())
def F_impl_FindIn (k : Nat) (x : DPart × List DLabel × Unit) : Option (DAlarm × Bool × Unit) :=
  Option.bind (F_impl_Finger k (x.2.1, ())) fun (r1 : Int × Unit) =>
  Option.bind (F_impl_chainOf k (x.1, r1.1, ())) fun (r2 : Int × Unit) =>
  if (decide ((r2.1 : Int) < (0 : Int))) = true then
    some ((([] : List DLabel), (0, (0, ByteArray.empty))), false, ())
  else
    if (decide (0 ≤ r2.1 ∧ r2.1 < ((List.length x.1.2.2 : Nat) : Int))) = true then
      Option.bind (F_impl_InChain k (List.getD x.1.2.2 (Int.toNat r2.1) tChain.dflt, x.2.1, ())) fun (r3 : Int × Unit) =>
      if (decide ((r3.1 : Int) < (0 : Int))) = true then
        some ((([] : List DLabel), (0, (0, ByteArray.empty))), false, ())
      else
        if (decide (0 ≤ r2.1 ∧ r2.1 < ((List.length x.1.2.2 : Nat) : Int))) = true then
          if (decide (0 ≤ r3.1 ∧ r3.1 < ((List.length ((List.getD x.1.2.2 (Int.toNat r2.1) tChain.dflt).2) : Nat) : Int))) = true then
            Option.bind (F_impl_copyAlarm k (List.getD ((List.getD x.1.2.2 (Int.toNat r2.1) tChain.dflt).2) (Int.toNat r3.1) tAlarm.dflt, ())) fun (r4 : DAlarm × Unit) =>
            some (r4.1, true, ())
          else
            none
        else
          none
    else
      none
def F_impl_FindAlarm (k : Nat) (x : List DPart × List DLabel × Unit) : Option (DAlarm × Bool × Unit) :=
  if ((((List.length x.1 : Nat) : Int) : Int) == (0 : Int)) = true then
    some ((([] : List DLabel), (0, (0, ByteArray.empty))), false, ())
  else
    Option.bind (F_impl_HomeOf k (x.1, x.2.1, ())) fun (r1 : Int × Unit) =>
    if (decide (0 ≤ r1.1 ∧ r1.1 < ((List.length x.1 : Nat) : Int))) = true then
      Option.bind (F_impl_FindIn k (List.getD x.1 (Int.toNat r1.1) tPart.dflt, x.2.1, ())) fun (r2 : DAlarm × Bool × Unit) =>
      some (r2.1, r2.2.1, ())
    else
      none
def F_impl_snapRight (k : Nat) (x : DWorld × DTask × Unit) : Option (Bool × Unit) :=
  if (if (if (decide ((x.2.1.2.1 : Int) < (2 : Int))) = true then decide ((x.2.1.2.2.2.2.1 : Int) ≥ x.1.1.1) else false) = true then true else if ((x.2.1.2.1 : Int) == (2 : Int)) = true then (((List.length x.2.1.2.2.2.2.2.1 : Nat) : Int) : Int) != x.1.1.1 else false) = true then
    some (false, ())
  else
    joinC (fun J1 =>
      loopN k (fun G3 (t4 : DWorld × DTask × Bool × List DAlarm × List Int × Int × Int × Unit) =>
        if (decide ((t4.2.2.2.2.2.2.1 : Int) < t4.2.2.2.2.2.1)) = true then
          if (decide (0 ≤ t4.2.2.2.2.2.2.1 ∧ t4.2.2.2.2.2.2.1 < ((List.length t4.2.2.2.2.1 : Nat) : Int))) = true then
            if (decide (0 ≤ t4.2.2.2.2.2.2.1 ∧ t4.2.2.2.2.2.2.1 < ((List.length t4.1.2.2.2.1 : Nat) : Int))) = true then
              if (decide (((List.getD t4.2.2.2.2.1 (Int.toNat t4.2.2.2.2.2.2.1) 0) : Int) > (((List.getD t4.1.2.2.2.1 (Int.toNat t4.2.2.2.2.2.2.1) tPart.dflt).2).1))) = true then
                some (false, ())
              else
                if (!((t4.2.2.1 : Bool) == true) || (decide (0 ≤ t4.2.2.2.2.2.2.1 ∧ t4.2.2.2.2.2.2.1 < ((List.length t4.1.2.2.2.1 : Nat) : Int)))) = true then
                  if (decide (0 ≤ t4.2.2.2.2.2.2.1 ∧ t4.2.2.2.2.2.2.1 < ((List.length t4.1.2.2.2.1 : Nat) : Int))) = true then
                    Option.bind (F_impl_AlarmsIn k (List.getD t4.1.2.2.2.1 (Int.toNat t4.2.2.2.2.2.2.1) tPart.dflt, ())) fun (r5 : List DAlarm × Unit) =>
                    if (decide (List.length t4.2.2.2.1 + List.length r5.1 < 4294967296)) = true then
                      G3 (t4.1, t4.2.1, if t4.2.2.1 = true then ((List.getD t4.2.2.2.2.1 (Int.toNat t4.2.2.2.2.2.2.1) 0) : Int) == (((List.getD t4.1.2.2.2.1 (Int.toNat t4.2.2.2.2.2.2.1) tPart.dflt).2).1) else false, t4.2.2.2.1 ++ r5.1, t4.2.2.2.2.1, t4.2.2.2.2.2.1, IntKind.i64.wrap (t4.2.2.2.2.2.2.1 + (1 : Int)), ())
                    else
                      none
                  else
                    none
                else
                  none
            else
              none
          else
            none
        else
          J1 (t4.1, t4.2.1, t4.2.2.1, t4.2.2.2.1, ())) (x.1, x.2.1, true, ([] : List DAlarm), x.2.1.2.2.2.2.2.1, ((List.length x.2.1.2.2.2.2.2.1 : Nat) : Int), (0 : Int), ())) (fun (t2 : DWorld × DTask × Bool × List DAlarm × Unit) =>
      Option.bind ((if (((!t2.2.2.1) : Bool) == false) = true then F_impl_sameAlarms k (t2.2.1.2.2.2.2.2.2.1, t2.2.2.2.1, ()) else some (false, ()))) fun (r6 : Bool × Unit) =>
      some (if (!t2.2.2.1) = true then true else r6.1, ()))
def F_impl_deedFits (k : Nat) (x : DWorld × DTask × DDeed × Unit) : Option (Bool × Unit) :=
  if ((x.2.1.1 : Int) == (1 : Int)) = true then
    if ((x.2.1.2.1 : Int) == (2 : Int)) = true then
      Option.bind (F_impl_FindAlarm k (x.1.2.2.2.1, x.2.1.2.2.1.1, ())) fun (r1 : DAlarm × Bool × Unit) =>
      Option.bind ((if ((((x.2.2.1.1 : Int) == (1 : Int)) : Bool) == true) = true then F_impl_SameSet k (x.2.2.1.2.2.1.1, x.2.1.2.2.1.1, ()) else some (false, ()))) fun (r2 : Bool × Unit) =>
      Option.bind ((if (((if (if ((x.2.2.1.1 : Int) == (1 : Int)) = true then r2.1 else false) = true then r1.2.1 else false) : Bool) == true) = true then F_impl_SameAlarm k (r1.1, x.2.1.2.2.1, ()) else some (false, ()))) fun (r3 : Bool × Unit) =>
      some (if (if (if ((x.2.2.1.1 : Int) == (1 : Int)) = true then r2.1 else false) = true then r1.2.1 else false) = true then r3.1 else false, ())
    else
      Option.bind ((if ((((x.2.2.1.1 : Int) == (1 : Int)) : Bool) == true) = true then F_impl_SameAlarm k (x.2.2.1.2.2.1, x.2.1.2.2.1, ()) else some (false, ()))) fun (r4 : Bool × Unit) =>
      Option.bind ((if (((if ((x.2.2.1.1 : Int) == (1 : Int)) = true then r4.1 else false) : Bool) == true) = true then F_impl_Fits k (x.1.1, x.2.1.2.2.1, ()) else some (false, ()))) fun (r5 : Bool × Unit) =>
      some (if (if ((x.2.2.1.1 : Int) == (1 : Int)) = true then r4.1 else false) = true then r5.1 else false, ())
  else
    if ((x.2.1.1 : Int) == (2 : Int)) = true then
      Option.bind ((if ((((x.2.2.1.1 : Int) == (3 : Int)) : Bool) == true) = true then F_impl_SameSet k (x.2.2.1.2.2.2.1, x.2.1.2.2.2.1, ()) else some (false, ()))) fun (r6 : Bool × Unit) =>
      some (if ((x.2.2.1.1 : Int) == (3 : Int)) = true then r6.1 else false, ())
    else
      if ((x.2.1.1 : Int) == (3 : Int)) = true then
        Option.bind ((if ((((x.2.2.1.1 : Int) == (4 : Int)) : Bool) == true) = true then F_impl_snapRight k (x.1, x.2.1, ()) else some (false, ()))) fun (r7 : Bool × Unit) =>
        some (if ((x.2.2.1.1 : Int) == (4 : Int)) = true then r7.1 else false, ())
      else
        if ((x.2.1.1 : Int) == (4 : Int)) = true then
          some (if ((x.2.2.1.1 : Int) == (6 : Int)) = true then decide ((x.2.1.2.2.2.2.1 : Int) < x.1.1.1) else false, ())
        else
          if ((x.2.1.1 : Int) == (5 : Int)) = true then
            Option.bind ((if ((((x.2.2.1.1 : Int) == (7 : Int)) : Bool) == true) = true then F_impl_SameAlarm k (x.2.2.1.2.2.1, x.2.1.2.2.1, ()) else some (false, ()))) fun (r8 : Bool × Unit) =>
            some (if ((x.2.2.1.1 : Int) == (7 : Int)) = true then r8.1 else false, ())
          else
            some (if (if ((x.2.2.1.1 : Int) == (8 : Int)) = true then (x.2.2.1.2.2.2.2.2.1 : Int) == x.2.1.2.2.2.2.2.2.2.1 else false) = true then decide ((x.2.1.2.2.2.2.2.2.2.1 : Int) < x.1.2.2.2.2.2.2.2.2.1) else false, ())
def F_impl_tasksRight (k : Nat) (x : DWorld × Unit) : Option (Bool × Unit) :=
  joinC (fun J1 =>
    loopN k (fun G3 (t4 : DWorld × List DDeed × Int × Int × Unit) =>
      if (decide ((t4.2.2.2.1 : Int) < t4.2.2.1)) = true then
        if (decide (0 ≤ t4.2.2.2.1 ∧ t4.2.2.2.1 < ((List.length t4.2.1 : Nat) : Int))) = true then
          Option.bind (F_impl_DeedOk k (List.getD t4.2.1 (Int.toNat t4.2.2.2.1) tDeed.dflt, ())) fun (r5 : Bool × Unit) =>
          if (if (if (if (!r5.1) = true then true else decide (((((((((((((List.getD t4.2.1 (Int.toNat t4.2.2.2.1) tDeed.dflt).2).2).2).2).2).2).2).2).2).1) : Int) ≥ t4.1.2.1)) = true then true else decide ((((((((((((((List.getD t4.2.1 (Int.toNat t4.2.2.2.1) tDeed.dflt).2).2).2).2).2).2).2).2).2).2).1) : Int) ≥ t4.1.2.1)) = true then true else decide ((((((((((((((List.getD t4.2.1 (Int.toNat t4.2.2.2.1) tDeed.dflt).2).2).2).2).2).2).2).2).2).2).2) : Int) ≥ t4.1.2.1)) = true then
            some (false, ())
          else
            G3 (t4.1, t4.2.1, t4.2.2.1, IntKind.i64.wrap (t4.2.2.2.1 + (1 : Int)), ())
        else
          none
      else
        J1 (t4.1, ())) (x.1, x.1.2.2.2.2.2.2.2.2.2.2.2.2.2, ((List.length x.1.2.2.2.2.2.2.2.2.2.2.2.2.2 : Nat) : Int), (0 : Int), ())) (fun (t2 : DWorld × Unit) =>
    loopN k (fun G6 (t7 : DWorld × List DTask × Int × Int × Unit) =>
      if (decide ((t7.2.2.2.1 : Int) < t7.2.2.1)) = true then
        if (decide (0 ≤ t7.2.2.2.1 ∧ t7.2.2.2.1 < ((List.length t7.2.1 : Nat) : Int))) = true then
          Option.bind (F_impl_TaskOk k (List.getD t7.2.1 (Int.toNat t7.2.2.2.1) tTask.dflt, t7.2.2.2.1, ())) fun (r8 : Bool × Unit) =>
          if (!r8.1) = true then
            some (false, ())
          else
            if ((((List.getD t7.2.1 (Int.toNat t7.2.2.2.1) tTask.dflt).1) : Int) == (0 : Int)) = true then
              G6 (t7.1, t7.2.1, t7.2.2.1, IntKind.i64.wrap (t7.2.2.2.1 + (1 : Int)), ())
            else
              if (decide (((((((((((List.getD t7.2.1 (Int.toNat t7.2.2.2.1) tTask.dflt).2).2).2).2).2).2).2).2) : Int) ≥ ((List.length t7.1.2.2.2.2.2.2.2.2.2.2.2.2.2 : Nat) : Int))) = true then
                some (false, ())
              else
                if (decide (0 ≤ (((((((((List.getD t7.2.1 (Int.toNat t7.2.2.2.1) tTask.dflt).2).2).2).2).2).2).2).2) ∧ (((((((((List.getD t7.2.1 (Int.toNat t7.2.2.2.1) tTask.dflt).2).2).2).2).2).2).2).2) < ((List.length t7.1.2.2.2.2.2.2.2.2.2.2.2.2.2 : Nat) : Int))) = true then
                  Option.bind ((if (((if (if (((((List.getD t7.1.2.2.2.2.2.2.2.2.2.2.2.2.2 (Int.toNat (((((((((List.getD t7.2.1 (Int.toNat t7.2.2.2.1) tTask.dflt).2).2).2).2).2).2).2).2)) tDeed.dflt).2).1) : Int) != t7.2.2.2.1) = true then true else (((((((((((((List.getD t7.1.2.2.2.2.2.2.2.2.2.2.2.2.2 (Int.toNat (((((((((List.getD t7.2.1 (Int.toNat t7.2.2.2.1) tTask.dflt).2).2).2).2).2).2).2).2)) tDeed.dflt).2).2).2).2).2).2).2).2).2).2).2) : Int) != (-1 : Int)) = true then true else !((((((((((((((((List.getD t7.1.2.2.2.2.2.2.2.2.2.2.2.2.2 (Int.toNat (((((((((List.getD t7.2.1 (Int.toNat t7.2.2.2.1) tTask.dflt).2).2).2).2).2).2).2).2)) tDeed.dflt).2).2).2).2).2).2).2).2).2).2).1) : Int) != (-1 : Int)) : Bool) == (if ((((List.getD t7.2.1 (Int.toNat t7.2.2.2.1) tTask.dflt).1) : Int) == (1 : Int)) = true then ((((List.getD t7.2.1 (Int.toNat t7.2.2.2.1) tTask.dflt).2).1) : Int) == (2 : Int) else false))) : Bool) == false) = true then F_impl_deedFits k (t7.1, List.getD t7.2.1 (Int.toNat t7.2.2.2.1) tTask.dflt, List.getD t7.1.2.2.2.2.2.2.2.2.2.2.2.2.2 (Int.toNat (((((((((List.getD t7.2.1 (Int.toNat t7.2.2.2.1) tTask.dflt).2).2).2).2).2).2).2).2)) tDeed.dflt, ()) else some (false, ()))) fun (r9 : Bool × Unit) =>
                  if (if (if (if (((((List.getD t7.1.2.2.2.2.2.2.2.2.2.2.2.2.2 (Int.toNat (((((((((List.getD t7.2.1 (Int.toNat t7.2.2.2.1) tTask.dflt).2).2).2).2).2).2).2).2)) tDeed.dflt).2).1) : Int) != t7.2.2.2.1) = true then true else (((((((((((((List.getD t7.1.2.2.2.2.2.2.2.2.2.2.2.2.2 (Int.toNat (((((((((List.getD t7.2.1 (Int.toNat t7.2.2.2.1) tTask.dflt).2).2).2).2).2).2).2).2)) tDeed.dflt).2).2).2).2).2).2).2).2).2).2).2) : Int) != (-1 : Int)) = true then true else !((((((((((((((((List.getD t7.1.2.2.2.2.2.2.2.2.2.2.2.2.2 (Int.toNat (((((((((List.getD t7.2.1 (Int.toNat t7.2.2.2.1) tTask.dflt).2).2).2).2).2).2).2).2)) tDeed.dflt).2).2).2).2).2).2).2).2).2).2).1) : Int) != (-1 : Int)) : Bool) == (if ((((List.getD t7.2.1 (Int.toNat t7.2.2.2.1) tTask.dflt).1) : Int) == (1 : Int)) = true then ((((List.getD t7.2.1 (Int.toNat t7.2.2.2.1) tTask.dflt).2).1) : Int) == (2 : Int) else false))) = true then true else !r9.1) = true then
                    some (false, ())
                  else
                    G6 (t7.1, t7.2.1, t7.2.2.1, IntKind.i64.wrap (t7.2.2.2.1 + (1 : Int)), ())
                else
                  none
        else
          none
      else
        some (true, ())) (t2.1, t2.1.2.2.2.2.2.2.2.2.2.2.2.2.1, ((List.length t2.1.2.2.2.2.2.2.2.2.2.2.2.2.1 : Nat) : Int), (0 : Int), ()))
def F_impl_partAt (k : Nat) (x : DTask × Int × Bool × Unit) : Option (Int × Unit) :=
  if (if (decide ((x.2.1 : Int) < (1 : Int))) = true then true else !x.2.2.1) = true then
    some ((-1 : Int), ())
  else
    if ((x.1.1 : Int) == (1 : Int)) = true then
      Option.bind (F_impl_Finger k (x.1.2.2.1.1, ())) fun (r1 : Int × Unit) =>
      Option.bind (F_impl_PartOf k (r1.1, x.2.1, ())) fun (r2 : Int × Unit) =>
      some (r2.1, ())
    else
      if ((x.1.1 : Int) == (2 : Int)) = true then
        Option.bind (F_impl_Finger k (x.1.2.2.2.1, ())) fun (r3 : Int × Unit) =>
        Option.bind (F_impl_PartOf k (r3.1, x.2.1, ())) fun (r4 : Int × Unit) =>
        some (r4.1, ())
      else
        if (if ((x.1.1 : Int) == (3 : Int)) = true then true else (x.1.1 : Int) == (4 : Int)) = true then
          some (x.1.2.2.2.2.1, ())
        else
          some ((-1 : Int), ())
def F_impl_HoldsPart (k : Nat) (x : DTask × Int × Unit) : Option (Int × Unit) :=
  Option.bind (F_impl_partAt k (x.1, x.2.1, if ((x.1.2.1 : Int) == (1 : Int)) = true then true else if ((x.1.1 : Int) == (1 : Int)) = true then (x.1.2.1 : Int) == (2 : Int) else false, ())) fun (r1 : Int × Unit) =>
  some (r1.1, ())
def F_impl_HoldsGroups (k : Nat) (x : DTask × Unit) : Option (Bool × Unit) :=
  some (if (if ((x.1.1 : Int) == (5 : Int)) = true then true else (x.1.1 : Int) == (6 : Int)) = true then (x.1.2.1 : Int) == (1 : Int) else false, ())
def F_impl_locksRight (k : Nat) (x : DWorld × Unit) : Option (Bool × Unit) :=
  joinC (fun J1 =>
    loopN k (fun G3 (t4 : DWorld × List DPart × Int × Int × Unit) =>
      if (decide ((t4.2.2.2.1 : Int) < t4.2.2.1)) = true then
        if (decide (0 ≤ t4.2.2.2.1 ∧ t4.2.2.2.1 < ((List.length t4.2.1 : Nat) : Int))) = true then
          loopN k (fun G5 (t6 : DWorld × Int × DPart × List DPart × Int × Int × List DTask × Int × Int × Unit) =>
            if (decide ((t6.2.2.2.2.2.2.2.2.1 : Int) < t6.2.2.2.2.2.2.2.1)) = true then
              if (decide (0 ≤ t6.2.2.2.2.2.2.2.2.1 ∧ t6.2.2.2.2.2.2.2.2.1 < ((List.length t6.2.2.2.2.2.2.1 : Nat) : Int))) = true then
                Option.bind (F_impl_HoldsPart k (List.getD t6.2.2.2.2.2.2.1 (Int.toNat t6.2.2.2.2.2.2.2.2.1) tTask.dflt, ((List.length t6.1.2.2.2.1 : Nat) : Int), ())) fun (r7 : Int × Unit) =>
                if (!((((r7.1 : Int) == t6.2.1) : Bool) == ((t6.2.2.1.1 : Int) == t6.2.2.2.2.2.2.2.2.1))) = true then
                  some (false, ())
                else
                  G5 (t6.1, t6.2.1, t6.2.2.1, t6.2.2.2.1, t6.2.2.2.2.1, t6.2.2.2.2.2.1, t6.2.2.2.2.2.2.1, t6.2.2.2.2.2.2.2.1, IntKind.i64.wrap (t6.2.2.2.2.2.2.2.2.1 + (1 : Int)), ())
              else
                none
            else
              G3 (t6.1, t6.2.2.2.1, t6.2.2.2.2.1, IntKind.i64.wrap (t6.2.2.2.2.2.1 + (1 : Int)), ())) (t4.1, t4.2.2.2.1, List.getD t4.2.1 (Int.toNat t4.2.2.2.1) tPart.dflt, t4.2.1, t4.2.2.1, t4.2.2.2.1, t4.1.2.2.2.2.2.2.2.2.2.2.2.2.1, ((List.length t4.1.2.2.2.2.2.2.2.2.2.2.2.2.1 : Nat) : Int), (0 : Int), ())
        else
          none
      else
        J1 (t4.1, ())) (x.1, x.1.2.2.2.1, ((List.length x.1.2.2.2.1 : Nat) : Int), (0 : Int), ())) (fun (t2 : DWorld × Unit) =>
    joinC (fun J8 =>
      loopN k (fun G10 (t11 : DWorld × List DTask × Int × Int × Unit) =>
        if (decide ((t11.2.2.2.1 : Int) < t11.2.2.1)) = true then
          if (decide (0 ≤ t11.2.2.2.1 ∧ t11.2.2.2.1 < ((List.length t11.2.1 : Nat) : Int))) = true then
            Option.bind (F_impl_HoldsGroups k (List.getD t11.2.1 (Int.toNat t11.2.2.2.1) tTask.dflt, ())) fun (r12 : Bool × Unit) =>
            if (!((r12.1 : Bool) == ((t11.1.2.2.2.2.2.2.1 : Int) == t11.2.2.2.1))) = true then
              some (false, ())
            else
              G10 (t11.1, t11.2.1, t11.2.2.1, IntKind.i64.wrap (t11.2.2.2.1 + (1 : Int)), ())
          else
            none
        else
          J8 (t11.1, ())) (t2.1, t2.1.2.2.2.2.2.2.2.2.2.2.2.2.1, ((List.length t2.1.2.2.2.2.2.2.2.2.2.2.2.2.1 : Nat) : Int), (0 : Int), ())) (fun (t9 : DWorld × Unit) =>
      Option.bind (F_impl_in k (t9.1.2.2.2.2.2.2.1, (-1 : Int), (4 : Int), ())) fun (r13 : Bool × Unit) =>
      some (r13.1, ())))
def F_impl_hasText (k : Nat) (x : List ByteArray × ByteArray × Unit) : Option (Bool × Unit) :=
  loopN k (fun G1 (t2 : ByteArray × List ByteArray × Int × Int × Unit) =>
    if (decide ((t2.2.2.2.1 : Int) < t2.2.2.1)) = true then
      if (decide (0 ≤ t2.2.2.2.1 ∧ t2.2.2.2.1 < ((List.length t2.2.1 : Nat) : Int))) = true then
        if (ByteArray.toList (List.getD t2.2.1 (Int.toNat t2.2.2.2.1) ByteArray.empty) == ByteArray.toList t2.1) = true then
          some (true, ())
        else
          G1 (t2.1, t2.2.1, t2.2.2.1, IntKind.i64.wrap (t2.2.2.2.1 + (1 : Int)), ())
      else
        none
    else
      some (false, ())) (x.2.1, x.1, ((List.length x.1 : Nat) : Int), (0 : Int), ())
def F_impl_Project (k : Nat) (x : List DLabel × List ByteArray × Unit) : Option (List DLabel × Unit) :=
  loopN k (fun G1 (t2 : List ByteArray × List DLabel × List DLabel × Int × Int × Unit) =>
    if (decide ((t2.2.2.2.2.1 : Int) < t2.2.2.2.1)) = true then
      if (decide (0 ≤ t2.2.2.2.2.1 ∧ t2.2.2.2.2.1 < ((List.length t2.2.2.1 : Nat) : Int))) = true then
        Option.bind (F_impl_hasText k (t2.1, (List.getD t2.2.2.1 (Int.toNat t2.2.2.2.2.1) tLabel.dflt).1, ())) fun (r3 : Bool × Unit) =>
        if r3.1 = true then
          if (decide (List.length t2.2.1 + List.length ([List.getD t2.2.2.1 (Int.toNat t2.2.2.2.2.1) tLabel.dflt] : List DLabel) < 4294967296)) = true then
            G1 (t2.1, t2.2.1 ++ ([List.getD t2.2.2.1 (Int.toNat t2.2.2.2.2.1) tLabel.dflt] : List DLabel), t2.2.2.1, t2.2.2.2.1, IntKind.i64.wrap (t2.2.2.2.2.1 + (1 : Int)), ())
          else
            none
        else
          G1 (t2.1, t2.2.1, t2.2.2.1, t2.2.2.2.1, IntKind.i64.wrap (t2.2.2.2.2.1 + (1 : Int)), ())
      else
        none
    else
      some (t2.2.1, ())) (x.2.1, ([] : List DLabel), x.1, ((List.length x.1 : Nat) : Int), (0 : Int), ())
def F_impl_KeyOf (k : Nat) (x : DAlarm × List ByteArray × Unit) : Option (List DLabel × Unit) :=
  Option.bind (F_impl_Project k (x.1.1, x.2.1, ())) fun (r1 : List DLabel × Unit) =>
  some (r1.1, ())
def F_impl_SetLess (k : Nat) (x : List DLabel × List DLabel × Unit) : Option (Bool × Unit) :=
  joinC (fun J1 =>
    loopN k (fun G3 (t4 : List DLabel × List DLabel × Int × Unit) =>
      if (if (decide ((t4.2.2.1 : Int) < ((List.length t4.1 : Nat) : Int))) = true then decide ((t4.2.2.1 : Int) < ((List.length t4.2.1 : Nat) : Int)) else false) = true then
        if (decide (0 ≤ t4.2.2.1 ∧ t4.2.2.1 < ((List.length t4.1 : Nat) : Int))) = true then
          if (decide (0 ≤ t4.2.2.1 ∧ t4.2.2.1 < ((List.length t4.2.1 : Nat) : Int))) = true then
            if (!(ByteArray.toList ((List.getD t4.1 (Int.toNat t4.2.2.1) tLabel.dflt).1) == ByteArray.toList ((List.getD t4.2.1 (Int.toNat t4.2.2.1) tLabel.dflt).1))) = true then
              if (decide (0 ≤ t4.2.2.1 ∧ t4.2.2.1 < ((List.length t4.1 : Nat) : Int))) = true then
                if (decide (0 ≤ t4.2.2.1 ∧ t4.2.2.1 < ((List.length t4.2.1 : Nat) : Int))) = true then
                  some (Op.bytesLess (ByteArray.toList ((List.getD t4.1 (Int.toNat t4.2.2.1) tLabel.dflt).1)) (ByteArray.toList ((List.getD t4.2.1 (Int.toNat t4.2.2.1) tLabel.dflt).1)), ())
                else
                  none
              else
                none
            else
              if (decide (0 ≤ t4.2.2.1 ∧ t4.2.2.1 < ((List.length t4.1 : Nat) : Int))) = true then
                if (decide (0 ≤ t4.2.2.1 ∧ t4.2.2.1 < ((List.length t4.2.1 : Nat) : Int))) = true then
                  if (!(ByteArray.toList ((List.getD t4.1 (Int.toNat t4.2.2.1) tLabel.dflt).2) == ByteArray.toList ((List.getD t4.2.1 (Int.toNat t4.2.2.1) tLabel.dflt).2))) = true then
                    if (decide (0 ≤ t4.2.2.1 ∧ t4.2.2.1 < ((List.length t4.1 : Nat) : Int))) = true then
                      if (decide (0 ≤ t4.2.2.1 ∧ t4.2.2.1 < ((List.length t4.2.1 : Nat) : Int))) = true then
                        some (Op.bytesLess (ByteArray.toList ((List.getD t4.1 (Int.toNat t4.2.2.1) tLabel.dflt).2)) (ByteArray.toList ((List.getD t4.2.1 (Int.toNat t4.2.2.1) tLabel.dflt).2)), ())
                      else
                        none
                    else
                      none
                  else
                    G3 (t4.1, t4.2.1, IntKind.i64.wrap (t4.2.2.1 + (1 : Int)), ())
                else
                  none
              else
                none
          else
            none
        else
          none
      else
        J1 (t4.1, t4.2.1, ())) (x.1, x.2.1, (0 : Int), ())) (fun (t2 : List DLabel × List DLabel × Unit) =>
    some (decide ((((List.length t2.1 : Nat) : Int) : Int) < ((List.length t2.2.1 : Nat) : Int)), ()))
def F_impl_keyedOk (k : Nat) (x : List DAlarm × List DLabel × List ByteArray × Unit) : Option (Bool × Unit) :=
  loopN k (fun G1 (t2 : List DAlarm × List DLabel × List ByteArray × List DAlarm × Int × Int × Unit) =>
    if (decide ((t2.2.2.2.2.2.1 : Int) < t2.2.2.2.2.1)) = true then
      if (decide (0 ≤ t2.2.2.2.2.2.1 ∧ t2.2.2.2.2.2.1 < ((List.length t2.2.2.2.1 : Nat) : Int))) = true then
        Option.bind (F_impl_AlarmOk k (List.getD t2.2.2.2.1 (Int.toNat t2.2.2.2.2.2.1) tAlarm.dflt, ())) fun (r3 : Bool × Unit) =>
        Option.bind ((if (((!r3.1) : Bool) == false) = true then F_impl_KeyOf k (List.getD t2.2.2.2.1 (Int.toNat t2.2.2.2.2.2.1) tAlarm.dflt, t2.2.2.1, ()) else some (([] : List DLabel), ()))) fun (r4 : List DLabel × Unit) =>
        Option.bind ((if (((!r3.1) : Bool) == false) = true then F_impl_SameSet k (r4.1, t2.2.1, ()) else some (false, ()))) fun (r5 : Bool × Unit) =>
        if (!((((if (!r3.1) = true then true else !r5.1) : Bool) == false) && (((decide ((t2.2.2.2.2.2.1 : Int) > (0 : Int))) : Bool) == true)) || (decide (0 ≤ (IntKind.i64.wrap (t2.2.2.2.2.2.1 - (1 : Int))) ∧ (IntKind.i64.wrap (t2.2.2.2.2.2.1 - (1 : Int))) < ((List.length t2.1 : Nat) : Int)))) = true then
          Option.bind ((if ((((if (!r3.1) = true then true else !r5.1) : Bool) == false) && (((decide ((t2.2.2.2.2.2.1 : Int) > (0 : Int))) : Bool) == true)) = true then F_impl_SetLess k ((List.getD t2.1 (Int.toNat (IntKind.i64.wrap (t2.2.2.2.2.2.1 - (1 : Int)))) tAlarm.dflt).1, (List.getD t2.2.2.2.1 (Int.toNat t2.2.2.2.2.2.1) tAlarm.dflt).1, ()) else some (false, ()))) fun (r6 : Bool × Unit) =>
          if (if (if (!r3.1) = true then true else !r5.1) = true then true else if (decide ((t2.2.2.2.2.2.1 : Int) > (0 : Int))) = true then !r6.1 else false) = true then
            some (false, ())
          else
            G1 (t2.1, t2.2.1, t2.2.2.1, t2.2.2.2.1, t2.2.2.2.2.1, IntKind.i64.wrap (t2.2.2.2.2.2.1 + (1 : Int)), ())
        else
          none
      else
        none
    else
      some (true, ())) (x.1, x.2.1, x.2.2.1, x.1, ((List.length x.1 : Nat) : Int), (0 : Int), ())
def F_impl_GroupOk (k : Nat) (x : DGroup × List ByteArray × Unit) : Option (Bool × Unit) :=
  Option.bind ((if (((decide ((x.1.1 : Int) < (0 : Int))) : Bool) == false) = true then F_impl_SetOk k (x.1.2.1, ()) else some (false, ()))) fun (r1 : Bool × Unit) =>
  Option.bind ((if (((if (decide ((x.1.1 : Int) < (0 : Int))) = true then true else !r1.1) : Bool) == false) = true then F_impl_in k (x.1.2.2.1, (0 : Int), (99999 : Int), ()) else some (false, ()))) fun (r2 : Bool × Unit) =>
  Option.bind ((if ((((if (if (decide ((x.1.1 : Int) < (0 : Int))) = true then true else !r1.1) = true then true else !r2.1) : Bool) == false) && ((((x.1.2.2.2.1 : Int) != (-1 : Int)) : Bool) == true)) = true then F_impl_in k (x.1.2.2.2.1, x.1.2.2.1, (99999 : Int), ()) else some (false, ()))) fun (r3 : Bool × Unit) =>
  if (if (if (if (decide ((x.1.1 : Int) < (0 : Int))) = true then true else !r1.1) = true then true else !r2.1) = true then true else if ((x.1.2.2.2.1 : Int) != (-1 : Int)) = true then !r3.1 else false) = true then
    some (false, ())
  else
    Option.bind ((if (((decide ((((List.length x.1.2.2.2.2 : Nat) : Int) : Int) > (0 : Int))) : Bool) == true) = true then F_impl_keyedOk k (x.1.2.2.2.2, x.1.2.1, x.2.1, ()) else some (false, ()))) fun (r4 : Bool × Unit) =>
    some (if (decide ((((List.length x.1.2.2.2.2 : Nat) : Int) : Int) > (0 : Int))) = true then r4.1 else false, ())
def F_impl_GroupOf (k : Nat) (x : List DGroup × List DLabel × Unit) : Option (Int × Unit) :=
  loopN k (fun G1 (t2 : List DLabel × List DGroup × Int × Int × Unit) =>
    if (decide ((t2.2.2.2.1 : Int) < t2.2.2.1)) = true then
      if (decide (0 ≤ t2.2.2.2.1 ∧ t2.2.2.2.1 < ((List.length t2.2.1 : Nat) : Int))) = true then
        Option.bind (F_impl_SameSet k (((List.getD t2.2.1 (Int.toNat t2.2.2.2.1) tGroup.dflt).2).1, t2.1, ())) fun (r3 : Bool × Unit) =>
        if r3.1 = true then
          some (t2.2.2.2.1, ())
        else
          G1 (t2.1, t2.2.1, t2.2.2.1, IntKind.i64.wrap (t2.2.2.2.1 + (1 : Int)), ())
      else
        none
    else
      some ((-1 : Int), ())) (x.2.1, x.1, ((List.length x.1 : Nat) : Int), (0 : Int), ())
def F_impl_GroupsOk (k : Nat) (x : List DGroup × List ByteArray × Unit) : Option (Bool × Unit) :=
  loopN k (fun G1 (t2 : List DGroup × List ByteArray × List DGroup × Int × Int × Unit) =>
    if (decide ((t2.2.2.2.2.1 : Int) < t2.2.2.2.1)) = true then
      if (decide (0 ≤ t2.2.2.2.2.1 ∧ t2.2.2.2.2.1 < ((List.length t2.2.2.1 : Nat) : Int))) = true then
        Option.bind ((if (((decide ((t2.2.2.2.2.1 : Int) ≥ (12 : Int))) : Bool) == false) = true then F_impl_GroupOk k (List.getD t2.2.2.1 (Int.toNat t2.2.2.2.2.1) tGroup.dflt, t2.2.1, ()) else some (false, ()))) fun (r3 : Bool × Unit) =>
        if (!((((if (decide ((t2.2.2.2.2.1 : Int) ≥ (12 : Int))) = true then true else !r3.1) : Bool) == false) && (((decide ((t2.2.2.2.2.1 : Int) > (0 : Int))) : Bool) == true)) || (decide (0 ≤ (IntKind.i64.wrap (t2.2.2.2.2.1 - (1 : Int))) ∧ (IntKind.i64.wrap (t2.2.2.2.2.1 - (1 : Int))) < ((List.length t2.1 : Nat) : Int)))) = true then
          Option.bind ((if (((if (if (decide ((t2.2.2.2.2.1 : Int) ≥ (12 : Int))) = true then true else !r3.1) = true then true else if (decide ((t2.2.2.2.2.1 : Int) > (0 : Int))) = true then decide ((((List.getD t2.1 (Int.toNat (IntKind.i64.wrap (t2.2.2.2.2.1 - (1 : Int)))) tGroup.dflt).1) : Int) ≥ ((List.getD t2.2.2.1 (Int.toNat t2.2.2.2.2.1) tGroup.dflt).1)) else false) : Bool) == false) = true then F_impl_GroupOf k (t2.1, ((List.getD t2.2.2.1 (Int.toNat t2.2.2.2.2.1) tGroup.dflt).2).1, ()) else some (0, ()))) fun (r4 : Int × Unit) =>
          if (if (if (if (decide ((t2.2.2.2.2.1 : Int) ≥ (12 : Int))) = true then true else !r3.1) = true then true else if (decide ((t2.2.2.2.2.1 : Int) > (0 : Int))) = true then decide ((((List.getD t2.1 (Int.toNat (IntKind.i64.wrap (t2.2.2.2.2.1 - (1 : Int)))) tGroup.dflt).1) : Int) ≥ ((List.getD t2.2.2.1 (Int.toNat t2.2.2.2.2.1) tGroup.dflt).1)) else false) = true then true else (r4.1 : Int) != t2.2.2.2.2.1) = true then
            some (false, ())
          else
            G1 (t2.1, t2.2.1, t2.2.2.1, t2.2.2.2.1, IntKind.i64.wrap (t2.2.2.2.2.1 + (1 : Int)), ())
        else
          none
      else
        none
    else
      some (true, ())) (x.1, x.2.1, x.1, ((List.length x.1 : Nat) : Int), (0 : Int), ())
def F_impl_Before (k : Nat) (x : DTimer × DTimer × Unit) : Option (Bool × Unit) :=
  some (if (decide ((x.1.1 : Int) < x.2.1.1)) = true then true else if ((x.1.1 : Int) == x.2.1.1) = true then decide ((x.1.2 : Int) < x.2.1.2) else false, ())
def F_impl_HeapOk (k : Nat) (x : List DTimer × Unit) : Option (Bool × Unit) :=
  joinC (fun J1 =>
    loopN k (fun G3 (t4 : List DTimer × List DTimer × Int × Int × Unit) =>
      if (decide ((t4.2.2.2.1 : Int) < t4.2.2.1)) = true then
        if (decide (0 ≤ t4.2.2.2.1 ∧ t4.2.2.2.1 < ((List.length t4.2.1 : Nat) : Int))) = true then
          if (!((((if (decide ((((List.getD t4.2.1 (Int.toNat t4.2.2.2.1) tTimer.dflt).1) : Int) < (0 : Int))) = true then true else decide ((((List.getD t4.2.1 (Int.toNat t4.2.2.2.1) tTimer.dflt).2) : Int) < (0 : Int))) : Bool) == false) && (((decide ((t4.2.2.2.1 : Int) > (0 : Int))) : Bool) == true)) || (decide ((2 : Int) ≠ 0))) = true then
            if (!((((if (decide ((((List.getD t4.2.1 (Int.toNat t4.2.2.2.1) tTimer.dflt).1) : Int) < (0 : Int))) = true then true else decide ((((List.getD t4.2.1 (Int.toNat t4.2.2.2.1) tTimer.dflt).2) : Int) < (0 : Int))) : Bool) == false) && (((decide ((t4.2.2.2.1 : Int) > (0 : Int))) : Bool) == true)) || (decide (0 ≤ (IntKind.i64.wrap (Int.tdiv (IntKind.i64.wrap (t4.2.2.2.1 - (1 : Int))) (2 : Int))) ∧ (IntKind.i64.wrap (Int.tdiv (IntKind.i64.wrap (t4.2.2.2.1 - (1 : Int))) (2 : Int))) < ((List.length t4.1 : Nat) : Int)))) = true then
              Option.bind ((if ((((if (decide ((((List.getD t4.2.1 (Int.toNat t4.2.2.2.1) tTimer.dflt).1) : Int) < (0 : Int))) = true then true else decide ((((List.getD t4.2.1 (Int.toNat t4.2.2.2.1) tTimer.dflt).2) : Int) < (0 : Int))) : Bool) == false) && (((decide ((t4.2.2.2.1 : Int) > (0 : Int))) : Bool) == true)) = true then F_impl_Before k (List.getD t4.2.1 (Int.toNat t4.2.2.2.1) tTimer.dflt, List.getD t4.1 (Int.toNat (IntKind.i64.wrap (Int.tdiv (IntKind.i64.wrap (t4.2.2.2.1 - (1 : Int))) (2 : Int)))) tTimer.dflt, ()) else some (false, ()))) fun (r5 : Bool × Unit) =>
              if (if (if (decide ((((List.getD t4.2.1 (Int.toNat t4.2.2.2.1) tTimer.dflt).1) : Int) < (0 : Int))) = true then true else decide ((((List.getD t4.2.1 (Int.toNat t4.2.2.2.1) tTimer.dflt).2) : Int) < (0 : Int))) = true then true else if (decide ((t4.2.2.2.1 : Int) > (0 : Int))) = true then r5.1 else false) = true then
                some (false, ())
              else
                G3 (t4.1, t4.2.1, t4.2.2.1, IntKind.i64.wrap (t4.2.2.2.1 + (1 : Int)), ())
            else
              none
          else
            none
        else
          none
      else
        J1 (t4.1, ())) (x.1, x.1, ((List.length x.1 : Nat) : Int), (0 : Int), ())) (fun (t2 : List DTimer × Unit) =>
    some (decide ((((List.length t2.1 : Nat) : Int) : Int) ≤ (16 : Int)), ()))
def F_impl_NextDue (k : Nat) (x : DGroup × Int × Int × Unit) : Option (Int × Unit) :=
  if ((x.1.2.2.2.1 : Int) == (-1 : Int)) = true then
    some (IntKind.i64.wrap (x.1.2.2.1 + x.2.1), ())
  else
    some (IntKind.i64.wrap (x.1.2.2.2.1 + x.2.2.1), ())
def F_impl_Due (k : Nat) (x : DConf × DGroup × Unit) : Option (Int × Unit) :=
  Option.bind (F_impl_NextDue k (x.2.1, x.1.2.2.2.1, x.1.2.2.2.2.1, ())) fun (r1 : Int × Unit) =>
  some (r1.1, ())
def F_impl_groupsRight (k : Nat) (x : DWorld × Unit) : Option (Bool × Unit) :=
  Option.bind (F_impl_GroupsOk k (x.1.2.2.2.2.2.2.2.1, x.1.1.2.2.2.2.2, ())) fun (r1 : Bool × Unit) =>
  Option.bind ((if (((!r1.1) : Bool) == false) = true then F_impl_HeapOk k (x.1.2.2.2.2.2.2.2.2.2.1, ()) else some (false, ()))) fun (r2 : Bool × Unit) =>
  if (if (!r1.1) = true then true else !r2.1) = true then
    some (false, ())
  else
    joinC (fun J3 =>
      loopN k (fun G5 (t6 : DWorld × List DGroup × Int × Int × Unit) =>
        if (decide ((t6.2.2.2.1 : Int) < t6.2.2.1)) = true then
          if (decide (0 ≤ t6.2.2.2.1 ∧ t6.2.2.2.1 < ((List.length t6.2.1 : Nat) : Int))) = true then
            if (if (if (decide ((((((List.getD t6.2.1 (Int.toNat t6.2.2.2.1) tGroup.dflt).2).2).1) : Int) > t6.1.2.2.1)) = true then true else decide (((((((List.getD t6.2.1 (Int.toNat t6.2.2.2.1) tGroup.dflt).2).2).2).1) : Int) > t6.1.2.2.1)) = true then true else decide ((((List.getD t6.2.1 (Int.toNat t6.2.2.2.1) tGroup.dflt).1) : Int) ≥ t6.1.2.2.2.2.2.2.2.2.1)) = true then
              some (false, ())
            else
              if (decide (0 ≤ (4 : Int) ∧ (4 : Int) < ((List.length t6.1.2.2.2.2.2.2.2.2.2.2.2.2.1 : Nat) : Int))) = true then
                if (!((((((List.getD t6.1.2.2.2.2.2.2.2.2.2.2.2.2.1 (Int.toNat (4 : Int)) tTask.dflt).1) : Int) == (6 : Int)) : Bool) == true) || (decide (0 ≤ (4 : Int) ∧ (4 : Int) < ((List.length t6.1.2.2.2.2.2.2.2.2.2.2.2.2.1 : Nat) : Int)))) = true then
                  joinC (fun J7 =>
                    loopN k (fun G9 (t10 : DWorld × DGroup × Bool × List DGroup × Int × Int × List DTimer × Int × Int × Unit) =>
                      if (decide ((t10.2.2.2.2.2.2.2.2.1 : Int) < t10.2.2.2.2.2.2.2.1)) = true then
                        if (decide (0 ≤ t10.2.2.2.2.2.2.2.2.1 ∧ t10.2.2.2.2.2.2.2.2.1 < ((List.length t10.2.2.2.2.2.2.1 : Nat) : Int))) = true then
                          Option.bind ((if (((t10.2.2.1 : Bool) == false) && ((((((List.getD t10.2.2.2.2.2.2.1 (Int.toNat t10.2.2.2.2.2.2.2.2.1) tTimer.dflt).2) : Int) == t10.2.1.1) : Bool) == true)) = true then F_impl_Due k (t10.1.1, t10.2.1, ()) else some (0, ()))) fun (r11 : Int × Unit) =>
                          G9 (t10.1, t10.2.1, if t10.2.2.1 = true then true else if ((((List.getD t10.2.2.2.2.2.2.1 (Int.toNat t10.2.2.2.2.2.2.2.2.1) tTimer.dflt).2) : Int) == t10.2.1.1) = true then (((List.getD t10.2.2.2.2.2.2.1 (Int.toNat t10.2.2.2.2.2.2.2.2.1) tTimer.dflt).1) : Int) == r11.1 else false, t10.2.2.2.1, t10.2.2.2.2.1, t10.2.2.2.2.2.1, t10.2.2.2.2.2.2.1, t10.2.2.2.2.2.2.2.1, IntKind.i64.wrap (t10.2.2.2.2.2.2.2.2.1 + (1 : Int)), ())
                        else
                          none
                      else
                        J7 (t10.1, t10.2.1, t10.2.2.1, t10.2.2.2.1, t10.2.2.2.2.1, t10.2.2.2.2.2.1, ())) (t6.1, List.getD t6.2.1 (Int.toNat t6.2.2.2.1) tGroup.dflt, if ((((List.getD t6.1.2.2.2.2.2.2.2.2.2.2.2.2.1 (Int.toNat (4 : Int)) tTask.dflt).1) : Int) == (6 : Int)) = true then ((((((((((List.getD t6.1.2.2.2.2.2.2.2.2.2.2.2.2.1 (Int.toNat (4 : Int)) tTask.dflt).2).2).2).2).2).2).2).1) : Int) == ((List.getD t6.2.1 (Int.toNat t6.2.2.2.1) tGroup.dflt).1) else false, t6.2.1, t6.2.2.1, t6.2.2.2.1, t6.1.2.2.2.2.2.2.2.2.2.1, ((List.length t6.1.2.2.2.2.2.2.2.2.2.1 : Nat) : Int), (0 : Int), ())) (fun (t8 : DWorld × DGroup × Bool × List DGroup × Int × Int × Unit) =>
                    if (!t8.2.2.1) = true then
                      some (false, ())
                    else
                      G5 (t8.1, t8.2.2.2.1, t8.2.2.2.2.1, IntKind.i64.wrap (t8.2.2.2.2.2.1 + (1 : Int)), ()))
                else
                  none
              else
                none
          else
            none
        else
          J3 (t6.1, ())) (x.1, x.1.2.2.2.2.2.2.2.1, ((List.length x.1.2.2.2.2.2.2.2.1 : Nat) : Int), (0 : Int), ())) (fun (t4 : DWorld × Unit) =>
      loopN k (fun G12 (t13 : DWorld × List DTimer × Int × Int × Unit) =>
        if (decide ((t13.2.2.2.1 : Int) < t13.2.2.1)) = true then
          if (decide (0 ≤ t13.2.2.2.1 ∧ t13.2.2.2.1 < ((List.length t13.2.1 : Nat) : Int))) = true then
            if (decide ((((List.getD t13.2.1 (Int.toNat t13.2.2.2.1) tTimer.dflt).2) : Int) ≥ t13.1.2.2.2.2.2.2.2.2.1)) = true then
              some (false, ())
            else
              if (decide (0 ≤ t13.2.2.2.1 ∧ t13.2.2.2.1 ≤ ((List.length t13.1.2.2.2.2.2.2.2.2.2.1 : Nat) : Int))) = true then
                loopN k (fun G14 (t15 : DWorld × DTimer × List DTimer × Int × Int × List DTimer × Int × Int × Unit) =>
                  if (decide ((t15.2.2.2.2.2.2.2.1 : Int) < t15.2.2.2.2.2.2.1)) = true then
                    if (decide (0 ≤ t15.2.2.2.2.2.2.2.1 ∧ t15.2.2.2.2.2.2.2.1 < ((List.length t15.2.2.2.2.2.1 : Nat) : Int))) = true then
                      if ((((List.getD t15.2.2.2.2.2.1 (Int.toNat t15.2.2.2.2.2.2.2.1) tTimer.dflt).2) : Int) == t15.2.1.2) = true then
                        some (false, ())
                      else
                        G14 (t15.1, t15.2.1, t15.2.2.1, t15.2.2.2.1, t15.2.2.2.2.1, t15.2.2.2.2.2.1, t15.2.2.2.2.2.2.1, IntKind.i64.wrap (t15.2.2.2.2.2.2.2.1 + (1 : Int)), ())
                    else
                      none
                  else
                    G12 (t15.1, t15.2.2.1, t15.2.2.2.1, IntKind.i64.wrap (t15.2.2.2.2.1 + (1 : Int)), ())) (t13.1, List.getD t13.2.1 (Int.toNat t13.2.2.2.1) tTimer.dflt, t13.2.1, t13.2.2.1, t13.2.2.2.1, List.take (Int.toNat t13.2.2.2.1) t13.1.2.2.2.2.2.2.2.2.2.1, ((List.length (List.take (Int.toNat t13.2.2.2.1) t13.1.2.2.2.2.2.2.2.2.2.1) : Nat) : Int), (0 : Int), ())
              else
                none
          else
            none
        else
          some (true, ())) (t4.1, t4.1.2.2.2.2.2.2.2.2.2.1, ((List.length t4.1.2.2.2.2.2.2.2.2.2.1 : Nat) : Int), (0 : Int), ()))
def F_impl_WorldOk (k : Nat) (x : DWorld × Unit) : Option (Bool × Unit) :=
  Option.bind (F_impl_ConfOk k (x.1.1, ())) fun (r1 : Bool × Unit) =>
  Option.bind ((if (((if (if (!r1.1) = true then true else decide ((x.1.2.1 : Int) < (0 : Int))) = true then true else decide ((x.1.2.2.2.2.2.2.2.2.1 : Int) < (0 : Int))) : Bool) == false) = true then F_impl_in k (x.1.2.2.1, (0 : Int), (99899 : Int), ()) else some (false, ()))) fun (r2 : Bool × Unit) =>
  if (if (if (if (if (!r1.1) = true then true else decide ((x.1.2.1 : Int) < (0 : Int))) = true then true else decide ((x.1.2.2.2.2.2.2.2.2.1 : Int) < (0 : Int))) = true then true else !r2.1) = true then true else (((List.length x.1.2.2.2.2.2.2.2.2.2.2.2.2.1 : Nat) : Int) : Int) != (5 : Int)) = true then
    some (false, ())
  else
    Option.bind (F_impl_storeRight k (x.1, ())) fun (r3 : Bool × Unit) =>
    Option.bind ((if ((r3.1 : Bool) == true) = true then F_impl_subsRight k (x.1.2.2.2.2.1, x.1.1, ()) else some (false, ()))) fun (r4 : Bool × Unit) =>
    Option.bind ((if (((if r3.1 = true then r4.1 else false) : Bool) == true) = true then F_impl_alarmsOk k (x.1.2.2.2.2.2.1, ()) else some (false, ()))) fun (r5 : Bool × Unit) =>
    Option.bind ((if (((if (if r3.1 = true then r4.1 else false) = true then r5.1 else false) : Bool) == true) = true then F_impl_alarmsOk k (x.1.2.2.2.2.2.2.2.2.2.2.2.1, ()) else some (false, ()))) fun (r6 : Bool × Unit) =>
    Option.bind ((if (((if (if (if r3.1 = true then r4.1 else false) = true then r5.1 else false) = true then r6.1 else false) : Bool) == true) = true then F_impl_tasksRight k (x.1, ()) else some (false, ()))) fun (r7 : Bool × Unit) =>
    Option.bind ((if (((if (if (if (if r3.1 = true then r4.1 else false) = true then r5.1 else false) = true then r6.1 else false) = true then r7.1 else false) : Bool) == true) = true then F_impl_locksRight k (x.1, ()) else some (false, ()))) fun (r8 : Bool × Unit) =>
    Option.bind ((if (((if (if (if (if (if r3.1 = true then r4.1 else false) = true then r5.1 else false) = true then r6.1 else false) = true then r7.1 else false) = true then r8.1 else false) : Bool) == true) = true then F_impl_groupsRight k (x.1, ()) else some (false, ()))) fun (r9 : Bool × Unit) =>
    some (if (if (if (if (if (if r3.1 = true then r4.1 else false) = true then r5.1 else false) = true then r6.1 else false) = true then r7.1 else false) = true then r8.1 else false) = true then r9.1 else false, ())
def F_laws_eqStringS (k : Nat) (x : List ByteArray × List ByteArray × Unit) : Option (Bool × Unit) :=
  if ((((List.length x.1 : Nat) : Int) : Int) != ((List.length x.2.1 : Nat) : Int)) = true then
    some (false, ())
  else
    loopN k (fun G1 (t2 : List ByteArray × List ByteArray × Int × Unit) =>
      if (decide ((t2.2.2.1 : Int) < ((List.length t2.1 : Nat) : Int))) = true then
        if (decide (0 ≤ t2.2.2.1 ∧ t2.2.2.1 < ((List.length t2.1 : Nat) : Int))) = true then
          if (decide (0 ≤ t2.2.2.1 ∧ t2.2.2.1 < ((List.length t2.2.1 : Nat) : Int))) = true then
            if (!(ByteArray.toList (List.getD t2.1 (Int.toNat t2.2.2.1) ByteArray.empty) == ByteArray.toList (List.getD t2.2.1 (Int.toNat t2.2.2.1) ByteArray.empty))) = true then
              some (false, ())
            else
              G1 (t2.1, t2.2.1, IntKind.i64.wrap (t2.2.2.1 + (1 : Int)), ())
          else
            none
        else
          none
      else
        some (true, ())) (x.1, x.2.1, (0 : Int), ())
def F_laws_eqConf (k : Nat) (x : DConf × DConf × Unit) : Option (Bool × Unit) :=
  if ((x.1.1 : Int) != x.2.1.1) = true then
    some (false, ())
  else
    if ((x.1.2.1 : Int) != x.2.1.2.1) = true then
      some (false, ())
    else
      if ((x.1.2.2.1 : Int) != x.2.1.2.2.1) = true then
        some (false, ())
      else
        if ((x.1.2.2.2.1 : Int) != x.2.1.2.2.2.1) = true then
          some (false, ())
        else
          if ((x.1.2.2.2.2.1 : Int) != x.2.1.2.2.2.2.1) = true then
            some (false, ())
          else
            Option.bind (F_laws_eqStringS k (x.1.2.2.2.2.2, x.2.1.2.2.2.2.2, ())) fun (r1 : Bool × Unit) =>
            if (!r1.1) = true then
              some (false, ())
            else
              some (true, ())
def F_laws_eqLabel (k : Nat) (x : DLabel × DLabel × Unit) : Option (Bool × Unit) :=
  if (!(ByteArray.toList x.1.1 == ByteArray.toList x.2.1.1)) = true then
    some (false, ())
  else
    if (!(ByteArray.toList x.1.2 == ByteArray.toList x.2.1.2)) = true then
      some (false, ())
    else
      some (true, ())
def F_laws_eqLabelS (k : Nat) (x : List DLabel × List DLabel × Unit) : Option (Bool × Unit) :=
  if ((((List.length x.1 : Nat) : Int) : Int) != ((List.length x.2.1 : Nat) : Int)) = true then
    some (false, ())
  else
    loopN k (fun G1 (t2 : List DLabel × List DLabel × Int × Unit) =>
      if (decide ((t2.2.2.1 : Int) < ((List.length t2.1 : Nat) : Int))) = true then
        if (decide (0 ≤ t2.2.2.1 ∧ t2.2.2.1 < ((List.length t2.1 : Nat) : Int))) = true then
          if (decide (0 ≤ t2.2.2.1 ∧ t2.2.2.1 < ((List.length t2.2.1 : Nat) : Int))) = true then
            Option.bind (F_laws_eqLabel k (List.getD t2.1 (Int.toNat t2.2.2.1) tLabel.dflt, List.getD t2.2.1 (Int.toNat t2.2.2.1) tLabel.dflt, ())) fun (r3 : Bool × Unit) =>
            if (!r3.1) = true then
              some (false, ())
            else
              G1 (t2.1, t2.2.1, IntKind.i64.wrap (t2.2.2.1 + (1 : Int)), ())
          else
            none
        else
          none
      else
        some (true, ())) (x.1, x.2.1, (0 : Int), ())
def F_laws_eqAlarm (k : Nat) (x : DAlarm × DAlarm × Unit) : Option (Bool × Unit) :=
  Option.bind (F_laws_eqLabelS k (x.1.1, x.2.1.1, ())) fun (r1 : Bool × Unit) =>
  if (!r1.1) = true then
    some (false, ())
  else
    if ((x.1.2.1 : Int) != x.2.1.2.1) = true then
      some (false, ())
    else
      if ((x.1.2.2.1 : Int) != x.2.1.2.2.1) = true then
        some (false, ())
      else
        if (!(ByteArray.toList x.1.2.2.2 == ByteArray.toList x.2.1.2.2.2)) = true then
          some (false, ())
        else
          some (true, ())
def F_laws_eqAlarmS (k : Nat) (x : List DAlarm × List DAlarm × Unit) : Option (Bool × Unit) :=
  if ((((List.length x.1 : Nat) : Int) : Int) != ((List.length x.2.1 : Nat) : Int)) = true then
    some (false, ())
  else
    loopN k (fun G1 (t2 : List DAlarm × List DAlarm × Int × Unit) =>
      if (decide ((t2.2.2.1 : Int) < ((List.length t2.1 : Nat) : Int))) = true then
        if (decide (0 ≤ t2.2.2.1 ∧ t2.2.2.1 < ((List.length t2.1 : Nat) : Int))) = true then
          if (decide (0 ≤ t2.2.2.1 ∧ t2.2.2.1 < ((List.length t2.2.1 : Nat) : Int))) = true then
            Option.bind (F_laws_eqAlarm k (List.getD t2.1 (Int.toNat t2.2.2.1) tAlarm.dflt, List.getD t2.2.1 (Int.toNat t2.2.2.1) tAlarm.dflt, ())) fun (r3 : Bool × Unit) =>
            if (!r3.1) = true then
              some (false, ())
            else
              G1 (t2.1, t2.2.1, IntKind.i64.wrap (t2.2.2.1 + (1 : Int)), ())
          else
            none
        else
          none
      else
        some (true, ())) (x.1, x.2.1, (0 : Int), ())
def F_laws_eqChain (k : Nat) (x : DChain × DChain × Unit) : Option (Bool × Unit) :=
  if ((x.1.1 : Int) != x.2.1.1) = true then
    some (false, ())
  else
    Option.bind (F_laws_eqAlarmS k (x.1.2, x.2.1.2, ())) fun (r1 : Bool × Unit) =>
    if (!r1.1) = true then
      some (false, ())
    else
      some (true, ())
def F_laws_eqChainS (k : Nat) (x : List DChain × List DChain × Unit) : Option (Bool × Unit) :=
  if ((((List.length x.1 : Nat) : Int) : Int) != ((List.length x.2.1 : Nat) : Int)) = true then
    some (false, ())
  else
    loopN k (fun G1 (t2 : List DChain × List DChain × Int × Unit) =>
      if (decide ((t2.2.2.1 : Int) < ((List.length t2.1 : Nat) : Int))) = true then
        if (decide (0 ≤ t2.2.2.1 ∧ t2.2.2.1 < ((List.length t2.1 : Nat) : Int))) = true then
          if (decide (0 ≤ t2.2.2.1 ∧ t2.2.2.1 < ((List.length t2.2.1 : Nat) : Int))) = true then
            Option.bind (F_laws_eqChain k (List.getD t2.1 (Int.toNat t2.2.2.1) tChain.dflt, List.getD t2.2.1 (Int.toNat t2.2.2.1) tChain.dflt, ())) fun (r3 : Bool × Unit) =>
            if (!r3.1) = true then
              some (false, ())
            else
              G1 (t2.1, t2.2.1, IntKind.i64.wrap (t2.2.2.1 + (1 : Int)), ())
          else
            none
        else
          none
      else
        some (true, ())) (x.1, x.2.1, (0 : Int), ())
def F_laws_eqPart (k : Nat) (x : DPart × DPart × Unit) : Option (Bool × Unit) :=
  if ((x.1.1 : Int) != x.2.1.1) = true then
    some (false, ())
  else
    if ((x.1.2.1 : Int) != x.2.1.2.1) = true then
      some (false, ())
    else
      Option.bind (F_laws_eqChainS k (x.1.2.2, x.2.1.2.2, ())) fun (r1 : Bool × Unit) =>
      if (!r1.1) = true then
        some (false, ())
      else
        some (true, ())
def F_laws_eqPartS (k : Nat) (x : List DPart × List DPart × Unit) : Option (Bool × Unit) :=
  if ((((List.length x.1 : Nat) : Int) : Int) != ((List.length x.2.1 : Nat) : Int)) = true then
    some (false, ())
  else
    loopN k (fun G1 (t2 : List DPart × List DPart × Int × Unit) =>
      if (decide ((t2.2.2.1 : Int) < ((List.length t2.1 : Nat) : Int))) = true then
        if (decide (0 ≤ t2.2.2.1 ∧ t2.2.2.1 < ((List.length t2.1 : Nat) : Int))) = true then
          if (decide (0 ≤ t2.2.2.1 ∧ t2.2.2.1 < ((List.length t2.2.1 : Nat) : Int))) = true then
            Option.bind (F_laws_eqPart k (List.getD t2.1 (Int.toNat t2.2.2.1) tPart.dflt, List.getD t2.2.1 (Int.toNat t2.2.2.1) tPart.dflt, ())) fun (r3 : Bool × Unit) =>
            if (!r3.1) = true then
              some (false, ())
            else
              G1 (t2.1, t2.2.1, IntKind.i64.wrap (t2.2.2.1 + (1 : Int)), ())
          else
            none
        else
          none
      else
        some (true, ())) (x.1, x.2.1, (0 : Int), ())
def F_laws_eqSub (k : Nat) (x : DSub × DSub × Unit) : Option (Bool × Unit) :=
  Option.bind (F_laws_eqAlarmS k (x.1.1, x.2.1.1, ())) fun (r1 : Bool × Unit) =>
  if (!r1.1) = true then
    some (false, ())
  else
    if (!((x.1.2 : Bool) == x.2.1.2)) = true then
      some (false, ())
    else
      some (true, ())
def F_laws_eqSubS (k : Nat) (x : List DSub × List DSub × Unit) : Option (Bool × Unit) :=
  if ((((List.length x.1 : Nat) : Int) : Int) != ((List.length x.2.1 : Nat) : Int)) = true then
    some (false, ())
  else
    loopN k (fun G1 (t2 : List DSub × List DSub × Int × Unit) =>
      if (decide ((t2.2.2.1 : Int) < ((List.length t2.1 : Nat) : Int))) = true then
        if (decide (0 ≤ t2.2.2.1 ∧ t2.2.2.1 < ((List.length t2.1 : Nat) : Int))) = true then
          if (decide (0 ≤ t2.2.2.1 ∧ t2.2.2.1 < ((List.length t2.2.1 : Nat) : Int))) = true then
            Option.bind (F_laws_eqSub k (List.getD t2.1 (Int.toNat t2.2.2.1) tSub.dflt, List.getD t2.2.1 (Int.toNat t2.2.2.1) tSub.dflt, ())) fun (r3 : Bool × Unit) =>
            if (!r3.1) = true then
              some (false, ())
            else
              G1 (t2.1, t2.2.1, IntKind.i64.wrap (t2.2.2.1 + (1 : Int)), ())
          else
            none
        else
          none
      else
        some (true, ())) (x.1, x.2.1, (0 : Int), ())
def F_laws_eqGroup (k : Nat) (x : DGroup × DGroup × Unit) : Option (Bool × Unit) :=
  if ((x.1.1 : Int) != x.2.1.1) = true then
    some (false, ())
  else
    Option.bind (F_laws_eqLabelS k (x.1.2.1, x.2.1.2.1, ())) fun (r1 : Bool × Unit) =>
    if (!r1.1) = true then
      some (false, ())
    else
      if ((x.1.2.2.1 : Int) != x.2.1.2.2.1) = true then
        some (false, ())
      else
        if ((x.1.2.2.2.1 : Int) != x.2.1.2.2.2.1) = true then
          some (false, ())
        else
          Option.bind (F_laws_eqAlarmS k (x.1.2.2.2.2, x.2.1.2.2.2.2, ())) fun (r2 : Bool × Unit) =>
          if (!r2.1) = true then
            some (false, ())
          else
            some (true, ())
def F_laws_eqGroupS (k : Nat) (x : List DGroup × List DGroup × Unit) : Option (Bool × Unit) :=
  if ((((List.length x.1 : Nat) : Int) : Int) != ((List.length x.2.1 : Nat) : Int)) = true then
    some (false, ())
  else
    loopN k (fun G1 (t2 : List DGroup × List DGroup × Int × Unit) =>
      if (decide ((t2.2.2.1 : Int) < ((List.length t2.1 : Nat) : Int))) = true then
        if (decide (0 ≤ t2.2.2.1 ∧ t2.2.2.1 < ((List.length t2.1 : Nat) : Int))) = true then
          if (decide (0 ≤ t2.2.2.1 ∧ t2.2.2.1 < ((List.length t2.2.1 : Nat) : Int))) = true then
            Option.bind (F_laws_eqGroup k (List.getD t2.1 (Int.toNat t2.2.2.1) tGroup.dflt, List.getD t2.2.1 (Int.toNat t2.2.2.1) tGroup.dflt, ())) fun (r3 : Bool × Unit) =>
            if (!r3.1) = true then
              some (false, ())
            else
              G1 (t2.1, t2.2.1, IntKind.i64.wrap (t2.2.2.1 + (1 : Int)), ())
          else
            none
        else
          none
      else
        some (true, ())) (x.1, x.2.1, (0 : Int), ())
def F_laws_eqTimer (k : Nat) (x : DTimer × DTimer × Unit) : Option (Bool × Unit) :=
  if ((x.1.1 : Int) != x.2.1.1) = true then
    some (false, ())
  else
    if ((x.1.2 : Int) != x.2.1.2) = true then
      some (false, ())
    else
      some (true, ())
def F_laws_eqTimerS (k : Nat) (x : List DTimer × List DTimer × Unit) : Option (Bool × Unit) :=
  if ((((List.length x.1 : Nat) : Int) : Int) != ((List.length x.2.1 : Nat) : Int)) = true then
    some (false, ())
  else
    loopN k (fun G1 (t2 : List DTimer × List DTimer × Int × Unit) =>
      if (decide ((t2.2.2.1 : Int) < ((List.length t2.1 : Nat) : Int))) = true then
        if (decide (0 ≤ t2.2.2.1 ∧ t2.2.2.1 < ((List.length t2.1 : Nat) : Int))) = true then
          if (decide (0 ≤ t2.2.2.1 ∧ t2.2.2.1 < ((List.length t2.2.1 : Nat) : Int))) = true then
            Option.bind (F_laws_eqTimer k (List.getD t2.1 (Int.toNat t2.2.2.1) tTimer.dflt, List.getD t2.2.1 (Int.toNat t2.2.2.1) tTimer.dflt, ())) fun (r3 : Bool × Unit) =>
            if (!r3.1) = true then
              some (false, ())
            else
              G1 (t2.1, t2.2.1, IntKind.i64.wrap (t2.2.2.1 + (1 : Int)), ())
          else
            none
        else
          none
      else
        some (true, ())) (x.1, x.2.1, (0 : Int), ())
def F_laws_eqBatch (k : Nat) (x : DBatch × DBatch × Unit) : Option (Bool × Unit) :=
  if ((x.1.1 : Int) != x.2.1.1) = true then
    some (false, ())
  else
    Option.bind (F_laws_eqLabelS k (x.1.2.1, x.2.1.2.1, ())) fun (r1 : Bool × Unit) =>
    if (!r1.1) = true then
      some (false, ())
    else
      if ((x.1.2.2.1 : Int) != x.2.1.2.2.1) = true then
        some (false, ())
      else
        Option.bind (F_laws_eqAlarmS k (x.1.2.2.2, x.2.1.2.2.2, ())) fun (r2 : Bool × Unit) =>
        if (!r2.1) = true then
          some (false, ())
        else
          some (true, ())
def F_laws_eqBatchS (k : Nat) (x : List DBatch × List DBatch × Unit) : Option (Bool × Unit) :=
  if ((((List.length x.1 : Nat) : Int) : Int) != ((List.length x.2.1 : Nat) : Int)) = true then
    some (false, ())
  else
    loopN k (fun G1 (t2 : List DBatch × List DBatch × Int × Unit) =>
      if (decide ((t2.2.2.1 : Int) < ((List.length t2.1 : Nat) : Int))) = true then
        if (decide (0 ≤ t2.2.2.1 ∧ t2.2.2.1 < ((List.length t2.1 : Nat) : Int))) = true then
          if (decide (0 ≤ t2.2.2.1 ∧ t2.2.2.1 < ((List.length t2.2.1 : Nat) : Int))) = true then
            Option.bind (F_laws_eqBatch k (List.getD t2.1 (Int.toNat t2.2.2.1) tBatch.dflt, List.getD t2.2.1 (Int.toNat t2.2.2.1) tBatch.dflt, ())) fun (r3 : Bool × Unit) =>
            if (!r3.1) = true then
              some (false, ())
            else
              G1 (t2.1, t2.2.1, IntKind.i64.wrap (t2.2.2.1 + (1 : Int)), ())
          else
            none
        else
          none
      else
        some (true, ())) (x.1, x.2.1, (0 : Int), ())
def F_laws_eqIntS (k : Nat) (x : List Int × List Int × Unit) : Option (Bool × Unit) :=
  if ((((List.length x.1 : Nat) : Int) : Int) != ((List.length x.2.1 : Nat) : Int)) = true then
    some (false, ())
  else
    loopN k (fun G1 (t2 : List Int × List Int × Int × Unit) =>
      if (decide ((t2.2.2.1 : Int) < ((List.length t2.1 : Nat) : Int))) = true then
        if (decide (0 ≤ t2.2.2.1 ∧ t2.2.2.1 < ((List.length t2.1 : Nat) : Int))) = true then
          if (decide (0 ≤ t2.2.2.1 ∧ t2.2.2.1 < ((List.length t2.2.1 : Nat) : Int))) = true then
            if (((List.getD t2.1 (Int.toNat t2.2.2.1) 0) : Int) != (List.getD t2.2.1 (Int.toNat t2.2.2.1) 0)) = true then
              some (false, ())
            else
              G1 (t2.1, t2.2.1, IntKind.i64.wrap (t2.2.2.1 + (1 : Int)), ())
          else
            none
        else
          none
      else
        some (true, ())) (x.1, x.2.1, (0 : Int), ())
def F_laws_eqTask (k : Nat) (x : DTask × DTask × Unit) : Option (Bool × Unit) :=
  if ((x.1.1 : Int) != x.2.1.1) = true then
    some (false, ())
  else
    if ((x.1.2.1 : Int) != x.2.1.2.1) = true then
      some (false, ())
    else
      Option.bind (F_laws_eqAlarm k (x.1.2.2.1, x.2.1.2.2.1, ())) fun (r1 : Bool × Unit) =>
      if (!r1.1) = true then
        some (false, ())
      else
        Option.bind (F_laws_eqLabelS k (x.1.2.2.2.1, x.2.1.2.2.2.1, ())) fun (r2 : Bool × Unit) =>
        if (!r2.1) = true then
          some (false, ())
        else
          if ((x.1.2.2.2.2.1 : Int) != x.2.1.2.2.2.2.1) = true then
            some (false, ())
          else
            Option.bind (F_laws_eqIntS k (x.1.2.2.2.2.2.1, x.2.1.2.2.2.2.2.1, ())) fun (r3 : Bool × Unit) =>
            if (!r3.1) = true then
              some (false, ())
            else
              Option.bind (F_laws_eqAlarmS k (x.1.2.2.2.2.2.2.1, x.2.1.2.2.2.2.2.2.1, ())) fun (r4 : Bool × Unit) =>
              if (!r4.1) = true then
                some (false, ())
              else
                if ((x.1.2.2.2.2.2.2.2.1 : Int) != x.2.1.2.2.2.2.2.2.2.1) = true then
                  some (false, ())
                else
                  if ((x.1.2.2.2.2.2.2.2.2 : Int) != x.2.1.2.2.2.2.2.2.2.2) = true then
                    some (false, ())
                  else
                    some (true, ())
def F_laws_eqTaskS (k : Nat) (x : List DTask × List DTask × Unit) : Option (Bool × Unit) :=
  if ((((List.length x.1 : Nat) : Int) : Int) != ((List.length x.2.1 : Nat) : Int)) = true then
    some (false, ())
  else
    loopN k (fun G1 (t2 : List DTask × List DTask × Int × Unit) =>
      if (decide ((t2.2.2.1 : Int) < ((List.length t2.1 : Nat) : Int))) = true then
        if (decide (0 ≤ t2.2.2.1 ∧ t2.2.2.1 < ((List.length t2.1 : Nat) : Int))) = true then
          if (decide (0 ≤ t2.2.2.1 ∧ t2.2.2.1 < ((List.length t2.2.1 : Nat) : Int))) = true then
            Option.bind (F_laws_eqTask k (List.getD t2.1 (Int.toNat t2.2.2.1) tTask.dflt, List.getD t2.2.1 (Int.toNat t2.2.2.1) tTask.dflt, ())) fun (r3 : Bool × Unit) =>
            if (!r3.1) = true then
              some (false, ())
            else
              G1 (t2.1, t2.2.1, IntKind.i64.wrap (t2.2.2.1 + (1 : Int)), ())
          else
            none
        else
          none
      else
        some (true, ())) (x.1, x.2.1, (0 : Int), ())
def F_laws_eqDeed (k : Nat) (x : DDeed × DDeed × Unit) : Option (Bool × Unit) :=
  if ((x.1.1 : Int) != x.2.1.1) = true then
    some (false, ())
  else
    if ((x.1.2.1 : Int) != x.2.1.2.1) = true then
      some (false, ())
    else
      Option.bind (F_laws_eqAlarm k (x.1.2.2.1, x.2.1.2.2.1, ())) fun (r1 : Bool × Unit) =>
      if (!r1.1) = true then
        some (false, ())
      else
        Option.bind (F_laws_eqLabelS k (x.1.2.2.2.1, x.2.1.2.2.2.1, ())) fun (r2 : Bool × Unit) =>
        if (!r2.1) = true then
          some (false, ())
        else
          if ((x.1.2.2.2.2.1 : Int) != x.2.1.2.2.2.2.1) = true then
            some (false, ())
          else
            if ((x.1.2.2.2.2.2.1 : Int) != x.2.1.2.2.2.2.2.1) = true then
              some (false, ())
            else
              if ((x.1.2.2.2.2.2.2.1 : Int) != x.2.1.2.2.2.2.2.2.1) = true then
                some (false, ())
              else
                Option.bind (F_laws_eqAlarmS k (x.1.2.2.2.2.2.2.2.1, x.2.1.2.2.2.2.2.2.2.1, ())) fun (r3 : Bool × Unit) =>
                if (!r3.1) = true then
                  some (false, ())
                else
                  if ((x.1.2.2.2.2.2.2.2.2.1 : Int) != x.2.1.2.2.2.2.2.2.2.2.1) = true then
                    some (false, ())
                  else
                    if ((x.1.2.2.2.2.2.2.2.2.2.1 : Int) != x.2.1.2.2.2.2.2.2.2.2.2.1) = true then
                      some (false, ())
                    else
                      if ((x.1.2.2.2.2.2.2.2.2.2.2.1 : Int) != x.2.1.2.2.2.2.2.2.2.2.2.2.1) = true then
                        some (false, ())
                      else
                        if ((x.1.2.2.2.2.2.2.2.2.2.2.2 : Int) != x.2.1.2.2.2.2.2.2.2.2.2.2.2) = true then
                          some (false, ())
                        else
                          some (true, ())
def F_laws_eqDeedS (k : Nat) (x : List DDeed × List DDeed × Unit) : Option (Bool × Unit) :=
  if ((((List.length x.1 : Nat) : Int) : Int) != ((List.length x.2.1 : Nat) : Int)) = true then
    some (false, ())
  else
    loopN k (fun G1 (t2 : List DDeed × List DDeed × Int × Unit) =>
      if (decide ((t2.2.2.1 : Int) < ((List.length t2.1 : Nat) : Int))) = true then
        if (decide (0 ≤ t2.2.2.1 ∧ t2.2.2.1 < ((List.length t2.1 : Nat) : Int))) = true then
          if (decide (0 ≤ t2.2.2.1 ∧ t2.2.2.1 < ((List.length t2.2.1 : Nat) : Int))) = true then
            Option.bind (F_laws_eqDeed k (List.getD t2.1 (Int.toNat t2.2.2.1) tDeed.dflt, List.getD t2.2.1 (Int.toNat t2.2.2.1) tDeed.dflt, ())) fun (r3 : Bool × Unit) =>
            if (!r3.1) = true then
              some (false, ())
            else
              G1 (t2.1, t2.2.1, IntKind.i64.wrap (t2.2.2.1 + (1 : Int)), ())
          else
            none
        else
          none
      else
        some (true, ())) (x.1, x.2.1, (0 : Int), ())
def F_laws_eqWorld (k : Nat) (x : DWorld × DWorld × Unit) : Option (Bool × Unit) :=
  Option.bind (F_laws_eqConf k (x.1.1, x.2.1.1, ())) fun (r1 : Bool × Unit) =>
  if (!r1.1) = true then
    some (false, ())
  else
    if ((x.1.2.1 : Int) != x.2.1.2.1) = true then
      some (false, ())
    else
      if ((x.1.2.2.1 : Int) != x.2.1.2.2.1) = true then
        some (false, ())
      else
        Option.bind (F_laws_eqPartS k (x.1.2.2.2.1, x.2.1.2.2.2.1, ())) fun (r2 : Bool × Unit) =>
        if (!r2.1) = true then
          some (false, ())
        else
          Option.bind (F_laws_eqSubS k (x.1.2.2.2.2.1, x.2.1.2.2.2.2.1, ())) fun (r3 : Bool × Unit) =>
          if (!r3.1) = true then
            some (false, ())
          else
            Option.bind (F_laws_eqAlarmS k (x.1.2.2.2.2.2.1, x.2.1.2.2.2.2.2.1, ())) fun (r4 : Bool × Unit) =>
            if (!r4.1) = true then
              some (false, ())
            else
              if ((x.1.2.2.2.2.2.2.1 : Int) != x.2.1.2.2.2.2.2.2.1) = true then
                some (false, ())
              else
                Option.bind (F_laws_eqGroupS k (x.1.2.2.2.2.2.2.2.1, x.2.1.2.2.2.2.2.2.2.1, ())) fun (r5 : Bool × Unit) =>
                if (!r5.1) = true then
                  some (false, ())
                else
                  if ((x.1.2.2.2.2.2.2.2.2.1 : Int) != x.2.1.2.2.2.2.2.2.2.2.1) = true then
                    some (false, ())
                  else
                    Option.bind (F_laws_eqTimerS k (x.1.2.2.2.2.2.2.2.2.2.1, x.2.1.2.2.2.2.2.2.2.2.2.1, ())) fun (r6 : Bool × Unit) =>
                    if (!r6.1) = true then
                      some (false, ())
                    else
                      Option.bind (F_laws_eqBatchS k (x.1.2.2.2.2.2.2.2.2.2.2.1, x.2.1.2.2.2.2.2.2.2.2.2.2.1, ())) fun (r7 : Bool × Unit) =>
                      if (!r7.1) = true then
                        some (false, ())
                      else
                        Option.bind (F_laws_eqAlarmS k (x.1.2.2.2.2.2.2.2.2.2.2.2.1, x.2.1.2.2.2.2.2.2.2.2.2.2.2.1, ())) fun (r8 : Bool × Unit) =>
                        if (!r8.1) = true then
                          some (false, ())
                        else
                          Option.bind (F_laws_eqTaskS k (x.1.2.2.2.2.2.2.2.2.2.2.2.2.1, x.2.1.2.2.2.2.2.2.2.2.2.2.2.2.1, ())) fun (r9 : Bool × Unit) =>
                          if (!r9.1) = true then
                            some (false, ())
                          else
                            Option.bind (F_laws_eqDeedS k (x.1.2.2.2.2.2.2.2.2.2.2.2.2.2, x.2.1.2.2.2.2.2.2.2.2.2.2.2.2.2, ())) fun (r10 : Bool × Unit) =>
                            if (!r10.1) = true then
                              some (false, ())
                            else
                              some (true, ())
def F_laws_FnExactWorldOk (k : Nat) (x : DWorld × Unit) : Option (Bool × Unit) :=
  Option.bind (F_laws_szWorld k (x.1, (1048576 : Int), ())) fun (r1 : Int × Unit) =>
  if (decide ((r1.1 : Int) < (0 : Int))) = true then
    some (true, ())
  else
    Option.bind (F_laws_toWorld k (x.1, ())) fun (r2 : DWorld × Unit) =>
    Option.bind (F_spec_WorldOk k (r2.1, ())) fun (r3 : Bool × Unit) =>
    Option.bind (F_laws_toWorld k (x.1, ())) fun (r4 : DWorld × Unit) =>
    Option.bind (F_impl_WorldOk k (r4.1, ())) fun (r5 : Bool × Unit) =>
    if (!((r5.1 : Bool) == r3.1)) = true then
      some (false, ())
    else
      Option.bind (F_laws_toWorld k (x.1, ())) fun (r6 : DWorld × Unit) =>
      Option.bind (F_laws_eqWorld k (r4.1, r6.1, ())) fun (r7 : Bool × Unit) =>
      if (!r7.1) = true then
        some (false, ())
      else
        some (true, ())
end Vg.Tryz
