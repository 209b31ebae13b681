/- What the functions compute, printed by vgen.py from the evaluator's run. -/
import Derived.Test.YtoenkpiimjnmdaaVc

namespace Vg.Try
open Go Vg
set_option linter.unusedVariables false
abbrev tLabel : Ty := (.pair .str .str)
abbrev DLabel : Type := (ByteArray × ByteArray)
abbrev tTimer : Ty := (.pair (.int .i64) (.int .i64))
abbrev DTimer : Type := (Int × Int)
abbrev tAlarm : Ty := (.pair (.sl tLabel) (.pair (.int .i64) (.pair (.int .i64) .str)))
abbrev DAlarm : Type := (List DLabel × (Int × (Int × ByteArray)))
abbrev tConf : Ty := (.pair (.int .i64) (.pair (.int .i64) (.pair (.int .i64) (.pair (.int .i64) (.pair (.int .i64) (.sl .str))))))
abbrev DConf : Type := (Int × (Int × (Int × (Int × (Int × List ByteArray)))))
abbrev tSub : Ty := (.pair (.sl tAlarm) .bool)
abbrev DSub : Type := (List DAlarm × Bool)
abbrev tChain : Ty := (.pair (.int .i64) (.sl tAlarm))
abbrev DChain : Type := (Int × List DAlarm)
abbrev tPart : Ty := (.pair (.int .i64) (.pair (.int .i64) (.sl tChain)))
abbrev DPart : Type := (Int × (Int × List DChain))
abbrev tBatch : Ty := (.pair (.int .i64) (.pair (.sl tLabel) tChain))
abbrev DBatch : Type := (Int × (List DLabel × DChain))
abbrev tGroup : Ty := (.pair (.int .i64) (.pair (.sl tLabel) (.pair (.int .i64) tChain)))
abbrev DGroup : Type := (Int × (List DLabel × (Int × DChain)))
abbrev tTask : Ty := (.pair (.int .i64) (.pair (.int .i64) (.pair tAlarm (.pair (.sl tLabel) (.pair (.int .i64) (.pair (.sl (.int .i64)) (.pair (.sl tAlarm) tTimer)))))))
abbrev DTask : Type := (Int × (Int × (DAlarm × (List DLabel × (Int × (List Int × (List DAlarm × DTimer)))))))
abbrev tDeed : Ty := (.pair (.int .i64) (.pair (.int .i64) (.pair tAlarm (.pair (.sl tLabel) (.pair (.int .i64) (.pair (.int .i64) (.pair (.int .i64) (.pair (.sl tAlarm) (.pair (.int .i64) (.pair (.int .i64) tTimer))))))))))
abbrev DDeed : Type := (Int × (Int × (DAlarm × (List DLabel × (Int × (Int × (Int × (List DAlarm × (Int × (Int × DTimer))))))))))
abbrev tModel : Ty := (.pair tConf (.pair (.sl tAlarm) (.pair (.sl tSub) (.pair (.sl tAlarm) (.pair (.sl tGroup) (.int .i64))))))
abbrev DModel : Type := (DConf × (List DAlarm × (List DSub × (List DAlarm × (List DGroup × Int)))))
abbrev tWorld : Ty := (.pair tConf (.pair (.int .i64) (.pair (.int .i64) (.pair (.sl tPart) (.pair (.sl tSub) (.pair (.sl tAlarm) (.pair (.int .i64) (.pair (.sl tGroup) (.pair (.int .i64) (.pair (.sl tTimer) (.pair (.sl tBatch) (.pair (.sl tAlarm) (.pair (.sl tTask) (.sl tDeed))))))))))))))
abbrev DWorld : Type := (DConf × (Int × (Int × (List DPart × (List DSub × (List DAlarm × (Int × (List DGroup × (Int × (List DTimer × (List DBatch × (List DAlarm × (List DTask × List DDeed)))))))))))))
def F_laws_szLabel (k : Nat) (x : DLabel × Int × Unit) : Option (Int × Unit) :=
  if (decide (((IntKind.i64.wrap (x.2.1 - ((ByteArray.size x.1.1 : Nat) : Int))) : Int) < (0 : Int))) = true then
    some ((-1 : Int), ())
  else
    if (decide (((IntKind.i64.wrap ((IntKind.i64.wrap (x.2.1 - ((ByteArray.size x.1.1 : Nat) : Int))) - ((ByteArray.size x.1.2 : Nat) : Int))) : Int) < (0 : Int))) = true then
      some ((-1 : Int), ())
    else
      some (IntKind.i64.wrap ((IntKind.i64.wrap (x.2.1 - ((ByteArray.size x.1.1 : Nat) : Int))) - ((ByteArray.size x.1.2 : Nat) : Int)), ())
def F_laws_szLabelS (k : Nat) (x : List DLabel × Int × Unit) : Option (Int × Unit) :=
  if (decide (((IntKind.i64.wrap (x.2.1 - ((List.length x.1 : Nat) : Int))) : Int) < (0 : Int))) = true then
    some ((-1 : Int), ())
  else
    loopN k (fun G1 (t2 : List DLabel × Int × Int × Unit) =>
      if (decide ((t2.2.2.1 : Int) < ((List.length t2.1 : Nat) : Int))) = true then
        if (decide (0 ≤ t2.2.2.1 ∧ t2.2.2.1 < ((List.length t2.1 : Nat) : Int))) = true then
          Option.bind (F_laws_szLabel k (List.getD t2.1 (Int.toNat t2.2.2.1) tLabel.dflt, t2.2.1, ())) fun (r3 : Int × Unit) =>
          if (decide ((r3.1 : Int) < (0 : Int))) = true then
            some ((-1 : Int), ())
          else
            G1 (t2.1, r3.1, IntKind.i64.wrap (t2.2.2.1 + (1 : Int)), ())
        else
          none
      else
        some (t2.2.1, ())) (x.1, IntKind.i64.wrap (x.2.1 - ((List.length x.1 : Nat) : Int)), (0 : Int), ())
def F_laws_szAlarm (k : Nat) (x : DAlarm × Int × Unit) : Option (Int × Unit) :=
  Option.bind (F_laws_szLabelS k (x.1.1, x.2.1, ())) fun (r1 : Int × Unit) =>
  if (decide ((r1.1 : Int) < (0 : Int))) = true then
    some ((-1 : Int), ())
  else
    if (decide (((IntKind.i64.wrap (r1.1 - ((ByteArray.size x.1.2.2.2 : Nat) : Int))) : Int) < (0 : Int))) = true then
      some ((-1 : Int), ())
    else
      some (IntKind.i64.wrap (r1.1 - ((ByteArray.size x.1.2.2.2 : Nat) : Int)), ())
def F_laws_szAlarmS (k : Nat) (x : List DAlarm × Int × Unit) : Option (Int × Unit) :=
  if (decide (((IntKind.i64.wrap (x.2.1 - ((List.length x.1 : Nat) : Int))) : Int) < (0 : Int))) = true then
    some ((-1 : Int), ())
  else
    loopN k (fun G1 (t2 : List DAlarm × Int × Int × Unit) =>
      if (decide ((t2.2.2.1 : Int) < ((List.length t2.1 : Nat) : Int))) = true then
        if (decide (0 ≤ t2.2.2.1 ∧ t2.2.2.1 < ((List.length t2.1 : Nat) : Int))) = true then
          Option.bind (F_laws_szAlarm k (List.getD t2.1 (Int.toNat t2.2.2.1) tAlarm.dflt, t2.2.1, ())) fun (r3 : Int × Unit) =>
          if (decide ((r3.1 : Int) < (0 : Int))) = true then
            some ((-1 : Int), ())
          else
            G1 (t2.1, r3.1, IntKind.i64.wrap (t2.2.2.1 + (1 : Int)), ())
        else
          none
      else
        some (t2.2.1, ())) (x.1, IntKind.i64.wrap (x.2.1 - ((List.length x.1 : Nat) : Int)), (0 : Int), ())
def F_laws_szGroup (k : Nat) (x : DGroup × Int × Unit) : Option (Int × Unit) :=
  Option.bind (F_laws_szLabelS k (x.1.2.1, x.2.1, ())) fun (r1 : Int × Unit) =>
  if (decide ((r1.1 : Int) < (0 : Int))) = true then
    some ((-1 : Int), ())
  else
    Option.bind (F_laws_szAlarmS k (x.1.2.2.2.2, r1.1, ())) fun (r2 : Int × Unit) =>
    if (decide ((r2.1 : Int) < (0 : Int))) = true then
      some ((-1 : Int), ())
    else
      some (r2.1, ())
def F_laws_toLabel (k : Nat) (x : DLabel × Unit) : Option (DLabel × Unit) :=
  some ((x.1.1, x.1.2), ())
def F_laws_toLabelS (k : Nat) (x : List DLabel × Unit) : Option (List DLabel × Unit) :=
  if (decide (0 ≤ ((List.length x.1 : Nat) : Int) ∧ ((List.length x.1 : Nat) : Int) < 4294967296 ∧ ((List.length x.1 : Nat) : Int) = ((List.length x.1 : Nat) : Int))) = true then
    loopN k (fun G1 (t2 : List DLabel × List DLabel × Int × Unit) =>
      if (decide ((t2.2.2.1 : Int) < ((List.length t2.1 : Nat) : Int))) = true then
        if (decide (0 ≤ t2.2.2.1 ∧ t2.2.2.1 < ((List.length t2.1 : Nat) : Int))) = true then
          Option.bind (F_laws_toLabel k (List.getD t2.1 (Int.toNat t2.2.2.1) tLabel.dflt, ())) fun (r3 : DLabel × Unit) =>
          if (decide (0 ≤ t2.2.2.1 ∧ t2.2.2.1 < ((List.length t2.2.1 : Nat) : Int))) = true then
            G1 (t2.1, List.set t2.2.1 (Int.toNat t2.2.2.1) r3.1, IntKind.i64.wrap (t2.2.2.1 + (1 : Int)), ())
          else
            none
        else
          none
      else
        some (t2.2.1, ())) (x.1, List.replicate (Int.toNat ((List.length x.1 : Nat) : Int)) tLabel.dflt, (0 : Int), ())
  else
    none
def F_laws_toAlarm (k : Nat) (x : DAlarm × Unit) : Option (DAlarm × Unit) :=
  Option.bind (F_laws_toLabelS k (x.1.1, ())) fun (r1 : List DLabel × Unit) =>
  some ((r1.1, (x.1.2.1, (x.1.2.2.1, x.1.2.2.2))), ())
def F_laws_toAlarmS (k : Nat) (x : List DAlarm × Unit) : Option (List DAlarm × Unit) :=
  if (decide (0 ≤ ((List.length x.1 : Nat) : Int) ∧ ((List.length x.1 : Nat) : Int) < 4294967296 ∧ ((List.length x.1 : Nat) : Int) = ((List.length x.1 : Nat) : Int))) = true then
    loopN k (fun G1 (t2 : List DAlarm × List DAlarm × Int × Unit) =>
      if (decide ((t2.2.2.1 : Int) < ((List.length t2.1 : Nat) : Int))) = true then
        if (decide (0 ≤ t2.2.2.1 ∧ t2.2.2.1 < ((List.length t2.1 : Nat) : Int))) = true then
          Option.bind (F_laws_toAlarm k (List.getD t2.1 (Int.toNat t2.2.2.1) tAlarm.dflt, ())) fun (r3 : DAlarm × Unit) =>
          if (decide (0 ≤ t2.2.2.1 ∧ t2.2.2.1 < ((List.length t2.2.1 : Nat) : Int))) = true then
            G1 (t2.1, List.set t2.2.1 (Int.toNat t2.2.2.1) r3.1, IntKind.i64.wrap (t2.2.2.1 + (1 : Int)), ())
          else
            none
        else
          none
      else
        some (t2.2.1, ())) (x.1, List.replicate (Int.toNat ((List.length x.1 : Nat) : Int)) tAlarm.dflt, (0 : Int), ())
  else
    none
def F_laws_toGroup (k : Nat) (x : DGroup × Unit) : Option (DGroup × Unit) :=
  Option.bind (F_laws_toLabelS k (x.1.2.1, ())) fun (r1 : List DLabel × Unit) =>
  Option.bind (F_laws_toAlarmS k (x.1.2.2.2.2, ())) fun (r2 : List DAlarm × Unit) =>
  some ((x.1.1, (r1.1, (x.1.2.2.1, (x.1.2.2.2.1, r2.1)))), ())
def F_spec_l4Copy (k : Nat) (x : DAlarm × Unit) : Option (DAlarm × Unit) :=
  if (decide (List.length ([] : List DLabel) + List.length x.1.1 < 4294967296)) = true then
    some ((([] : List DLabel) ++ x.1.1, x.1.2), ())
  else
    none
def F_spec_l4All (k : Nat) (x : List DAlarm × Unit) : Option (List DAlarm × Unit) :=
  loopN k (fun G1 (t2 : List DAlarm × List DAlarm × Int × Unit) =>
    if (decide ((t2.2.2.1 : Int) < ((List.length t2.1 : Nat) : Int))) = true then
      if (decide (0 ≤ t2.2.2.1 ∧ t2.2.2.1 < ((List.length t2.1 : Nat) : Int))) = true then
        Option.bind (F_spec_l4Copy k (List.getD t2.1 (Int.toNat t2.2.2.1) tAlarm.dflt, ())) fun (r3 : DAlarm × Unit) =>
        if (decide (List.length t2.2.1 + List.length ([r3.1] : List DAlarm) < 4294967296)) = true then
          G1 (t2.1, t2.2.1 ++ ([r3.1] : List DAlarm), IntKind.i64.wrap (t2.2.2.1 + (1 : Int)), ())
        else
          none
      else
        none
    else
      some (t2.2.1, ())) (x.1, ([] : List DAlarm), (0 : Int), ())
def F_spec_l11Copy (k : Nat) (x : DGroup × Unit) : Option (DGroup × Unit) :=
  if (decide (List.length ([] : List DLabel) + List.length x.1.2.1 < 4294967296)) = true then
    Option.bind (F_spec_l4All k (x.1.2.2.2.2, ())) fun (r1 : List DAlarm × Unit) =>
    some ((x.1.1, (([] : List DLabel) ++ x.1.2.1, (x.1.2.2.1, (x.1.2.2.2.1, r1.1)))), ())
  else
    none
def F_spec_Over (k : Nat) (x : DAlarm × Int × Unit) : Option (Bool × Unit) :=
  some (decide ((x.1.2.2.1 : Int) ≤ x.2.1), ())
def F_spec_l11Batch (k : Nat) (x : DBatch × Unit) : Option (DBatch × Unit) :=
  if (decide (List.length ([] : List DLabel) + List.length x.1.2.1 < 4294967296)) = true then
    Option.bind (F_spec_l4All k (x.1.2.2.2, ())) fun (r1 : List DAlarm × Unit) =>
    some ((x.1.1, (([] : List DLabel) ++ x.1.2.1, (x.1.2.2.1, r1.1))), ())
  else
    none
def F_spec_Flush (k : Nat) (x : DGroup × Int × Unit) : Option (DGroup × DBatch × Unit) :=
  Option.bind (F_spec_l11Copy k (x.1, ())) fun (r1 : DGroup × Unit) =>
  joinC (fun J2 =>
    loopN k (fun G4 (t5 : Int × DGroup × DGroup × DBatch × DGroup × Int × Unit) =>
      if (decide ((t5.2.2.2.2.2.1 : Int) < ((List.length t5.2.1.2.2.2.2 : Nat) : Int))) = true then
        if (decide (0 ≤ t5.2.2.2.2.2.1 ∧ t5.2.2.2.2.2.1 < ((List.length t5.2.1.2.2.2.2 : Nat) : Int))) = true then
          Option.bind (F_spec_Over k (List.getD t5.2.1.2.2.2.2 (Int.toNat t5.2.2.2.2.2.1) tAlarm.dflt, t5.1, ())) fun (r6 : Bool × Unit) =>
          if (!r6.1) = true then
            if (decide (0 ≤ t5.2.2.2.2.2.1 ∧ t5.2.2.2.2.2.1 < ((List.length t5.2.1.2.2.2.2 : Nat) : Int))) = true then
              Option.bind (F_spec_l4Copy k (List.getD t5.2.1.2.2.2.2 (Int.toNat t5.2.2.2.2.2.1) tAlarm.dflt, ())) fun (r7 : DAlarm × Unit) =>
              if (decide (List.length t5.2.2.2.2.1.2.2.2.2 + List.length ([r7.1] : List DAlarm) < 4294967296)) = true then
                G4 (t5.1, t5.2.1, t5.2.2.1, t5.2.2.2.1, (t5.2.2.2.2.1.1, (t5.2.2.2.2.1.2.1, (t5.2.2.2.2.1.2.2.1, (t5.2.2.2.2.1.2.2.2.1, t5.2.2.2.2.1.2.2.2.2 ++ ([r7.1] : List DAlarm))))), IntKind.i64.wrap (t5.2.2.2.2.2.1 + (1 : Int)), ())
              else
                none
            else
              none
          else
            G4 (t5.1, t5.2.1, t5.2.2.1, t5.2.2.2.1, t5.2.2.2.2.1, IntKind.i64.wrap (t5.2.2.2.2.2.1 + (1 : Int)), ())
        else
          none
      else
        J2 (t5.1, t5.2.1, t5.2.2.1, t5.2.2.2.1, t5.2.2.2.2.1, ())) (x.2.1, x.1, (0, (([] : List DLabel), (0, (0, ([] : List DAlarm))))), (0, (([] : List DLabel), (0, ([] : List DAlarm)))), (r1.1.1, (r1.1.2.1, (r1.1.2.2.1, (x.2.1, ([] : List DAlarm))))), (0 : Int), ())) (fun (t3 : Int × DGroup × DGroup × DBatch × DGroup × Unit) =>
    Option.bind (F_spec_l11Batch k ((t3.2.1.1, (t3.2.1.2.1, (t3.1, t3.2.1.2.2.2.2))), ())) fun (r8 : DBatch × Unit) =>
    some (t3.2.2.2.2.1, r8.1, ()))
def F_impl_copySet (k : Nat) (x : List DLabel × Unit) : Option (List DLabel × Unit) :=
  if (decide (List.length ([] : List DLabel) + List.length x.1 < 4294967296)) = true then
    some (([] : List DLabel) ++ x.1, ())
  else
    none
def F_impl_copyAlarm (k : Nat) (x : DAlarm × Unit) : Option (DAlarm × Unit) :=
  Option.bind (F_impl_copySet k (x.1.1, ())) fun (r1 : List DLabel × Unit) =>
  some ((r1.1, x.1.2), ())
def F_impl_copyAlarms (k : Nat) (x : List DAlarm × Unit) : Option (List DAlarm × Unit) :=
  loopN k (fun G1 (t2 : List DAlarm × List DAlarm × Int × Int × Unit) =>
    if (decide ((t2.2.2.2.1 : Int) < t2.2.2.1)) = true then
      if (decide (0 ≤ t2.2.2.2.1 ∧ t2.2.2.2.1 < ((List.length t2.2.1 : Nat) : Int))) = true then
        Option.bind (F_impl_copyAlarm k (List.getD t2.2.1 (Int.toNat t2.2.2.2.1) tAlarm.dflt, ())) fun (r3 : DAlarm × Unit) =>
        if (decide (List.length t2.1 + List.length ([r3.1] : List DAlarm) < 4294967296)) = true then
          G1 (t2.1 ++ ([r3.1] : List DAlarm), t2.2.1, t2.2.2.1, IntKind.i64.wrap (t2.2.2.2.1 + (1 : Int)), ())
        else
          none
      else
        none
    else
      some (t2.1, ())) (([] : List DAlarm), x.1, ((List.length x.1 : Nat) : Int), (0 : Int), ())
def F_impl_copyGroup (k : Nat) (x : DGroup × Unit) : Option (DGroup × Unit) :=
  Option.bind (F_impl_copySet k (x.1.2.1, ())) fun (r1 : List DLabel × Unit) =>
  Option.bind (F_impl_copyAlarms k (x.1.2.2.2.2, ())) fun (r2 : List DAlarm × Unit) =>
  some ((x.1.1, (r1.1, (x.1.2.2.1, (x.1.2.2.2.1, r2.1)))), ())
def F_impl_Over (k : Nat) (x : DAlarm × Int × Unit) : Option (Bool × Unit) :=
  some (decide ((x.1.2.2.1 : Int) ≤ x.2.1), ())
def F_impl_Swept (k : Nat) (x : List DAlarm × Int × Unit) : Option (List DAlarm × Unit) :=
  loopN k (fun G1 (t2 : Int × List DAlarm × List DAlarm × Int × Int × Unit) =>
    if (decide ((t2.2.2.2.2.1 : Int) < t2.2.2.2.1)) = true then
      if (decide (0 ≤ t2.2.2.2.2.1 ∧ t2.2.2.2.2.1 < ((List.length t2.2.2.1 : Nat) : Int))) = true then
        Option.bind (F_impl_Over k (List.getD t2.2.2.1 (Int.toNat t2.2.2.2.2.1) tAlarm.dflt, t2.1, ())) fun (r3 : Bool × Unit) =>
        if (!r3.1) = true then
          Option.bind (F_impl_copyAlarm k (List.getD t2.2.2.1 (Int.toNat t2.2.2.2.2.1) tAlarm.dflt, ())) fun (r4 : DAlarm × Unit) =>
          if (decide (List.length t2.2.1 + List.length ([r4.1] : List DAlarm) < 4294967296)) = true then
            G1 (t2.1, t2.2.1 ++ ([r4.1] : List DAlarm), t2.2.2.1, t2.2.2.2.1, IntKind.i64.wrap (t2.2.2.2.2.1 + (1 : Int)), ())
          else
            none
        else
          G1 (t2.1, t2.2.1, t2.2.2.1, t2.2.2.2.1, IntKind.i64.wrap (t2.2.2.2.2.1 + (1 : Int)), ())
      else
        none
    else
      some (t2.2.1, ())) (x.2.1, ([] : List DAlarm), x.1, ((List.length x.1 : Nat) : Int), (0 : Int), ())
def F_impl_Flush (k : Nat) (x : DGroup × Int × Unit) : Option (DGroup × DBatch × Unit) :=
  Option.bind (F_impl_copyGroup k (x.1, ())) fun (r1 : DGroup × Unit) =>
  Option.bind (F_impl_Swept k (x.1.2.2.2.2, x.2.1, ())) fun (r2 : List DAlarm × Unit) =>
  Option.bind (F_impl_copySet k (x.1.2.1, ())) fun (r3 : List DLabel × Unit) =>
  Option.bind (F_impl_copyAlarms k (x.1.2.2.2.2, ())) fun (r4 : List DAlarm × Unit) =>
  some ((r1.1.1, (r1.1.2.1, (r1.1.2.2.1, (x.2.1, r2.1)))), (x.1.1, (r3.1, (x.2.1, r4.1))), ())
def F_laws_eqLabel (k : Nat) (x : DLabel × DLabel × Unit) : Option (Bool × Unit) :=
  if (!(ByteArray.toList x.1.1 == ByteArray.toList x.2.1.1)) = true then
    some (false, ())
  else
    if (!(ByteArray.toList x.1.2 == ByteArray.toList x.2.1.2)) = true then
      some (false, ())
    else
      some (true, ())
def F_laws_eqLabelS (k : Nat) (x : List DLabel × List DLabel × Unit) : Option (Bool × Unit) :=
  if ((((List.length x.1 : Nat) : Int) : Int) != ((List.length x.2.1 : Nat) : Int)) = true then
    some (false, ())
  else
    loopN k (fun G1 (t2 : List DLabel × List DLabel × Int × Unit) =>
      if (decide ((t2.2.2.1 : Int) < ((List.length t2.1 : Nat) : Int))) = true then
        if (decide (0 ≤ t2.2.2.1 ∧ t2.2.2.1 < ((List.length t2.1 : Nat) : Int))) = true then
          if (decide (0 ≤ t2.2.2.1 ∧ t2.2.2.1 < ((List.length t2.2.1 : Nat) : Int))) = true then
            Option.bind (F_laws_eqLabel k (List.getD t2.1 (Int.toNat t2.2.2.1) tLabel.dflt, List.getD t2.2.1 (Int.toNat t2.2.2.1) tLabel.dflt, ())) fun (r3 : Bool × Unit) =>
            if (!r3.1) = true then
              some (false, ())
            else
              G1 (t2.1, t2.2.1, IntKind.i64.wrap (t2.2.2.1 + (1 : Int)), ())
          else
            none
        else
          none
      else
        some (true, ())) (x.1, x.2.1, (0 : Int), ())
def F_laws_eqAlarm (k : Nat) (x : DAlarm × DAlarm × Unit) : Option (Bool × Unit) :=
  Option.bind (F_laws_eqLabelS k (x.1.1, x.2.1.1, ())) fun (r1 : Bool × Unit) =>
  if (!r1.1) = true then
    some (false, ())
  else
    if ((x.1.2.1 : Int) != x.2.1.2.1) = true then
      some (false, ())
    else
      if ((x.1.2.2.1 : Int) != x.2.1.2.2.1) = true then
        some (false, ())
      else
        if (!(ByteArray.toList x.1.2.2.2 == ByteArray.toList x.2.1.2.2.2)) = true then
          some (false, ())
        else
          some (true, ())
def F_laws_eqAlarmS (k : Nat) (x : List DAlarm × List DAlarm × Unit) : Option (Bool × Unit) :=
  if ((((List.length x.1 : Nat) : Int) : Int) != ((List.length x.2.1 : Nat) : Int)) = true then
    some (false, ())
  else
    loopN k (fun G1 (t2 : List DAlarm × List DAlarm × Int × Unit) =>
      if (decide ((t2.2.2.1 : Int) < ((List.length t2.1 : Nat) : Int))) = true then
        if (decide (0 ≤ t2.2.2.1 ∧ t2.2.2.1 < ((List.length t2.1 : Nat) : Int))) = true then
          if (decide (0 ≤ t2.2.2.1 ∧ t2.2.2.1 < ((List.length t2.2.1 : Nat) : Int))) = true then
            Option.bind (F_laws_eqAlarm k (List.getD t2.1 (Int.toNat t2.2.2.1) tAlarm.dflt, List.getD t2.2.1 (Int.toNat t2.2.2.1) tAlarm.dflt, ())) fun (r3 : Bool × Unit) =>
            if (!r3.1) = true then
              some (false, ())
            else
              G1 (t2.1, t2.2.1, IntKind.i64.wrap (t2.2.2.1 + (1 : Int)), ())
          else
            none
        else
          none
      else
        some (true, ())) (x.1, x.2.1, (0 : Int), ())
def F_laws_eqGroup (k : Nat) (x : DGroup × DGroup × Unit) : Option (Bool × Unit) :=
  if ((x.1.1 : Int) != x.2.1.1) = true then
    some (false, ())
  else
    Option.bind (F_laws_eqLabelS k (x.1.2.1, x.2.1.2.1, ())) fun (r1 : Bool × Unit) =>
    if (!r1.1) = true then
      some (false, ())
    else
      if ((x.1.2.2.1 : Int) != x.2.1.2.2.1) = true then
        some (false, ())
      else
        if ((x.1.2.2.2.1 : Int) != x.2.1.2.2.2.1) = true then
          some (false, ())
        else
          Option.bind (F_laws_eqAlarmS k (x.1.2.2.2.2, x.2.1.2.2.2.2, ())) fun (r2 : Bool × Unit) =>
          if (!r2.1) = true then
            some (false, ())
          else
            some (true, ())
def F_laws_eqBatch (k : Nat) (x : DBatch × DBatch × Unit) : Option (Bool × Unit) :=
  if ((x.1.1 : Int) != x.2.1.1) = true then
    some (false, ())
  else
    Option.bind (F_laws_eqLabelS k (x.1.2.1, x.2.1.2.1, ())) fun (r1 : Bool × Unit) =>
    if (!r1.1) = true then
      some (false, ())
    else
      if ((x.1.2.2.1 : Int) != x.2.1.2.2.1) = true then
        some (false, ())
      else
        Option.bind (F_laws_eqAlarmS k (x.1.2.2.2, x.2.1.2.2.2, ())) fun (r2 : Bool × Unit) =>
        if (!r2.1) = true then
          some (false, ())
        else
          some (true, ())
def F_laws_markText (k : Nat) (x : Int × Unit) : Option (ByteArray × Unit) :=
  if (decide ((x.1 : Int) ≤ (0 : Int))) = true then
    some ((⟨#[109, 48]⟩ : ByteArray), ())
  else
    joinC (fun J1 =>
      loopN k (fun G3 (t4 : Int × ByteArray × Unit) =>
        if (decide ((t4.1 : Int) > (0 : Int))) = true then
          if (decide ((10 : Int) ≠ 0)) = true then
            if (decide (((⟨(List.map (fun n : Int => UInt8.ofNat n.toNat) ([IntKind.u8.wrap (IntKind.i64.wrap ((48 : Int) + (Int.tmod t4.1 (10 : Int))))] : List Int)).toArray⟩ : ByteArray)).size + (t4.2.1).size < 4294967296)) = true then
              if (decide ((10 : Int) ≠ 0)) = true then
                G3 (IntKind.i64.wrap (Int.tdiv t4.1 (10 : Int)), (⟨(List.map (fun n : Int => UInt8.ofNat n.toNat) ([IntKind.u8.wrap (IntKind.i64.wrap ((48 : Int) + (Int.tmod t4.1 (10 : Int))))] : List Int)).toArray⟩ : ByteArray) ++ t4.2.1, ())
              else
                none
            else
              none
          else
            none
        else
          J1 (t4.2.1, ())) (x.1, (⟨#[]⟩ : ByteArray), ())) (fun (t2 : ByteArray × Unit) =>
      if (decide (((⟨#[109]⟩ : ByteArray)).size + (t2.1).size < 4294967296)) = true then
        some ((⟨#[109]⟩ : ByteArray) ++ t2.1, ())
      else
        none)
def F_laws_markLabelS (k : Nat) (x : List DLabel) (n : Int) : Option (Int × (List DLabel)) :=
  loopN k (fun G1 (t2 : List DLabel × Int × Int × Unit) =>
    if (decide ((t2.2.2.1 : Int) < ((List.length t2.1 : Nat) : Int))) = true then
      Option.bind (F_laws_markText k (t2.2.1, ())) fun (r3 : ByteArray × Unit) =>
      if (decide (0 ≤ t2.2.2.1 ∧ t2.2.2.1 < ((List.length t2.1 : Nat) : Int))) = true then
        letC (List.set t2.1 (Int.toNat t2.2.2.1) (r3.1, (List.getD t2.1 (Int.toNat t2.2.2.1) tLabel.dflt).2)) fun (l4 : List DLabel) =>
        Option.bind (F_laws_markText k (IntKind.i64.wrap (t2.2.1 + (1 : Int)), ())) fun (r5 : ByteArray × Unit) =>
        if (decide (0 ≤ t2.2.2.1 ∧ t2.2.2.1 < ((List.length l4 : Nat) : Int))) = true then
          letC (List.set l4 (Int.toNat t2.2.2.1) ((List.getD l4 (Int.toNat t2.2.2.1) tLabel.dflt).1, r5.1)) fun (l6 : List DLabel) =>
          G1 (l6, IntKind.i64.wrap ((IntKind.i64.wrap (t2.2.1 + (1 : Int))) + (1 : Int)), IntKind.i64.wrap (t2.2.2.1 + (1 : Int)), ())
        else
          none
      else
        none
    else
      some (t2.2.1, t2.1)) (x, n, (0 : Int), ())
def F_laws_markAlarmS (k : Nat) (x : List DAlarm) (n : Int) : Option (Int × (List DAlarm)) :=
  loopN k (fun G1 (t2 : List DAlarm × Int × Int × Unit) =>
    if (decide ((t2.2.2.1 : Int) < ((List.length t2.1 : Nat) : Int))) = true then
      if (decide (0 ≤ t2.2.2.1 ∧ t2.2.2.1 < ((List.length t2.1 : Nat) : Int))) = true then
        Option.bind (F_laws_markLabelS k ((List.getD t2.1 (Int.toNat t2.2.2.1) tAlarm.dflt).1) t2.2.1) fun (r3 : Int × (List DLabel)) =>
        letC (List.set t2.1 (Int.toNat t2.2.2.1) (r3.2, (List.getD t2.1 (Int.toNat t2.2.2.1) tAlarm.dflt).2)) fun (l4 : List DAlarm) =>
        if (decide (0 ≤ t2.2.2.1 ∧ t2.2.2.1 < ((List.length l4 : Nat) : Int))) = true then
          letC (List.set l4 (Int.toNat t2.2.2.1) ((List.getD l4 (Int.toNat t2.2.2.1) tAlarm.dflt).1, (r3.1, ((List.getD l4 (Int.toNat t2.2.2.1) tAlarm.dflt).2).2))) fun (l5 : List DAlarm) =>
          if (decide (0 ≤ t2.2.2.1 ∧ t2.2.2.1 < ((List.length l5 : Nat) : Int))) = true then
            letC (List.set l5 (Int.toNat t2.2.2.1) ((List.getD l5 (Int.toNat t2.2.2.1) tAlarm.dflt).1, (((List.getD l5 (Int.toNat t2.2.2.1) tAlarm.dflt).2).1, (IntKind.i64.wrap (r3.1 + (1 : Int)), (((List.getD l5 (Int.toNat t2.2.2.1) tAlarm.dflt).2).2).2)))) fun (l6 : List DAlarm) =>
            Option.bind (F_laws_markText k (IntKind.i64.wrap ((IntKind.i64.wrap (r3.1 + (1 : Int))) + (1 : Int)), ())) fun (r7 : ByteArray × Unit) =>
            if (decide (0 ≤ t2.2.2.1 ∧ t2.2.2.1 < ((List.length l6 : Nat) : Int))) = true then
              letC (List.set l6 (Int.toNat t2.2.2.1) ((List.getD l6 (Int.toNat t2.2.2.1) tAlarm.dflt).1, (((List.getD l6 (Int.toNat t2.2.2.1) tAlarm.dflt).2).1, ((((List.getD l6 (Int.toNat t2.2.2.1) tAlarm.dflt).2).2).1, r7.1)))) fun (l8 : List DAlarm) =>
              G1 (l8, IntKind.i64.wrap ((IntKind.i64.wrap ((IntKind.i64.wrap (r3.1 + (1 : Int))) + (1 : Int))) + (1 : Int)), IntKind.i64.wrap (t2.2.2.1 + (1 : Int)), ())
            else
              none
          else
            none
        else
          none
      else
        none
    else
      some (t2.2.1, t2.1)) (x, n, (0 : Int), ())
def F_laws_markGroup (k : Nat) (x : DGroup) (n : Int) : Option (Int × DGroup) :=
  Option.bind (F_laws_markLabelS k x.2.1 n) fun (r1 : Int × (List DLabel)) =>
  Option.bind (F_laws_markAlarmS k x.2.2.2.2 r1.1) fun (r2 : Int × (List DAlarm)) =>
  some (r2.1, (x.1, (r1.2, (x.2.2.1, (x.2.2.2.1, r2.2)))))
def F_laws_markBatch (k : Nat) (x : DBatch) (n : Int) : Option (Int × DBatch) :=
  Option.bind (F_laws_markLabelS k x.2.1 n) fun (r1 : Int × (List DLabel)) =>
  Option.bind (F_laws_markAlarmS k x.2.2.2 r1.1) fun (r2 : Int × (List DAlarm)) =>
  some (r2.1, (x.1, (r1.2, (x.2.2.1, r2.2))))
def F_laws_heldLabelS (k : Nat) (x : List DLabel × Int × Unit) : Option (Int × Unit) :=
  loopN k (fun G1 (t2 : List DLabel × Int × Int × Unit) =>
    if (decide ((t2.2.2.1 : Int) < ((List.length t2.1 : Nat) : Int))) = true then
      if (decide (0 ≤ t2.2.2.1 ∧ t2.2.2.1 < ((List.length t2.1 : Nat) : Int))) = true then
        Option.bind (F_laws_markText k (t2.2.1, ())) fun (r3 : ByteArray × Unit) =>
        if (!(ByteArray.toList ((List.getD t2.1 (Int.toNat t2.2.2.1) tLabel.dflt).1) == ByteArray.toList r3.1)) = true then
          some ((-1 : Int), ())
        else
          if (decide (0 ≤ t2.2.2.1 ∧ t2.2.2.1 < ((List.length t2.1 : Nat) : Int))) = true then
            Option.bind (F_laws_markText k (IntKind.i64.wrap (t2.2.1 + (1 : Int)), ())) fun (r4 : ByteArray × Unit) =>
            if (!(ByteArray.toList ((List.getD t2.1 (Int.toNat t2.2.2.1) tLabel.dflt).2) == ByteArray.toList r4.1)) = true then
              some ((-1 : Int), ())
            else
              G1 (t2.1, IntKind.i64.wrap ((IntKind.i64.wrap (t2.2.1 + (1 : Int))) + (1 : Int)), IntKind.i64.wrap (t2.2.2.1 + (1 : Int)), ())
          else
            none
      else
        none
    else
      some (t2.2.1, ())) (x.1, x.2.1, (0 : Int), ())
def F_laws_heldAlarmS (k : Nat) (x : List DAlarm × Int × Unit) : Option (Int × Unit) :=
  loopN k (fun G1 (t2 : List DAlarm × Int × Int × Unit) =>
    if (decide ((t2.2.2.1 : Int) < ((List.length t2.1 : Nat) : Int))) = true then
      if (decide (0 ≤ t2.2.2.1 ∧ t2.2.2.1 < ((List.length t2.1 : Nat) : Int))) = true then
        Option.bind (F_laws_heldLabelS k ((List.getD t2.1 (Int.toNat t2.2.2.1) tAlarm.dflt).1, t2.2.1, ())) fun (r3 : Int × Unit) =>
        if (decide ((r3.1 : Int) < (0 : Int))) = true then
          some ((-1 : Int), ())
        else
          if (decide (0 ≤ t2.2.2.1 ∧ t2.2.2.1 < ((List.length t2.1 : Nat) : Int))) = true then
            if (((((List.getD t2.1 (Int.toNat t2.2.2.1) tAlarm.dflt).2).1) : Int) != r3.1) = true then
              some ((-1 : Int), ())
            else
              if (decide (0 ≤ t2.2.2.1 ∧ t2.2.2.1 < ((List.length t2.1 : Nat) : Int))) = true then
                if ((((((List.getD t2.1 (Int.toNat t2.2.2.1) tAlarm.dflt).2).2).1) : Int) != (IntKind.i64.wrap (r3.1 + (1 : Int)))) = true then
                  some ((-1 : Int), ())
                else
                  if (decide (0 ≤ t2.2.2.1 ∧ t2.2.2.1 < ((List.length t2.1 : Nat) : Int))) = true then
                    Option.bind (F_laws_markText k (IntKind.i64.wrap ((IntKind.i64.wrap (r3.1 + (1 : Int))) + (1 : Int)), ())) fun (r4 : ByteArray × Unit) =>
                    if (!(ByteArray.toList ((((List.getD t2.1 (Int.toNat t2.2.2.1) tAlarm.dflt).2).2).2) == ByteArray.toList r4.1)) = true then
                      some ((-1 : Int), ())
                    else
                      G1 (t2.1, IntKind.i64.wrap ((IntKind.i64.wrap ((IntKind.i64.wrap (r3.1 + (1 : Int))) + (1 : Int))) + (1 : Int)), IntKind.i64.wrap (t2.2.2.1 + (1 : Int)), ())
                  else
                    none
              else
                none
          else
            none
      else
        none
    else
      some (t2.2.1, ())) (x.1, x.2.1, (0 : Int), ())
def F_laws_heldGroup (k : Nat) (x : DGroup × Int × Unit) : Option (Int × Unit) :=
  Option.bind (F_laws_heldLabelS k (x.1.2.1, x.2.1, ())) fun (r1 : Int × Unit) =>
  if (decide ((r1.1 : Int) < (0 : Int))) = true then
    some ((-1 : Int), ())
  else
    Option.bind (F_laws_heldAlarmS k (x.1.2.2.2.2, r1.1, ())) fun (r2 : Int × Unit) =>
    if (decide ((r2.1 : Int) < (0 : Int))) = true then
      some ((-1 : Int), ())
    else
      some (r2.1, ())
def F_laws_heldBatch (k : Nat) (x : DBatch × Int × Unit) : Option (Int × Unit) :=
  Option.bind (F_laws_heldLabelS k (x.1.2.1, x.2.1, ())) fun (r1 : Int × Unit) =>
  if (decide ((r1.1 : Int) < (0 : Int))) = true then
    some ((-1 : Int), ())
  else
    Option.bind (F_laws_heldAlarmS k (x.1.2.2.2, r1.1, ())) fun (r2 : Int × Unit) =>
    if (decide ((r2.1 : Int) < (0 : Int))) = true then
      some ((-1 : Int), ())
    else
      some (r2.1, ())
def F_laws_FnExactFlush (k : Nat) (x : DGroup × Int × Unit) : Option (Bool × Unit) :=
  Option.bind (F_laws_szGroup k (x.1, (1048576 : Int), ())) fun (r1 : Int × Unit) =>
  if (decide ((r1.1 : Int) < (0 : Int))) = true then
    some (true, ())
  else
    Option.bind (F_laws_toGroup k (x.1, ())) fun (r2 : DGroup × Unit) =>
    Option.bind (F_spec_Flush k (r2.1, x.2.1, ())) fun (r3 : DGroup × DBatch × Unit) =>
    Option.bind (F_laws_toGroup k (x.1, ())) fun (r4 : DGroup × Unit) =>
    Option.bind (F_impl_Flush k (r4.1, x.2.1, ())) fun (r5 : DGroup × DBatch × Unit) =>
    Option.bind (F_laws_eqGroup k (r5.1, r3.1, ())) fun (r6 : Bool × Unit) =>
    Option.bind ((if (((!r6.1) : Bool) == false) = true then F_laws_eqBatch k (r5.2.1, r3.2.1, ()) else some (false, ()))) fun (r7 : Bool × Unit) =>
    if (if (!r6.1) = true then true else !r7.1) = true then
      some (false, ())
    else
      Option.bind (F_laws_toGroup k (x.1, ())) fun (r8 : DGroup × Unit) =>
      Option.bind (F_laws_eqGroup k (r4.1, r8.1, ())) fun (r9 : Bool × Unit) =>
      if (!r9.1) = true then
        some (false, ())
      else
        Option.bind (F_laws_markGroup k r4.1 (1 : Int)) fun (r10 : Int × DGroup) =>
        Option.bind ((if (((decide ((r10.1 : Int) < (0 : Int))) : Bool) == false) = true then F_laws_eqGroup k (r5.1, r3.1, ()) else some (false, ()))) fun (r11 : Bool × Unit) =>
        Option.bind ((if (((if (decide ((r10.1 : Int) < (0 : Int))) = true then true else !r11.1) : Bool) == false) = true then F_laws_eqBatch k (r5.2.1, r3.2.1, ()) else some (false, ()))) fun (r12 : Bool × Unit) =>
        if (if (if (decide ((r10.1 : Int) < (0 : Int))) = true then true else !r11.1) = true then true else !r12.1) = true then
          some (false, ())
        else
          Option.bind (F_laws_markGroup k r5.1 (1 : Int)) fun (r13 : Int × DGroup) =>
          Option.bind (F_laws_markBatch k r5.2.1 r13.1) fun (r14 : Int × DBatch) =>
          Option.bind (F_laws_heldGroup k ((r5.1.1, (r13.2.2.1, (r5.1.2.2.1, (r5.1.2.2.2.1, r13.2.2.2.2.2)))), (1 : Int), ())) fun (r15 : Int × Unit) =>
          if (decide ((r15.1 : Int) < (0 : Int))) = true then
            some (false, ())
          else
            Option.bind (F_laws_heldBatch k ((r5.2.1.1, (r14.2.2.1, (r5.2.1.2.2.1, r14.2.2.2.2))), r15.1, ())) fun (r16 : Int × Unit) =>
            if (decide ((r16.1 : Int) < (0 : Int))) = true then
              some (false, ())
            else
              if ((r16.1 : Int) != r14.1) = true then
                some (false, ())
              else
                Option.bind (F_laws_toGroup k (x.1, ())) fun (r17 : DGroup × Unit) =>
                Option.bind (F_impl_Flush k (r17.1, x.2.1, ())) fun (r18 : DGroup × DBatch × Unit) =>
                Option.bind (F_laws_eqGroup k (r18.1, r3.1, ())) fun (r19 : Bool × Unit) =>
                Option.bind ((if (((!r19.1) : Bool) == false) = true then F_laws_eqBatch k (r18.2.1, r3.2.1, ()) else some (false, ()))) fun (r20 : Bool × Unit) =>
                if (if (!r19.1) = true then true else !r20.1) = true then
                  some (false, ())
                else
                  Option.bind (F_laws_heldGroup k ((r5.1.1, (r13.2.2.1, (r5.1.2.2.1, (r5.1.2.2.2.1, r13.2.2.2.2.2)))), (1 : Int), ())) fun (r21 : Int × Unit) =>
                  if (decide ((r21.1 : Int) < (0 : Int))) = true then
                    some (false, ())
                  else
                    Option.bind (F_laws_heldBatch k ((r5.2.1.1, (r14.2.2.1, (r5.2.1.2.2.1, r14.2.2.2.2))), r21.1, ())) fun (r22 : Int × Unit) =>
                    if (decide ((r22.1 : Int) < (0 : Int))) = true then
                      some (false, ())
                    else
                      if ((r22.1 : Int) != r14.1) = true then
                        some (false, ())
                      else
                        some (true, ())
def F_laws_szGroupS (k : Nat) (x : List DGroup × Int × Unit) : Option (Int × Unit) :=
  if (decide (((IntKind.i64.wrap (x.2.1 - ((List.length x.1 : Nat) : Int))) : Int) < (0 : Int))) = true then
    some ((-1 : Int), ())
  else
    loopN k (fun G1 (t2 : List DGroup × Int × Int × Unit) =>
      if (decide ((t2.2.2.1 : Int) < ((List.length t2.1 : Nat) : Int))) = true then
        if (decide (0 ≤ t2.2.2.1 ∧ t2.2.2.1 < ((List.length t2.1 : Nat) : Int))) = true then
          Option.bind (F_laws_szGroup k (List.getD t2.1 (Int.toNat t2.2.2.1) tGroup.dflt, t2.2.1, ())) fun (r3 : Int × Unit) =>
          if (decide ((r3.1 : Int) < (0 : Int))) = true then
            some ((-1 : Int), ())
          else
            G1 (t2.1, r3.1, IntKind.i64.wrap (t2.2.2.1 + (1 : Int)), ())
        else
          none
      else
        some (t2.2.1, ())) (x.1, IntKind.i64.wrap (x.2.1 - ((List.length x.1 : Nat) : Int)), (0 : Int), ())
def F_laws_toGroupS (k : Nat) (x : List DGroup × Unit) : Option (List DGroup × Unit) :=
  if (decide (0 ≤ ((List.length x.1 : Nat) : Int) ∧ ((List.length x.1 : Nat) : Int) < 4294967296 ∧ ((List.length x.1 : Nat) : Int) = ((List.length x.1 : Nat) : Int))) = true then
    loopN k (fun G1 (t2 : List DGroup × List DGroup × Int × Unit) =>
      if (decide ((t2.2.2.1 : Int) < ((List.length t2.1 : Nat) : Int))) = true then
        if (decide (0 ≤ t2.2.2.1 ∧ t2.2.2.1 < ((List.length t2.1 : Nat) : Int))) = true then
          Option.bind (F_laws_toGroup k (List.getD t2.1 (Int.toNat t2.2.2.1) tGroup.dflt, ())) fun (r3 : DGroup × Unit) =>
          if (decide (0 ≤ t2.2.2.1 ∧ t2.2.2.1 < ((List.length t2.2.1 : Nat) : Int))) = true then
            G1 (t2.1, List.set t2.2.1 (Int.toNat t2.2.2.1) r3.1, IntKind.i64.wrap (t2.2.2.1 + (1 : Int)), ())
          else
            none
        else
          none
      else
        some (t2.2.1, ())) (x.1, List.replicate (Int.toNat ((List.length x.1 : Nat) : Int)) tGroup.dflt, (0 : Int), ())
  else
    none
def F_spec_l12Copy (k : Nat) (x : List DGroup × Unit) : Option (List DGroup × Unit) :=
  loopN k (fun G1 (t2 : List DGroup × List DGroup × Int × Unit) =>
    if (decide ((t2.2.2.1 : Int) < ((List.length t2.1 : Nat) : Int))) = true then
      if (decide (0 ≤ t2.2.2.1 ∧ t2.2.2.1 < ((List.length t2.1 : Nat) : Int))) = true then
        Option.bind (F_spec_l11Copy k (List.getD t2.1 (Int.toNat t2.2.2.1) tGroup.dflt, ())) fun (r3 : DGroup × Unit) =>
        if (decide (List.length t2.2.1 + List.length ([r3.1] : List DGroup) < 4294967296)) = true then
          G1 (t2.1, t2.2.1 ++ ([r3.1] : List DGroup), IntKind.i64.wrap (t2.2.2.1 + (1 : Int)), ())
        else
          none
      else
        none
    else
      some (t2.2.1, ())) (x.1, ([] : List DGroup), (0 : Int), ())
def F_spec_GroupAt (k : Nat) (x : List DGroup × Int × Unit) : Option (Int × Unit) :=
  loopN k (fun G1 (t2 : List DGroup × Int × Int × Unit) =>
    if (decide ((t2.2.2.1 : Int) < ((List.length t2.1 : Nat) : Int))) = true then
      if (decide (0 ≤ t2.2.2.1 ∧ t2.2.2.1 < ((List.length t2.1 : Nat) : Int))) = true then
        if ((((List.getD t2.1 (Int.toNat t2.2.2.1) tGroup.dflt).1) : Int) == t2.2.1) = true then
          some (t2.2.2.1, ())
        else
          G1 (t2.1, t2.2.1, IntKind.i64.wrap (t2.2.2.1 + (1 : Int)), ())
      else
        none
    else
      some ((-1 : Int), ())) (x.1, x.2.1, (0 : Int), ())
def F_spec_FlushAt (k : Nat) (x : List DGroup × Int × Int × Unit) : Option (List DGroup × DBatch × Bool × Unit) :=
  Option.bind (F_spec_l12Copy k (x.1, ())) fun (r1 : List DGroup × Unit) =>
  Option.bind (F_spec_GroupAt k (x.1, x.2.1, ())) fun (r2 : Int × Unit) =>
  if (decide ((r2.1 : Int) < (0 : Int))) = true then
    some (r1.1, (0, (([] : List DLabel), (0, ([] : List DAlarm)))), false, ())
  else
    if (decide (0 ≤ r2.1 ∧ r2.1 < ((List.length x.1 : Nat) : Int))) = true then
      Option.bind (F_spec_Flush k (List.getD x.1 (Int.toNat r2.1) tGroup.dflt, x.2.2.1, ())) fun (r3 : DGroup × DBatch × Unit) =>
      if (decide (0 ≤ r2.1 ∧ r2.1 < ((List.length r1.1 : Nat) : Int))) = true then
        if ((((List.length r3.1.2.2.2.2 : Nat) : Int) : Int) == (0 : Int)) = true then
          if (decide (0 ≤ r2.1 ∧ r2.1 ≤ ((List.length x.1 : Nat) : Int))) = true then
            Option.bind (F_spec_l12Copy k (List.take (Int.toNat r2.1) x.1, ())) fun (r4 : List DGroup × Unit) =>
            if (decide (0 ≤ (IntKind.i64.wrap (r2.1 + (1 : Int))) ∧ (IntKind.i64.wrap (r2.1 + (1 : Int))) ≤ ((List.length x.1 : Nat) : Int))) = true then
              Option.bind (F_spec_l12Copy k (List.drop (Int.toNat (IntKind.i64.wrap (r2.1 + (1 : Int)))) x.1, ())) fun (r5 : List DGroup × Unit) =>
              if (decide (List.length r4.1 + List.length r5.1 < 4294967296)) = true then
                some (r4.1 ++ r5.1, r3.2.1, true, ())
              else
                none
            else
              none
          else
            none
        else
          some (List.set r1.1 (Int.toNat r2.1) r3.1, r3.2.1, true, ())
      else
        none
    else
      none
def F_impl_copyGroups (k : Nat) (x : List DGroup × Unit) : Option (List DGroup × Unit) :=
  loopN k (fun G1 (t2 : List DGroup × List DGroup × Int × Int × Unit) =>
    if (decide ((t2.2.2.2.1 : Int) < t2.2.2.1)) = true then
      if (decide (0 ≤ t2.2.2.2.1 ∧ t2.2.2.2.1 < ((List.length t2.2.1 : Nat) : Int))) = true then
        Option.bind (F_impl_copyGroup k (List.getD t2.2.1 (Int.toNat t2.2.2.2.1) tGroup.dflt, ())) fun (r3 : DGroup × Unit) =>
        if (decide (List.length t2.1 + List.length ([r3.1] : List DGroup) < 4294967296)) = true then
          G1 (t2.1 ++ ([r3.1] : List DGroup), t2.2.1, t2.2.2.1, IntKind.i64.wrap (t2.2.2.2.1 + (1 : Int)), ())
        else
          none
      else
        none
    else
      some (t2.1, ())) (([] : List DGroup), x.1, ((List.length x.1 : Nat) : Int), (0 : Int), ())
def F_impl_GroupAt (k : Nat) (x : List DGroup × Int × Unit) : Option (Int × Unit) :=
  loopN k (fun G1 (t2 : Int × List DGroup × Int × Int × Unit) =>
    if (decide ((t2.2.2.2.1 : Int) < t2.2.2.1)) = true then
      if (decide (0 ≤ t2.2.2.2.1 ∧ t2.2.2.2.1 < ((List.length t2.2.1 : Nat) : Int))) = true then
        if ((((List.getD t2.2.1 (Int.toNat t2.2.2.2.1) tGroup.dflt).1) : Int) == t2.1) = true then
          some (t2.2.2.2.1, ())
        else
          G1 (t2.1, t2.2.1, t2.2.2.1, IntKind.i64.wrap (t2.2.2.2.1 + (1 : Int)), ())
      else
        none
    else
      some ((-1 : Int), ())) (x.2.1, x.1, ((List.length x.1 : Nat) : Int), (0 : Int), ())
def F_impl_FlushAt (k : Nat) (x : List DGroup × Int × Int × Unit) : Option (List DGroup × DBatch × Bool × Unit) :=
  Option.bind (F_impl_copyGroups k (x.1, ())) fun (r1 : List DGroup × Unit) =>
  Option.bind (F_impl_GroupAt k (x.1, x.2.1, ())) fun (r2 : Int × Unit) =>
  if (decide ((r2.1 : Int) < (0 : Int))) = true then
    some (r1.1, (0, (([] : List DLabel), (0, ([] : List DAlarm)))), false, ())
  else
    if (decide (0 ≤ r2.1 ∧ r2.1 < ((List.length x.1 : Nat) : Int))) = true then
      Option.bind (F_impl_Flush k (List.getD x.1 (Int.toNat r2.1) tGroup.dflt, x.2.2.1, ())) fun (r3 : DGroup × DBatch × Unit) =>
      if (decide (0 ≤ r2.1 ∧ r2.1 < ((List.length r1.1 : Nat) : Int))) = true then
        if ((((List.length r3.1.2.2.2.2 : Nat) : Int) : Int) == (0 : Int)) = true then
          if (decide (0 ≤ r2.1 ∧ r2.1 < ((List.length (List.set r1.1 (Int.toNat r2.1) r3.1) : Nat) : Int) ∧ List.length (List.set r1.1 (Int.toNat r2.1) r3.1) < 4294967296)) = true then
            some (List.take (Int.toNat r2.1) (List.set r1.1 (Int.toNat r2.1) r3.1) ++ List.drop (Int.toNat r2.1 + 1) (List.set r1.1 (Int.toNat r2.1) r3.1), r3.2.1, true, ())
          else
            none
        else
          some (List.set r1.1 (Int.toNat r2.1) r3.1, r3.2.1, true, ())
      else
        none
    else
      none
def F_laws_eqGroupS (k : Nat) (x : List DGroup × List DGroup × Unit) : Option (Bool × Unit) :=
  if ((((List.length x.1 : Nat) : Int) : Int) != ((List.length x.2.1 : Nat) : Int)) = true then
    some (false, ())
  else
    loopN k (fun G1 (t2 : List DGroup × List DGroup × Int × Unit) =>
      if (decide ((t2.2.2.1 : Int) < ((List.length t2.1 : Nat) : Int))) = true then
        if (decide (0 ≤ t2.2.2.1 ∧ t2.2.2.1 < ((List.length t2.1 : Nat) : Int))) = true then
          if (decide (0 ≤ t2.2.2.1 ∧ t2.2.2.1 < ((List.length t2.2.1 : Nat) : Int))) = true then
            Option.bind (F_laws_eqGroup k (List.getD t2.1 (Int.toNat t2.2.2.1) tGroup.dflt, List.getD t2.2.1 (Int.toNat t2.2.2.1) tGroup.dflt, ())) fun (r3 : Bool × Unit) =>
            if (!r3.1) = true then
              some (false, ())
            else
              G1 (t2.1, t2.2.1, IntKind.i64.wrap (t2.2.2.1 + (1 : Int)), ())
          else
            none
        else
          none
      else
        some (true, ())) (x.1, x.2.1, (0 : Int), ())
def F_laws_markGroupS (k : Nat) (x : List DGroup) (n : Int) : Option (Int × (List DGroup)) :=
  loopN k (fun G1 (t2 : List DGroup × Int × Int × Unit) =>
    if (decide ((t2.2.2.1 : Int) < ((List.length t2.1 : Nat) : Int))) = true then
      if (decide (0 ≤ t2.2.2.1 ∧ t2.2.2.1 < ((List.length t2.1 : Nat) : Int))) = true then
        letC (List.set t2.1 (Int.toNat t2.2.2.1) (t2.2.1, (List.getD t2.1 (Int.toNat t2.2.2.1) tGroup.dflt).2)) fun (l3 : List DGroup) =>
        if (decide (0 ≤ t2.2.2.1 ∧ t2.2.2.1 < ((List.length l3 : Nat) : Int))) = true then
          Option.bind (F_laws_markLabelS k (((List.getD l3 (Int.toNat t2.2.2.1) tGroup.dflt).2).1) (IntKind.i64.wrap (t2.2.1 + (1 : Int)))) fun (r4 : Int × (List DLabel)) =>
          letC (List.set l3 (Int.toNat t2.2.2.1) ((List.getD l3 (Int.toNat t2.2.2.1) tGroup.dflt).1, (r4.2, ((List.getD l3 (Int.toNat t2.2.2.1) tGroup.dflt).2).2))) fun (l5 : List DGroup) =>
          if (decide (0 ≤ t2.2.2.1 ∧ t2.2.2.1 < ((List.length l5 : Nat) : Int))) = true then
            letC (List.set l5 (Int.toNat t2.2.2.1) ((List.getD l5 (Int.toNat t2.2.2.1) tGroup.dflt).1, (((List.getD l5 (Int.toNat t2.2.2.1) tGroup.dflt).2).1, (r4.1, (((List.getD l5 (Int.toNat t2.2.2.1) tGroup.dflt).2).2).2)))) fun (l6 : List DGroup) =>
            if (decide (0 ≤ t2.2.2.1 ∧ t2.2.2.1 < ((List.length l6 : Nat) : Int))) = true then
              letC (List.set l6 (Int.toNat t2.2.2.1) ((List.getD l6 (Int.toNat t2.2.2.1) tGroup.dflt).1, (((List.getD l6 (Int.toNat t2.2.2.1) tGroup.dflt).2).1, ((((List.getD l6 (Int.toNat t2.2.2.1) tGroup.dflt).2).2).1, (IntKind.i64.wrap (r4.1 + (1 : Int)), ((((List.getD l6 (Int.toNat t2.2.2.1) tGroup.dflt).2).2).2).2))))) fun (l7 : List DGroup) =>
              if (decide (0 ≤ t2.2.2.1 ∧ t2.2.2.1 < ((List.length l7 : Nat) : Int))) = true then
                Option.bind (F_laws_markAlarmS k (((((List.getD l7 (Int.toNat t2.2.2.1) tGroup.dflt).2).2).2).2) (IntKind.i64.wrap ((IntKind.i64.wrap (r4.1 + (1 : Int))) + (1 : Int)))) fun (r8 : Int × (List DAlarm)) =>
                letC (List.set l7 (Int.toNat t2.2.2.1) ((List.getD l7 (Int.toNat t2.2.2.1) tGroup.dflt).1, (((List.getD l7 (Int.toNat t2.2.2.1) tGroup.dflt).2).1, ((((List.getD l7 (Int.toNat t2.2.2.1) tGroup.dflt).2).2).1, (((((List.getD l7 (Int.toNat t2.2.2.1) tGroup.dflt).2).2).2).1, r8.2))))) fun (l9 : List DGroup) =>
                G1 (l9, r8.1, IntKind.i64.wrap (t2.2.2.1 + (1 : Int)), ())
              else
                none
            else
              none
          else
            none
        else
          none
      else
        none
    else
      some (t2.2.1, t2.1)) (x, n, (0 : Int), ())
def F_laws_heldGroupS (k : Nat) (x : List DGroup × Int × Unit) : Option (Int × Unit) :=
  loopN k (fun G1 (t2 : List DGroup × Int × Int × Unit) =>
    if (decide ((t2.2.2.1 : Int) < ((List.length t2.1 : Nat) : Int))) = true then
      if (decide (0 ≤ t2.2.2.1 ∧ t2.2.2.1 < ((List.length t2.1 : Nat) : Int))) = true then
        if ((((List.getD t2.1 (Int.toNat t2.2.2.1) tGroup.dflt).1) : Int) != t2.2.1) = true then
          some ((-1 : Int), ())
        else
          if (decide (0 ≤ t2.2.2.1 ∧ t2.2.2.1 < ((List.length t2.1 : Nat) : Int))) = true then
            Option.bind (F_laws_heldLabelS k (((List.getD t2.1 (Int.toNat t2.2.2.1) tGroup.dflt).2).1, IntKind.i64.wrap (t2.2.1 + (1 : Int)), ())) fun (r3 : Int × Unit) =>
            if (decide ((r3.1 : Int) < (0 : Int))) = true then
              some ((-1 : Int), ())
            else
              if (decide (0 ≤ t2.2.2.1 ∧ t2.2.2.1 < ((List.length t2.1 : Nat) : Int))) = true then
                if ((((((List.getD t2.1 (Int.toNat t2.2.2.1) tGroup.dflt).2).2).1) : Int) != r3.1) = true then
                  some ((-1 : Int), ())
                else
                  if (decide (0 ≤ t2.2.2.1 ∧ t2.2.2.1 < ((List.length t2.1 : Nat) : Int))) = true then
                    if (((((((List.getD t2.1 (Int.toNat t2.2.2.1) tGroup.dflt).2).2).2).1) : Int) != (IntKind.i64.wrap (r3.1 + (1 : Int)))) = true then
                      some ((-1 : Int), ())
                    else
                      if (decide (0 ≤ t2.2.2.1 ∧ t2.2.2.1 < ((List.length t2.1 : Nat) : Int))) = true then
                        Option.bind (F_laws_heldAlarmS k (((((List.getD t2.1 (Int.toNat t2.2.2.1) tGroup.dflt).2).2).2).2, IntKind.i64.wrap ((IntKind.i64.wrap (r3.1 + (1 : Int))) + (1 : Int)), ())) fun (r4 : Int × Unit) =>
                        if (decide ((r4.1 : Int) < (0 : Int))) = true then
                          some ((-1 : Int), ())
                        else
                          G1 (t2.1, r4.1, IntKind.i64.wrap (t2.2.2.1 + (1 : Int)), ())
                      else
                        none
                  else
                    none
              else
                none
          else
            none
      else
        none
    else
      some (t2.2.1, ())) (x.1, x.2.1, (0 : Int), ())
def F_laws_FnExactFlushAt (k : Nat) (x : List DGroup × Int × Int × Unit) : Option (Bool × Unit) :=
  Option.bind (F_laws_szGroupS k (x.1, (1048576 : Int), ())) fun (r1 : Int × Unit) =>
  if (decide ((r1.1 : Int) < (0 : Int))) = true then
    some (true, ())
  else
    Option.bind (F_laws_toGroupS k (x.1, ())) fun (r2 : List DGroup × Unit) =>
    Option.bind (F_spec_FlushAt k (r2.1, x.2.1, x.2.2.1, ())) fun (r3 : List DGroup × DBatch × Bool × Unit) =>
    Option.bind (F_laws_toGroupS k (x.1, ())) fun (r4 : List DGroup × Unit) =>
    Option.bind (F_impl_FlushAt k (r4.1, x.2.1, x.2.2.1, ())) fun (r5 : List DGroup × DBatch × Bool × Unit) =>
    Option.bind (F_laws_eqGroupS k (r5.1, r3.1, ())) fun (r6 : Bool × Unit) =>
    Option.bind ((if (((!r6.1) : Bool) == false) = true then F_laws_eqBatch k (r5.2.1, r3.2.1, ()) else some (false, ()))) fun (r7 : Bool × Unit) =>
    if (if (if (!r6.1) = true then true else !r7.1) = true then true else !((r5.2.2.1 : Bool) == r3.2.2.1)) = true then
      some (false, ())
    else
      Option.bind (F_laws_toGroupS k (x.1, ())) fun (r8 : List DGroup × Unit) =>
      Option.bind (F_laws_eqGroupS k (r4.1, r8.1, ())) fun (r9 : Bool × Unit) =>
      if (!r9.1) = true then
        some (false, ())
      else
        Option.bind (F_laws_markGroupS k r4.1 (1 : Int)) fun (r10 : Int × (List DGroup)) =>
        Option.bind ((if (((decide ((r10.1 : Int) < (0 : Int))) : Bool) == false) = true then F_laws_eqGroupS k (r5.1, r3.1, ()) else some (false, ()))) fun (r11 : Bool × Unit) =>
        Option.bind ((if (((if (decide ((r10.1 : Int) < (0 : Int))) = true then true else !r11.1) : Bool) == false) = true then F_laws_eqBatch k (r5.2.1, r3.2.1, ()) else some (false, ()))) fun (r12 : Bool × Unit) =>
        if (if (if (if (decide ((r10.1 : Int) < (0 : Int))) = true then true else !r11.1) = true then true else !r12.1) = true then true else !((r5.2.2.1 : Bool) == r3.2.2.1)) = true then
          some (false, ())
        else
          Option.bind (F_laws_markGroupS k r5.1 (1 : Int)) fun (r13 : Int × (List DGroup)) =>
          Option.bind (F_laws_markBatch k r5.2.1 r13.1) fun (r14 : Int × DBatch) =>
          Option.bind (F_laws_heldGroupS k (r13.2, (1 : Int), ())) fun (r15 : Int × Unit) =>
          if (decide ((r15.1 : Int) < (0 : Int))) = true then
            some (false, ())
          else
            Option.bind (F_laws_heldBatch k ((r5.2.1.1, (r14.2.2.1, (r5.2.1.2.2.1, r14.2.2.2.2))), r15.1, ())) fun (r16 : Int × Unit) =>
            if (decide ((r16.1 : Int) < (0 : Int))) = true then
              some (false, ())
            else
              if ((r16.1 : Int) != r14.1) = true then
                some (false, ())
              else
                Option.bind (F_laws_toGroupS k (x.1, ())) fun (r17 : List DGroup × Unit) =>
                Option.bind (F_impl_FlushAt k (r17.1, x.2.1, x.2.2.1, ())) fun (r18 : List DGroup × DBatch × Bool × Unit) =>
                Option.bind (F_laws_eqGroupS k (r18.1, r3.1, ())) fun (r19 : Bool × Unit) =>
                Option.bind ((if (((!r19.1) : Bool) == false) = true then F_laws_eqBatch k (r18.2.1, r3.2.1, ()) else some (false, ()))) fun (r20 : Bool × Unit) =>
                if (if (if (!r19.1) = true then true else !r20.1) = true then true else !((r18.2.2.1 : Bool) == r3.2.2.1)) = true then
                  some (false, ())
                else
                  Option.bind (F_laws_heldGroupS k (r13.2, (1 : Int), ())) fun (r21 : Int × Unit) =>
                  if (decide ((r21.1 : Int) < (0 : Int))) = true then
                    some (false, ())
                  else
                    Option.bind (F_laws_heldBatch k ((r5.2.1.1, (r14.2.2.1, (r5.2.1.2.2.1, r14.2.2.2.2))), r21.1, ())) fun (r22 : Int × Unit) =>
                    if (decide ((r22.1 : Int) < (0 : Int))) = true then
                      some (false, ())
                    else
                      if ((r22.1 : Int) != r14.1) = true then
                        some (false, ())
                      else
                        some (true, ())
def F_laws_szStringS (k : Nat) (x : List ByteArray × Int × Unit) : Option (Int × Unit) :=
  if (decide (((IntKind.i64.wrap (x.2.1 - ((List.length x.1 : Nat) : Int))) : Int) < (0 : Int))) = true then
    some ((-1 : Int), ())
  else
    loopN k (fun G1 (t2 : List ByteArray × Int × Int × Unit) =>
      if (decide ((t2.2.2.1 : Int) < ((List.length t2.1 : Nat) : Int))) = true then
        if (decide (0 ≤ t2.2.2.1 ∧ t2.2.2.1 < ((List.length t2.1 : Nat) : Int))) = true then
          if (decide (((IntKind.i64.wrap (t2.2.1 - ((ByteArray.size (List.getD t2.1 (Int.toNat t2.2.2.1) ByteArray.empty) : Nat) : Int))) : Int) < (0 : Int))) = true then
            some ((-1 : Int), ())
          else
            G1 (t2.1, IntKind.i64.wrap (t2.2.1 - ((ByteArray.size (List.getD t2.1 (Int.toNat t2.2.2.1) ByteArray.empty) : Nat) : Int)), IntKind.i64.wrap (t2.2.2.1 + (1 : Int)), ())
        else
          none
      else
        some (t2.2.1, ())) (x.1, IntKind.i64.wrap (x.2.1 - ((List.length x.1 : Nat) : Int)), (0 : Int), ())
def F_laws_szConf (k : Nat) (x : DConf × Int × Unit) : Option (Int × Unit) :=
  Option.bind (F_laws_szStringS k (x.1.2.2.2.2.2, x.2.1, ())) fun (r1 : Int × Unit) =>
  if (decide ((r1.1 : Int) < (0 : Int))) = true then
    some ((-1 : Int), ())
  else
    some (r1.1, ())
def F_laws_toStringS (k : Nat) (x : List ByteArray × Unit) : Option (List ByteArray × Unit) :=
  if (decide (0 ≤ ((List.length x.1 : Nat) : Int) ∧ ((List.length x.1 : Nat) : Int) < 4294967296 ∧ ((List.length x.1 : Nat) : Int) = ((List.length x.1 : Nat) : Int))) = true then
    loopN k (fun G1 (t2 : List ByteArray × List ByteArray × Int × Unit) =>
      if (decide ((t2.2.2.1 : Int) < ((List.length t2.1 : Nat) : Int))) = true then
        if (decide (0 ≤ t2.2.2.1 ∧ t2.2.2.1 < ((List.length t2.1 : Nat) : Int))) = true then
          if (decide (0 ≤ t2.2.2.1 ∧ t2.2.2.1 < ((List.length t2.2.1 : Nat) : Int))) = true then
            G1 (t2.1, List.set t2.2.1 (Int.toNat t2.2.2.1) (List.getD t2.1 (Int.toNat t2.2.2.1) ByteArray.empty), IntKind.i64.wrap (t2.2.2.1 + (1 : Int)), ())
          else
            none
        else
          none
      else
        some (t2.2.1, ())) (x.1, List.replicate (Int.toNat ((List.length x.1 : Nat) : Int)) ByteArray.empty, (0 : Int), ())
  else
    none
def F_laws_toConf (k : Nat) (x : DConf × Unit) : Option (DConf × Unit) :=
  Option.bind (F_laws_toStringS k (x.1.2.2.2.2.2, ())) fun (r1 : List ByteArray × Unit) =>
  some ((x.1.1, (x.1.2.1, (x.1.2.2.1, (x.1.2.2.2.1, (x.1.2.2.2.2.1, r1.1))))), ())
def F_spec_l1In (k : Nat) (x : Int × Int × Int × Unit) : Option (Bool × Unit) :=
  some (if (decide ((x.1 : Int) ≥ x.2.1)) = true then decide ((x.1 : Int) ≤ x.2.2.1) else false, ())
def F_spec_NameOk (k : Nat) (x : ByteArray × Unit) : Option (Bool × Unit) :=
  joinC (fun J1 =>
    loopN k (fun G3 (t4 : ByteArray × Int × Unit) =>
      if (decide ((t4.2.1 : Int) < ((ByteArray.size t4.1 : Nat) : Int))) = true then
        if (decide (0 ≤ t4.2.1 ∧ t4.2.1 < ((ByteArray.size t4.1 : Nat) : Int))) = true then
          if (!(((decide (((bt t4.1 t4.2.1) : Int) < (97 : Int))) : Bool) == false) || (decide (0 ≤ t4.2.1 ∧ t4.2.1 < ((ByteArray.size t4.1 : Nat) : Int)))) = true then
            if (if (decide (((bt t4.1 t4.2.1) : Int) < (97 : Int))) = true then true else decide (((bt t4.1 t4.2.1) : Int) > (122 : Int))) = true then
              some (false, ())
            else
              G3 (t4.1, IntKind.i64.wrap (t4.2.1 + (1 : Int)), ())
          else
            none
        else
          none
      else
        J1 (t4.1, ())) (x.1, (0 : Int), ())) (fun (t2 : ByteArray × Unit) =>
    Option.bind (F_spec_l1In k (((ByteArray.size t2.1 : Nat) : Int), (1 : Int), (8 : Int), ())) fun (r5 : Bool × Unit) =>
    some (r5.1, ()))
def F_spec_Less (k : Nat) (x : ByteArray × ByteArray × Unit) : Option (Bool × Unit) :=
  some (Op.bytesLess (ByteArray.toList x.1) (ByteArray.toList x.2.1), ())
def F_spec_InOrder (k : Nat) (x : List ByteArray × Unit) : Option (Bool × Unit) :=
  loopN k (fun G1 (t2 : List ByteArray × Int × Unit) =>
    if (decide ((t2.2.1 : Int) < ((List.length t2.1 : Nat) : Int))) = true then
      if (decide (0 ≤ (IntKind.i64.wrap (t2.2.1 - (1 : Int))) ∧ (IntKind.i64.wrap (t2.2.1 - (1 : Int))) < ((List.length t2.1 : Nat) : Int))) = true then
        if (decide (0 ≤ t2.2.1 ∧ t2.2.1 < ((List.length t2.1 : Nat) : Int))) = true then
          Option.bind (F_spec_Less k (List.getD t2.1 (Int.toNat (IntKind.i64.wrap (t2.2.1 - (1 : Int)))) ByteArray.empty, List.getD t2.1 (Int.toNat t2.2.1) ByteArray.empty, ())) fun (r3 : Bool × Unit) =>
          if (!r3.1) = true then
            some (false, ())
          else
            G1 (t2.1, IntKind.i64.wrap (t2.2.1 + (1 : Int)), ())
        else
          none
      else
        none
    else
      some (true, ())) (x.1, (1 : Int), ())
def F_spec_ByOk (k : Nat) (x : List ByteArray × Unit) : Option (Bool × Unit) :=
  joinC (fun J1 =>
    loopN k (fun G3 (t4 : List ByteArray × Int × Unit) =>
      if (decide ((t4.2.1 : Int) < ((List.length t4.1 : Nat) : Int))) = true then
        if (decide (0 ≤ t4.2.1 ∧ t4.2.1 < ((List.length t4.1 : Nat) : Int))) = true then
          Option.bind (F_spec_NameOk k (List.getD t4.1 (Int.toNat t4.2.1) ByteArray.empty, ())) fun (r5 : Bool × Unit) =>
          if (!r5.1) = true then
            some (false, ())
          else
            G3 (t4.1, IntKind.i64.wrap (t4.2.1 + (1 : Int)), ())
        else
          none
      else
        J1 (t4.1, ())) (x.1, (0 : Int), ())) (fun (t2 : List ByteArray × Unit) =>
    Option.bind ((if (((decide ((((List.length t2.1 : Nat) : Int) : Int) ≤ (2 : Int))) : Bool) == true) = true then F_spec_InOrder k (t2.1, ()) else some (false, ()))) fun (r6 : Bool × Unit) =>
    some (if (decide ((((List.length t2.1 : Nat) : Int) : Int) ≤ (2 : Int))) = true then r6.1 else false, ()))
def F_spec_ConfOk (k : Nat) (x : DConf × Unit) : Option (Bool × Unit) :=
  Option.bind (F_spec_l1In k (x.1.1, (1 : Int), (3 : Int), ())) fun (r1 : Bool × Unit) =>
  Option.bind ((if ((r1.1 : Bool) == true) = true then F_spec_l1In k (x.1.2.1, (1 : Int), (8 : Int), ()) else some (false, ()))) fun (r2 : Bool × Unit) =>
  Option.bind ((if (((if r1.1 = true then r2.1 else false) : Bool) == true) = true then F_spec_l1In k (x.1.2.2.1, (1 : Int), (2 : Int), ()) else some (false, ()))) fun (r3 : Bool × Unit) =>
  Option.bind ((if (((if (if r1.1 = true then r2.1 else false) = true then r3.1 else false) : Bool) == true) = true then F_spec_l1In k (x.1.2.2.2.1, (1 : Int), (9 : Int), ()) else some (false, ()))) fun (r4 : Bool × Unit) =>
  Option.bind ((if (((if (if (if r1.1 = true then r2.1 else false) = true then r3.1 else false) = true then r4.1 else false) : Bool) == true) = true then F_spec_l1In k (x.1.2.2.2.2.1, (1 : Int), (9 : Int), ()) else some (false, ()))) fun (r5 : Bool × Unit) =>
  Option.bind ((if (((if (if (if (if r1.1 = true then r2.1 else false) = true then r3.1 else false) = true then r4.1 else false) = true then r5.1 else false) : Bool) == true) = true then F_spec_ByOk k (x.1.2.2.2.2.2, ()) else some (false, ()))) fun (r6 : Bool × Unit) =>
  some (if (if (if (if (if r1.1 = true then r2.1 else false) = true then r3.1 else false) = true then r4.1 else false) = true then r5.1 else false) = true then r6.1 else false, ())
def F_spec_l13Copy (k : Nat) (x : DConf × Unit) : Option (DConf × Unit) :=
  if (decide (List.length ([] : List ByteArray) + List.length x.1.2.2.2.2.2 < 4294967296)) = true then
    some ((x.1.1, (x.1.2.1, (x.1.2.2.1, (x.1.2.2.2.1, (x.1.2.2.2.2.1, ([] : List ByteArray) ++ x.1.2.2.2.2.2))))), ())
  else
    none
def F_spec_ModelNew (k : Nat) (x : DConf × Unit) : Option (DModel × Unit) :=
  Option.bind (F_spec_ConfOk k (x.1, ())) fun (r1 : Bool × Unit) =>
  if (!r1.1) = true then
    some (((0, (0, (0, (0, (0, ([] : List ByteArray)))))), (([] : List DAlarm), (([] : List DSub), (([] : List DAlarm), (([] : List DGroup), 0))))), ())
  else
    Option.bind (F_spec_l13Copy k (x.1, ())) fun (r2 : DConf × Unit) =>
    loopN k (fun G3 (t4 : DConf × DModel × DModel × Int × Unit) =>
      if (decide ((t4.2.2.2.1 : Int) < t4.1.2.2.1)) = true then
        if (decide (List.length t4.2.2.1.2.2.1 + List.length ([(([] : List DAlarm), false)] : List DSub) < 4294967296)) = true then
          G3 (t4.1, t4.2.1, (t4.2.2.1.1, (t4.2.2.1.2.1, (t4.2.2.1.2.2.1 ++ ([(([] : List DAlarm), false)] : List DSub), t4.2.2.1.2.2.2))), IntKind.i64.wrap (t4.2.2.2.1 + (1 : Int)), ())
        else
          none
      else
        some (t4.2.2.1, ())) (x.1, ((0, (0, (0, (0, (0, ([] : List ByteArray)))))), (([] : List DAlarm), (([] : List DSub), (([] : List DAlarm), (([] : List DGroup), 0))))), (r2.1, (([] : List DAlarm), (([] : List DSub), (([] : List DAlarm), (([] : List DGroup), 0))))), (0 : Int), ())
def F_impl_in (k : Nat) (x : Int × Int × Int × Unit) : Option (Bool × Unit) :=
  some (if (decide ((x.1 : Int) ≥ x.2.1)) = true then decide ((x.1 : Int) ≤ x.2.2.1) else false, ())
def F_impl_NameOk (k : Nat) (x : ByteArray × Unit) : Option (Bool × Unit) :=
  Option.bind (F_impl_in k (((ByteArray.size x.1 : Nat) : Int), (1 : Int), (8 : Int), ())) fun (r1 : Bool × Unit) =>
  if (!r1.1) = true then
    some (false, ())
  else
    loopN k (fun G2 (t3 : ByteArray × Int × Unit) =>
      if (decide ((t3.2.1 : Int) < ((ByteArray.size t3.1 : Nat) : Int))) = true then
        if (decide (0 ≤ t3.2.1 ∧ t3.2.1 < ((ByteArray.size t3.1 : Nat) : Int))) = true then
          if (!(((decide (((bt t3.1 t3.2.1) : Int) < (97 : Int))) : Bool) == false) || (decide (0 ≤ t3.2.1 ∧ t3.2.1 < ((ByteArray.size t3.1 : Nat) : Int)))) = true then
            if (if (decide (((bt t3.1 t3.2.1) : Int) < (97 : Int))) = true then true else decide (((bt t3.1 t3.2.1) : Int) > (122 : Int))) = true then
              some (false, ())
            else
              G2 (t3.1, IntKind.i64.wrap (t3.2.1 + (1 : Int)), ())
          else
            none
        else
          none
      else
        some (true, ())) (x.1, (0 : Int), ())
def F_impl_InOrder (k : Nat) (x : List ByteArray × Unit) : Option (Bool × Unit) :=
  loopN k (fun G1 (t2 : List ByteArray × Int × Unit) =>
    if (decide ((t2.2.1 : Int) < ((List.length t2.1 : Nat) : Int))) = true then
      if (decide (0 ≤ (IntKind.i64.wrap (t2.2.1 - (1 : Int))) ∧ (IntKind.i64.wrap (t2.2.1 - (1 : Int))) < ((List.length t2.1 : Nat) : Int))) = true then
        if (decide (0 ≤ t2.2.1 ∧ t2.2.1 < ((List.length t2.1 : Nat) : Int))) = true then
          if (!(Op.bytesLess (ByteArray.toList (List.getD t2.1 (Int.toNat (IntKind.i64.wrap (t2.2.1 - (1 : Int)))) ByteArray.empty)) (ByteArray.toList (List.getD t2.1 (Int.toNat t2.2.1) ByteArray.empty)))) = true then
            some (false, ())
          else
            G1 (t2.1, IntKind.i64.wrap (t2.2.1 + (1 : Int)), ())
        else
          none
      else
        none
    else
      some (true, ())) (x.1, (1 : Int), ())
def F_impl_ByOk (k : Nat) (x : List ByteArray × Unit) : Option (Bool × Unit) :=
  joinC (fun J1 =>
    loopN k (fun G3 (t4 : List ByteArray × List ByteArray × Int × Int × Unit) =>
      if (decide ((t4.2.2.2.1 : Int) < t4.2.2.1)) = true then
        if (decide (0 ≤ t4.2.2.2.1 ∧ t4.2.2.2.1 < ((List.length t4.2.1 : Nat) : Int))) = true then
          Option.bind (F_impl_NameOk k (List.getD t4.2.1 (Int.toNat t4.2.2.2.1) ByteArray.empty, ())) fun (r5 : Bool × Unit) =>
          if (!r5.1) = true then
            some (false, ())
          else
            G3 (t4.1, t4.2.1, t4.2.2.1, IntKind.i64.wrap (t4.2.2.2.1 + (1 : Int)), ())
        else
          none
      else
        J1 (t4.1, ())) (x.1, x.1, ((List.length x.1 : Nat) : Int), (0 : Int), ())) (fun (t2 : List ByteArray × Unit) =>
    Option.bind ((if (((decide ((((List.length t2.1 : Nat) : Int) : Int) ≤ (2 : Int))) : Bool) == true) = true then F_impl_InOrder k (t2.1, ()) else some (false, ()))) fun (r6 : Bool × Unit) =>
    some (if (decide ((((List.length t2.1 : Nat) : Int) : Int) ≤ (2 : Int))) = true then r6.1 else false, ()))
def F_impl_ConfOk (k : Nat) (x : DConf × Unit) : Option (Bool × Unit) :=
  Option.bind (F_impl_in k (x.1.1, (1 : Int), (3 : Int), ())) fun (r1 : Bool × Unit) =>
  Option.bind ((if ((r1.1 : Bool) == true) = true then F_impl_in k (x.1.2.1, (1 : Int), (8 : Int), ()) else some (false, ()))) fun (r2 : Bool × Unit) =>
  Option.bind ((if (((if r1.1 = true then r2.1 else false) : Bool) == true) = true then F_impl_in k (x.1.2.2.1, (1 : Int), (2 : Int), ()) else some (false, ()))) fun (r3 : Bool × Unit) =>
  Option.bind ((if (((if (if r1.1 = true then r2.1 else false) = true then r3.1 else false) : Bool) == true) = true then F_impl_in k (x.1.2.2.2.1, (1 : Int), (9 : Int), ()) else some (false, ()))) fun (r4 : Bool × Unit) =>
  Option.bind ((if (((if (if (if r1.1 = true then r2.1 else false) = true then r3.1 else false) = true then r4.1 else false) : Bool) == true) = true then F_impl_in k (x.1.2.2.2.2.1, (1 : Int), (9 : Int), ()) else some (false, ()))) fun (r5 : Bool × Unit) =>
  Option.bind ((if (((if (if (if (if r1.1 = true then r2.1 else false) = true then r3.1 else false) = true then r4.1 else false) = true then r5.1 else false) : Bool) == true) = true then F_impl_ByOk k (x.1.2.2.2.2.2, ()) else some (false, ()))) fun (r6 : Bool × Unit) =>
  some (if (if (if (if (if r1.1 = true then r2.1 else false) = true then r3.1 else false) = true then r4.1 else false) = true then r5.1 else false) = true then r6.1 else false, ())
def F_impl_copyConf (k : Nat) (x : DConf × Unit) : Option (DConf × Unit) :=
  if (decide (List.length ([] : List ByteArray) + List.length x.1.2.2.2.2.2 < 4294967296)) = true then
    some ((x.1.1, (x.1.2.1, (x.1.2.2.1, (x.1.2.2.2.1, (x.1.2.2.2.2.1, ([] : List ByteArray) ++ x.1.2.2.2.2.2))))), ())
  else
    none
def F_impl_ModelNew (k : Nat) (x : DConf × Unit) : Option (DModel × Unit) :=
  Option.bind (F_impl_ConfOk k (x.1, ())) fun (r1 : Bool × Unit) =>
  if (!r1.1) = true then
    some (((0, (0, (0, (0, (0, ([] : List ByteArray)))))), (([] : List DAlarm), (([] : List DSub), (([] : List DAlarm), (([] : List DGroup), 0))))), ())
  else
    Option.bind (F_impl_copyConf k (x.1, ())) fun (r2 : DConf × Unit) =>
    if (decide (0 ≤ x.1.2.2.1 ∧ x.1.2.2.1 < 4294967296 ∧ x.1.2.2.1 = x.1.2.2.1)) = true then
      some ((r2.1, (([] : List DAlarm), (List.replicate (Int.toNat x.1.2.2.1) tSub.dflt, (([] : List DAlarm), (([] : List DGroup), 0))))), ())
    else
      none
def F_laws_eqStringS (k : Nat) (x : List ByteArray × List ByteArray × Unit) : Option (Bool × Unit) :=
  if ((((List.length x.1 : Nat) : Int) : Int) != ((List.length x.2.1 : Nat) : Int)) = true then
    some (false, ())
  else
    loopN k (fun G1 (t2 : List ByteArray × List ByteArray × Int × Unit) =>
      if (decide ((t2.2.2.1 : Int) < ((List.length t2.1 : Nat) : Int))) = true then
        if (decide (0 ≤ t2.2.2.1 ∧ t2.2.2.1 < ((List.length t2.1 : Nat) : Int))) = true then
          if (decide (0 ≤ t2.2.2.1 ∧ t2.2.2.1 < ((List.length t2.2.1 : Nat) : Int))) = true then
            if (!(ByteArray.toList (List.getD t2.1 (Int.toNat t2.2.2.1) ByteArray.empty) == ByteArray.toList (List.getD t2.2.1 (Int.toNat t2.2.2.1) ByteArray.empty))) = true then
              some (false, ())
            else
              G1 (t2.1, t2.2.1, IntKind.i64.wrap (t2.2.2.1 + (1 : Int)), ())
          else
            none
        else
          none
      else
        some (true, ())) (x.1, x.2.1, (0 : Int), ())
def F_laws_eqConf (k : Nat) (x : DConf × DConf × Unit) : Option (Bool × Unit) :=
  if ((x.1.1 : Int) != x.2.1.1) = true then
    some (false, ())
  else
    if ((x.1.2.1 : Int) != x.2.1.2.1) = true then
      some (false, ())
    else
      if ((x.1.2.2.1 : Int) != x.2.1.2.2.1) = true then
        some (false, ())
      else
        if ((x.1.2.2.2.1 : Int) != x.2.1.2.2.2.1) = true then
          some (false, ())
        else
          if ((x.1.2.2.2.2.1 : Int) != x.2.1.2.2.2.2.1) = true then
            some (false, ())
          else
            Option.bind (F_laws_eqStringS k (x.1.2.2.2.2.2, x.2.1.2.2.2.2.2, ())) fun (r1 : Bool × Unit) =>
            if (!r1.1) = true then
              some (false, ())
            else
              some (true, ())
def F_laws_eqSub (k : Nat) (x : DSub × DSub × Unit) : Option (Bool × Unit) :=
  Option.bind (F_laws_eqAlarmS k (x.1.1, x.2.1.1, ())) fun (r1 : Bool × Unit) =>
  if (!r1.1) = true then
    some (false, ())
  else
    if (!((x.1.2 : Bool) == x.2.1.2)) = true then
      some (false, ())
    else
      some (true, ())
def F_laws_eqSubS (k : Nat) (x : List DSub × List DSub × Unit) : Option (Bool × Unit) :=
  if ((((List.length x.1 : Nat) : Int) : Int) != ((List.length x.2.1 : Nat) : Int)) = true then
    some (false, ())
  else
    loopN k (fun G1 (t2 : List DSub × List DSub × Int × Unit) =>
      if (decide ((t2.2.2.1 : Int) < ((List.length t2.1 : Nat) : Int))) = true then
        if (decide (0 ≤ t2.2.2.1 ∧ t2.2.2.1 < ((List.length t2.1 : Nat) : Int))) = true then
          if (decide (0 ≤ t2.2.2.1 ∧ t2.2.2.1 < ((List.length t2.2.1 : Nat) : Int))) = true then
            Option.bind (F_laws_eqSub k (List.getD t2.1 (Int.toNat t2.2.2.1) tSub.dflt, List.getD t2.2.1 (Int.toNat t2.2.2.1) tSub.dflt, ())) fun (r3 : Bool × Unit) =>
            if (!r3.1) = true then
              some (false, ())
            else
              G1 (t2.1, t2.2.1, IntKind.i64.wrap (t2.2.2.1 + (1 : Int)), ())
          else
            none
        else
          none
      else
        some (true, ())) (x.1, x.2.1, (0 : Int), ())
def F_laws_eqModel (k : Nat) (x : DModel × DModel × Unit) : Option (Bool × Unit) :=
  Option.bind (F_laws_eqConf k (x.1.1, x.2.1.1, ())) fun (r1 : Bool × Unit) =>
  if (!r1.1) = true then
    some (false, ())
  else
    Option.bind (F_laws_eqAlarmS k (x.1.2.1, x.2.1.2.1, ())) fun (r2 : Bool × Unit) =>
    if (!r2.1) = true then
      some (false, ())
    else
      Option.bind (F_laws_eqSubS k (x.1.2.2.1, x.2.1.2.2.1, ())) fun (r3 : Bool × Unit) =>
      if (!r3.1) = true then
        some (false, ())
      else
        Option.bind (F_laws_eqAlarmS k (x.1.2.2.2.1, x.2.1.2.2.2.1, ())) fun (r4 : Bool × Unit) =>
        if (!r4.1) = true then
          some (false, ())
        else
          Option.bind (F_laws_eqGroupS k (x.1.2.2.2.2.1, x.2.1.2.2.2.2.1, ())) fun (r5 : Bool × Unit) =>
          if (!r5.1) = true then
            some (false, ())
          else
            if ((x.1.2.2.2.2.2 : Int) != x.2.1.2.2.2.2.2) = true then
              some (false, ())
            else
              some (true, ())
def F_laws_markStringS (k : Nat) (x : List ByteArray) (n : Int) : Option (Int × (List ByteArray)) :=
  loopN k (fun G1 (t2 : List ByteArray × Int × Int × Unit) =>
    if (decide ((t2.2.2.1 : Int) < ((List.length t2.1 : Nat) : Int))) = true then
      Option.bind (F_laws_markText k (t2.2.1, ())) fun (r3 : ByteArray × Unit) =>
      if (decide (0 ≤ t2.2.2.1 ∧ t2.2.2.1 < ((List.length t2.1 : Nat) : Int))) = true then
        letC (List.set t2.1 (Int.toNat t2.2.2.1) r3.1) fun (l4 : List ByteArray) =>
        G1 (l4, IntKind.i64.wrap (t2.2.1 + (1 : Int)), IntKind.i64.wrap (t2.2.2.1 + (1 : Int)), ())
      else
        none
    else
      some (t2.2.1, t2.1)) (x, n, (0 : Int), ())
def F_laws_markConf (k : Nat) (x : DConf) (n : Int) : Option (Int × DConf) :=
  Option.bind (F_laws_markStringS k x.2.2.2.2.2 n) fun (r1 : Int × (List ByteArray)) =>
  some (r1.1, (x.1, (x.2.1, (x.2.2.1, (x.2.2.2.1, (x.2.2.2.2.1, r1.2))))))
def F_laws_markSubS (k : Nat) (x : List DSub) (n : Int) : Option (Int × (List DSub)) :=
  loopN k (fun G1 (t2 : List DSub × Int × Int × Unit) =>
    if (decide ((t2.2.2.1 : Int) < ((List.length t2.1 : Nat) : Int))) = true then
      if (decide (0 ≤ t2.2.2.1 ∧ t2.2.2.1 < ((List.length t2.1 : Nat) : Int))) = true then
        Option.bind (F_laws_markAlarmS k ((List.getD t2.1 (Int.toNat t2.2.2.1) tSub.dflt).1) t2.2.1) fun (r3 : Int × (List DAlarm)) =>
        letC (List.set t2.1 (Int.toNat t2.2.2.1) (r3.2, (List.getD t2.1 (Int.toNat t2.2.2.1) tSub.dflt).2)) fun (l4 : List DSub) =>
        if (decide ((3 : Int) ≠ 0)) = true then
          if (decide (0 ≤ t2.2.2.1 ∧ t2.2.2.1 < ((List.length l4 : Nat) : Int))) = true then
            letC (List.set l4 (Int.toNat t2.2.2.1) ((List.getD l4 (Int.toNat t2.2.2.1) tSub.dflt).1, ((Int.tmod r3.1 (3 : Int)) : Int) == (0 : Int))) fun (l5 : List DSub) =>
            G1 (l5, IntKind.i64.wrap (r3.1 + (1 : Int)), IntKind.i64.wrap (t2.2.2.1 + (1 : Int)), ())
          else
            none
        else
          none
      else
        none
    else
      some (t2.2.1, t2.1)) (x, n, (0 : Int), ())
def F_laws_markModel (k : Nat) (x : DModel) (n : Int) : Option (Int × DModel) :=
  Option.bind (F_laws_markConf k x.1 n) fun (r1 : Int × DConf) =>
  Option.bind (F_laws_markAlarmS k x.2.1 r1.1) fun (r2 : Int × (List DAlarm)) =>
  Option.bind (F_laws_markSubS k x.2.2.1 r2.1) fun (r3 : Int × (List DSub)) =>
  Option.bind (F_laws_markAlarmS k x.2.2.2.1 r3.1) fun (r4 : Int × (List DAlarm)) =>
  Option.bind (F_laws_markGroupS k x.2.2.2.2.1 r4.1) fun (r5 : Int × (List DGroup)) =>
  some (r5.1, ((x.1.1, (x.1.2.1, (x.1.2.2.1, (x.1.2.2.2.1, (x.1.2.2.2.2.1, r1.2.2.2.2.2.2))))), (r2.2, (r3.2, (r4.2, (r5.2, x.2.2.2.2.2))))))
def F_laws_heldStringS (k : Nat) (x : List ByteArray × Int × Unit) : Option (Int × Unit) :=
  loopN k (fun G1 (t2 : List ByteArray × Int × Int × Unit) =>
    if (decide ((t2.2.2.1 : Int) < ((List.length t2.1 : Nat) : Int))) = true then
      if (decide (0 ≤ t2.2.2.1 ∧ t2.2.2.1 < ((List.length t2.1 : Nat) : Int))) = true then
        Option.bind (F_laws_markText k (t2.2.1, ())) fun (r3 : ByteArray × Unit) =>
        if (!(ByteArray.toList (List.getD t2.1 (Int.toNat t2.2.2.1) ByteArray.empty) == ByteArray.toList r3.1)) = true then
          some ((-1 : Int), ())
        else
          G1 (t2.1, IntKind.i64.wrap (t2.2.1 + (1 : Int)), IntKind.i64.wrap (t2.2.2.1 + (1 : Int)), ())
      else
        none
    else
      some (t2.2.1, ())) (x.1, x.2.1, (0 : Int), ())
def F_laws_heldConf (k : Nat) (x : DConf × Int × Unit) : Option (Int × Unit) :=
  Option.bind (F_laws_heldStringS k (x.1.2.2.2.2.2, x.2.1, ())) fun (r1 : Int × Unit) =>
  if (decide ((r1.1 : Int) < (0 : Int))) = true then
    some ((-1 : Int), ())
  else
    some (r1.1, ())
def F_laws_heldSubS (k : Nat) (x : List DSub × Int × Unit) : Option (Int × Unit) :=
  loopN k (fun G1 (t2 : List DSub × Int × Int × Unit) =>
    if (decide ((t2.2.2.1 : Int) < ((List.length t2.1 : Nat) : Int))) = true then
      if (decide (0 ≤ t2.2.2.1 ∧ t2.2.2.1 < ((List.length t2.1 : Nat) : Int))) = true then
        Option.bind (F_laws_heldAlarmS k ((List.getD t2.1 (Int.toNat t2.2.2.1) tSub.dflt).1, t2.2.1, ())) fun (r3 : Int × Unit) =>
        if (decide ((r3.1 : Int) < (0 : Int))) = true then
          some ((-1 : Int), ())
        else
          if (decide (0 ≤ t2.2.2.1 ∧ t2.2.2.1 < ((List.length t2.1 : Nat) : Int))) = true then
            if (decide ((3 : Int) ≠ 0)) = true then
              if (!((((List.getD t2.1 (Int.toNat t2.2.2.1) tSub.dflt).2) : Bool) == (((Int.tmod r3.1 (3 : Int)) : Int) == (0 : Int)))) = true then
                some ((-1 : Int), ())
              else
                G1 (t2.1, IntKind.i64.wrap (r3.1 + (1 : Int)), IntKind.i64.wrap (t2.2.2.1 + (1 : Int)), ())
            else
              none
          else
            none
      else
        none
    else
      some (t2.2.1, ())) (x.1, x.2.1, (0 : Int), ())
def F_laws_heldModel (k : Nat) (x : DModel × Int × Unit) : Option (Int × Unit) :=
  Option.bind (F_laws_heldConf k (x.1.1, x.2.1, ())) fun (r1 : Int × Unit) =>
  if (decide ((r1.1 : Int) < (0 : Int))) = true then
    some ((-1 : Int), ())
  else
    Option.bind (F_laws_heldAlarmS k (x.1.2.1, r1.1, ())) fun (r2 : Int × Unit) =>
    if (decide ((r2.1 : Int) < (0 : Int))) = true then
      some ((-1 : Int), ())
    else
      Option.bind (F_laws_heldSubS k (x.1.2.2.1, r2.1, ())) fun (r3 : Int × Unit) =>
      if (decide ((r3.1 : Int) < (0 : Int))) = true then
        some ((-1 : Int), ())
      else
        Option.bind (F_laws_heldAlarmS k (x.1.2.2.2.1, r3.1, ())) fun (r4 : Int × Unit) =>
        if (decide ((r4.1 : Int) < (0 : Int))) = true then
          some ((-1 : Int), ())
        else
          Option.bind (F_laws_heldGroupS k (x.1.2.2.2.2.1, r4.1, ())) fun (r5 : Int × Unit) =>
          if (decide ((r5.1 : Int) < (0 : Int))) = true then
            some ((-1 : Int), ())
          else
            some (r5.1, ())
def F_laws_FnExactModelNew (k : Nat) (x : DConf × Unit) : Option (Bool × Unit) :=
  Option.bind (F_laws_szConf k (x.1, (1048576 : Int), ())) fun (r1 : Int × Unit) =>
  if (decide ((r1.1 : Int) < (0 : Int))) = true then
    some (true, ())
  else
    Option.bind (F_laws_toConf k (x.1, ())) fun (r2 : DConf × Unit) =>
    Option.bind (F_spec_ModelNew k (r2.1, ())) fun (r3 : DModel × Unit) =>
    Option.bind (F_laws_toConf k (x.1, ())) fun (r4 : DConf × Unit) =>
    Option.bind (F_impl_ModelNew k (r4.1, ())) fun (r5 : DModel × Unit) =>
    Option.bind (F_laws_eqModel k (r5.1, r3.1, ())) fun (r6 : Bool × Unit) =>
    if (!r6.1) = true then
      some (false, ())
    else
      Option.bind (F_laws_toConf k (x.1, ())) fun (r7 : DConf × Unit) =>
      Option.bind (F_laws_eqConf k (r4.1, r7.1, ())) fun (r8 : Bool × Unit) =>
      if (!r8.1) = true then
        some (false, ())
      else
        Option.bind (F_laws_markConf k r4.1 (1 : Int)) fun (r9 : Int × DConf) =>
        Option.bind ((if (((decide ((r9.1 : Int) < (0 : Int))) : Bool) == false) = true then F_laws_eqModel k (r5.1, r3.1, ()) else some (false, ()))) fun (r10 : Bool × Unit) =>
        if (if (decide ((r9.1 : Int) < (0 : Int))) = true then true else !r10.1) = true then
          some (false, ())
        else
          Option.bind (F_laws_markModel k r5.1 (1 : Int)) fun (r11 : Int × DModel) =>
          Option.bind (F_laws_heldModel k (((r5.1.1.1, (r5.1.1.2.1, (r5.1.1.2.2.1, (r5.1.1.2.2.2.1, (r5.1.1.2.2.2.2.1, r11.2.1.2.2.2.2.2))))), (r11.2.2.1, (r11.2.2.2.1, (r11.2.2.2.2.1, (r11.2.2.2.2.2.1, r5.1.2.2.2.2.2))))), (1 : Int), ())) fun (r12 : Int × Unit) =>
          if (decide ((r12.1 : Int) < (0 : Int))) = true then
            some (false, ())
          else
            if ((r12.1 : Int) != r11.1) = true then
              some (false, ())
            else
              Option.bind (F_laws_toConf k (x.1, ())) fun (r13 : DConf × Unit) =>
              Option.bind (F_impl_ModelNew k (r13.1, ())) fun (r14 : DModel × Unit) =>
              Option.bind (F_laws_eqModel k (r14.1, r3.1, ())) fun (r15 : Bool × Unit) =>
              if (!r15.1) = true then
                some (false, ())
              else
                Option.bind (F_laws_heldModel k (((r5.1.1.1, (r5.1.1.2.1, (r5.1.1.2.2.1, (r5.1.1.2.2.2.1, (r5.1.1.2.2.2.2.1, r11.2.1.2.2.2.2.2))))), (r11.2.2.1, (r11.2.2.2.1, (r11.2.2.2.2.1, (r11.2.2.2.2.2.1, r5.1.2.2.2.2.2))))), (1 : Int), ())) fun (r16 : Int × Unit) =>
                if (decide ((r16.1 : Int) < (0 : Int))) = true then
                  some (false, ())
                else
                  if ((r16.1 : Int) != r11.1) = true then
                    some (false, ())
                  else
                    some (true, ())
def F_spec_StoreNew (k : Nat) (x : Int × Unit) : Option (List DPart × Unit) :=
  loopN k (fun G1 (t2 : Int × List DPart × Unit) =>
    if (if (decide ((((List.length t2.2.1 : Nat) : Int) : Int) < t2.1)) = true then decide ((t2.1 : Int) ≤ (3 : Int)) else false) = true then
      if (decide (List.length t2.2.1 + List.length ([((-1 : Int), (0, ([] : List DChain)))] : List DPart) < 4294967296)) = true then
        G1 (t2.1, t2.2.1 ++ ([((-1 : Int), (0, ([] : List DChain)))] : List DPart), ())
      else
        none
    else
      some (t2.2.1, ())) (x.1, ([((-1 : Int), (0, ([] : List DChain)))] : List DPart), ())
def F_spec_WorldNew (k : Nat) (x : DConf × Unit) : Option (DWorld × Unit) :=
  Option.bind (F_spec_ConfOk k (x.1, ())) fun (r1 : Bool × Unit) =>
  if (!r1.1) = true then
    some (((0, (0, (0, (0, (0, ([] : List ByteArray)))))), (0, (0, (([] : List DPart), (([] : List DSub), (([] : List DAlarm), (0, (([] : List DGroup), (0, (([] : List DTimer), (([] : List DBatch), (([] : List DAlarm), (([] : List DTask), ([] : List DDeed)))))))))))))), ())
  else
    Option.bind (F_spec_l13Copy k (x.1, ())) fun (r2 : DConf × Unit) =>
    Option.bind (F_spec_StoreNew k (x.1.1, ())) fun (r3 : List DPart × Unit) =>
    joinC (fun J4 =>
      loopN k (fun G6 (t7 : DConf × DWorld × DWorld × Int × Unit) =>
        if (decide ((t7.2.2.2.1 : Int) < t7.1.2.2.1)) = true then
          if (decide (List.length t7.2.2.1.2.2.2.2.1 + List.length ([(([] : List DAlarm), false)] : List DSub) < 4294967296)) = true then
            G6 (t7.1, t7.2.1, (t7.2.2.1.1, (t7.2.2.1.2.1, (t7.2.2.1.2.2.1, (t7.2.2.1.2.2.2.1, (t7.2.2.1.2.2.2.2.1 ++ ([(([] : List DAlarm), false)] : List DSub), t7.2.2.1.2.2.2.2.2))))), IntKind.i64.wrap (t7.2.2.2.1 + (1 : Int)), ())
          else
            none
        else
          J4 (t7.1, t7.2.1, t7.2.2.1, ())) (x.1, ((0, (0, (0, (0, (0, ([] : List ByteArray)))))), (0, (0, (([] : List DPart), (([] : List DSub), (([] : List DAlarm), (0, (([] : List DGroup), (0, (([] : List DTimer), (([] : List DBatch), (([] : List DAlarm), (([] : List DTask), ([] : List DDeed)))))))))))))), (r2.1, (0, (0, (r3.1, (([] : List DSub), (([] : List DAlarm), ((-1 : Int), (([] : List DGroup), (0, (([] : List DTimer), (([] : List DBatch), (([] : List DAlarm), (([] : List DTask), ([] : List DDeed)))))))))))))), (0 : Int), ())) (fun (t5 : DConf × DWorld × DWorld × Unit) =>
      loopN k (fun G8 (t9 : DConf × DWorld × DWorld × Int × Unit) =>
        if (decide ((t9.2.2.2.1 : Int) < (5 : Int))) = true then
          if (decide (List.length t9.2.2.1.2.2.2.2.2.2.2.2.2.2.2.2.1 + List.length ([(0, (0, ((([] : List DLabel), (0, (0, ByteArray.empty))), (([] : List DLabel), (0, (([] : List Int), (([] : List DAlarm), (0, 0))))))))] : List DTask) < 4294967296)) = true then
            G8 (t9.1, t9.2.1, (t9.2.2.1.1, (t9.2.2.1.2.1, (t9.2.2.1.2.2.1, (t9.2.2.1.2.2.2.1, (t9.2.2.1.2.2.2.2.1, (t9.2.2.1.2.2.2.2.2.1, (t9.2.2.1.2.2.2.2.2.2.1, (t9.2.2.1.2.2.2.2.2.2.2.1, (t9.2.2.1.2.2.2.2.2.2.2.2.1, (t9.2.2.1.2.2.2.2.2.2.2.2.2.1, (t9.2.2.1.2.2.2.2.2.2.2.2.2.2.1, (t9.2.2.1.2.2.2.2.2.2.2.2.2.2.2.1, (t9.2.2.1.2.2.2.2.2.2.2.2.2.2.2.2.1 ++ ([(0, (0, ((([] : List DLabel), (0, (0, ByteArray.empty))), (([] : List DLabel), (0, (([] : List Int), (([] : List DAlarm), (0, 0))))))))] : List DTask), t9.2.2.1.2.2.2.2.2.2.2.2.2.2.2.2.2))))))))))))), IntKind.i64.wrap (t9.2.2.2.1 + (1 : Int)), ())
          else
            none
        else
          some (t9.2.2.1, ())) (t5.1, t5.2.1, t5.2.2.1, (0 : Int), ()))
def F_impl_StoreNew (k : Nat) (x : Int × Unit) : Option (List DPart × Unit) :=
  joinC (fun J1 =>
    Option.bind (F_impl_in k (x.1, (1 : Int), (3 : Int), ())) fun (r3 : Bool × Unit) =>
    if (!r3.1) = true then
      J1 ((1 : Int), ())
    else
      J1 (x.1, ())) (fun (t2 : Int × Unit) =>
    loopN k (fun G4 (t5 : List DPart × Int × Int × Unit) =>
      if (decide ((t5.2.2.1 : Int) < t5.2.1)) = true then
        if (decide (List.length t5.1 + List.length ([((-1 : Int), (0, ([] : List DChain)))] : List DPart) < 4294967296)) = true then
          G4 (t5.1 ++ ([((-1 : Int), (0, ([] : List DChain)))] : List DPart), t5.2.1, IntKind.i64.wrap (t5.2.2.1 + (1 : Int)), ())
        else
          none
      else
        some (t5.1, ())) (([] : List DPart), t2.1, (0 : Int), ()))
def F_impl_WorldNew (k : Nat) (x : DConf × Unit) : Option (DWorld × Unit) :=
  Option.bind (F_impl_ConfOk k (x.1, ())) fun (r1 : Bool × Unit) =>
  if (!r1.1) = true then
    some (((0, (0, (0, (0, (0, ([] : List ByteArray)))))), (0, (0, (([] : List DPart), (([] : List DSub), (([] : List DAlarm), (0, (([] : List DGroup), (0, (([] : List DTimer), (([] : List DBatch), (([] : List DAlarm), (([] : List DTask), ([] : List DDeed)))))))))))))), ())
  else
    Option.bind (F_impl_copyConf k (x.1, ())) fun (r2 : DConf × Unit) =>
    Option.bind (F_impl_StoreNew k (x.1.1, ())) fun (r3 : List DPart × Unit) =>
    if (decide (0 ≤ x.1.2.2.1 ∧ x.1.2.2.1 < 4294967296 ∧ x.1.2.2.1 = x.1.2.2.1)) = true then
      if (decide (0 ≤ (5 : Int) ∧ (5 : Int) < 4294967296 ∧ (5 : Int) = (5 : Int))) = true then
        some ((r2.1, (0, (0, (r3.1, (List.replicate (Int.toNat x.1.2.2.1) tSub.dflt, (([] : List DAlarm), ((-1 : Int), (([] : List DGroup), (0, (([] : List DTimer), (([] : List DBatch), (([] : List DAlarm), (List.replicate (Int.toNat (5 : Int)) tTask.dflt, ([] : List DDeed)))))))))))))), ())
      else
        none
    else
      none
def F_laws_eqChain (k : Nat) (x : DChain × DChain × Unit) : Option (Bool × Unit) :=
  if ((x.1.1 : Int) != x.2.1.1) = true then
    some (false, ())
  else
    Option.bind (F_laws_eqAlarmS k (x.1.2, x.2.1.2, ())) fun (r1 : Bool × Unit) =>
    if (!r1.1) = true then
      some (false, ())
    else
      some (true, ())
def F_laws_eqChainS (k : Nat) (x : List DChain × List DChain × Unit) : Option (Bool × Unit) :=
  if ((((List.length x.1 : Nat) : Int) : Int) != ((List.length x.2.1 : Nat) : Int)) = true then
    some (false, ())
  else
    loopN k (fun G1 (t2 : List DChain × List DChain × Int × Unit) =>
      if (decide ((t2.2.2.1 : Int) < ((List.length t2.1 : Nat) : Int))) = true then
        if (decide (0 ≤ t2.2.2.1 ∧ t2.2.2.1 < ((List.length t2.1 : Nat) : Int))) = true then
          if (decide (0 ≤ t2.2.2.1 ∧ t2.2.2.1 < ((List.length t2.2.1 : Nat) : Int))) = true then
            Option.bind (F_laws_eqChain k (List.getD t2.1 (Int.toNat t2.2.2.1) tChain.dflt, List.getD t2.2.1 (Int.toNat t2.2.2.1) tChain.dflt, ())) fun (r3 : Bool × Unit) =>
            if (!r3.1) = true then
              some (false, ())
            else
              G1 (t2.1, t2.2.1, IntKind.i64.wrap (t2.2.2.1 + (1 : Int)), ())
          else
            none
        else
          none
      else
        some (true, ())) (x.1, x.2.1, (0 : Int), ())
def F_laws_eqPart (k : Nat) (x : DPart × DPart × Unit) : Option (Bool × Unit) :=
  if ((x.1.1 : Int) != x.2.1.1) = true then
    some (false, ())
  else
    if ((x.1.2.1 : Int) != x.2.1.2.1) = true then
      some (false, ())
    else
      Option.bind (F_laws_eqChainS k (x.1.2.2, x.2.1.2.2, ())) fun (r1 : Bool × Unit) =>
      if (!r1.1) = true then
        some (false, ())
      else
        some (true, ())
def F_laws_eqPartS (k : Nat) (x : List DPart × List DPart × Unit) : Option (Bool × Unit) :=
  if ((((List.length x.1 : Nat) : Int) : Int) != ((List.length x.2.1 : Nat) : Int)) = true then
    some (false, ())
  else
    loopN k (fun G1 (t2 : List DPart × List DPart × Int × Unit) =>
      if (decide ((t2.2.2.1 : Int) < ((List.length t2.1 : Nat) : Int))) = true then
        if (decide (0 ≤ t2.2.2.1 ∧ t2.2.2.1 < ((List.length t2.1 : Nat) : Int))) = true then
          if (decide (0 ≤ t2.2.2.1 ∧ t2.2.2.1 < ((List.length t2.2.1 : Nat) : Int))) = true then
            Option.bind (F_laws_eqPart k (List.getD t2.1 (Int.toNat t2.2.2.1) tPart.dflt, List.getD t2.2.1 (Int.toNat t2.2.2.1) tPart.dflt, ())) fun (r3 : Bool × Unit) =>
            if (!r3.1) = true then
              some (false, ())
            else
              G1 (t2.1, t2.2.1, IntKind.i64.wrap (t2.2.2.1 + (1 : Int)), ())
          else
            none
        else
          none
      else
        some (true, ())) (x.1, x.2.1, (0 : Int), ())
def F_laws_eqTimer (k : Nat) (x : DTimer × DTimer × Unit) : Option (Bool × Unit) :=
  if ((x.1.1 : Int) != x.2.1.1) = true then
    some (false, ())
  else
    if ((x.1.2 : Int) != x.2.1.2) = true then
      some (false, ())
    else
      some (true, ())
def F_laws_eqTimerS (k : Nat) (x : List DTimer × List DTimer × Unit) : Option (Bool × Unit) :=
  if ((((List.length x.1 : Nat) : Int) : Int) != ((List.length x.2.1 : Nat) : Int)) = true then
    some (false, ())
  else
    loopN k (fun G1 (t2 : List DTimer × List DTimer × Int × Unit) =>
      if (decide ((t2.2.2.1 : Int) < ((List.length t2.1 : Nat) : Int))) = true then
        if (decide (0 ≤ t2.2.2.1 ∧ t2.2.2.1 < ((List.length t2.1 : Nat) : Int))) = true then
          if (decide (0 ≤ t2.2.2.1 ∧ t2.2.2.1 < ((List.length t2.2.1 : Nat) : Int))) = true then
            Option.bind (F_laws_eqTimer k (List.getD t2.1 (Int.toNat t2.2.2.1) tTimer.dflt, List.getD t2.2.1 (Int.toNat t2.2.2.1) tTimer.dflt, ())) fun (r3 : Bool × Unit) =>
            if (!r3.1) = true then
              some (false, ())
            else
              G1 (t2.1, t2.2.1, IntKind.i64.wrap (t2.2.2.1 + (1 : Int)), ())
          else
            none
        else
          none
      else
        some (true, ())) (x.1, x.2.1, (0 : Int), ())
def F_laws_eqBatchS (k : Nat) (x : List DBatch × List DBatch × Unit) : Option (Bool × Unit) :=
  if ((((List.length x.1 : Nat) : Int) : Int) != ((List.length x.2.1 : Nat) : Int)) = true then
    some (false, ())
  else
    loopN k (fun G1 (t2 : List DBatch × List DBatch × Int × Unit) =>
      if (decide ((t2.2.2.1 : Int) < ((List.length t2.1 : Nat) : Int))) = true then
        if (decide (0 ≤ t2.2.2.1 ∧ t2.2.2.1 < ((List.length t2.1 : Nat) : Int))) = true then
          if (decide (0 ≤ t2.2.2.1 ∧ t2.2.2.1 < ((List.length t2.2.1 : Nat) : Int))) = true then
            Option.bind (F_laws_eqBatch k (List.getD t2.1 (Int.toNat t2.2.2.1) tBatch.dflt, List.getD t2.2.1 (Int.toNat t2.2.2.1) tBatch.dflt, ())) fun (r3 : Bool × Unit) =>
            if (!r3.1) = true then
              some (false, ())
            else
              G1 (t2.1, t2.2.1, IntKind.i64.wrap (t2.2.2.1 + (1 : Int)), ())
          else
            none
        else
          none
      else
        some (true, ())) (x.1, x.2.1, (0 : Int), ())
def F_laws_eqIntS (k : Nat) (x : List Int × List Int × Unit) : Option (Bool × Unit) :=
  if ((((List.length x.1 : Nat) : Int) : Int) != ((List.length x.2.1 : Nat) : Int)) = true then
    some (false, ())
  else
    loopN k (fun G1 (t2 : List Int × List Int × Int × Unit) =>
      if (decide ((t2.2.2.1 : Int) < ((List.length t2.1 : Nat) : Int))) = true then
        if (decide (0 ≤ t2.2.2.1 ∧ t2.2.2.1 < ((List.length t2.1 : Nat) : Int))) = true then
          if (decide (0 ≤ t2.2.2.1 ∧ t2.2.2.1 < ((List.length t2.2.1 : Nat) : Int))) = true then
            if (((List.getD t2.1 (Int.toNat t2.2.2.1) 0) : Int) != (List.getD t2.2.1 (Int.toNat t2.2.2.1) 0)) = true then
              some (false, ())
            else
              G1 (t2.1, t2.2.1, IntKind.i64.wrap (t2.2.2.1 + (1 : Int)), ())
          else
            none
        else
          none
      else
        some (true, ())) (x.1, x.2.1, (0 : Int), ())
def F_laws_eqTask (k : Nat) (x : DTask × DTask × Unit) : Option (Bool × Unit) :=
  if ((x.1.1 : Int) != x.2.1.1) = true then
    some (false, ())
  else
    if ((x.1.2.1 : Int) != x.2.1.2.1) = true then
      some (false, ())
    else
      Option.bind (F_laws_eqAlarm k (x.1.2.2.1, x.2.1.2.2.1, ())) fun (r1 : Bool × Unit) =>
      if (!r1.1) = true then
        some (false, ())
      else
        Option.bind (F_laws_eqLabelS k (x.1.2.2.2.1, x.2.1.2.2.2.1, ())) fun (r2 : Bool × Unit) =>
        if (!r2.1) = true then
          some (false, ())
        else
          if ((x.1.2.2.2.2.1 : Int) != x.2.1.2.2.2.2.1) = true then
            some (false, ())
          else
            Option.bind (F_laws_eqIntS k (x.1.2.2.2.2.2.1, x.2.1.2.2.2.2.2.1, ())) fun (r3 : Bool × Unit) =>
            if (!r3.1) = true then
              some (false, ())
            else
              Option.bind (F_laws_eqAlarmS k (x.1.2.2.2.2.2.2.1, x.2.1.2.2.2.2.2.2.1, ())) fun (r4 : Bool × Unit) =>
              if (!r4.1) = true then
                some (false, ())
              else
                if ((x.1.2.2.2.2.2.2.2.1 : Int) != x.2.1.2.2.2.2.2.2.2.1) = true then
                  some (false, ())
                else
                  if ((x.1.2.2.2.2.2.2.2.2 : Int) != x.2.1.2.2.2.2.2.2.2.2) = true then
                    some (false, ())
                  else
                    some (true, ())
def F_laws_eqTaskS (k : Nat) (x : List DTask × List DTask × Unit) : Option (Bool × Unit) :=
  if ((((List.length x.1 : Nat) : Int) : Int) != ((List.length x.2.1 : Nat) : Int)) = true then
    some (false, ())
  else
    loopN k (fun G1 (t2 : List DTask × List DTask × Int × Unit) =>
      if (decide ((t2.2.2.1 : Int) < ((List.length t2.1 : Nat) : Int))) = true then
        if (decide (0 ≤ t2.2.2.1 ∧ t2.2.2.1 < ((List.length t2.1 : Nat) : Int))) = true then
          if (decide (0 ≤ t2.2.2.1 ∧ t2.2.2.1 < ((List.length t2.2.1 : Nat) : Int))) = true then
            Option.bind (F_laws_eqTask k (List.getD t2.1 (Int.toNat t2.2.2.1) tTask.dflt, List.getD t2.2.1 (Int.toNat t2.2.2.1) tTask.dflt, ())) fun (r3 : Bool × Unit) =>
            if (!r3.1) = true then
              some (false, ())
            else
              G1 (t2.1, t2.2.1, IntKind.i64.wrap (t2.2.2.1 + (1 : Int)), ())
          else
            none
        else
          none
      else
        some (true, ())) (x.1, x.2.1, (0 : Int), ())
def F_laws_eqDeed (k : Nat) (x : DDeed × DDeed × Unit) : Option (Bool × Unit) :=
  if ((x.1.1 : Int) != x.2.1.1) = true then
    some (false, ())
  else
    if ((x.1.2.1 : Int) != x.2.1.2.1) = true then
      some (false, ())
    else
      Option.bind (F_laws_eqAlarm k (x.1.2.2.1, x.2.1.2.2.1, ())) fun (r1 : Bool × Unit) =>
      if (!r1.1) = true then
        some (false, ())
      else
        Option.bind (F_laws_eqLabelS k (x.1.2.2.2.1, x.2.1.2.2.2.1, ())) fun (r2 : Bool × Unit) =>
        if (!r2.1) = true then
          some (false, ())
        else
          if ((x.1.2.2.2.2.1 : Int) != x.2.1.2.2.2.2.1) = true then
            some (false, ())
          else
            if ((x.1.2.2.2.2.2.1 : Int) != x.2.1.2.2.2.2.2.1) = true then
              some (false, ())
            else
              if ((x.1.2.2.2.2.2.2.1 : Int) != x.2.1.2.2.2.2.2.2.1) = true then
                some (false, ())
              else
                Option.bind (F_laws_eqAlarmS k (x.1.2.2.2.2.2.2.2.1, x.2.1.2.2.2.2.2.2.2.1, ())) fun (r3 : Bool × Unit) =>
                if (!r3.1) = true then
                  some (false, ())
                else
                  if ((x.1.2.2.2.2.2.2.2.2.1 : Int) != x.2.1.2.2.2.2.2.2.2.2.1) = true then
                    some (false, ())
                  else
                    if ((x.1.2.2.2.2.2.2.2.2.2.1 : Int) != x.2.1.2.2.2.2.2.2.2.2.2.1) = true then
                      some (false, ())
                    else
                      if ((x.1.2.2.2.2.2.2.2.2.2.2.1 : Int) != x.2.1.2.2.2.2.2.2.2.2.2.2.1) = true then
                        some (false, ())
                      else
                        if ((x.1.2.2.2.2.2.2.2.2.2.2.2 : Int) != x.2.1.2.2.2.2.2.2.2.2.2.2.2) = true then
                          some (false, ())
                        else
                          some (true, ())
def F_laws_eqDeedS (k : Nat) (x : List DDeed × List DDeed × Unit) : Option (Bool × Unit) :=
  if ((((List.length x.1 : Nat) : Int) : Int) != ((List.length x.2.1 : Nat) : Int)) = true then
    some (false, ())
  else
    loopN k (fun G1 (t2 : List DDeed × List DDeed × Int × Unit) =>
      if (decide ((t2.2.2.1 : Int) < ((List.length t2.1 : Nat) : Int))) = true then
        if (decide (0 ≤ t2.2.2.1 ∧ t2.2.2.1 < ((List.length t2.1 : Nat) : Int))) = true then
          if (decide (0 ≤ t2.2.2.1 ∧ t2.2.2.1 < ((List.length t2.2.1 : Nat) : Int))) = true then
            Option.bind (F_laws_eqDeed k (List.getD t2.1 (Int.toNat t2.2.2.1) tDeed.dflt, List.getD t2.2.1 (Int.toNat t2.2.2.1) tDeed.dflt, ())) fun (r3 : Bool × Unit) =>
            if (!r3.1) = true then
              some (false, ())
            else
              G1 (t2.1, t2.2.1, IntKind.i64.wrap (t2.2.2.1 + (1 : Int)), ())
          else
            none
        else
          none
      else
        some (true, ())) (x.1, x.2.1, (0 : Int), ())
def F_laws_eqWorld (k : Nat) (x : DWorld × DWorld × Unit) : Option (Bool × Unit) :=
  Option.bind (F_laws_eqConf k (x.1.1, x.2.1.1, ())) fun (r1 : Bool × Unit) =>
  if (!r1.1) = true then
    some (false, ())
  else
    if ((x.1.2.1 : Int) != x.2.1.2.1) = true then
      some (false, ())
    else
      if ((x.1.2.2.1 : Int) != x.2.1.2.2.1) = true then
        some (false, ())
      else
        Option.bind (F_laws_eqPartS k (x.1.2.2.2.1, x.2.1.2.2.2.1, ())) fun (r2 : Bool × Unit) =>
        if (!r2.1) = true then
          some (false, ())
        else
          Option.bind (F_laws_eqSubS k (x.1.2.2.2.2.1, x.2.1.2.2.2.2.1, ())) fun (r3 : Bool × Unit) =>
          if (!r3.1) = true then
            some (false, ())
          else
            Option.bind (F_laws_eqAlarmS k (x.1.2.2.2.2.2.1, x.2.1.2.2.2.2.2.1, ())) fun (r4 : Bool × Unit) =>
            if (!r4.1) = true then
              some (false, ())
            else
              if ((x.1.2.2.2.2.2.2.1 : Int) != x.2.1.2.2.2.2.2.2.1) = true then
                some (false, ())
              else
                Option.bind (F_laws_eqGroupS k (x.1.2.2.2.2.2.2.2.1, x.2.1.2.2.2.2.2.2.2.1, ())) fun (r5 : Bool × Unit) =>
                if (!r5.1) = true then
                  some (false, ())
                else
                  if ((x.1.2.2.2.2.2.2.2.2.1 : Int) != x.2.1.2.2.2.2.2.2.2.2.1) = true then
                    some (false, ())
                  else
                    Option.bind (F_laws_eqTimerS k (x.1.2.2.2.2.2.2.2.2.2.1, x.2.1.2.2.2.2.2.2.2.2.2.1, ())) fun (r6 : Bool × Unit) =>
                    if (!r6.1) = true then
                      some (false, ())
                    else
                      Option.bind (F_laws_eqBatchS k (x.1.2.2.2.2.2.2.2.2.2.2.1, x.2.1.2.2.2.2.2.2.2.2.2.2.1, ())) fun (r7 : Bool × Unit) =>
                      if (!r7.1) = true then
                        some (false, ())
                      else
                        Option.bind (F_laws_eqAlarmS k (x.1.2.2.2.2.2.2.2.2.2.2.2.1, x.2.1.2.2.2.2.2.2.2.2.2.2.2.1, ())) fun (r8 : Bool × Unit) =>
                        if (!r8.1) = true then
                          some (false, ())
                        else
                          Option.bind (F_laws_eqTaskS k (x.1.2.2.2.2.2.2.2.2.2.2.2.2.1, x.2.1.2.2.2.2.2.2.2.2.2.2.2.2.1, ())) fun (r9 : Bool × Unit) =>
                          if (!r9.1) = true then
                            some (false, ())
                          else
                            Option.bind (F_laws_eqDeedS k (x.1.2.2.2.2.2.2.2.2.2.2.2.2.2, x.2.1.2.2.2.2.2.2.2.2.2.2.2.2.2, ())) fun (r10 : Bool × Unit) =>
                            if (!r10.1) = true then
                              some (false, ())
                            else
                              some (true, ())
def F_laws_markChainS (k : Nat) (x : List DChain) (n : Int) : Option (Int × (List DChain)) :=
  loopN k (fun G1 (t2 : List DChain × Int × Int × Unit) =>
    if (decide ((t2.2.2.1 : Int) < ((List.length t2.1 : Nat) : Int))) = true then
      if (decide (0 ≤ t2.2.2.1 ∧ t2.2.2.1 < ((List.length t2.1 : Nat) : Int))) = true then
        letC (List.set t2.1 (Int.toNat t2.2.2.1) (t2.2.1, (List.getD t2.1 (Int.toNat t2.2.2.1) tChain.dflt).2)) fun (l3 : List DChain) =>
        if (decide (0 ≤ t2.2.2.1 ∧ t2.2.2.1 < ((List.length l3 : Nat) : Int))) = true then
          Option.bind (F_laws_markAlarmS k ((List.getD l3 (Int.toNat t2.2.2.1) tChain.dflt).2) (IntKind.i64.wrap (t2.2.1 + (1 : Int)))) fun (r4 : Int × (List DAlarm)) =>
          letC (List.set l3 (Int.toNat t2.2.2.1) ((List.getD l3 (Int.toNat t2.2.2.1) tChain.dflt).1, r4.2)) fun (l5 : List DChain) =>
          G1 (l5, r4.1, IntKind.i64.wrap (t2.2.2.1 + (1 : Int)), ())
        else
          none
      else
        none
    else
      some (t2.2.1, t2.1)) (x, n, (0 : Int), ())
def F_laws_markPartS (k : Nat) (x : List DPart) (n : Int) : Option (Int × (List DPart)) :=
  loopN k (fun G1 (t2 : List DPart × Int × Int × Unit) =>
    if (decide ((t2.2.2.1 : Int) < ((List.length t2.1 : Nat) : Int))) = true then
      if (decide (0 ≤ t2.2.2.1 ∧ t2.2.2.1 < ((List.length t2.1 : Nat) : Int))) = true then
        letC (List.set t2.1 (Int.toNat t2.2.2.1) (t2.2.1, (List.getD t2.1 (Int.toNat t2.2.2.1) tPart.dflt).2)) fun (l3 : List DPart) =>
        if (decide (0 ≤ t2.2.2.1 ∧ t2.2.2.1 < ((List.length l3 : Nat) : Int))) = true then
          letC (List.set l3 (Int.toNat t2.2.2.1) ((List.getD l3 (Int.toNat t2.2.2.1) tPart.dflt).1, (IntKind.i64.wrap (t2.2.1 + (1 : Int)), ((List.getD l3 (Int.toNat t2.2.2.1) tPart.dflt).2).2))) fun (l4 : List DPart) =>
          if (decide (0 ≤ t2.2.2.1 ∧ t2.2.2.1 < ((List.length l4 : Nat) : Int))) = true then
            Option.bind (F_laws_markChainS k (((List.getD l4 (Int.toNat t2.2.2.1) tPart.dflt).2).2) (IntKind.i64.wrap ((IntKind.i64.wrap (t2.2.1 + (1 : Int))) + (1 : Int)))) fun (r5 : Int × (List DChain)) =>
            letC (List.set l4 (Int.toNat t2.2.2.1) ((List.getD l4 (Int.toNat t2.2.2.1) tPart.dflt).1, (((List.getD l4 (Int.toNat t2.2.2.1) tPart.dflt).2).1, r5.2))) fun (l6 : List DPart) =>
            G1 (l6, r5.1, IntKind.i64.wrap (t2.2.2.1 + (1 : Int)), ())
          else
            none
        else
          none
      else
        none
    else
      some (t2.2.1, t2.1)) (x, n, (0 : Int), ())
def F_laws_markTimerS (k : Nat) (x : List DTimer) (n : Int) : Option (Int × (List DTimer)) :=
  loopN k (fun G1 (t2 : List DTimer × Int × Int × Unit) =>
    if (decide ((t2.2.2.1 : Int) < ((List.length t2.1 : Nat) : Int))) = true then
      if (decide (0 ≤ t2.2.2.1 ∧ t2.2.2.1 < ((List.length t2.1 : Nat) : Int))) = true then
        letC (List.set t2.1 (Int.toNat t2.2.2.1) (t2.2.1, (List.getD t2.1 (Int.toNat t2.2.2.1) tTimer.dflt).2)) fun (l3 : List DTimer) =>
        if (decide (0 ≤ t2.2.2.1 ∧ t2.2.2.1 < ((List.length l3 : Nat) : Int))) = true then
          letC (List.set l3 (Int.toNat t2.2.2.1) ((List.getD l3 (Int.toNat t2.2.2.1) tTimer.dflt).1, IntKind.i64.wrap (t2.2.1 + (1 : Int)))) fun (l4 : List DTimer) =>
          G1 (l4, IntKind.i64.wrap ((IntKind.i64.wrap (t2.2.1 + (1 : Int))) + (1 : Int)), IntKind.i64.wrap (t2.2.2.1 + (1 : Int)), ())
        else
          none
      else
        none
    else
      some (t2.2.1, t2.1)) (x, n, (0 : Int), ())
def F_laws_markBatchS (k : Nat) (x : List DBatch) (n : Int) : Option (Int × (List DBatch)) :=
  loopN k (fun G1 (t2 : List DBatch × Int × Int × Unit) =>
    if (decide ((t2.2.2.1 : Int) < ((List.length t2.1 : Nat) : Int))) = true then
      if (decide (0 ≤ t2.2.2.1 ∧ t2.2.2.1 < ((List.length t2.1 : Nat) : Int))) = true then
        letC (List.set t2.1 (Int.toNat t2.2.2.1) (t2.2.1, (List.getD t2.1 (Int.toNat t2.2.2.1) tBatch.dflt).2)) fun (l3 : List DBatch) =>
        if (decide (0 ≤ t2.2.2.1 ∧ t2.2.2.1 < ((List.length l3 : Nat) : Int))) = true then
          Option.bind (F_laws_markLabelS k (((List.getD l3 (Int.toNat t2.2.2.1) tBatch.dflt).2).1) (IntKind.i64.wrap (t2.2.1 + (1 : Int)))) fun (r4 : Int × (List DLabel)) =>
          letC (List.set l3 (Int.toNat t2.2.2.1) ((List.getD l3 (Int.toNat t2.2.2.1) tBatch.dflt).1, (r4.2, ((List.getD l3 (Int.toNat t2.2.2.1) tBatch.dflt).2).2))) fun (l5 : List DBatch) =>
          if (decide (0 ≤ t2.2.2.1 ∧ t2.2.2.1 < ((List.length l5 : Nat) : Int))) = true then
            letC (List.set l5 (Int.toNat t2.2.2.1) ((List.getD l5 (Int.toNat t2.2.2.1) tBatch.dflt).1, (((List.getD l5 (Int.toNat t2.2.2.1) tBatch.dflt).2).1, (r4.1, (((List.getD l5 (Int.toNat t2.2.2.1) tBatch.dflt).2).2).2)))) fun (l6 : List DBatch) =>
            if (decide (0 ≤ t2.2.2.1 ∧ t2.2.2.1 < ((List.length l6 : Nat) : Int))) = true then
              Option.bind (F_laws_markAlarmS k ((((List.getD l6 (Int.toNat t2.2.2.1) tBatch.dflt).2).2).2) (IntKind.i64.wrap (r4.1 + (1 : Int)))) fun (r7 : Int × (List DAlarm)) =>
              letC (List.set l6 (Int.toNat t2.2.2.1) ((List.getD l6 (Int.toNat t2.2.2.1) tBatch.dflt).1, (((List.getD l6 (Int.toNat t2.2.2.1) tBatch.dflt).2).1, ((((List.getD l6 (Int.toNat t2.2.2.1) tBatch.dflt).2).2).1, r7.2)))) fun (l8 : List DBatch) =>
              G1 (l8, r7.1, IntKind.i64.wrap (t2.2.2.1 + (1 : Int)), ())
            else
              none
          else
            none
        else
          none
      else
        none
    else
      some (t2.2.1, t2.1)) (x, n, (0 : Int), ())
def F_laws_markIntS (k : Nat) (x : List Int) (n : Int) : Option (Int × (List Int)) :=
  loopN k (fun G1 (t2 : List Int × Int × Int × Unit) =>
    if (decide ((t2.2.2.1 : Int) < ((List.length t2.1 : Nat) : Int))) = true then
      if (decide (0 ≤ t2.2.2.1 ∧ t2.2.2.1 < ((List.length t2.1 : Nat) : Int))) = true then
        letC (List.set t2.1 (Int.toNat t2.2.2.1) t2.2.1) fun (l3 : List Int) =>
        G1 (l3, IntKind.i64.wrap (t2.2.1 + (1 : Int)), IntKind.i64.wrap (t2.2.2.1 + (1 : Int)), ())
      else
        none
    else
      some (t2.2.1, t2.1)) (x, n, (0 : Int), ())
def F_laws_markTaskS (k : Nat) (x : List DTask) (n : Int) : Option (Int × (List DTask)) :=
  loopN k (fun G1 (t2 : List DTask × Int × Int × Unit) =>
    if (decide ((t2.2.2.1 : Int) < ((List.length t2.1 : Nat) : Int))) = true then
      if (decide (0 ≤ t2.2.2.1 ∧ t2.2.2.1 < ((List.length t2.1 : Nat) : Int))) = true then
        letC (List.set t2.1 (Int.toNat t2.2.2.1) (t2.2.1, (List.getD t2.1 (Int.toNat t2.2.2.1) tTask.dflt).2)) fun (l3 : List DTask) =>
        if (decide (0 ≤ t2.2.2.1 ∧ t2.2.2.1 < ((List.length l3 : Nat) : Int))) = true then
          letC (List.set l3 (Int.toNat t2.2.2.1) ((List.getD l3 (Int.toNat t2.2.2.1) tTask.dflt).1, (IntKind.i64.wrap (t2.2.1 + (1 : Int)), ((List.getD l3 (Int.toNat t2.2.2.1) tTask.dflt).2).2))) fun (l4 : List DTask) =>
          if (decide (0 ≤ t2.2.2.1 ∧ t2.2.2.1 < ((List.length l4 : Nat) : Int))) = true then
            Option.bind (F_laws_markLabelS k (((((List.getD l4 (Int.toNat t2.2.2.1) tTask.dflt).2).2).1).1) (IntKind.i64.wrap ((IntKind.i64.wrap (t2.2.1 + (1 : Int))) + (1 : Int)))) fun (r5 : Int × (List DLabel)) =>
            letC (List.set l4 (Int.toNat t2.2.2.1) ((List.getD l4 (Int.toNat t2.2.2.1) tTask.dflt).1, (((List.getD l4 (Int.toNat t2.2.2.1) tTask.dflt).2).1, ((r5.2, ((((List.getD l4 (Int.toNat t2.2.2.1) tTask.dflt).2).2).1).2), (((List.getD l4 (Int.toNat t2.2.2.1) tTask.dflt).2).2).2)))) fun (l6 : List DTask) =>
            if (decide (0 ≤ t2.2.2.1 ∧ t2.2.2.1 < ((List.length l6 : Nat) : Int))) = true then
              letC (List.set l6 (Int.toNat t2.2.2.1) ((List.getD l6 (Int.toNat t2.2.2.1) tTask.dflt).1, (((List.getD l6 (Int.toNat t2.2.2.1) tTask.dflt).2).1, ((((((List.getD l6 (Int.toNat t2.2.2.1) tTask.dflt).2).2).1).1, (r5.1, (((((List.getD l6 (Int.toNat t2.2.2.1) tTask.dflt).2).2).1).2).2)), (((List.getD l6 (Int.toNat t2.2.2.1) tTask.dflt).2).2).2)))) fun (l7 : List DTask) =>
              if (decide (0 ≤ t2.2.2.1 ∧ t2.2.2.1 < ((List.length l7 : Nat) : Int))) = true then
                letC (List.set l7 (Int.toNat t2.2.2.1) ((List.getD l7 (Int.toNat t2.2.2.1) tTask.dflt).1, (((List.getD l7 (Int.toNat t2.2.2.1) tTask.dflt).2).1, ((((((List.getD l7 (Int.toNat t2.2.2.1) tTask.dflt).2).2).1).1, ((((((List.getD l7 (Int.toNat t2.2.2.1) tTask.dflt).2).2).1).2).1, (IntKind.i64.wrap (r5.1 + (1 : Int)), ((((((List.getD l7 (Int.toNat t2.2.2.1) tTask.dflt).2).2).1).2).2).2))), (((List.getD l7 (Int.toNat t2.2.2.1) tTask.dflt).2).2).2)))) fun (l8 : List DTask) =>
                Option.bind (F_laws_markText k (IntKind.i64.wrap ((IntKind.i64.wrap (r5.1 + (1 : Int))) + (1 : Int)), ())) fun (r9 : ByteArray × Unit) =>
                if (decide (0 ≤ t2.2.2.1 ∧ t2.2.2.1 < ((List.length l8 : Nat) : Int))) = true then
                  letC (List.set l8 (Int.toNat t2.2.2.1) ((List.getD l8 (Int.toNat t2.2.2.1) tTask.dflt).1, (((List.getD l8 (Int.toNat t2.2.2.1) tTask.dflt).2).1, ((((((List.getD l8 (Int.toNat t2.2.2.1) tTask.dflt).2).2).1).1, ((((((List.getD l8 (Int.toNat t2.2.2.1) tTask.dflt).2).2).1).2).1, (((((((List.getD l8 (Int.toNat t2.2.2.1) tTask.dflt).2).2).1).2).2).1, r9.1))), (((List.getD l8 (Int.toNat t2.2.2.1) tTask.dflt).2).2).2)))) fun (l10 : List DTask) =>
                  if (decide (0 ≤ t2.2.2.1 ∧ t2.2.2.1 < ((List.length l10 : Nat) : Int))) = true then
                    Option.bind (F_laws_markLabelS k (((((List.getD l10 (Int.toNat t2.2.2.1) tTask.dflt).2).2).2).1) (IntKind.i64.wrap ((IntKind.i64.wrap ((IntKind.i64.wrap (r5.1 + (1 : Int))) + (1 : Int))) + (1 : Int)))) fun (r11 : Int × (List DLabel)) =>
                    letC (List.set l10 (Int.toNat t2.2.2.1) ((List.getD l10 (Int.toNat t2.2.2.1) tTask.dflt).1, (((List.getD l10 (Int.toNat t2.2.2.1) tTask.dflt).2).1, ((((List.getD l10 (Int.toNat t2.2.2.1) tTask.dflt).2).2).1, (r11.2, ((((List.getD l10 (Int.toNat t2.2.2.1) tTask.dflt).2).2).2).2))))) fun (l12 : List DTask) =>
                    if (decide (0 ≤ t2.2.2.1 ∧ t2.2.2.1 < ((List.length l12 : Nat) : Int))) = true then
                      letC (List.set l12 (Int.toNat t2.2.2.1) ((List.getD l12 (Int.toNat t2.2.2.1) tTask.dflt).1, (((List.getD l12 (Int.toNat t2.2.2.1) tTask.dflt).2).1, ((((List.getD l12 (Int.toNat t2.2.2.1) tTask.dflt).2).2).1, (((((List.getD l12 (Int.toNat t2.2.2.1) tTask.dflt).2).2).2).1, (r11.1, (((((List.getD l12 (Int.toNat t2.2.2.1) tTask.dflt).2).2).2).2).2)))))) fun (l13 : List DTask) =>
                      if (decide (0 ≤ t2.2.2.1 ∧ t2.2.2.1 < ((List.length l13 : Nat) : Int))) = true then
                        Option.bind (F_laws_markIntS k (((((((List.getD l13 (Int.toNat t2.2.2.1) tTask.dflt).2).2).2).2).2).1) (IntKind.i64.wrap (r11.1 + (1 : Int)))) fun (r14 : Int × (List Int)) =>
                        letC (List.set l13 (Int.toNat t2.2.2.1) ((List.getD l13 (Int.toNat t2.2.2.1) tTask.dflt).1, (((List.getD l13 (Int.toNat t2.2.2.1) tTask.dflt).2).1, ((((List.getD l13 (Int.toNat t2.2.2.1) tTask.dflt).2).2).1, (((((List.getD l13 (Int.toNat t2.2.2.1) tTask.dflt).2).2).2).1, ((((((List.getD l13 (Int.toNat t2.2.2.1) tTask.dflt).2).2).2).2).1, (r14.2, ((((((List.getD l13 (Int.toNat t2.2.2.1) tTask.dflt).2).2).2).2).2).2))))))) fun (l15 : List DTask) =>
                        if (decide (0 ≤ t2.2.2.1 ∧ t2.2.2.1 < ((List.length l15 : Nat) : Int))) = true then
                          Option.bind (F_laws_markAlarmS k ((((((((List.getD l15 (Int.toNat t2.2.2.1) tTask.dflt).2).2).2).2).2).2).1) r14.1) fun (r16 : Int × (List DAlarm)) =>
                          letC (List.set l15 (Int.toNat t2.2.2.1) ((List.getD l15 (Int.toNat t2.2.2.1) tTask.dflt).1, (((List.getD l15 (Int.toNat t2.2.2.1) tTask.dflt).2).1, ((((List.getD l15 (Int.toNat t2.2.2.1) tTask.dflt).2).2).1, (((((List.getD l15 (Int.toNat t2.2.2.1) tTask.dflt).2).2).2).1, ((((((List.getD l15 (Int.toNat t2.2.2.1) tTask.dflt).2).2).2).2).1, (((((((List.getD l15 (Int.toNat t2.2.2.1) tTask.dflt).2).2).2).2).2).1, (r16.2, (((((((List.getD l15 (Int.toNat t2.2.2.1) tTask.dflt).2).2).2).2).2).2).2)))))))) fun (l17 : List DTask) =>
                          if (decide (0 ≤ t2.2.2.1 ∧ t2.2.2.1 < ((List.length l17 : Nat) : Int))) = true then
                            letC (List.set l17 (Int.toNat t2.2.2.1) ((List.getD l17 (Int.toNat t2.2.2.1) tTask.dflt).1, (((List.getD l17 (Int.toNat t2.2.2.1) tTask.dflt).2).1, ((((List.getD l17 (Int.toNat t2.2.2.1) tTask.dflt).2).2).1, (((((List.getD l17 (Int.toNat t2.2.2.1) tTask.dflt).2).2).2).1, ((((((List.getD l17 (Int.toNat t2.2.2.1) tTask.dflt).2).2).2).2).1, (((((((List.getD l17 (Int.toNat t2.2.2.1) tTask.dflt).2).2).2).2).2).1, ((((((((List.getD l17 (Int.toNat t2.2.2.1) tTask.dflt).2).2).2).2).2).2).1, (r16.1, ((((((((List.getD l17 (Int.toNat t2.2.2.1) tTask.dflt).2).2).2).2).2).2).2).2))))))))) fun (l18 : List DTask) =>
                            if (decide (0 ≤ t2.2.2.1 ∧ t2.2.2.1 < ((List.length l18 : Nat) : Int))) = true then
                              letC (List.set l18 (Int.toNat t2.2.2.1) ((List.getD l18 (Int.toNat t2.2.2.1) tTask.dflt).1, (((List.getD l18 (Int.toNat t2.2.2.1) tTask.dflt).2).1, ((((List.getD l18 (Int.toNat t2.2.2.1) tTask.dflt).2).2).1, (((((List.getD l18 (Int.toNat t2.2.2.1) tTask.dflt).2).2).2).1, ((((((List.getD l18 (Int.toNat t2.2.2.1) tTask.dflt).2).2).2).2).1, (((((((List.getD l18 (Int.toNat t2.2.2.1) tTask.dflt).2).2).2).2).2).1, ((((((((List.getD l18 (Int.toNat t2.2.2.1) tTask.dflt).2).2).2).2).2).2).1, (((((((((List.getD l18 (Int.toNat t2.2.2.1) tTask.dflt).2).2).2).2).2).2).2).1, IntKind.i64.wrap (r16.1 + (1 : Int))))))))))) fun (l19 : List DTask) =>
                              G1 (l19, IntKind.i64.wrap ((IntKind.i64.wrap (r16.1 + (1 : Int))) + (1 : Int)), IntKind.i64.wrap (t2.2.2.1 + (1 : Int)), ())
                            else
                              none
                          else
                            none
                        else
                          none
                      else
                        none
                    else
                      none
                  else
                    none
                else
                  none
              else
                none
            else
              none
          else
            none
        else
          none
      else
        none
    else
      some (t2.2.1, t2.1)) (x, n, (0 : Int), ())
def F_laws_markDeedS (k : Nat) (x : List DDeed) (n : Int) : Option (Int × (List DDeed)) :=
  loopN k (fun G1 (t2 : List DDeed × Int × Int × Unit) =>
    if (decide ((t2.2.2.1 : Int) < ((List.length t2.1 : Nat) : Int))) = true then
      if (decide (0 ≤ t2.2.2.1 ∧ t2.2.2.1 < ((List.length t2.1 : Nat) : Int))) = true then
        letC (List.set t2.1 (Int.toNat t2.2.2.1) (t2.2.1, (List.getD t2.1 (Int.toNat t2.2.2.1) tDeed.dflt).2)) fun (l3 : List DDeed) =>
        if (decide (0 ≤ t2.2.2.1 ∧ t2.2.2.1 < ((List.length l3 : Nat) : Int))) = true then
          letC (List.set l3 (Int.toNat t2.2.2.1) ((List.getD l3 (Int.toNat t2.2.2.1) tDeed.dflt).1, (IntKind.i64.wrap (t2.2.1 + (1 : Int)), ((List.getD l3 (Int.toNat t2.2.2.1) tDeed.dflt).2).2))) fun (l4 : List DDeed) =>
          if (decide (0 ≤ t2.2.2.1 ∧ t2.2.2.1 < ((List.length l4 : Nat) : Int))) = true then
            Option.bind (F_laws_markLabelS k (((((List.getD l4 (Int.toNat t2.2.2.1) tDeed.dflt).2).2).1).1) (IntKind.i64.wrap ((IntKind.i64.wrap (t2.2.1 + (1 : Int))) + (1 : Int)))) fun (r5 : Int × (List DLabel)) =>
            letC (List.set l4 (Int.toNat t2.2.2.1) ((List.getD l4 (Int.toNat t2.2.2.1) tDeed.dflt).1, (((List.getD l4 (Int.toNat t2.2.2.1) tDeed.dflt).2).1, ((r5.2, ((((List.getD l4 (Int.toNat t2.2.2.1) tDeed.dflt).2).2).1).2), (((List.getD l4 (Int.toNat t2.2.2.1) tDeed.dflt).2).2).2)))) fun (l6 : List DDeed) =>
            if (decide (0 ≤ t2.2.2.1 ∧ t2.2.2.1 < ((List.length l6 : Nat) : Int))) = true then
              letC (List.set l6 (Int.toNat t2.2.2.1) ((List.getD l6 (Int.toNat t2.2.2.1) tDeed.dflt).1, (((List.getD l6 (Int.toNat t2.2.2.1) tDeed.dflt).2).1, ((((((List.getD l6 (Int.toNat t2.2.2.1) tDeed.dflt).2).2).1).1, (r5.1, (((((List.getD l6 (Int.toNat t2.2.2.1) tDeed.dflt).2).2).1).2).2)), (((List.getD l6 (Int.toNat t2.2.2.1) tDeed.dflt).2).2).2)))) fun (l7 : List DDeed) =>
              if (decide (0 ≤ t2.2.2.1 ∧ t2.2.2.1 < ((List.length l7 : Nat) : Int))) = true then
                letC (List.set l7 (Int.toNat t2.2.2.1) ((List.getD l7 (Int.toNat t2.2.2.1) tDeed.dflt).1, (((List.getD l7 (Int.toNat t2.2.2.1) tDeed.dflt).2).1, ((((((List.getD l7 (Int.toNat t2.2.2.1) tDeed.dflt).2).2).1).1, ((((((List.getD l7 (Int.toNat t2.2.2.1) tDeed.dflt).2).2).1).2).1, (IntKind.i64.wrap (r5.1 + (1 : Int)), ((((((List.getD l7 (Int.toNat t2.2.2.1) tDeed.dflt).2).2).1).2).2).2))), (((List.getD l7 (Int.toNat t2.2.2.1) tDeed.dflt).2).2).2)))) fun (l8 : List DDeed) =>
                Option.bind (F_laws_markText k (IntKind.i64.wrap ((IntKind.i64.wrap (r5.1 + (1 : Int))) + (1 : Int)), ())) fun (r9 : ByteArray × Unit) =>
                if (decide (0 ≤ t2.2.2.1 ∧ t2.2.2.1 < ((List.length l8 : Nat) : Int))) = true then
                  letC (List.set l8 (Int.toNat t2.2.2.1) ((List.getD l8 (Int.toNat t2.2.2.1) tDeed.dflt).1, (((List.getD l8 (Int.toNat t2.2.2.1) tDeed.dflt).2).1, ((((((List.getD l8 (Int.toNat t2.2.2.1) tDeed.dflt).2).2).1).1, ((((((List.getD l8 (Int.toNat t2.2.2.1) tDeed.dflt).2).2).1).2).1, (((((((List.getD l8 (Int.toNat t2.2.2.1) tDeed.dflt).2).2).1).2).2).1, r9.1))), (((List.getD l8 (Int.toNat t2.2.2.1) tDeed.dflt).2).2).2)))) fun (l10 : List DDeed) =>
                  if (decide (0 ≤ t2.2.2.1 ∧ t2.2.2.1 < ((List.length l10 : Nat) : Int))) = true then
                    Option.bind (F_laws_markLabelS k (((((List.getD l10 (Int.toNat t2.2.2.1) tDeed.dflt).2).2).2).1) (IntKind.i64.wrap ((IntKind.i64.wrap ((IntKind.i64.wrap (r5.1 + (1 : Int))) + (1 : Int))) + (1 : Int)))) fun (r11 : Int × (List DLabel)) =>
                    letC (List.set l10 (Int.toNat t2.2.2.1) ((List.getD l10 (Int.toNat t2.2.2.1) tDeed.dflt).1, (((List.getD l10 (Int.toNat t2.2.2.1) tDeed.dflt).2).1, ((((List.getD l10 (Int.toNat t2.2.2.1) tDeed.dflt).2).2).1, (r11.2, ((((List.getD l10 (Int.toNat t2.2.2.1) tDeed.dflt).2).2).2).2))))) fun (l12 : List DDeed) =>
                    if (decide (0 ≤ t2.2.2.1 ∧ t2.2.2.1 < ((List.length l12 : Nat) : Int))) = true then
                      letC (List.set l12 (Int.toNat t2.2.2.1) ((List.getD l12 (Int.toNat t2.2.2.1) tDeed.dflt).1, (((List.getD l12 (Int.toNat t2.2.2.1) tDeed.dflt).2).1, ((((List.getD l12 (Int.toNat t2.2.2.1) tDeed.dflt).2).2).1, (((((List.getD l12 (Int.toNat t2.2.2.1) tDeed.dflt).2).2).2).1, (r11.1, (((((List.getD l12 (Int.toNat t2.2.2.1) tDeed.dflt).2).2).2).2).2)))))) fun (l13 : List DDeed) =>
                      if (decide (0 ≤ t2.2.2.1 ∧ t2.2.2.1 < ((List.length l13 : Nat) : Int))) = true then
                        letC (List.set l13 (Int.toNat t2.2.2.1) ((List.getD l13 (Int.toNat t2.2.2.1) tDeed.dflt).1, (((List.getD l13 (Int.toNat t2.2.2.1) tDeed.dflt).2).1, ((((List.getD l13 (Int.toNat t2.2.2.1) tDeed.dflt).2).2).1, (((((List.getD l13 (Int.toNat t2.2.2.1) tDeed.dflt).2).2).2).1, ((((((List.getD l13 (Int.toNat t2.2.2.1) tDeed.dflt).2).2).2).2).1, (IntKind.i64.wrap (r11.1 + (1 : Int)), ((((((List.getD l13 (Int.toNat t2.2.2.1) tDeed.dflt).2).2).2).2).2).2))))))) fun (l14 : List DDeed) =>
                        if (decide (0 ≤ t2.2.2.1 ∧ t2.2.2.1 < ((List.length l14 : Nat) : Int))) = true then
                          letC (List.set l14 (Int.toNat t2.2.2.1) ((List.getD l14 (Int.toNat t2.2.2.1) tDeed.dflt).1, (((List.getD l14 (Int.toNat t2.2.2.1) tDeed.dflt).2).1, ((((List.getD l14 (Int.toNat t2.2.2.1) tDeed.dflt).2).2).1, (((((List.getD l14 (Int.toNat t2.2.2.1) tDeed.dflt).2).2).2).1, ((((((List.getD l14 (Int.toNat t2.2.2.1) tDeed.dflt).2).2).2).2).1, (((((((List.getD l14 (Int.toNat t2.2.2.1) tDeed.dflt).2).2).2).2).2).1, (IntKind.i64.wrap ((IntKind.i64.wrap (r11.1 + (1 : Int))) + (1 : Int)), (((((((List.getD l14 (Int.toNat t2.2.2.1) tDeed.dflt).2).2).2).2).2).2).2)))))))) fun (l15 : List DDeed) =>
                          if (decide (0 ≤ t2.2.2.1 ∧ t2.2.2.1 < ((List.length l15 : Nat) : Int))) = true then
                            Option.bind (F_laws_markAlarmS k (((((((((List.getD l15 (Int.toNat t2.2.2.1) tDeed.dflt).2).2).2).2).2).2).2).1) (IntKind.i64.wrap ((IntKind.i64.wrap ((IntKind.i64.wrap (r11.1 + (1 : Int))) + (1 : Int))) + (1 : Int)))) fun (r16 : Int × (List DAlarm)) =>
                            letC (List.set l15 (Int.toNat t2.2.2.1) ((List.getD l15 (Int.toNat t2.2.2.1) tDeed.dflt).1, (((List.getD l15 (Int.toNat t2.2.2.1) tDeed.dflt).2).1, ((((List.getD l15 (Int.toNat t2.2.2.1) tDeed.dflt).2).2).1, (((((List.getD l15 (Int.toNat t2.2.2.1) tDeed.dflt).2).2).2).1, ((((((List.getD l15 (Int.toNat t2.2.2.1) tDeed.dflt).2).2).2).2).1, (((((((List.getD l15 (Int.toNat t2.2.2.1) tDeed.dflt).2).2).2).2).2).1, ((((((((List.getD l15 (Int.toNat t2.2.2.1) tDeed.dflt).2).2).2).2).2).2).1, (r16.2, ((((((((List.getD l15 (Int.toNat t2.2.2.1) tDeed.dflt).2).2).2).2).2).2).2).2))))))))) fun (l17 : List DDeed) =>
                            if (decide (0 ≤ t2.2.2.1 ∧ t2.2.2.1 < ((List.length l17 : Nat) : Int))) = true then
                              letC (List.set l17 (Int.toNat t2.2.2.1) ((List.getD l17 (Int.toNat t2.2.2.1) tDeed.dflt).1, (((List.getD l17 (Int.toNat t2.2.2.1) tDeed.dflt).2).1, ((((List.getD l17 (Int.toNat t2.2.2.1) tDeed.dflt).2).2).1, (((((List.getD l17 (Int.toNat t2.2.2.1) tDeed.dflt).2).2).2).1, ((((((List.getD l17 (Int.toNat t2.2.2.1) tDeed.dflt).2).2).2).2).1, (((((((List.getD l17 (Int.toNat t2.2.2.1) tDeed.dflt).2).2).2).2).2).1, ((((((((List.getD l17 (Int.toNat t2.2.2.1) tDeed.dflt).2).2).2).2).2).2).1, (((((((((List.getD l17 (Int.toNat t2.2.2.1) tDeed.dflt).2).2).2).2).2).2).2).1, (r16.1, (((((((((List.getD l17 (Int.toNat t2.2.2.1) tDeed.dflt).2).2).2).2).2).2).2).2).2)))))))))) fun (l18 : List DDeed) =>
                              if (decide (0 ≤ t2.2.2.1 ∧ t2.2.2.1 < ((List.length l18 : Nat) : Int))) = true then
                                letC (List.set l18 (Int.toNat t2.2.2.1) ((List.getD l18 (Int.toNat t2.2.2.1) tDeed.dflt).1, (((List.getD l18 (Int.toNat t2.2.2.1) tDeed.dflt).2).1, ((((List.getD l18 (Int.toNat t2.2.2.1) tDeed.dflt).2).2).1, (((((List.getD l18 (Int.toNat t2.2.2.1) tDeed.dflt).2).2).2).1, ((((((List.getD l18 (Int.toNat t2.2.2.1) tDeed.dflt).2).2).2).2).1, (((((((List.getD l18 (Int.toNat t2.2.2.1) tDeed.dflt).2).2).2).2).2).1, ((((((((List.getD l18 (Int.toNat t2.2.2.1) tDeed.dflt).2).2).2).2).2).2).1, (((((((((List.getD l18 (Int.toNat t2.2.2.1) tDeed.dflt).2).2).2).2).2).2).2).1, ((((((((((List.getD l18 (Int.toNat t2.2.2.1) tDeed.dflt).2).2).2).2).2).2).2).2).1, (IntKind.i64.wrap (r16.1 + (1 : Int)), ((((((((((List.getD l18 (Int.toNat t2.2.2.1) tDeed.dflt).2).2).2).2).2).2).2).2).2).2))))))))))) fun (l19 : List DDeed) =>
                                if (decide (0 ≤ t2.2.2.1 ∧ t2.2.2.1 < ((List.length l19 : Nat) : Int))) = true then
                                  letC (List.set l19 (Int.toNat t2.2.2.1) ((List.getD l19 (Int.toNat t2.2.2.1) tDeed.dflt).1, (((List.getD l19 (Int.toNat t2.2.2.1) tDeed.dflt).2).1, ((((List.getD l19 (Int.toNat t2.2.2.1) tDeed.dflt).2).2).1, (((((List.getD l19 (Int.toNat t2.2.2.1) tDeed.dflt).2).2).2).1, ((((((List.getD l19 (Int.toNat t2.2.2.1) tDeed.dflt).2).2).2).2).1, (((((((List.getD l19 (Int.toNat t2.2.2.1) tDeed.dflt).2).2).2).2).2).1, ((((((((List.getD l19 (Int.toNat t2.2.2.1) tDeed.dflt).2).2).2).2).2).2).1, (((((((((List.getD l19 (Int.toNat t2.2.2.1) tDeed.dflt).2).2).2).2).2).2).2).1, ((((((((((List.getD l19 (Int.toNat t2.2.2.1) tDeed.dflt).2).2).2).2).2).2).2).2).1, (((((((((((List.getD l19 (Int.toNat t2.2.2.1) tDeed.dflt).2).2).2).2).2).2).2).2).2).1, (IntKind.i64.wrap ((IntKind.i64.wrap (r16.1 + (1 : Int))) + (1 : Int)), (((((((((((List.getD l19 (Int.toNat t2.2.2.1) tDeed.dflt).2).2).2).2).2).2).2).2).2).2).2)))))))))))) fun (l20 : List DDeed) =>
                                  if (decide (0 ≤ t2.2.2.1 ∧ t2.2.2.1 < ((List.length l20 : Nat) : Int))) = true then
                                    letC (List.set l20 (Int.toNat t2.2.2.1) ((List.getD l20 (Int.toNat t2.2.2.1) tDeed.dflt).1, (((List.getD l20 (Int.toNat t2.2.2.1) tDeed.dflt).2).1, ((((List.getD l20 (Int.toNat t2.2.2.1) tDeed.dflt).2).2).1, (((((List.getD l20 (Int.toNat t2.2.2.1) tDeed.dflt).2).2).2).1, ((((((List.getD l20 (Int.toNat t2.2.2.1) tDeed.dflt).2).2).2).2).1, (((((((List.getD l20 (Int.toNat t2.2.2.1) tDeed.dflt).2).2).2).2).2).1, ((((((((List.getD l20 (Int.toNat t2.2.2.1) tDeed.dflt).2).2).2).2).2).2).1, (((((((((List.getD l20 (Int.toNat t2.2.2.1) tDeed.dflt).2).2).2).2).2).2).2).1, ((((((((((List.getD l20 (Int.toNat t2.2.2.1) tDeed.dflt).2).2).2).2).2).2).2).2).1, (((((((((((List.getD l20 (Int.toNat t2.2.2.1) tDeed.dflt).2).2).2).2).2).2).2).2).2).1, ((((((((((((List.getD l20 (Int.toNat t2.2.2.1) tDeed.dflt).2).2).2).2).2).2).2).2).2).2).1, IntKind.i64.wrap ((IntKind.i64.wrap ((IntKind.i64.wrap (r16.1 + (1 : Int))) + (1 : Int))) + (1 : Int)))))))))))))) fun (l21 : List DDeed) =>
                                    G1 (l21, IntKind.i64.wrap ((IntKind.i64.wrap ((IntKind.i64.wrap ((IntKind.i64.wrap (r16.1 + (1 : Int))) + (1 : Int))) + (1 : Int))) + (1 : Int)), IntKind.i64.wrap (t2.2.2.1 + (1 : Int)), ())
                                  else
                                    none
                                else
                                  none
                              else
                                none
                            else
                              none
                          else
                            none
                        else
                          none
                      else
                        none
                    else
                      none
                  else
                    none
                else
                  none
              else
                none
            else
              none
          else
            none
        else
          none
      else
        none
    else
      some (t2.2.1, t2.1)) (x, n, (0 : Int), ())
def F_laws_markWorld (k : Nat) (x : DWorld) (n : Int) : Option (Int × DWorld) :=
  Option.bind (F_laws_markConf k x.1 n) fun (r1 : Int × DConf) =>
  Option.bind (F_laws_markPartS k x.2.2.2.1 r1.1) fun (r2 : Int × (List DPart)) =>
  Option.bind (F_laws_markSubS k x.2.2.2.2.1 r2.1) fun (r3 : Int × (List DSub)) =>
  Option.bind (F_laws_markAlarmS k x.2.2.2.2.2.1 r3.1) fun (r4 : Int × (List DAlarm)) =>
  Option.bind (F_laws_markGroupS k x.2.2.2.2.2.2.2.1 r4.1) fun (r5 : Int × (List DGroup)) =>
  Option.bind (F_laws_markTimerS k x.2.2.2.2.2.2.2.2.2.1 r5.1) fun (r6 : Int × (List DTimer)) =>
  Option.bind (F_laws_markBatchS k x.2.2.2.2.2.2.2.2.2.2.1 r6.1) fun (r7 : Int × (List DBatch)) =>
  Option.bind (F_laws_markAlarmS k x.2.2.2.2.2.2.2.2.2.2.2.1 r7.1) fun (r8 : Int × (List DAlarm)) =>
  Option.bind (F_laws_markTaskS k x.2.2.2.2.2.2.2.2.2.2.2.2.1 r8.1) fun (r9 : Int × (List DTask)) =>
  Option.bind (F_laws_markDeedS k x.2.2.2.2.2.2.2.2.2.2.2.2.2 r9.1) fun (r10 : Int × (List DDeed)) =>
  some (r10.1, ((x.1.1, (x.1.2.1, (x.1.2.2.1, (x.1.2.2.2.1, (x.1.2.2.2.2.1, r1.2.2.2.2.2.2))))), (x.2.1, (x.2.2.1, (r2.2, (r3.2, (r4.2, (x.2.2.2.2.2.2.1, (r5.2, (x.2.2.2.2.2.2.2.2.1, (r6.2, (r7.2, (r8.2, (r9.2, r10.2))))))))))))))
def F_laws_heldChainS (k : Nat) (x : List DChain × Int × Unit) : Option (Int × Unit) :=
  loopN k (fun G1 (t2 : List DChain × Int × Int × Unit) =>
    if (decide ((t2.2.2.1 : Int) < ((List.length t2.1 : Nat) : Int))) = true then
      if (decide (0 ≤ t2.2.2.1 ∧ t2.2.2.1 < ((List.length t2.1 : Nat) : Int))) = true then
        if ((((List.getD t2.1 (Int.toNat t2.2.2.1) tChain.dflt).1) : Int) != t2.2.1) = true then
          some ((-1 : Int), ())
        else
          if (decide (0 ≤ t2.2.2.1 ∧ t2.2.2.1 < ((List.length t2.1 : Nat) : Int))) = true then
            Option.bind (F_laws_heldAlarmS k ((List.getD t2.1 (Int.toNat t2.2.2.1) tChain.dflt).2, IntKind.i64.wrap (t2.2.1 + (1 : Int)), ())) fun (r3 : Int × Unit) =>
            if (decide ((r3.1 : Int) < (0 : Int))) = true then
              some ((-1 : Int), ())
            else
              G1 (t2.1, r3.1, IntKind.i64.wrap (t2.2.2.1 + (1 : Int)), ())
          else
            none
      else
        none
    else
      some (t2.2.1, ())) (x.1, x.2.1, (0 : Int), ())
def F_laws_heldPartS (k : Nat) (x : List DPart × Int × Unit) : Option (Int × Unit) :=
  loopN k (fun G1 (t2 : List DPart × Int × Int × Unit) =>
    if (decide ((t2.2.2.1 : Int) < ((List.length t2.1 : Nat) : Int))) = true then
      if (decide (0 ≤ t2.2.2.1 ∧ t2.2.2.1 < ((List.length t2.1 : Nat) : Int))) = true then
        if ((((List.getD t2.1 (Int.toNat t2.2.2.1) tPart.dflt).1) : Int) != t2.2.1) = true then
          some ((-1 : Int), ())
        else
          if (decide (0 ≤ t2.2.2.1 ∧ t2.2.2.1 < ((List.length t2.1 : Nat) : Int))) = true then
            if (((((List.getD t2.1 (Int.toNat t2.2.2.1) tPart.dflt).2).1) : Int) != (IntKind.i64.wrap (t2.2.1 + (1 : Int)))) = true then
              some ((-1 : Int), ())
            else
              if (decide (0 ≤ t2.2.2.1 ∧ t2.2.2.1 < ((List.length t2.1 : Nat) : Int))) = true then
                Option.bind (F_laws_heldChainS k (((List.getD t2.1 (Int.toNat t2.2.2.1) tPart.dflt).2).2, IntKind.i64.wrap ((IntKind.i64.wrap (t2.2.1 + (1 : Int))) + (1 : Int)), ())) fun (r3 : Int × Unit) =>
                if (decide ((r3.1 : Int) < (0 : Int))) = true then
                  some ((-1 : Int), ())
                else
                  G1 (t2.1, r3.1, IntKind.i64.wrap (t2.2.2.1 + (1 : Int)), ())
              else
                none
          else
            none
      else
        none
    else
      some (t2.2.1, ())) (x.1, x.2.1, (0 : Int), ())
def F_laws_heldTimerS (k : Nat) (x : List DTimer × Int × Unit) : Option (Int × Unit) :=
  loopN k (fun G1 (t2 : List DTimer × Int × Int × Unit) =>
    if (decide ((t2.2.2.1 : Int) < ((List.length t2.1 : Nat) : Int))) = true then
      if (decide (0 ≤ t2.2.2.1 ∧ t2.2.2.1 < ((List.length t2.1 : Nat) : Int))) = true then
        if ((((List.getD t2.1 (Int.toNat t2.2.2.1) tTimer.dflt).1) : Int) != t2.2.1) = true then
          some ((-1 : Int), ())
        else
          if (decide (0 ≤ t2.2.2.1 ∧ t2.2.2.1 < ((List.length t2.1 : Nat) : Int))) = true then
            if ((((List.getD t2.1 (Int.toNat t2.2.2.1) tTimer.dflt).2) : Int) != (IntKind.i64.wrap (t2.2.1 + (1 : Int)))) = true then
              some ((-1 : Int), ())
            else
              G1 (t2.1, IntKind.i64.wrap ((IntKind.i64.wrap (t2.2.1 + (1 : Int))) + (1 : Int)), IntKind.i64.wrap (t2.2.2.1 + (1 : Int)), ())
          else
            none
      else
        none
    else
      some (t2.2.1, ())) (x.1, x.2.1, (0 : Int), ())
def F_laws_heldBatchS (k : Nat) (x : List DBatch × Int × Unit) : Option (Int × Unit) :=
  loopN k (fun G1 (t2 : List DBatch × Int × Int × Unit) =>
    if (decide ((t2.2.2.1 : Int) < ((List.length t2.1 : Nat) : Int))) = true then
      if (decide (0 ≤ t2.2.2.1 ∧ t2.2.2.1 < ((List.length t2.1 : Nat) : Int))) = true then
        if ((((List.getD t2.1 (Int.toNat t2.2.2.1) tBatch.dflt).1) : Int) != t2.2.1) = true then
          some ((-1 : Int), ())
        else
          if (decide (0 ≤ t2.2.2.1 ∧ t2.2.2.1 < ((List.length t2.1 : Nat) : Int))) = true then
            Option.bind (F_laws_heldLabelS k (((List.getD t2.1 (Int.toNat t2.2.2.1) tBatch.dflt).2).1, IntKind.i64.wrap (t2.2.1 + (1 : Int)), ())) fun (r3 : Int × Unit) =>
            if (decide ((r3.1 : Int) < (0 : Int))) = true then
              some ((-1 : Int), ())
            else
              if (decide (0 ≤ t2.2.2.1 ∧ t2.2.2.1 < ((List.length t2.1 : Nat) : Int))) = true then
                if ((((((List.getD t2.1 (Int.toNat t2.2.2.1) tBatch.dflt).2).2).1) : Int) != r3.1) = true then
                  some ((-1 : Int), ())
                else
                  if (decide (0 ≤ t2.2.2.1 ∧ t2.2.2.1 < ((List.length t2.1 : Nat) : Int))) = true then
                    Option.bind (F_laws_heldAlarmS k ((((List.getD t2.1 (Int.toNat t2.2.2.1) tBatch.dflt).2).2).2, IntKind.i64.wrap (r3.1 + (1 : Int)), ())) fun (r4 : Int × Unit) =>
                    if (decide ((r4.1 : Int) < (0 : Int))) = true then
                      some ((-1 : Int), ())
                    else
                      G1 (t2.1, r4.1, IntKind.i64.wrap (t2.2.2.1 + (1 : Int)), ())
                  else
                    none
              else
                none
          else
            none
      else
        none
    else
      some (t2.2.1, ())) (x.1, x.2.1, (0 : Int), ())
def F_laws_heldIntS (k : Nat) (x : List Int × Int × Unit) : Option (Int × Unit) :=
  loopN k (fun G1 (t2 : List Int × Int × Int × Unit) =>
    if (decide ((t2.2.2.1 : Int) < ((List.length t2.1 : Nat) : Int))) = true then
      if (decide (0 ≤ t2.2.2.1 ∧ t2.2.2.1 < ((List.length t2.1 : Nat) : Int))) = true then
        if (((List.getD t2.1 (Int.toNat t2.2.2.1) 0) : Int) != t2.2.1) = true then
          some ((-1 : Int), ())
        else
          G1 (t2.1, IntKind.i64.wrap (t2.2.1 + (1 : Int)), IntKind.i64.wrap (t2.2.2.1 + (1 : Int)), ())
      else
        none
    else
      some (t2.2.1, ())) (x.1, x.2.1, (0 : Int), ())
def F_laws_heldTaskS (k : Nat) (x : List DTask × Int × Unit) : Option (Int × Unit) :=
  loopN k (fun G1 (t2 : List DTask × Int × Int × Unit) =>
    if (decide ((t2.2.2.1 : Int) < ((List.length t2.1 : Nat) : Int))) = true then
      if (decide (0 ≤ t2.2.2.1 ∧ t2.2.2.1 < ((List.length t2.1 : Nat) : Int))) = true then
        if ((((List.getD t2.1 (Int.toNat t2.2.2.1) tTask.dflt).1) : Int) != t2.2.1) = true then
          some ((-1 : Int), ())
        else
          if (decide (0 ≤ t2.2.2.1 ∧ t2.2.2.1 < ((List.length t2.1 : Nat) : Int))) = true then
            if (((((List.getD t2.1 (Int.toNat t2.2.2.1) tTask.dflt).2).1) : Int) != (IntKind.i64.wrap (t2.2.1 + (1 : Int)))) = true then
              some ((-1 : Int), ())
            else
              if (decide (0 ≤ t2.2.2.1 ∧ t2.2.2.1 < ((List.length t2.1 : Nat) : Int))) = true then
                Option.bind (F_laws_heldLabelS k (((((List.getD t2.1 (Int.toNat t2.2.2.1) tTask.dflt).2).2).1).1, IntKind.i64.wrap ((IntKind.i64.wrap (t2.2.1 + (1 : Int))) + (1 : Int)), ())) fun (r3 : Int × Unit) =>
                if (decide ((r3.1 : Int) < (0 : Int))) = true then
                  some ((-1 : Int), ())
                else
                  if (decide (0 ≤ t2.2.2.1 ∧ t2.2.2.1 < ((List.length t2.1 : Nat) : Int))) = true then
                    if ((((((((List.getD t2.1 (Int.toNat t2.2.2.1) tTask.dflt).2).2).1).2).1) : Int) != r3.1) = true then
                      some ((-1 : Int), ())
                    else
                      if (decide (0 ≤ t2.2.2.1 ∧ t2.2.2.1 < ((List.length t2.1 : Nat) : Int))) = true then
                        if (((((((((List.getD t2.1 (Int.toNat t2.2.2.1) tTask.dflt).2).2).1).2).2).1) : Int) != (IntKind.i64.wrap (r3.1 + (1 : Int)))) = true then
                          some ((-1 : Int), ())
                        else
                          if (decide (0 ≤ t2.2.2.1 ∧ t2.2.2.1 < ((List.length t2.1 : Nat) : Int))) = true then
                            Option.bind (F_laws_markText k (IntKind.i64.wrap ((IntKind.i64.wrap (r3.1 + (1 : Int))) + (1 : Int)), ())) fun (r4 : ByteArray × Unit) =>
                            if (!(ByteArray.toList (((((((List.getD t2.1 (Int.toNat t2.2.2.1) tTask.dflt).2).2).1).2).2).2) == ByteArray.toList r4.1)) = true then
                              some ((-1 : Int), ())
                            else
                              if (decide (0 ≤ t2.2.2.1 ∧ t2.2.2.1 < ((List.length t2.1 : Nat) : Int))) = true then
                                Option.bind (F_laws_heldLabelS k (((((List.getD t2.1 (Int.toNat t2.2.2.1) tTask.dflt).2).2).2).1, IntKind.i64.wrap ((IntKind.i64.wrap ((IntKind.i64.wrap (r3.1 + (1 : Int))) + (1 : Int))) + (1 : Int)), ())) fun (r5 : Int × Unit) =>
                                if (decide ((r5.1 : Int) < (0 : Int))) = true then
                                  some ((-1 : Int), ())
                                else
                                  if (decide (0 ≤ t2.2.2.1 ∧ t2.2.2.1 < ((List.length t2.1 : Nat) : Int))) = true then
                                    if ((((((((List.getD t2.1 (Int.toNat t2.2.2.1) tTask.dflt).2).2).2).2).1) : Int) != r5.1) = true then
                                      some ((-1 : Int), ())
                                    else
                                      if (decide (0 ≤ t2.2.2.1 ∧ t2.2.2.1 < ((List.length t2.1 : Nat) : Int))) = true then
                                        Option.bind (F_laws_heldIntS k (((((((List.getD t2.1 (Int.toNat t2.2.2.1) tTask.dflt).2).2).2).2).2).1, IntKind.i64.wrap (r5.1 + (1 : Int)), ())) fun (r6 : Int × Unit) =>
                                        if (decide ((r6.1 : Int) < (0 : Int))) = true then
                                          some ((-1 : Int), ())
                                        else
                                          if (decide (0 ≤ t2.2.2.1 ∧ t2.2.2.1 < ((List.length t2.1 : Nat) : Int))) = true then
                                            Option.bind (F_laws_heldAlarmS k ((((((((List.getD t2.1 (Int.toNat t2.2.2.1) tTask.dflt).2).2).2).2).2).2).1, r6.1, ())) fun (r7 : Int × Unit) =>
                                            if (decide ((r7.1 : Int) < (0 : Int))) = true then
                                              some ((-1 : Int), ())
                                            else
                                              if (decide (0 ≤ t2.2.2.1 ∧ t2.2.2.1 < ((List.length t2.1 : Nat) : Int))) = true then
                                                if (((((((((((List.getD t2.1 (Int.toNat t2.2.2.1) tTask.dflt).2).2).2).2).2).2).2).1) : Int) != r7.1) = true then
                                                  some ((-1 : Int), ())
                                                else
                                                  if (decide (0 ≤ t2.2.2.1 ∧ t2.2.2.1 < ((List.length t2.1 : Nat) : Int))) = true then
                                                    if (((((((((((List.getD t2.1 (Int.toNat t2.2.2.1) tTask.dflt).2).2).2).2).2).2).2).2) : Int) != (IntKind.i64.wrap (r7.1 + (1 : Int)))) = true then
                                                      some ((-1 : Int), ())
                                                    else
                                                      G1 (t2.1, IntKind.i64.wrap ((IntKind.i64.wrap (r7.1 + (1 : Int))) + (1 : Int)), IntKind.i64.wrap (t2.2.2.1 + (1 : Int)), ())
                                                  else
                                                    none
                                              else
                                                none
                                          else
                                            none
                                      else
                                        none
                                  else
                                    none
                              else
                                none
                          else
                            none
                      else
                        none
                  else
                    none
              else
                none
          else
            none
      else
        none
    else
      some (t2.2.1, ())) (x.1, x.2.1, (0 : Int), ())
def F_laws_heldDeedS (k : Nat) (x : List DDeed × Int × Unit) : Option (Int × Unit) :=
  loopN k (fun G1 (t2 : List DDeed × Int × Int × Unit) =>
    if (decide ((t2.2.2.1 : Int) < ((List.length t2.1 : Nat) : Int))) = true then
      if (decide (0 ≤ t2.2.2.1 ∧ t2.2.2.1 < ((List.length t2.1 : Nat) : Int))) = true then
        if ((((List.getD t2.1 (Int.toNat t2.2.2.1) tDeed.dflt).1) : Int) != t2.2.1) = true then
          some ((-1 : Int), ())
        else
          if (decide (0 ≤ t2.2.2.1 ∧ t2.2.2.1 < ((List.length t2.1 : Nat) : Int))) = true then
            if (((((List.getD t2.1 (Int.toNat t2.2.2.1) tDeed.dflt).2).1) : Int) != (IntKind.i64.wrap (t2.2.1 + (1 : Int)))) = true then
              some ((-1 : Int), ())
            else
              if (decide (0 ≤ t2.2.2.1 ∧ t2.2.2.1 < ((List.length t2.1 : Nat) : Int))) = true then
                Option.bind (F_laws_heldLabelS k (((((List.getD t2.1 (Int.toNat t2.2.2.1) tDeed.dflt).2).2).1).1, IntKind.i64.wrap ((IntKind.i64.wrap (t2.2.1 + (1 : Int))) + (1 : Int)), ())) fun (r3 : Int × Unit) =>
                if (decide ((r3.1 : Int) < (0 : Int))) = true then
                  some ((-1 : Int), ())
                else
                  if (decide (0 ≤ t2.2.2.1 ∧ t2.2.2.1 < ((List.length t2.1 : Nat) : Int))) = true then
                    if ((((((((List.getD t2.1 (Int.toNat t2.2.2.1) tDeed.dflt).2).2).1).2).1) : Int) != r3.1) = true then
                      some ((-1 : Int), ())
                    else
                      if (decide (0 ≤ t2.2.2.1 ∧ t2.2.2.1 < ((List.length t2.1 : Nat) : Int))) = true then
                        if (((((((((List.getD t2.1 (Int.toNat t2.2.2.1) tDeed.dflt).2).2).1).2).2).1) : Int) != (IntKind.i64.wrap (r3.1 + (1 : Int)))) = true then
                          some ((-1 : Int), ())
                        else
                          if (decide (0 ≤ t2.2.2.1 ∧ t2.2.2.1 < ((List.length t2.1 : Nat) : Int))) = true then
                            Option.bind (F_laws_markText k (IntKind.i64.wrap ((IntKind.i64.wrap (r3.1 + (1 : Int))) + (1 : Int)), ())) fun (r4 : ByteArray × Unit) =>
                            if (!(ByteArray.toList (((((((List.getD t2.1 (Int.toNat t2.2.2.1) tDeed.dflt).2).2).1).2).2).2) == ByteArray.toList r4.1)) = true then
                              some ((-1 : Int), ())
                            else
                              if (decide (0 ≤ t2.2.2.1 ∧ t2.2.2.1 < ((List.length t2.1 : Nat) : Int))) = true then
                                Option.bind (F_laws_heldLabelS k (((((List.getD t2.1 (Int.toNat t2.2.2.1) tDeed.dflt).2).2).2).1, IntKind.i64.wrap ((IntKind.i64.wrap ((IntKind.i64.wrap (r3.1 + (1 : Int))) + (1 : Int))) + (1 : Int)), ())) fun (r5 : Int × Unit) =>
                                if (decide ((r5.1 : Int) < (0 : Int))) = true then
                                  some ((-1 : Int), ())
                                else
                                  if (decide (0 ≤ t2.2.2.1 ∧ t2.2.2.1 < ((List.length t2.1 : Nat) : Int))) = true then
                                    if ((((((((List.getD t2.1 (Int.toNat t2.2.2.1) tDeed.dflt).2).2).2).2).1) : Int) != r5.1) = true then
                                      some ((-1 : Int), ())
                                    else
                                      if (decide (0 ≤ t2.2.2.1 ∧ t2.2.2.1 < ((List.length t2.1 : Nat) : Int))) = true then
                                        if (((((((((List.getD t2.1 (Int.toNat t2.2.2.1) tDeed.dflt).2).2).2).2).2).1) : Int) != (IntKind.i64.wrap (r5.1 + (1 : Int)))) = true then
                                          some ((-1 : Int), ())
                                        else
                                          if (decide (0 ≤ t2.2.2.1 ∧ t2.2.2.1 < ((List.length t2.1 : Nat) : Int))) = true then
                                            if ((((((((((List.getD t2.1 (Int.toNat t2.2.2.1) tDeed.dflt).2).2).2).2).2).2).1) : Int) != (IntKind.i64.wrap ((IntKind.i64.wrap (r5.1 + (1 : Int))) + (1 : Int)))) = true then
                                              some ((-1 : Int), ())
                                            else
                                              if (decide (0 ≤ t2.2.2.1 ∧ t2.2.2.1 < ((List.length t2.1 : Nat) : Int))) = true then
                                                Option.bind (F_laws_heldAlarmS k (((((((((List.getD t2.1 (Int.toNat t2.2.2.1) tDeed.dflt).2).2).2).2).2).2).2).1, IntKind.i64.wrap ((IntKind.i64.wrap ((IntKind.i64.wrap (r5.1 + (1 : Int))) + (1 : Int))) + (1 : Int)), ())) fun (r6 : Int × Unit) =>
                                                if (decide ((r6.1 : Int) < (0 : Int))) = true then
                                                  some ((-1 : Int), ())
                                                else
                                                  if (decide (0 ≤ t2.2.2.1 ∧ t2.2.2.1 < ((List.length t2.1 : Nat) : Int))) = true then
                                                    if ((((((((((((List.getD t2.1 (Int.toNat t2.2.2.1) tDeed.dflt).2).2).2).2).2).2).2).2).1) : Int) != r6.1) = true then
                                                      some ((-1 : Int), ())
                                                    else
                                                      if (decide (0 ≤ t2.2.2.1 ∧ t2.2.2.1 < ((List.length t2.1 : Nat) : Int))) = true then
                                                        if (((((((((((((List.getD t2.1 (Int.toNat t2.2.2.1) tDeed.dflt).2).2).2).2).2).2).2).2).2).1) : Int) != (IntKind.i64.wrap (r6.1 + (1 : Int)))) = true then
                                                          some ((-1 : Int), ())
                                                        else
                                                          if (decide (0 ≤ t2.2.2.1 ∧ t2.2.2.1 < ((List.length t2.1 : Nat) : Int))) = true then
                                                            if ((((((((((((((List.getD t2.1 (Int.toNat t2.2.2.1) tDeed.dflt).2).2).2).2).2).2).2).2).2).2).1) : Int) != (IntKind.i64.wrap ((IntKind.i64.wrap (r6.1 + (1 : Int))) + (1 : Int)))) = true then
                                                              some ((-1 : Int), ())
                                                            else
                                                              if (decide (0 ≤ t2.2.2.1 ∧ t2.2.2.1 < ((List.length t2.1 : Nat) : Int))) = true then
                                                                if ((((((((((((((List.getD t2.1 (Int.toNat t2.2.2.1) tDeed.dflt).2).2).2).2).2).2).2).2).2).2).2) : Int) != (IntKind.i64.wrap ((IntKind.i64.wrap ((IntKind.i64.wrap (r6.1 + (1 : Int))) + (1 : Int))) + (1 : Int)))) = true then
                                                                  some ((-1 : Int), ())
                                                                else
                                                                  G1 (t2.1, IntKind.i64.wrap ((IntKind.i64.wrap ((IntKind.i64.wrap ((IntKind.i64.wrap (r6.1 + (1 : Int))) + (1 : Int))) + (1 : Int))) + (1 : Int)), IntKind.i64.wrap (t2.2.2.1 + (1 : Int)), ())
                                                              else
                                                                none
                                                          else
                                                            none
                                                      else
                                                        none
                                                  else
                                                    none
                                              else
                                                none
                                          else
                                            none
                                      else
                                        none
                                  else
                                    none
                              else
                                none
                          else
                            none
                      else
                        none
                  else
                    none
              else
                none
          else
            none
      else
        none
    else
      some (t2.2.1, ())) (x.1, x.2.1, (0 : Int), ())
def F_laws_heldWorld (k : Nat) (x : DWorld × Int × Unit) : Option (Int × Unit) :=
  Option.bind (F_laws_heldConf k (x.1.1, x.2.1, ())) fun (r1 : Int × Unit) =>
  if (decide ((r1.1 : Int) < (0 : Int))) = true then
    some ((-1 : Int), ())
  else
    Option.bind (F_laws_heldPartS k (x.1.2.2.2.1, r1.1, ())) fun (r2 : Int × Unit) =>
    if (decide ((r2.1 : Int) < (0 : Int))) = true then
      some ((-1 : Int), ())
    else
      Option.bind (F_laws_heldSubS k (x.1.2.2.2.2.1, r2.1, ())) fun (r3 : Int × Unit) =>
      if (decide ((r3.1 : Int) < (0 : Int))) = true then
        some ((-1 : Int), ())
      else
        Option.bind (F_laws_heldAlarmS k (x.1.2.2.2.2.2.1, r3.1, ())) fun (r4 : Int × Unit) =>
        if (decide ((r4.1 : Int) < (0 : Int))) = true then
          some ((-1 : Int), ())
        else
          Option.bind (F_laws_heldGroupS k (x.1.2.2.2.2.2.2.2.1, r4.1, ())) fun (r5 : Int × Unit) =>
          if (decide ((r5.1 : Int) < (0 : Int))) = true then
            some ((-1 : Int), ())
          else
            Option.bind (F_laws_heldTimerS k (x.1.2.2.2.2.2.2.2.2.2.1, r5.1, ())) fun (r6 : Int × Unit) =>
            if (decide ((r6.1 : Int) < (0 : Int))) = true then
              some ((-1 : Int), ())
            else
              Option.bind (F_laws_heldBatchS k (x.1.2.2.2.2.2.2.2.2.2.2.1, r6.1, ())) fun (r7 : Int × Unit) =>
              if (decide ((r7.1 : Int) < (0 : Int))) = true then
                some ((-1 : Int), ())
              else
                Option.bind (F_laws_heldAlarmS k (x.1.2.2.2.2.2.2.2.2.2.2.2.1, r7.1, ())) fun (r8 : Int × Unit) =>
                if (decide ((r8.1 : Int) < (0 : Int))) = true then
                  some ((-1 : Int), ())
                else
                  Option.bind (F_laws_heldTaskS k (x.1.2.2.2.2.2.2.2.2.2.2.2.2.1, r8.1, ())) fun (r9 : Int × Unit) =>
                  if (decide ((r9.1 : Int) < (0 : Int))) = true then
                    some ((-1 : Int), ())
                  else
                    Option.bind (F_laws_heldDeedS k (x.1.2.2.2.2.2.2.2.2.2.2.2.2.2, r9.1, ())) fun (r10 : Int × Unit) =>
                    if (decide ((r10.1 : Int) < (0 : Int))) = true then
                      some ((-1 : Int), ())
                    else
                      some (r10.1, ())
def F_laws_FnExactWorldNew (k : Nat) (x : DConf × Unit) : Option (Bool × Unit) :=
  Option.bind (F_laws_szConf k (x.1, (1048576 : Int), ())) fun (r1 : Int × Unit) =>
  if (decide ((r1.1 : Int) < (0 : Int))) = true then
    some (true, ())
  else
    Option.bind (F_laws_toConf k (x.1, ())) fun (r2 : DConf × Unit) =>
    Option.bind (F_spec_WorldNew k (r2.1, ())) fun (r3 : DWorld × Unit) =>
    Option.bind (F_laws_toConf k (x.1, ())) fun (r4 : DConf × Unit) =>
    Option.bind (F_impl_WorldNew k (r4.1, ())) fun (r5 : DWorld × Unit) =>
    Option.bind (F_laws_eqWorld k (r5.1, r3.1, ())) fun (r6 : Bool × Unit) =>
    if (!r6.1) = true then
      some (false, ())
    else
      Option.bind (F_laws_toConf k (x.1, ())) fun (r7 : DConf × Unit) =>
      Option.bind (F_laws_eqConf k (r4.1, r7.1, ())) fun (r8 : Bool × Unit) =>
      if (!r8.1) = true then
        some (false, ())
      else
        Option.bind (F_laws_markConf k r4.1 (1 : Int)) fun (r9 : Int × DConf) =>
        Option.bind ((if (((decide ((r9.1 : Int) < (0 : Int))) : Bool) == false) = true then F_laws_eqWorld k (r5.1, r3.1, ()) else some (false, ()))) fun (r10 : Bool × Unit) =>
        if (if (decide ((r9.1 : Int) < (0 : Int))) = true then true else !r10.1) = true then
          some (false, ())
        else
          Option.bind (F_laws_markWorld k r5.1 (1 : Int)) fun (r11 : Int × DWorld) =>
          Option.bind (F_laws_heldWorld k (((r5.1.1.1, (r5.1.1.2.1, (r5.1.1.2.2.1, (r5.1.1.2.2.2.1, (r5.1.1.2.2.2.2.1, r11.2.1.2.2.2.2.2))))), (r5.1.2.1, (r5.1.2.2.1, (r11.2.2.2.2.1, (r11.2.2.2.2.2.1, (r11.2.2.2.2.2.2.1, (r5.1.2.2.2.2.2.2.1, (r11.2.2.2.2.2.2.2.2.1, (r5.1.2.2.2.2.2.2.2.2.1, (r11.2.2.2.2.2.2.2.2.2.2.1, (r11.2.2.2.2.2.2.2.2.2.2.2.1, (r11.2.2.2.2.2.2.2.2.2.2.2.2.1, (r11.2.2.2.2.2.2.2.2.2.2.2.2.2.1, r11.2.2.2.2.2.2.2.2.2.2.2.2.2.2))))))))))))), (1 : Int), ())) fun (r12 : Int × Unit) =>
          if (decide ((r12.1 : Int) < (0 : Int))) = true then
            some (false, ())
          else
            if ((r12.1 : Int) != r11.1) = true then
              some (false, ())
            else
              Option.bind (F_laws_toConf k (x.1, ())) fun (r13 : DConf × Unit) =>
              Option.bind (F_impl_WorldNew k (r13.1, ())) fun (r14 : DWorld × Unit) =>
              Option.bind (F_laws_eqWorld k (r14.1, r3.1, ())) fun (r15 : Bool × Unit) =>
              if (!r15.1) = true then
                some (false, ())
              else
                Option.bind (F_laws_heldWorld k (((r5.1.1.1, (r5.1.1.2.1, (r5.1.1.2.2.1, (r5.1.1.2.2.2.1, (r5.1.1.2.2.2.2.1, r11.2.1.2.2.2.2.2))))), (r5.1.2.1, (r5.1.2.2.1, (r11.2.2.2.2.1, (r11.2.2.2.2.2.1, (r11.2.2.2.2.2.2.1, (r5.1.2.2.2.2.2.2.1, (r11.2.2.2.2.2.2.2.2.1, (r5.1.2.2.2.2.2.2.2.2.1, (r11.2.2.2.2.2.2.2.2.2.2.1, (r11.2.2.2.2.2.2.2.2.2.2.2.1, (r11.2.2.2.2.2.2.2.2.2.2.2.2.1, (r11.2.2.2.2.2.2.2.2.2.2.2.2.2.1, r11.2.2.2.2.2.2.2.2.2.2.2.2.2.2))))))))))))), (1 : Int), ())) fun (r16 : Int × Unit) =>
                if (decide ((r16.1 : Int) < (0 : Int))) = true then
                  some (false, ())
                else
                  if ((r16.1 : Int) != r11.1) = true then
                    some (false, ())
                  else
                    some (true, ())
end Vg.Try
