/- What the functions compute, printed by vgen.py from the evaluator's run. -/
import Derived.Test.YtcobjindoakgmaaVc

namespace Vg.Try
open Go Vg
set_option linter.unusedVariables false
abbrev tLabel : Ty := (.pair .str .str)
abbrev DLabel : Type := (ByteArray × ByteArray)
abbrev tAlarm : Ty := (.pair (.sl tLabel) (.pair (.int .i64) (.pair (.int .i64) .str)))
abbrev DAlarm : Type := (List DLabel × (Int × (Int × ByteArray)))
abbrev tDeed : Ty := (.pair (.int .i64) (.pair (.int .i64) (.pair tAlarm (.pair (.sl tLabel) (.pair (.int .i64) (.pair (.int .i64) (.pair (.int .i64) (.pair (.sl tAlarm) (.pair (.int .i64) (.pair (.int .i64) (.pair (.int .i64) (.int .i64))))))))))))
abbrev DDeed : Type := (Int × (Int × (DAlarm × (List DLabel × (Int × (Int × (Int × (List DAlarm × (Int × (Int × (Int × Int)))))))))))
def F_laws_szLabel (k : Nat) (x : DLabel × Int × Unit) : Option (Int × Unit) :=
  if (decide (((IntKind.i64.wrap (x.2.1 - ((ByteArray.size x.1.1 : Nat) : Int))) : Int) < 0)) = true then
    some ((-1), ())
  else
    if (decide (((IntKind.i64.wrap ((IntKind.i64.wrap (x.2.1 - ((ByteArray.size x.1.1 : Nat) : Int))) - ((ByteArray.size x.1.2 : Nat) : Int))) : Int) < 0)) = true then
      some ((-1), ())
    else
      some (IntKind.i64.wrap ((IntKind.i64.wrap (x.2.1 - ((ByteArray.size x.1.1 : Nat) : Int))) - ((ByteArray.size x.1.2 : Nat) : Int)), ())
def F_laws_szLabelS (k : Nat) (x : List DLabel × Int × Unit) : Option (Int × Unit) :=
  if (decide (((IntKind.i64.wrap (x.2.1 - ((List.length x.1 : Nat) : Int))) : Int) < 0)) = true then
    some ((-1), ())
  else
    loopN k (fun G1 (t2 : List DLabel × Int × Int × Unit) =>
      if (decide ((t2.2.2.1 : Int) < ((List.length t2.1 : Nat) : Int))) = true then
        if (decide (0 ≤ t2.2.2.1 ∧ t2.2.2.1 < ((List.length t2.1 : Nat) : Int))) = true then
          Option.bind (F_laws_szLabel k (List.getD t2.1 (Int.toNat t2.2.2.1) tLabel.dflt, t2.2.1, ())) fun (r3 : Int × Unit) =>
          if (decide ((r3.1 : Int) < 0)) = true then
            some ((-1), ())
          else
            G1 (t2.1, r3.1, IntKind.i64.wrap (t2.2.2.1 + 1), ())
        else
          none
      else
        some (t2.2.1, ())) (x.1, IntKind.i64.wrap (x.2.1 - ((List.length x.1 : Nat) : Int)), 0, ())
def F_laws_szAlarm (k : Nat) (x : DAlarm × Int × Unit) : Option (Int × Unit) :=
  Option.bind (F_laws_szLabelS k (x.1.1, x.2.1, ())) fun (r1 : Int × Unit) =>
  if (decide ((r1.1 : Int) < 0)) = true then
    some ((-1), ())
  else
    if (decide (((IntKind.i64.wrap (r1.1 - ((ByteArray.size x.1.2.2.2 : Nat) : Int))) : Int) < 0)) = true then
      some ((-1), ())
    else
      some (IntKind.i64.wrap (r1.1 - ((ByteArray.size x.1.2.2.2 : Nat) : Int)), ())
def F_laws_szAlarmS (k : Nat) (x : List DAlarm × Int × Unit) : Option (Int × Unit) :=
  if (decide (((IntKind.i64.wrap (x.2.1 - ((List.length x.1 : Nat) : Int))) : Int) < 0)) = true then
    some ((-1), ())
  else
    loopN k (fun G1 (t2 : List DAlarm × Int × Int × Unit) =>
      if (decide ((t2.2.2.1 : Int) < ((List.length t2.1 : Nat) : Int))) = true then
        if (decide (0 ≤ t2.2.2.1 ∧ t2.2.2.1 < ((List.length t2.1 : Nat) : Int))) = true then
          Option.bind (F_laws_szAlarm k (List.getD t2.1 (Int.toNat t2.2.2.1) tAlarm.dflt, t2.2.1, ())) fun (r3 : Int × Unit) =>
          if (decide ((r3.1 : Int) < 0)) = true then
            some ((-1), ())
          else
            G1 (t2.1, r3.1, IntKind.i64.wrap (t2.2.2.1 + 1), ())
        else
          none
      else
        some (t2.2.1, ())) (x.1, IntKind.i64.wrap (x.2.1 - ((List.length x.1 : Nat) : Int)), 0, ())
def F_laws_toLabel (k : Nat) (x : DLabel × Unit) : Option (DLabel × Unit) :=
  some ((x.1.1, x.1.2), ())
def F_laws_toLabelS (k : Nat) (x : List DLabel × Unit) : Option (List DLabel × Unit) :=
  if (decide (0 ≤ ((List.length x.1 : Nat) : Int) ∧ ((List.length x.1 : Nat) : Int) < 4294967296 ∧ ((List.length x.1 : Nat) : Int) = ((List.length x.1 : Nat) : Int))) = true then
    loopN k (fun G1 (t2 : List DLabel × List DLabel × Int × Unit) =>
      if (decide ((t2.2.2.1 : Int) < ((List.length t2.1 : Nat) : Int))) = true then
        if (decide (0 ≤ t2.2.2.1 ∧ t2.2.2.1 < ((List.length t2.1 : Nat) : Int))) = true then
          Option.bind (F_laws_toLabel k (List.getD t2.1 (Int.toNat t2.2.2.1) tLabel.dflt, ())) fun (r3 : DLabel × Unit) =>
          if (decide (0 ≤ t2.2.2.1 ∧ t2.2.2.1 < ((List.length t2.2.1 : Nat) : Int))) = true then
            G1 (t2.1, List.set t2.2.1 (Int.toNat t2.2.2.1) r3.1, IntKind.i64.wrap (t2.2.2.1 + 1), ())
          else
            none
        else
          none
      else
        some (t2.2.1, ())) (x.1, List.replicate (Int.toNat ((List.length x.1 : Nat) : Int)) tLabel.dflt, 0, ())
  else
    none
def F_laws_toAlarm (k : Nat) (x : DAlarm × Unit) : Option (DAlarm × Unit) :=
  Option.bind (F_laws_toLabelS k (x.1.1, ())) fun (r1 : List DLabel × Unit) =>
  some ((r1.1, (x.1.2.1, (x.1.2.2.1, x.1.2.2.2))), ())
def F_laws_toAlarmS (k : Nat) (x : List DAlarm × Unit) : Option (List DAlarm × Unit) :=
  if (decide (0 ≤ ((List.length x.1 : Nat) : Int) ∧ ((List.length x.1 : Nat) : Int) < 4294967296 ∧ ((List.length x.1 : Nat) : Int) = ((List.length x.1 : Nat) : Int))) = true then
    loopN k (fun G1 (t2 : List DAlarm × List DAlarm × Int × Unit) =>
      if (decide ((t2.2.2.1 : Int) < ((List.length t2.1 : Nat) : Int))) = true then
        if (decide (0 ≤ t2.2.2.1 ∧ t2.2.2.1 < ((List.length t2.1 : Nat) : Int))) = true then
          Option.bind (F_laws_toAlarm k (List.getD t2.1 (Int.toNat t2.2.2.1) tAlarm.dflt, ())) fun (r3 : DAlarm × Unit) =>
          if (decide (0 ≤ t2.2.2.1 ∧ t2.2.2.1 < ((List.length t2.2.1 : Nat) : Int))) = true then
            G1 (t2.1, List.set t2.2.1 (Int.toNat t2.2.2.1) r3.1, IntKind.i64.wrap (t2.2.2.1 + 1), ())
          else
            none
        else
          none
      else
        some (t2.2.1, ())) (x.1, List.replicate (Int.toNat ((List.length x.1 : Nat) : Int)) tAlarm.dflt, 0, ())
  else
    none
def F_spec_SameSet (k : Nat) (x : List DLabel × List DLabel × Unit) : Option (Bool × Unit) :=
  if ((((List.length x.1 : Nat) : Int) : Int) != ((List.length x.2.1 : Nat) : Int)) = true then
    some (false, ())
  else
    loopN k (fun G1 (t2 : List DLabel × List DLabel × Int × Unit) =>
      if (decide ((t2.2.2.1 : Int) < ((List.length t2.1 : Nat) : Int))) = true then
        if (decide (0 ≤ t2.2.2.1 ∧ t2.2.2.1 < ((List.length t2.1 : Nat) : Int))) = true then
          if (decide (0 ≤ t2.2.2.1 ∧ t2.2.2.1 < ((List.length t2.2.1 : Nat) : Int))) = true then
            if (!(eqv tLabel (List.getD t2.1 (Int.toNat t2.2.2.1) tLabel.dflt) (List.getD t2.2.1 (Int.toNat t2.2.2.1) tLabel.dflt))) = true then
              some (false, ())
            else
              G1 (t2.1, t2.2.1, IntKind.i64.wrap (t2.2.2.1 + 1), ())
          else
            none
        else
          none
      else
        some (true, ())) (x.1, x.2.1, 0, ())
def F_spec_StandsIn (k : Nat) (x : List DAlarm × List DLabel × Unit) : Option (Int × Unit) :=
  loopN k (fun G1 (t2 : List DAlarm × List DLabel × Int × Unit) =>
    if (decide ((t2.2.2.1 : Int) < ((List.length t2.1 : Nat) : Int))) = true then
      if (decide (0 ≤ t2.2.2.1 ∧ t2.2.2.1 < ((List.length t2.1 : Nat) : Int))) = true then
        Option.bind (F_spec_SameSet k ((List.getD t2.1 (Int.toNat t2.2.2.1) tAlarm.dflt).1, t2.2.1, ())) fun (r3 : Bool × Unit) =>
        if r3.1 = true then
          some (t2.2.2.1, ())
        else
          G1 (t2.1, t2.2.1, IntKind.i64.wrap (t2.2.2.1 + 1), ())
      else
        none
    else
      some ((-1), ())) (x.1, x.2.1, 0, ())
def F_impl_SameSet (k : Nat) (x : List DLabel × List DLabel × Unit) : Option (Bool × Unit) :=
  if ((((List.length x.1 : Nat) : Int) : Int) != ((List.length x.2.1 : Nat) : Int)) = true then
    some (false, ())
  else
    loopN k (fun G1 (t2 : List DLabel × List DLabel × Int × Int × Unit) =>
      if (decide ((t2.2.2.2.1 : Int) < t2.2.2.1)) = true then
        if (decide (0 ≤ t2.2.2.2.1 ∧ t2.2.2.2.1 < ((List.length t2.1 : Nat) : Int))) = true then
          if (decide (0 ≤ t2.2.2.2.1 ∧ t2.2.2.2.1 < ((List.length t2.2.1 : Nat) : Int))) = true then
            if (!(eqv tLabel (List.getD t2.1 (Int.toNat t2.2.2.2.1) tLabel.dflt) (List.getD t2.2.1 (Int.toNat t2.2.2.2.1) tLabel.dflt))) = true then
              some (false, ())
            else
              G1 (t2.1, t2.2.1, t2.2.2.1, IntKind.i64.wrap (t2.2.2.2.1 + 1), ())
          else
            none
        else
          none
      else
        some (true, ())) (x.1, x.2.1, ((List.length x.1 : Nat) : Int), 0, ())
def F_impl_labelsAt (k : Nat) (x : List DAlarm × List DLabel × Unit) : Option (Int × Unit) :=
  loopN k (fun G1 (t2 : List DLabel × List DAlarm × Int × Int × Unit) =>
    if (decide ((t2.2.2.2.1 : Int) < t2.2.2.1)) = true then
      if (decide (0 ≤ t2.2.2.2.1 ∧ t2.2.2.2.1 < ((List.length t2.2.1 : Nat) : Int))) = true then
        Option.bind (F_impl_SameSet k ((List.getD t2.2.1 (Int.toNat t2.2.2.2.1) tAlarm.dflt).1, t2.1, ())) fun (r3 : Bool × Unit) =>
        if r3.1 = true then
          some (t2.2.2.2.1, ())
        else
          G1 (t2.1, t2.2.1, t2.2.2.1, IntKind.i64.wrap (t2.2.2.2.1 + 1), ())
      else
        none
    else
      some ((-1), ())) (x.2.1, x.1, ((List.length x.1 : Nat) : Int), 0, ())
def F_impl_StandsIn (k : Nat) (x : List DAlarm × List DLabel × Unit) : Option (Int × Unit) :=
  Option.bind (F_impl_labelsAt k (x.1, x.2.1, ())) fun (r1 : Int × Unit) =>
  some (r1.1, ())
def F_laws_eqLabel (k : Nat) (x : DLabel × DLabel × Unit) : Option (Bool × Unit) :=
  if (!(ByteArray.toList x.1.1 == ByteArray.toList x.2.1.1)) = true then
    some (false, ())
  else
    if (!(ByteArray.toList x.1.2 == ByteArray.toList x.2.1.2)) = true then
      some (false, ())
    else
      some (true, ())
def F_laws_eqLabelS (k : Nat) (x : List DLabel × List DLabel × Unit) : Option (Bool × Unit) :=
  if ((((List.length x.1 : Nat) : Int) : Int) != ((List.length x.2.1 : Nat) : Int)) = true then
    some (false, ())
  else
    loopN k (fun G1 (t2 : List DLabel × List DLabel × Int × Unit) =>
      if (decide ((t2.2.2.1 : Int) < ((List.length t2.1 : Nat) : Int))) = true then
        if (decide (0 ≤ t2.2.2.1 ∧ t2.2.2.1 < ((List.length t2.1 : Nat) : Int))) = true then
          if (decide (0 ≤ t2.2.2.1 ∧ t2.2.2.1 < ((List.length t2.2.1 : Nat) : Int))) = true then
            Option.bind (F_laws_eqLabel k (List.getD t2.1 (Int.toNat t2.2.2.1) tLabel.dflt, List.getD t2.2.1 (Int.toNat t2.2.2.1) tLabel.dflt, ())) fun (r3 : Bool × Unit) =>
            if (!r3.1) = true then
              some (false, ())
            else
              G1 (t2.1, t2.2.1, IntKind.i64.wrap (t2.2.2.1 + 1), ())
          else
            none
        else
          none
      else
        some (true, ())) (x.1, x.2.1, 0, ())
def F_laws_eqAlarm (k : Nat) (x : DAlarm × DAlarm × Unit) : Option (Bool × Unit) :=
  Option.bind (F_laws_eqLabelS k (x.1.1, x.2.1.1, ())) fun (r1 : Bool × Unit) =>
  if (!r1.1) = true then
    some (false, ())
  else
    if ((x.1.2.1 : Int) != x.2.1.2.1) = true then
      some (false, ())
    else
      if ((x.1.2.2.1 : Int) != x.2.1.2.2.1) = true then
        some (false, ())
      else
        if (!(ByteArray.toList x.1.2.2.2 == ByteArray.toList x.2.1.2.2.2)) = true then
          some (false, ())
        else
          some (true, ())
def F_laws_eqAlarmS (k : Nat) (x : List DAlarm × List DAlarm × Unit) : Option (Bool × Unit) :=
  if ((((List.length x.1 : Nat) : Int) : Int) != ((List.length x.2.1 : Nat) : Int)) = true then
    some (false, ())
  else
    loopN k (fun G1 (t2 : List DAlarm × List DAlarm × Int × Unit) =>
      if (decide ((t2.2.2.1 : Int) < ((List.length t2.1 : Nat) : Int))) = true then
        if (decide (0 ≤ t2.2.2.1 ∧ t2.2.2.1 < ((List.length t2.1 : Nat) : Int))) = true then
          if (decide (0 ≤ t2.2.2.1 ∧ t2.2.2.1 < ((List.length t2.2.1 : Nat) : Int))) = true then
            Option.bind (F_laws_eqAlarm k (List.getD t2.1 (Int.toNat t2.2.2.1) tAlarm.dflt, List.getD t2.2.1 (Int.toNat t2.2.2.1) tAlarm.dflt, ())) fun (r3 : Bool × Unit) =>
            if (!r3.1) = true then
              some (false, ())
            else
              G1 (t2.1, t2.2.1, IntKind.i64.wrap (t2.2.2.1 + 1), ())
          else
            none
        else
          none
      else
        some (true, ())) (x.1, x.2.1, 0, ())
def F_laws_FnExactStandsIn (k : Nat) (x : List DAlarm × List DLabel × Unit) : Option (Bool × Unit) :=
  Option.bind (F_laws_szAlarmS k (x.1, 1048576, ())) fun (r1 : Int × Unit) =>
  if (decide ((r1.1 : Int) < 0)) = true then
    some (true, ())
  else
    Option.bind (F_laws_szLabelS k (x.2.1, r1.1, ())) fun (r2 : Int × Unit) =>
    if (decide ((r2.1 : Int) < 0)) = true then
      some (true, ())
    else
      Option.bind (F_laws_toAlarmS k (x.1, ())) fun (r3 : List DAlarm × Unit) =>
      Option.bind (F_laws_toLabelS k (x.2.1, ())) fun (r4 : List DLabel × Unit) =>
      Option.bind (F_spec_StandsIn k (r3.1, r4.1, ())) fun (r5 : Int × Unit) =>
      Option.bind (F_laws_toAlarmS k (x.1, ())) fun (r6 : List DAlarm × Unit) =>
      Option.bind (F_laws_toLabelS k (x.2.1, ())) fun (r7 : List DLabel × Unit) =>
      Option.bind (F_impl_StandsIn k (r6.1, r7.1, ())) fun (r8 : Int × Unit) =>
      if ((r8.1 : Int) != r5.1) = true then
        some (false, ())
      else
        Option.bind (F_laws_toAlarmS k (x.1, ())) fun (r9 : List DAlarm × Unit) =>
        Option.bind (F_laws_eqAlarmS k (r6.1, r9.1, ())) fun (r10 : Bool × Unit) =>
        if (!r10.1) = true then
          some (false, ())
        else
          Option.bind (F_laws_toLabelS k (x.2.1, ())) fun (r11 : List DLabel × Unit) =>
          Option.bind (F_laws_eqLabelS k (r7.1, r11.1, ())) fun (r12 : Bool × Unit) =>
          if (!r12.1) = true then
            some (false, ())
          else
            some (true, ())
def F_laws_szDeed (k : Nat) (x : DDeed × Int × Unit) : Option (Int × Unit) :=
  Option.bind (F_laws_szAlarm k (x.1.2.2.1, x.2.1, ())) fun (r1 : Int × Unit) =>
  if (decide ((r1.1 : Int) < 0)) = true then
    some ((-1), ())
  else
    Option.bind (F_laws_szLabelS k (x.1.2.2.2.1, r1.1, ())) fun (r2 : Int × Unit) =>
    if (decide ((r2.1 : Int) < 0)) = true then
      some ((-1), ())
    else
      Option.bind (F_laws_szAlarmS k (x.1.2.2.2.2.2.2.2.1, r2.1, ())) fun (r3 : Int × Unit) =>
      if (decide ((r3.1 : Int) < 0)) = true then
        some ((-1), ())
      else
        some (r3.1, ())
def F_laws_toDeed (k : Nat) (x : DDeed × Unit) : Option (DDeed × Unit) :=
  Option.bind (F_laws_toAlarm k (x.1.2.2.1, ())) fun (r1 : DAlarm × Unit) =>
  Option.bind (F_laws_toLabelS k (x.1.2.2.2.1, ())) fun (r2 : List DLabel × Unit) =>
  Option.bind (F_laws_toAlarmS k (x.1.2.2.2.2.2.2.2.1, ())) fun (r3 : List DAlarm × Unit) =>
  some ((x.1.1, (x.1.2.1, (r1.1, (r2.1, (x.1.2.2.2.2.1, (x.1.2.2.2.2.2.1, (x.1.2.2.2.2.2.2.1, (r3.1, (x.1.2.2.2.2.2.2.2.2.1, (x.1.2.2.2.2.2.2.2.2.2.1, (x.1.2.2.2.2.2.2.2.2.2.2.1, x.1.2.2.2.2.2.2.2.2.2.2.2))))))))))), ())
def F_spec_Ahead (k : Nat) (x : DDeed × DDeed × Unit) : Option (Bool × Unit) :=
  some (if ((x.1.2.2.2.2.2.2.2.2.2.2.2 : Int) != (-1)) = true then decide ((x.1.2.2.2.2.2.2.2.2.2.2.2 : Int) < x.2.1.2.2.2.2.2.2.2.2.2.1) else false, ())
def F_impl_Ahead (k : Nat) (x : DDeed × DDeed × Unit) : Option (Bool × Unit) :=
  some (if ((x.1.2.2.2.2.2.2.2.2.2.2.2 : Int) != (-1)) = true then decide ((x.1.2.2.2.2.2.2.2.2.2.2.2 : Int) < x.2.1.2.2.2.2.2.2.2.2.2.1) else false, ())
def F_laws_eqDeed (k : Nat) (x : DDeed × DDeed × Unit) : Option (Bool × Unit) :=
  if ((x.1.1 : Int) != x.2.1.1) = true then
    some (false, ())
  else
    if ((x.1.2.1 : Int) != x.2.1.2.1) = true then
      some (false, ())
    else
      Option.bind (F_laws_eqAlarm k (x.1.2.2.1, x.2.1.2.2.1, ())) fun (r1 : Bool × Unit) =>
      if (!r1.1) = true then
        some (false, ())
      else
        Option.bind (F_laws_eqLabelS k (x.1.2.2.2.1, x.2.1.2.2.2.1, ())) fun (r2 : Bool × Unit) =>
        if (!r2.1) = true then
          some (false, ())
        else
          if ((x.1.2.2.2.2.1 : Int) != x.2.1.2.2.2.2.1) = true then
            some (false, ())
          else
            if ((x.1.2.2.2.2.2.1 : Int) != x.2.1.2.2.2.2.2.1) = true then
              some (false, ())
            else
              if ((x.1.2.2.2.2.2.2.1 : Int) != x.2.1.2.2.2.2.2.2.1) = true then
                some (false, ())
              else
                Option.bind (F_laws_eqAlarmS k (x.1.2.2.2.2.2.2.2.1, x.2.1.2.2.2.2.2.2.2.1, ())) fun (r3 : Bool × Unit) =>
                if (!r3.1) = true then
                  some (false, ())
                else
                  if ((x.1.2.2.2.2.2.2.2.2.1 : Int) != x.2.1.2.2.2.2.2.2.2.2.1) = true then
                    some (false, ())
                  else
                    if ((x.1.2.2.2.2.2.2.2.2.2.1 : Int) != x.2.1.2.2.2.2.2.2.2.2.2.1) = true then
                      some (false, ())
                    else
                      if ((x.1.2.2.2.2.2.2.2.2.2.2.1 : Int) != x.2.1.2.2.2.2.2.2.2.2.2.2.1) = true then
                        some (false, ())
                      else
                        if ((x.1.2.2.2.2.2.2.2.2.2.2.2 : Int) != x.2.1.2.2.2.2.2.2.2.2.2.2.2) = true then
                          some (false, ())
                        else
                          some (true, ())
def F_laws_FnExactAhead (k : Nat) (x : DDeed × DDeed × Unit) : Option (Bool × Unit) :=
  Option.bind (F_laws_szDeed k (x.1, 1048576, ())) fun (r1 : Int × Unit) =>
  if (decide ((r1.1 : Int) < 0)) = true then
    some (true, ())
  else
    Option.bind (F_laws_szDeed k (x.2.1, r1.1, ())) fun (r2 : Int × Unit) =>
    if (decide ((r2.1 : Int) < 0)) = true then
      some (true, ())
    else
      Option.bind (F_laws_toDeed k (x.1, ())) fun (r3 : DDeed × Unit) =>
      Option.bind (F_laws_toDeed k (x.2.1, ())) fun (r4 : DDeed × Unit) =>
      Option.bind (F_spec_Ahead k (r3.1, r4.1, ())) fun (r5 : Bool × Unit) =>
      Option.bind (F_laws_toDeed k (x.1, ())) fun (r6 : DDeed × Unit) =>
      Option.bind (F_laws_toDeed k (x.2.1, ())) fun (r7 : DDeed × Unit) =>
      Option.bind (F_impl_Ahead k (r6.1, r7.1, ())) fun (r8 : Bool × Unit) =>
      if (!((r8.1 : Bool) == r5.1)) = true then
        some (false, ())
      else
        Option.bind (F_laws_toDeed k (x.1, ())) fun (r9 : DDeed × Unit) =>
        Option.bind (F_laws_eqDeed k (r6.1, r9.1, ())) fun (r10 : Bool × Unit) =>
        if (!r10.1) = true then
          some (false, ())
        else
          Option.bind (F_laws_toDeed k (x.2.1, ())) fun (r11 : DDeed × Unit) =>
          Option.bind (F_laws_eqDeed k (r7.1, r11.1, ())) fun (r12 : Bool × Unit) =>
          if (!r12.1) = true then
            some (false, ())
          else
            some (true, ())
def F_spec_Over (k : Nat) (x : DAlarm × Int × Unit) : Option (Bool × Unit) :=
  some (decide ((x.1.2.2.1 : Int) ≤ x.2.1), ())
def F_spec_l4Copy (k : Nat) (x : DAlarm × Unit) : Option (DAlarm × Unit) :=
  if (decide (List.length ([] : List DLabel) + List.length x.1.1 < 4294967296)) = true then
    some ((([] : List DLabel) ++ x.1.1, x.1.2), ())
  else
    none
def F_spec_Swept (k : Nat) (x : List DAlarm × Int × Unit) : Option (List DAlarm × Unit) :=
  loopN k (fun G1 (t2 : List DAlarm × Int × List DAlarm × Int × Unit) =>
    if (decide ((t2.2.2.2.1 : Int) < ((List.length t2.1 : Nat) : Int))) = true then
      if (decide (0 ≤ t2.2.2.2.1 ∧ t2.2.2.2.1 < ((List.length t2.1 : Nat) : Int))) = true then
        Option.bind (F_spec_Over k (List.getD t2.1 (Int.toNat t2.2.2.2.1) tAlarm.dflt, t2.2.1, ())) fun (r3 : Bool × Unit) =>
        if (!r3.1) = true then
          if (decide (0 ≤ t2.2.2.2.1 ∧ t2.2.2.2.1 < ((List.length t2.1 : Nat) : Int))) = true then
            Option.bind (F_spec_l4Copy k (List.getD t2.1 (Int.toNat t2.2.2.2.1) tAlarm.dflt, ())) fun (r4 : DAlarm × Unit) =>
            if (decide (List.length t2.2.2.1 + List.length ([r4.1] : List DAlarm) < 4294967296)) = true then
              G1 (t2.1, t2.2.1, t2.2.2.1 ++ ([r4.1] : List DAlarm), IntKind.i64.wrap (t2.2.2.2.1 + 1), ())
            else
              none
          else
            none
        else
          G1 (t2.1, t2.2.1, t2.2.2.1, IntKind.i64.wrap (t2.2.2.2.1 + 1), ())
      else
        none
    else
      some (t2.2.2.1, ())) (x.1, x.2.1, ([] : List DAlarm), 0, ())
def F_impl_Over (k : Nat) (x : DAlarm × Int × Unit) : Option (Bool × Unit) :=
  some (decide ((x.1.2.2.1 : Int) ≤ x.2.1), ())
def F_impl_copySet (k : Nat) (x : List DLabel × Unit) : Option (List DLabel × Unit) :=
  if (decide (List.length ([] : List DLabel) + List.length x.1 < 4294967296)) = true then
    some (([] : List DLabel) ++ x.1, ())
  else
    none
def F_impl_copyAlarm (k : Nat) (x : DAlarm × Unit) : Option (DAlarm × Unit) :=
  Option.bind (F_impl_copySet k (x.1.1, ())) fun (r1 : List DLabel × Unit) =>
  some ((r1.1, x.1.2), ())
def F_impl_Swept (k : Nat) (x : List DAlarm × Int × Unit) : Option (List DAlarm × Unit) :=
  loopN k (fun G1 (t2 : Int × List DAlarm × List DAlarm × Int × Int × Unit) =>
    if (decide ((t2.2.2.2.2.1 : Int) < t2.2.2.2.1)) = true then
      if (decide (0 ≤ t2.2.2.2.2.1 ∧ t2.2.2.2.2.1 < ((List.length t2.2.2.1 : Nat) : Int))) = true then
        Option.bind (F_impl_Over k (List.getD t2.2.2.1 (Int.toNat t2.2.2.2.2.1) tAlarm.dflt, t2.1, ())) fun (r3 : Bool × Unit) =>
        if (!r3.1) = true then
          Option.bind (F_impl_copyAlarm k (List.getD t2.2.2.1 (Int.toNat t2.2.2.2.2.1) tAlarm.dflt, ())) fun (r4 : DAlarm × Unit) =>
          if (decide (List.length t2.2.1 + List.length ([r4.1] : List DAlarm) < 4294967296)) = true then
            G1 (t2.1, t2.2.1 ++ ([r4.1] : List DAlarm), t2.2.2.1, t2.2.2.2.1, IntKind.i64.wrap (t2.2.2.2.2.1 + 1), ())
          else
            none
        else
          G1 (t2.1, t2.2.1, t2.2.2.1, t2.2.2.2.1, IntKind.i64.wrap (t2.2.2.2.2.1 + 1), ())
      else
        none
    else
      some (t2.2.1, ())) (x.2.1, ([] : List DAlarm), x.1, ((List.length x.1 : Nat) : Int), 0, ())
def F_laws_markText (k : Nat) (x : Int × Unit) : Option (ByteArray × Unit) :=
  if (decide ((x.1 : Int) ≤ 0)) = true then
    some ((⟨#[109, 48]⟩ : ByteArray), ())
  else
    joinC (fun J1 =>
      loopN k (fun G3 (t4 : Int × ByteArray × Unit) =>
        if (decide ((t4.1 : Int) > 0)) = true then
          if (decide (10 ≠ 0)) = true then
            if (decide (((⟨(List.map (fun n : Int => UInt8.ofNat n.toNat) ([IntKind.u8.wrap (IntKind.i64.wrap (48 + (Int.tmod t4.1 10)))] : List Int)).toArray⟩ : ByteArray)).size + (t4.2.1).size < 4294967296)) = true then
              if (decide (10 ≠ 0)) = true then
                G3 (IntKind.i64.wrap (Int.tdiv t4.1 10), (⟨(List.map (fun n : Int => UInt8.ofNat n.toNat) ([IntKind.u8.wrap (IntKind.i64.wrap (48 + (Int.tmod t4.1 10)))] : List Int)).toArray⟩ : ByteArray) ++ t4.2.1, ())
              else
                none
            else
              none
          else
            none
        else
          J1 (t4.2.1, ())) (x.1, (⟨#[]⟩ : ByteArray), ())) (fun (t2 : ByteArray × Unit) =>
      if (decide (((⟨#[109]⟩ : ByteArray)).size + (t2.1).size < 4294967296)) = true then
        some ((⟨#[109]⟩ : ByteArray) ++ t2.1, ())
      else
        none)
def F_laws_markLabelS (k : Nat) (x : List DLabel × Int × Unit) : Option (Int × Unit) :=
  loopN k (fun G1 (t2 : List DLabel × Int × Int × Unit) =>
    if (decide ((t2.2.2.1 : Int) < ((List.length t2.1 : Nat) : Int))) = true then
      Option.bind (F_laws_markText k (t2.2.1, ())) fun (r3 : ByteArray × Unit) =>
      if (decide (0 ≤ t2.2.2.1 ∧ t2.2.2.1 < ((List.length t2.1 : Nat) : Int))) = true then
        Option.bind (F_laws_markText k (IntKind.i64.wrap (t2.2.1 + 1), ())) fun (r4 : ByteArray × Unit) =>
        if (decide (0 ≤ t2.2.2.1 ∧ t2.2.2.1 < ((List.length (List.set t2.1 (Int.toNat t2.2.2.1) (r3.1, (List.getD t2.1 (Int.toNat t2.2.2.1) tLabel.dflt).2)) : Nat) : Int))) = true then
          G1 (List.set (List.set t2.1 (Int.toNat t2.2.2.1) (r3.1, (List.getD t2.1 (Int.toNat t2.2.2.1) tLabel.dflt).2)) (Int.toNat t2.2.2.1) ((List.getD (List.set t2.1 (Int.toNat t2.2.2.1) (r3.1, (List.getD t2.1 (Int.toNat t2.2.2.1) tLabel.dflt).2)) (Int.toNat t2.2.2.1) tLabel.dflt).1, r4.1), IntKind.i64.wrap ((IntKind.i64.wrap (t2.2.1 + 1)) + 1), IntKind.i64.wrap (t2.2.2.1 + 1), ())
        else
          none
      else
        none
    else
      some (t2.2.1, ())) (x.1, x.2.1, 0, ())
def F_laws_heldLabelS (k : Nat) (x : List DLabel × Int × Unit) : Option (Int × Unit) :=
  loopN k (fun G1 (t2 : List DLabel × Int × Int × Unit) =>
    if (decide ((t2.2.2.1 : Int) < ((List.length t2.1 : Nat) : Int))) = true then
      if (decide (0 ≤ t2.2.2.1 ∧ t2.2.2.1 < ((List.length t2.1 : Nat) : Int))) = true then
        Option.bind (F_laws_markText k (t2.2.1, ())) fun (r3 : ByteArray × Unit) =>
        if (!(ByteArray.toList ((List.getD t2.1 (Int.toNat t2.2.2.1) tLabel.dflt).1) == ByteArray.toList r3.1)) = true then
          some ((-1), ())
        else
          if (decide (0 ≤ t2.2.2.1 ∧ t2.2.2.1 < ((List.length t2.1 : Nat) : Int))) = true then
            Option.bind (F_laws_markText k (IntKind.i64.wrap (t2.2.1 + 1), ())) fun (r4 : ByteArray × Unit) =>
            if (!(ByteArray.toList ((List.getD t2.1 (Int.toNat t2.2.2.1) tLabel.dflt).2) == ByteArray.toList r4.1)) = true then
              some ((-1), ())
            else
              G1 (t2.1, IntKind.i64.wrap ((IntKind.i64.wrap (t2.2.1 + 1)) + 1), IntKind.i64.wrap (t2.2.2.1 + 1), ())
          else
            none
      else
        none
    else
      some (t2.2.1, ())) (x.1, x.2.1, 0, ())
def F_laws_heldAlarmS (k : Nat) (x : List DAlarm × Int × Unit) : Option (Int × Unit) :=
  loopN k (fun G1 (t2 : List DAlarm × Int × Int × Unit) =>
    if (decide ((t2.2.2.1 : Int) < ((List.length t2.1 : Nat) : Int))) = true then
      if (decide (0 ≤ t2.2.2.1 ∧ t2.2.2.1 < ((List.length t2.1 : Nat) : Int))) = true then
        Option.bind (F_laws_heldLabelS k ((List.getD t2.1 (Int.toNat t2.2.2.1) tAlarm.dflt).1, t2.2.1, ())) fun (r3 : Int × Unit) =>
        if (decide ((r3.1 : Int) < 0)) = true then
          some ((-1), ())
        else
          if (decide (0 ≤ t2.2.2.1 ∧ t2.2.2.1 < ((List.length t2.1 : Nat) : Int))) = true then
            if (((((List.getD t2.1 (Int.toNat t2.2.2.1) tAlarm.dflt).2).1) : Int) != r3.1) = true then
              some ((-1), ())
            else
              if (decide (0 ≤ t2.2.2.1 ∧ t2.2.2.1 < ((List.length t2.1 : Nat) : Int))) = true then
                if ((((((List.getD t2.1 (Int.toNat t2.2.2.1) tAlarm.dflt).2).2).1) : Int) != (IntKind.i64.wrap (r3.1 + 1))) = true then
                  some ((-1), ())
                else
                  if (decide (0 ≤ t2.2.2.1 ∧ t2.2.2.1 < ((List.length t2.1 : Nat) : Int))) = true then
                    Option.bind (F_laws_markText k (IntKind.i64.wrap ((IntKind.i64.wrap (r3.1 + 1)) + 1), ())) fun (r4 : ByteArray × Unit) =>
                    if (!(ByteArray.toList ((((List.getD t2.1 (Int.toNat t2.2.2.1) tAlarm.dflt).2).2).2) == ByteArray.toList r4.1)) = true then
                      some ((-1), ())
                    else
                      G1 (t2.1, IntKind.i64.wrap ((IntKind.i64.wrap ((IntKind.i64.wrap (r3.1 + 1)) + 1)) + 1), IntKind.i64.wrap (t2.2.2.1 + 1), ())
                  else
                    none
              else
                none
          else
            none
      else
        none
    else
      some (t2.2.1, ())) (x.1, x.2.1, 0, ())
def F_spec_SameAlarm (k : Nat) (x : DAlarm × DAlarm × Unit) : Option (Bool × Unit) :=
  Option.bind (F_spec_SameSet k (x.1.1, x.2.1.1, ())) fun (r1 : Bool × Unit) =>
  some (if (if (if r1.1 = true then (x.1.2.1 : Int) == x.2.1.2.1 else false) = true then (x.1.2.2.1 : Int) == x.2.1.2.2.1 else false) = true then ByteArray.toList x.1.2.2.2 == ByteArray.toList x.2.1.2.2.2 else false, ())
def F_spec_l4Same (k : Nat) (x : List DAlarm × List DAlarm × Unit) : Option (Bool × Unit) :=
  if ((((List.length x.1 : Nat) : Int) : Int) != ((List.length x.2.1 : Nat) : Int)) = true then
    some (false, ())
  else
    loopN k (fun G1 (t2 : List DAlarm × List DAlarm × Int × Unit) =>
      if (decide ((t2.2.2.1 : Int) < ((List.length t2.1 : Nat) : Int))) = true then
        if (decide (0 ≤ t2.2.2.1 ∧ t2.2.2.1 < ((List.length t2.1 : Nat) : Int))) = true then
          if (decide (0 ≤ t2.2.2.1 ∧ t2.2.2.1 < ((List.length t2.2.1 : Nat) : Int))) = true then
            Option.bind (F_spec_SameAlarm k (List.getD t2.1 (Int.toNat t2.2.2.1) tAlarm.dflt, List.getD t2.2.1 (Int.toNat t2.2.2.1) tAlarm.dflt, ())) fun (r3 : Bool × Unit) =>
            if (!r3.1) = true then
              some (false, ())
            else
              G1 (t2.1, t2.2.1, IntKind.i64.wrap (t2.2.2.1 + 1), ())
          else
            none
        else
          none
      else
        some (true, ())) (x.1, x.2.1, 0, ())
def F_spec_SameDeed (k : Nat) (x : DDeed × DDeed × Unit) : Option (Bool × Unit) :=
  Option.bind ((if (((if ((x.1.1 : Int) == x.2.1.1) = true then (x.1.2.1 : Int) == x.2.1.2.1 else false) : Bool) == true) = true then F_spec_SameAlarm k (x.1.2.2.1, x.2.1.2.2.1, ()) else some (false, ()))) fun (r1 : Bool × Unit) =>
  Option.bind ((if (((if (if ((x.1.1 : Int) == x.2.1.1) = true then (x.1.2.1 : Int) == x.2.1.2.1 else false) = true then r1.1 else false) : Bool) == true) = true then F_spec_SameSet k (x.1.2.2.2.1, x.2.1.2.2.2.1, ()) else some (false, ()))) fun (r2 : Bool × Unit) =>
  Option.bind ((if (((if (if (if (if (if (if ((x.1.1 : Int) == x.2.1.1) = true then (x.1.2.1 : Int) == x.2.1.2.1 else false) = true then r1.1 else false) = true then r2.1 else false) = true then (x.1.2.2.2.2.1 : Int) == x.2.1.2.2.2.2.1 else false) = true then (x.1.2.2.2.2.2.1 : Int) == x.2.1.2.2.2.2.2.1 else false) = true then (x.1.2.2.2.2.2.2.1 : Int) == x.2.1.2.2.2.2.2.2.1 else false) : Bool) == true) = true then F_spec_l4Same k (x.1.2.2.2.2.2.2.2.1, x.2.1.2.2.2.2.2.2.2.1, ()) else some (false, ()))) fun (r3 : Bool × Unit) =>
  some (if (if (if (if (if (if (if (if (if (if (if ((x.1.1 : Int) == x.2.1.1) = true then (x.1.2.1 : Int) == x.2.1.2.1 else false) = true then r1.1 else false) = true then r2.1 else false) = true then (x.1.2.2.2.2.1 : Int) == x.2.1.2.2.2.2.1 else false) = true then (x.1.2.2.2.2.2.1 : Int) == x.2.1.2.2.2.2.2.1 else false) = true then (x.1.2.2.2.2.2.2.1 : Int) == x.2.1.2.2.2.2.2.2.1 else false) = true then r3.1 else false) = true then (x.1.2.2.2.2.2.2.2.2.1 : Int) == x.2.1.2.2.2.2.2.2.2.2.1 else false) = true then (x.1.2.2.2.2.2.2.2.2.2.1 : Int) == x.2.1.2.2.2.2.2.2.2.2.2.1 else false) = true then (x.1.2.2.2.2.2.2.2.2.2.2.1 : Int) == x.2.1.2.2.2.2.2.2.2.2.2.2.1 else false) = true then (x.1.2.2.2.2.2.2.2.2.2.2.2 : Int) == x.2.1.2.2.2.2.2.2.2.2.2.2.2 else false, ())
def F_impl_SameAlarm (k : Nat) (x : DAlarm × DAlarm × Unit) : Option (Bool × Unit) :=
  Option.bind (F_impl_SameSet k (x.1.1, x.2.1.1, ())) fun (r1 : Bool × Unit) =>
  some (if (if (if r1.1 = true then (x.1.2.1 : Int) == x.2.1.2.1 else false) = true then (x.1.2.2.1 : Int) == x.2.1.2.2.1 else false) = true then ByteArray.toList x.1.2.2.2 == ByteArray.toList x.2.1.2.2.2 else false, ())
def F_impl_sameAlarms (k : Nat) (x : List DAlarm × List DAlarm × Unit) : Option (Bool × Unit) :=
  if ((((List.length x.1 : Nat) : Int) : Int) != ((List.length x.2.1 : Nat) : Int)) = true then
    some (false, ())
  else
    loopN k (fun G1 (t2 : List DAlarm × List DAlarm × Int × Int × Unit) =>
      if (decide ((t2.2.2.2.1 : Int) < t2.2.2.1)) = true then
        if (decide (0 ≤ t2.2.2.2.1 ∧ t2.2.2.2.1 < ((List.length t2.1 : Nat) : Int))) = true then
          if (decide (0 ≤ t2.2.2.2.1 ∧ t2.2.2.2.1 < ((List.length t2.2.1 : Nat) : Int))) = true then
            Option.bind (F_impl_SameAlarm k (List.getD t2.1 (Int.toNat t2.2.2.2.1) tAlarm.dflt, List.getD t2.2.1 (Int.toNat t2.2.2.2.1) tAlarm.dflt, ())) fun (r3 : Bool × Unit) =>
            if (!r3.1) = true then
              some (false, ())
            else
              G1 (t2.1, t2.2.1, t2.2.2.1, IntKind.i64.wrap (t2.2.2.2.1 + 1), ())
          else
            none
        else
          none
      else
        some (true, ())) (x.1, x.2.1, ((List.length x.1 : Nat) : Int), 0, ())
def F_impl_SameDeed (k : Nat) (x : DDeed × DDeed × Unit) : Option (Bool × Unit) :=
  Option.bind ((if (((if ((x.1.1 : Int) == x.2.1.1) = true then (x.1.2.1 : Int) == x.2.1.2.1 else false) : Bool) == true) = true then F_impl_SameAlarm k (x.1.2.2.1, x.2.1.2.2.1, ()) else some (false, ()))) fun (r1 : Bool × Unit) =>
  Option.bind ((if (((if (if ((x.1.1 : Int) == x.2.1.1) = true then (x.1.2.1 : Int) == x.2.1.2.1 else false) = true then r1.1 else false) : Bool) == true) = true then F_impl_SameSet k (x.1.2.2.2.1, x.2.1.2.2.2.1, ()) else some (false, ()))) fun (r2 : Bool × Unit) =>
  Option.bind ((if (((if (if (if (if (if (if ((x.1.1 : Int) == x.2.1.1) = true then (x.1.2.1 : Int) == x.2.1.2.1 else false) = true then r1.1 else false) = true then r2.1 else false) = true then (x.1.2.2.2.2.1 : Int) == x.2.1.2.2.2.2.1 else false) = true then (x.1.2.2.2.2.2.1 : Int) == x.2.1.2.2.2.2.2.1 else false) = true then (x.1.2.2.2.2.2.2.1 : Int) == x.2.1.2.2.2.2.2.2.1 else false) : Bool) == true) = true then F_impl_sameAlarms k (x.1.2.2.2.2.2.2.2.1, x.2.1.2.2.2.2.2.2.2.1, ()) else some (false, ()))) fun (r3 : Bool × Unit) =>
  some (if (if (if (if (if (if (if (if (if (if (if ((x.1.1 : Int) == x.2.1.1) = true then (x.1.2.1 : Int) == x.2.1.2.1 else false) = true then r1.1 else false) = true then r2.1 else false) = true then (x.1.2.2.2.2.1 : Int) == x.2.1.2.2.2.2.1 else false) = true then (x.1.2.2.2.2.2.1 : Int) == x.2.1.2.2.2.2.2.1 else false) = true then (x.1.2.2.2.2.2.2.1 : Int) == x.2.1.2.2.2.2.2.2.1 else false) = true then r3.1 else false) = true then (x.1.2.2.2.2.2.2.2.2.1 : Int) == x.2.1.2.2.2.2.2.2.2.2.1 else false) = true then (x.1.2.2.2.2.2.2.2.2.2.1 : Int) == x.2.1.2.2.2.2.2.2.2.2.2.1 else false) = true then (x.1.2.2.2.2.2.2.2.2.2.2.1 : Int) == x.2.1.2.2.2.2.2.2.2.2.2.2.1 else false) = true then (x.1.2.2.2.2.2.2.2.2.2.2.2 : Int) == x.2.1.2.2.2.2.2.2.2.2.2.2.2 else false, ())
def F_laws_FnExactSameDeed (k : Nat) (x : DDeed × DDeed × Unit) : Option (Bool × Unit) :=
  Option.bind (F_laws_szDeed k (x.1, 1048576, ())) fun (r1 : Int × Unit) =>
  if (decide ((r1.1 : Int) < 0)) = true then
    some (true, ())
  else
    Option.bind (F_laws_szDeed k (x.2.1, r1.1, ())) fun (r2 : Int × Unit) =>
    if (decide ((r2.1 : Int) < 0)) = true then
      some (true, ())
    else
      Option.bind (F_laws_toDeed k (x.1, ())) fun (r3 : DDeed × Unit) =>
      Option.bind (F_laws_toDeed k (x.2.1, ())) fun (r4 : DDeed × Unit) =>
      Option.bind (F_spec_SameDeed k (r3.1, r4.1, ())) fun (r5 : Bool × Unit) =>
      Option.bind (F_laws_toDeed k (x.1, ())) fun (r6 : DDeed × Unit) =>
      Option.bind (F_laws_toDeed k (x.2.1, ())) fun (r7 : DDeed × Unit) =>
      Option.bind (F_impl_SameDeed k (r6.1, r7.1, ())) fun (r8 : Bool × Unit) =>
      if (!((r8.1 : Bool) == r5.1)) = true then
        some (false, ())
      else
        Option.bind (F_laws_toDeed k (x.1, ())) fun (r9 : DDeed × Unit) =>
        Option.bind (F_laws_eqDeed k (r6.1, r9.1, ())) fun (r10 : Bool × Unit) =>
        if (!r10.1) = true then
          some (false, ())
        else
          Option.bind (F_laws_toDeed k (x.2.1, ())) fun (r11 : DDeed × Unit) =>
          Option.bind (F_laws_eqDeed k (r7.1, r11.1, ())) fun (r12 : Bool × Unit) =>
          if (!r12.1) = true then
            some (false, ())
          else
            some (true, ())
def F_spec_l1In (k : Nat) (x : Int × Int × Int × Unit) : Option (Bool × Unit) :=
  some (if (decide ((x.1 : Int) ≥ x.2.1)) = true then decide ((x.1 : Int) ≤ x.2.2.1) else false, ())
def F_spec_l15Codes (k : Nat) (x : Int × Unit) : Option (List Int × Unit) :=
  if ((x.1 : Int) == 1) = true then
    some (([1, 2, 3, 4] : List Int), ())
  else
    if ((x.1 : Int) == 3) = true then
      some (([5, 6] : List Int), ())
    else
      if ((x.1 : Int) == 7) = true then
        some (([1, 2, 3] : List Int), ())
      else
        if ((x.1 : Int) == 8) = true then
          some (([8, 6] : List Int), ())
        else
          if ((x.1 : Int) == 9) = true then
            some (([5, 6, 7] : List Int), ())
          else
            some (([8] : List Int), ())
def F_spec_l15Has (k : Nat) (x : List Int × Int × Unit) : Option (Bool × Unit) :=
  loopN k (fun G1 (t2 : List Int × Int × Int × Unit) =>
    if (decide ((t2.2.2.1 : Int) < ((List.length t2.1 : Nat) : Int))) = true then
      if (decide (0 ≤ t2.2.2.1 ∧ t2.2.2.1 < ((List.length t2.1 : Nat) : Int))) = true then
        if (((List.getD t2.1 (Int.toNat t2.2.2.1) 0) : Int) == t2.2.1) = true then
          some (true, ())
        else
          G1 (t2.1, t2.2.1, IntKind.i64.wrap (t2.2.2.1 + 1), ())
      else
        none
    else
      some (false, ())) (x.1, x.2.1, 0, ())
def F_spec_DeedOk (k : Nat) (x : DDeed × Unit) : Option (Bool × Unit) :=
  Option.bind (F_spec_l1In k (x.1.1, 1, 9, ())) fun (r1 : Bool × Unit) =>
  Option.bind ((if (((!r1.1) : Bool) == false) = true then F_spec_l1In k (x.1.2.1, (-1), 4, ()) else some (false, ()))) fun (r2 : Bool × Unit) =>
  if (if (if (if (if (if (!r1.1) = true then true else !r2.1) = true then true else decide ((x.1.2.2.2.2.2.2.2.2.2.1 : Int) < 0)) = true then true else decide ((x.1.2.2.2.2.1 : Int) < 0)) = true then true else decide ((x.1.2.2.2.2.2.1 : Int) < 0)) = true then true else decide ((x.1.2.2.2.2.2.2.2.2.1 : Int) < 0)) = true then
    some (false, ())
  else
    if (if (if ((x.1.2.2.2.2.2.2.2.2.2.2.1 : Int) != (-1)) = true then decide ((x.1.2.2.2.2.2.2.2.2.2.2.1 : Int) < x.1.2.2.2.2.2.2.2.2.2.1) else false) = true then true else if ((x.1.2.2.2.2.2.2.2.2.2.2.2 : Int) != (-1)) = true then if ((x.1.2.2.2.2.2.2.2.2.2.2.1 : Int) == (-1)) = true then true else decide ((x.1.2.2.2.2.2.2.2.2.2.2.2 : Int) < x.1.2.2.2.2.2.2.2.2.2.2.1) else false) = true then
      some (false, ())
    else
      if ((x.1.2.2.2.2.2.2.2.2.2.2.1 : Int) == (-1)) = true then
        some ((x.1.2.2.2.2.2.2.1 : Int) == 0, ())
      else
        Option.bind (F_spec_l15Codes k (x.1.1, ())) fun (r3 : List Int × Unit) =>
        Option.bind (F_spec_l15Has k (r3.1, x.1.2.2.2.2.2.2.1, ())) fun (r4 : Bool × Unit) =>
        some (r4.1, ())
def F_impl_in (k : Nat) (x : Int × Int × Int × Unit) : Option (Bool × Unit) :=
  some (if (decide ((x.1 : Int) ≥ x.2.1)) = true then decide ((x.1 : Int) ≤ x.2.2.1) else false, ())
def F_impl_codeFits (k : Nat) (x : Int × Int × Unit) : Option (Bool × Unit) :=
  if ((x.1 : Int) == 1) = true then
    Option.bind (F_impl_in k (x.2.1, 1, 4, ())) fun (r1 : Bool × Unit) =>
    some (r1.1, ())
  else
    if ((x.1 : Int) == 3) = true then
      Option.bind (F_impl_in k (x.2.1, 5, 6, ())) fun (r2 : Bool × Unit) =>
      some (r2.1, ())
    else
      if ((x.1 : Int) == 7) = true then
        Option.bind (F_impl_in k (x.2.1, 1, 3, ())) fun (r3 : Bool × Unit) =>
        some (r3.1, ())
      else
        if ((x.1 : Int) == 8) = true then
          some (if ((x.2.1 : Int) == 8) = true then true else (x.2.1 : Int) == 6, ())
        else
          if ((x.1 : Int) == 9) = true then
            Option.bind (F_impl_in k (x.2.1, 5, 7, ())) fun (r4 : Bool × Unit) =>
            some (r4.1, ())
          else
            some ((x.2.1 : Int) == 8, ())
def F_impl_DeedOk (k : Nat) (x : DDeed × Unit) : Option (Bool × Unit) :=
  Option.bind (F_impl_in k (x.1.1, 1, 9, ())) fun (r1 : Bool × Unit) =>
  Option.bind ((if (((!r1.1) : Bool) == false) = true then F_impl_in k (x.1.2.1, (-1), 4, ()) else some (false, ()))) fun (r2 : Bool × Unit) =>
  if (if (if (if (if (if (!r1.1) = true then true else !r2.1) = true then true else decide ((x.1.2.2.2.2.2.2.2.2.2.1 : Int) < 0)) = true then true else decide ((x.1.2.2.2.2.1 : Int) < 0)) = true then true else decide ((x.1.2.2.2.2.2.1 : Int) < 0)) = true then true else decide ((x.1.2.2.2.2.2.2.2.2.1 : Int) < 0)) = true then
    some (false, ())
  else
    if ((x.1.2.2.2.2.2.2.2.2.2.2.1 : Int) == (-1)) = true then
      some (if ((x.1.2.2.2.2.2.2.2.2.2.2.2 : Int) == (-1)) = true then (x.1.2.2.2.2.2.2.1 : Int) == 0 else false, ())
    else
      Option.bind ((if (((if (decide ((x.1.2.2.2.2.2.2.2.2.2.2.1 : Int) ≥ x.1.2.2.2.2.2.2.2.2.2.1)) = true then if ((x.1.2.2.2.2.2.2.2.2.2.2.2 : Int) == (-1)) = true then true else decide ((x.1.2.2.2.2.2.2.2.2.2.2.2 : Int) ≥ x.1.2.2.2.2.2.2.2.2.2.2.1) else false) : Bool) == true) = true then F_impl_codeFits k (x.1.1, x.1.2.2.2.2.2.2.1, ()) else some (false, ()))) fun (r3 : Bool × Unit) =>
      some (if (if (decide ((x.1.2.2.2.2.2.2.2.2.2.2.1 : Int) ≥ x.1.2.2.2.2.2.2.2.2.2.1)) = true then if ((x.1.2.2.2.2.2.2.2.2.2.2.2 : Int) == (-1)) = true then true else decide ((x.1.2.2.2.2.2.2.2.2.2.2.2 : Int) ≥ x.1.2.2.2.2.2.2.2.2.2.2.1) else false) = true then r3.1 else false, ())
def F_laws_FnExactDeedOk (k : Nat) (x : DDeed × Unit) : Option (Bool × Unit) :=
  Option.bind (F_laws_szDeed k (x.1, 1048576, ())) fun (r1 : Int × Unit) =>
  if (decide ((r1.1 : Int) < 0)) = true then
    some (true, ())
  else
    Option.bind (F_laws_toDeed k (x.1, ())) fun (r2 : DDeed × Unit) =>
    Option.bind (F_spec_DeedOk k (r2.1, ())) fun (r3 : Bool × Unit) =>
    Option.bind (F_laws_toDeed k (x.1, ())) fun (r4 : DDeed × Unit) =>
    Option.bind (F_impl_DeedOk k (r4.1, ())) fun (r5 : Bool × Unit) =>
    if (!((r5.1 : Bool) == r3.1)) = true then
      some (false, ())
    else
      Option.bind (F_laws_toDeed k (x.1, ())) fun (r6 : DDeed × Unit) =>
      Option.bind (F_laws_eqDeed k (r4.1, r6.1, ())) fun (r7 : Bool × Unit) =>
      if (!r7.1) = true then
        some (false, ())
      else
        some (true, ())
end Vg.Try
