/- What the functions compute, printed by vgen.py from the evaluator's run. -/
import Derived.Test.YtmoafmclhokdaaaVd
namespace Vg.Try
open Go Vg
set_option linter.unusedVariables false
abbrev tLabel : Ty := (.pair .str .str)
abbrev DLabel : Type := (ByteArray × ByteArray)
abbrev tAlarm : Ty := (.pair (.sl tLabel) (.pair (.int .i64) (.pair (.int .i64) .str)))
abbrev DAlarm : Type := (List DLabel × (Int × (Int × ByteArray)))
abbrev tDeed : Ty := (.pair (.int .i64) (.pair (.int .i64) (.pair tAlarm (.pair (.sl tLabel) (.pair (.int .i64) (.pair (.int .i64) (.pair (.int .i64) (.pair (.sl tAlarm) (.pair (.int .i64) (.pair (.int .i64) (.pair (.int .i64) (.int .i64))))))))))))
abbrev DDeed : Type := (Int × (Int × (DAlarm × (List DLabel × (Int × (Int × (Int × (List DAlarm × (Int × (Int × (Int × Int)))))))))))
def F_impl_Order (k : Nat) (x : List DDeed × Unit) : Option (List Int × Unit) := ordF k x
def F_laws_szLabel (k : Nat) (x : DLabel × Int × Unit) : Option (Int × Unit) :=
 if (decide (((IntKind.i64.wrap (x.2.1 - ((ByteArray.size x.1.1 : Nat) : Int))) : Int) < (0 : Int))) = true then
  some ((-1 : Int), ())
 else
  if (decide (((IntKind.i64.wrap ((IntKind.i64.wrap (x.2.1 - ((ByteArray.size x.1.1 : Nat) : Int))) - ((ByteArray.size x.1.2 : Nat) : Int))) : Int) < (0 : Int))) = true then
   some ((-1 : Int), ())
  else
   some (IntKind.i64.wrap ((IntKind.i64.wrap (x.2.1 - ((ByteArray.size x.1.1 : Nat) : Int))) - ((ByteArray.size x.1.2 : Nat) : Int)), ())
def F_laws_szLabelS (k : Nat) (x : List DLabel × Int × Unit) : Option (Int × Unit) :=
 if (decide (((IntKind.i64.wrap (x.2.1 - ((List.length x.1 : Nat) : Int))) : Int) < (0 : Int))) = true then
  some ((-1 : Int), ())
 else
  loopN k (fun G1 (t2 : List DLabel × Int × Int × Unit) =>
   if (decide ((t2.2.2.1 : Int) < ((List.length t2.1 : Nat) : Int))) = true then
    if (decide (0 ≤ t2.2.2.1 ∧ t2.2.2.1 < ((List.length t2.1 : Nat) : Int))) = true then
     Option.bind (F_laws_szLabel k (List.getD t2.1 (Int.toNat t2.2.2.1) tLabel.dflt, t2.2.1, ())) fun r3 =>
     if (decide ((r3.1 : Int) < (0 : Int))) = true then
      some ((-1 : Int), ())
     else
      G1 (t2.1, r3.1, IntKind.i64.wrap (t2.2.2.1 + (1 : Int)), ())
    else
     none
   else
    some (t2.2.1, ())) (x.1, IntKind.i64.wrap (x.2.1 - ((List.length x.1 : Nat) : Int)), (0 : Int), ())
def F_laws_szAlarm (k : Nat) (x : DAlarm × Int × Unit) : Option (Int × Unit) :=
 Option.bind (F_laws_szLabelS k (x.1.1, x.2.1, ())) fun r1 =>
 if (decide ((r1.1 : Int) < (0 : Int))) = true then
  some ((-1 : Int), ())
 else
  if (decide (((IntKind.i64.wrap (r1.1 - ((ByteArray.size x.1.2.2.2 : Nat) : Int))) : Int) < (0 : Int))) = true then
   some ((-1 : Int), ())
  else
   some (IntKind.i64.wrap (r1.1 - ((ByteArray.size x.1.2.2.2 : Nat) : Int)), ())
def F_laws_szAlarmS (k : Nat) (x : List DAlarm × Int × Unit) : Option (Int × Unit) :=
 if (decide (((IntKind.i64.wrap (x.2.1 - ((List.length x.1 : Nat) : Int))) : Int) < (0 : Int))) = true then
  some ((-1 : Int), ())
 else
  loopN k (fun G1 (t2 : List DAlarm × Int × Int × Unit) =>
   if (decide ((t2.2.2.1 : Int) < ((List.length t2.1 : Nat) : Int))) = true then
    if (decide (0 ≤ t2.2.2.1 ∧ t2.2.2.1 < ((List.length t2.1 : Nat) : Int))) = true then
     Option.bind (F_laws_szAlarm k (List.getD t2.1 (Int.toNat t2.2.2.1) tAlarm.dflt, t2.2.1, ())) fun r3 =>
     if (decide ((r3.1 : Int) < (0 : Int))) = true then
      some ((-1 : Int), ())
     else
      G1 (t2.1, r3.1, IntKind.i64.wrap (t2.2.2.1 + (1 : Int)), ())
    else
     none
   else
    some (t2.2.1, ())) (x.1, IntKind.i64.wrap (x.2.1 - ((List.length x.1 : Nat) : Int)), (0 : Int), ())
def F_laws_szDeed (k : Nat) (x : DDeed × Int × Unit) : Option (Int × Unit) :=
 Option.bind (F_laws_szAlarm k (x.1.2.2.1, x.2.1, ())) fun r1 =>
 if (decide ((r1.1 : Int) < (0 : Int))) = true then
  some ((-1 : Int), ())
 else
  Option.bind (F_laws_szLabelS k (x.1.2.2.2.1, r1.1, ())) fun r2 =>
  if (decide ((r2.1 : Int) < (0 : Int))) = true then
   some ((-1 : Int), ())
  else
   Option.bind (F_laws_szAlarmS k (x.1.2.2.2.2.2.2.2.1, r2.1, ())) fun r3 =>
   if (decide ((r3.1 : Int) < (0 : Int))) = true then
    some ((-1 : Int), ())
   else
    some (r3.1, ())
def F_laws_szDeedS (k : Nat) (x : List DDeed × Int × Unit) : Option (Int × Unit) :=
 if (decide (((IntKind.i64.wrap (x.2.1 - ((List.length x.1 : Nat) : Int))) : Int) < (0 : Int))) = true then
  some ((-1 : Int), ())
 else
  loopN k (fun G1 (t2 : List DDeed × Int × Int × Unit) =>
   if (decide ((t2.2.2.1 : Int) < ((List.length t2.1 : Nat) : Int))) = true then
    if (decide (0 ≤ t2.2.2.1 ∧ t2.2.2.1 < ((List.length t2.1 : Nat) : Int))) = true then
     Option.bind (F_laws_szDeed k (List.getD t2.1 (Int.toNat t2.2.2.1) tDeed.dflt, t2.2.1, ())) fun r3 =>
     if (decide ((r3.1 : Int) < (0 : Int))) = true then
      some ((-1 : Int), ())
     else
      G1 (t2.1, r3.1, IntKind.i64.wrap (t2.2.2.1 + (1 : Int)), ())
    else
     none
   else
    some (t2.2.1, ())) (x.1, IntKind.i64.wrap (x.2.1 - ((List.length x.1 : Nat) : Int)), (0 : Int), ())
def F_laws_toLabel (k : Nat) (x : DLabel × Unit) : Option (DLabel × Unit) :=
 some (x.1, ())
def F_laws_toLabelS (k : Nat) (x : List DLabel × Unit) : Option (List DLabel × Unit) :=
 if (decide (0 ≤ ((List.length x.1 : Nat) : Int) ∧ ((List.length x.1 : Nat) : Int) < 4294967296 ∧ ((List.length x.1 : Nat) : Int) = ((List.length x.1 : Nat) : Int))) = true then
  loopN k (fun G1 (t2 : List DLabel × List DLabel × Int × Unit) =>
   if (decide ((t2.2.2.1 : Int) < ((List.length t2.1 : Nat) : Int))) = true then
    if (decide (0 ≤ t2.2.2.1 ∧ t2.2.2.1 < ((List.length t2.1 : Nat) : Int))) = true then
     Option.bind (F_laws_toLabel k (List.getD t2.1 (Int.toNat t2.2.2.1) tLabel.dflt, ())) fun r3 =>
     if (decide (0 ≤ t2.2.2.1 ∧ t2.2.2.1 < ((List.length t2.2.1 : Nat) : Int))) = true then
      G1 (t2.1, List.set t2.2.1 (Int.toNat t2.2.2.1) r3.1, IntKind.i64.wrap (t2.2.2.1 + (1 : Int)), ())
     else
      none
    else
     none
   else
    some (t2.2.1, ())) (x.1, List.replicate (Int.toNat ((List.length x.1 : Nat) : Int)) tLabel.dflt, (0 : Int), ())
 else
  none
def F_laws_toAlarm (k : Nat) (x : DAlarm × Unit) : Option (DAlarm × Unit) :=
 Option.bind (F_laws_toLabelS k (x.1.1, ())) fun r1 =>
 some ((r1.1, x.1.2), ())
def F_laws_toAlarmS (k : Nat) (x : List DAlarm × Unit) : Option (List DAlarm × Unit) :=
 if (decide (0 ≤ ((List.length x.1 : Nat) : Int) ∧ ((List.length x.1 : Nat) : Int) < 4294967296 ∧ ((List.length x.1 : Nat) : Int) = ((List.length x.1 : Nat) : Int))) = true then
  loopN k (fun G1 (t2 : List DAlarm × List DAlarm × Int × Unit) =>
   if (decide ((t2.2.2.1 : Int) < ((List.length t2.1 : Nat) : Int))) = true then
    if (decide (0 ≤ t2.2.2.1 ∧ t2.2.2.1 < ((List.length t2.1 : Nat) : Int))) = true then
     Option.bind (F_laws_toAlarm k (List.getD t2.1 (Int.toNat t2.2.2.1) tAlarm.dflt, ())) fun r3 =>
     if (decide (0 ≤ t2.2.2.1 ∧ t2.2.2.1 < ((List.length t2.2.1 : Nat) : Int))) = true then
      G1 (t2.1, List.set t2.2.1 (Int.toNat t2.2.2.1) r3.1, IntKind.i64.wrap (t2.2.2.1 + (1 : Int)), ())
     else
      none
    else
     none
   else
    some (t2.2.1, ())) (x.1, List.replicate (Int.toNat ((List.length x.1 : Nat) : Int)) tAlarm.dflt, (0 : Int), ())
 else
  none
def F_laws_toDeed (k : Nat) (x : DDeed × Unit) : Option (DDeed × Unit) :=
 Option.bind (F_laws_toAlarm k (x.1.2.2.1, ())) fun r1 =>
 Option.bind (F_laws_toLabelS k (x.1.2.2.2.1, ())) fun r2 =>
 Option.bind (F_laws_toAlarmS k (x.1.2.2.2.2.2.2.2.1, ())) fun r3 =>
 some ((x.1.1, x.1.2.1, r1.1, r2.1, x.1.2.2.2.2.1, x.1.2.2.2.2.2.1, x.1.2.2.2.2.2.2.1, r3.1, x.1.2.2.2.2.2.2.2.2), ())
def F_laws_toDeedS (k : Nat) (x : List DDeed × Unit) : Option (List DDeed × Unit) :=
 if (decide (0 ≤ ((List.length x.1 : Nat) : Int) ∧ ((List.length x.1 : Nat) : Int) < 4294967296 ∧ ((List.length x.1 : Nat) : Int) = ((List.length x.1 : Nat) : Int))) = true then
  loopN k (fun G1 (t2 : List DDeed × List DDeed × Int × Unit) =>
   if (decide ((t2.2.2.1 : Int) < ((List.length t2.1 : Nat) : Int))) = true then
    if (decide (0 ≤ t2.2.2.1 ∧ t2.2.2.1 < ((List.length t2.1 : Nat) : Int))) = true then
     Option.bind (F_laws_toDeed k (List.getD t2.1 (Int.toNat t2.2.2.1) tDeed.dflt, ())) fun r3 =>
     if (decide (0 ≤ t2.2.2.1 ∧ t2.2.2.1 < ((List.length t2.2.1 : Nat) : Int))) = true then
      G1 (t2.1, List.set t2.2.1 (Int.toNat t2.2.2.1) r3.1, IntKind.i64.wrap (t2.2.2.1 + (1 : Int)), ())
     else
      none
    else
     none
   else
    some (t2.2.1, ())) (x.1, List.replicate (Int.toNat ((List.length x.1 : Nat) : Int)) tDeed.dflt, (0 : Int), ())
 else
  none
def F_spec_Order (k : Nat) (x : List DDeed × Unit) : Option (List Int × Unit) :=
 loopN k (fun G1 (t2 : List DDeed × List Int × Int × Unit) =>
  if (decide ((t2.2.2.1 : Int) < ((List.length t2.1 : Nat) : Int))) = true then
   if (decide (0 ≤ t2.2.2.1 ∧ t2.2.2.1 < ((List.length t2.1 : Nat) : Int))) = true then
    if ((((((((((((((List.getD t2.1 (Int.toNat t2.2.2.1) tDeed.dflt).2).2).2).2).2).2).2).2).2).2).1) : Int) == (-1 : Int)) = true then
     G1 (t2.1, t2.2.1, IntKind.i64.wrap (t2.2.2.1 + (1 : Int)), ())
    else
     joinC (fun J3 =>
      loopN k (fun G5 (t6 : List DDeed × List Int × Int × Int × Unit) =>
       if (!(((decide ((t6.2.2.2.1 : Int) > (0 : Int))) : Bool) == true) || (decide (0 ≤ (IntKind.i64.wrap (t6.2.2.2.1 - (1 : Int))) ∧ (IntKind.i64.wrap (t6.2.2.2.1 - (1 : Int))) < ((List.length t6.2.1 : Nat) : Int)))) = true then
        if (!(((decide ((t6.2.2.2.1 : Int) > (0 : Int))) : Bool) == true) || (decide (0 ≤ (List.getD t6.2.1 (Int.toNat (IntKind.i64.wrap (t6.2.2.2.1 - (1 : Int)))) 0) ∧ (List.getD t6.2.1 (Int.toNat (IntKind.i64.wrap (t6.2.2.2.1 - (1 : Int)))) 0) < ((List.length t6.1 : Nat) : Int)))) = true then
         if (!(((decide ((t6.2.2.2.1 : Int) > (0 : Int))) : Bool) == true) || (decide (0 ≤ t6.2.2.1 ∧ t6.2.2.1 < ((List.length t6.1 : Nat) : Int)))) = true then
          if (if (decide ((t6.2.2.2.1 : Int) > (0 : Int))) = true then decide ((((((((((((((List.getD t6.1 (Int.toNat (List.getD t6.2.1 (Int.toNat (IntKind.i64.wrap (t6.2.2.2.1 - (1 : Int)))) 0)) tDeed.dflt).2).2).2).2).2).2).2).2).2).2).1) : Int) > ((((((((((((List.getD t6.1 (Int.toNat t6.2.2.1) tDeed.dflt).2).2).2).2).2).2).2).2).2).2).1)) else false) = true then
           G5 (t6.1, t6.2.1, t6.2.2.1, IntKind.i64.wrap (t6.2.2.2.1 - (1 : Int)), ())
          else
           J3 (t6.1, t6.2.1, t6.2.2.1, t6.2.2.2.1, ())
         else
          none
        else
         none
       else
        none) (t2.1, t2.2.1, t2.2.2.1, ((List.length t2.2.1 : Nat) : Int), ())) (fun (t4 : List DDeed × List Int × Int × Int × Unit) =>
      if (decide (0 ≤ t4.2.2.2.1 ∧ t4.2.2.2.1 ≤ ((List.length t4.2.1 : Nat) : Int))) = true then
       if (decide (List.length ([] : List Int) + List.length (List.take (Int.toNat t4.2.2.2.1) t4.2.1) < 4294967296)) = true then
        if (decide (List.length (([] : List Int) ++ (List.take (Int.toNat t4.2.2.2.1) t4.2.1)) + List.length ([t4.2.2.1] : List Int) < 4294967296)) = true then
         if (decide (0 ≤ t4.2.2.2.1 ∧ t4.2.2.2.1 ≤ ((List.length t4.2.1 : Nat) : Int))) = true then
          if (decide (List.length ((([] : List Int) ++ (List.take (Int.toNat t4.2.2.2.1) t4.2.1)) ++ ([t4.2.2.1] : List Int)) + List.length (List.drop (Int.toNat t4.2.2.2.1) t4.2.1) < 4294967296)) = true then
           G1 (t4.1, ((([] : List Int) ++ (List.take (Int.toNat t4.2.2.2.1) t4.2.1)) ++ ([t4.2.2.1] : List Int)) ++ (List.drop (Int.toNat t4.2.2.2.1) t4.2.1), IntKind.i64.wrap (t4.2.2.1 + (1 : Int)), ())
          else
           none
         else
          none
        else
         none
       else
        none
      else
       none)
   else
    none
  else
   some (t2.2.1, ())) (x.1, ([] : List Int), (0 : Int), ())
def F_laws_eqIntS (k : Nat) (x : List Int × List Int × Unit) : Option (Bool × Unit) :=
 if ((((List.length x.1 : Nat) : Int) : Int) != ((List.length x.2.1 : Nat) : Int)) = true then
  some (false, ())
 else
  loopN k (fun G1 (t2 : List Int × List Int × Int × Unit) =>
   if (decide ((t2.2.2.1 : Int) < ((List.length t2.1 : Nat) : Int))) = true then
    if (decide (0 ≤ t2.2.2.1 ∧ t2.2.2.1 < ((List.length t2.1 : Nat) : Int))) = true then
     if (decide (0 ≤ t2.2.2.1 ∧ t2.2.2.1 < ((List.length t2.2.1 : Nat) : Int))) = true then
      if (((List.getD t2.1 (Int.toNat t2.2.2.1) 0) : Int) != (List.getD t2.2.1 (Int.toNat t2.2.2.1) 0)) = true then
       some (false, ())
      else
       G1 (t2.1, t2.2.1, IntKind.i64.wrap (t2.2.2.1 + (1 : Int)), ())
     else
      none
    else
     none
   else
    some (true, ())) (x.1, x.2.1, (0 : Int), ())
def F_laws_eqLabel (k : Nat) (x : DLabel × DLabel × Unit) : Option (Bool × Unit) :=
 if (!(ByteArray.toList x.1.1 == ByteArray.toList x.2.1.1)) = true then
  some (false, ())
 else
  if (!(ByteArray.toList x.1.2 == ByteArray.toList x.2.1.2)) = true then
   some (false, ())
  else
   some (true, ())
def F_laws_eqLabelS (k : Nat) (x : List DLabel × List DLabel × Unit) : Option (Bool × Unit) :=
 if ((((List.length x.1 : Nat) : Int) : Int) != ((List.length x.2.1 : Nat) : Int)) = true then
  some (false, ())
 else
  loopN k (fun G1 (t2 : List DLabel × List DLabel × Int × Unit) =>
   if (decide ((t2.2.2.1 : Int) < ((List.length t2.1 : Nat) : Int))) = true then
    if (decide (0 ≤ t2.2.2.1 ∧ t2.2.2.1 < ((List.length t2.1 : Nat) : Int))) = true then
     if (decide (0 ≤ t2.2.2.1 ∧ t2.2.2.1 < ((List.length t2.2.1 : Nat) : Int))) = true then
      Option.bind (F_laws_eqLabel k (List.getD t2.1 (Int.toNat t2.2.2.1) tLabel.dflt, List.getD t2.2.1 (Int.toNat t2.2.2.1) tLabel.dflt, ())) fun r3 =>
      if (!r3.1) = true then
       some (false, ())
      else
       G1 (t2.1, t2.2.1, IntKind.i64.wrap (t2.2.2.1 + (1 : Int)), ())
     else
      none
    else
     none
   else
    some (true, ())) (x.1, x.2.1, (0 : Int), ())
def F_laws_eqAlarm (k : Nat) (x : DAlarm × DAlarm × Unit) : Option (Bool × Unit) :=
 Option.bind (F_laws_eqLabelS k (x.1.1, x.2.1.1, ())) fun r1 =>
 if (!r1.1) = true then
  some (false, ())
 else
  if ((x.1.2.1 : Int) != x.2.1.2.1) = true then
   some (false, ())
  else
   if ((x.1.2.2.1 : Int) != x.2.1.2.2.1) = true then
    some (false, ())
   else
    if (!(ByteArray.toList x.1.2.2.2 == ByteArray.toList x.2.1.2.2.2)) = true then
     some (false, ())
    else
     some (true, ())
def F_laws_eqAlarmS (k : Nat) (x : List DAlarm × List DAlarm × Unit) : Option (Bool × Unit) :=
 if ((((List.length x.1 : Nat) : Int) : Int) != ((List.length x.2.1 : Nat) : Int)) = true then
  some (false, ())
 else
  loopN k (fun G1 (t2 : List DAlarm × List DAlarm × Int × Unit) =>
   if (decide ((t2.2.2.1 : Int) < ((List.length t2.1 : Nat) : Int))) = true then
    if (decide (0 ≤ t2.2.2.1 ∧ t2.2.2.1 < ((List.length t2.1 : Nat) : Int))) = true then
     if (decide (0 ≤ t2.2.2.1 ∧ t2.2.2.1 < ((List.length t2.2.1 : Nat) : Int))) = true then
      Option.bind (F_laws_eqAlarm k (List.getD t2.1 (Int.toNat t2.2.2.1) tAlarm.dflt, List.getD t2.2.1 (Int.toNat t2.2.2.1) tAlarm.dflt, ())) fun r3 =>
      if (!r3.1) = true then
       some (false, ())
      else
       G1 (t2.1, t2.2.1, IntKind.i64.wrap (t2.2.2.1 + (1 : Int)), ())
     else
      none
    else
     none
   else
    some (true, ())) (x.1, x.2.1, (0 : Int), ())
def F_laws_eqDeed (k : Nat) (x : DDeed × DDeed × Unit) : Option (Bool × Unit) :=
 if ((x.1.1 : Int) != x.2.1.1) = true then
  some (false, ())
 else
  if ((x.1.2.1 : Int) != x.2.1.2.1) = true then
   some (false, ())
  else
   Option.bind (F_laws_eqAlarm k (x.1.2.2.1, x.2.1.2.2.1, ())) fun r1 =>
   if (!r1.1) = true then
    some (false, ())
   else
    Option.bind (F_laws_eqLabelS k (x.1.2.2.2.1, x.2.1.2.2.2.1, ())) fun r2 =>
    if (!r2.1) = true then
     some (false, ())
    else
     if ((x.1.2.2.2.2.1 : Int) != x.2.1.2.2.2.2.1) = true then
      some (false, ())
     else
      if ((x.1.2.2.2.2.2.1 : Int) != x.2.1.2.2.2.2.2.1) = true then
       some (false, ())
      else
       if ((x.1.2.2.2.2.2.2.1 : Int) != x.2.1.2.2.2.2.2.2.1) = true then
        some (false, ())
       else
        Option.bind (F_laws_eqAlarmS k (x.1.2.2.2.2.2.2.2.1, x.2.1.2.2.2.2.2.2.2.1, ())) fun r3 =>
        if (!r3.1) = true then
         some (false, ())
        else
         if ((x.1.2.2.2.2.2.2.2.2.1 : Int) != x.2.1.2.2.2.2.2.2.2.2.1) = true then
          some (false, ())
         else
          if ((x.1.2.2.2.2.2.2.2.2.2.1 : Int) != x.2.1.2.2.2.2.2.2.2.2.2.1) = true then
           some (false, ())
          else
           if ((x.1.2.2.2.2.2.2.2.2.2.2.1 : Int) != x.2.1.2.2.2.2.2.2.2.2.2.2.1) = true then
            some (false, ())
           else
            if ((x.1.2.2.2.2.2.2.2.2.2.2.2 : Int) != x.2.1.2.2.2.2.2.2.2.2.2.2.2) = true then
             some (false, ())
            else
             some (true, ())
def F_laws_eqDeedS (k : Nat) (x : List DDeed × List DDeed × Unit) : Option (Bool × Unit) :=
 if ((((List.length x.1 : Nat) : Int) : Int) != ((List.length x.2.1 : Nat) : Int)) = true then
  some (false, ())
 else
  loopN k (fun G1 (t2 : List DDeed × List DDeed × Int × Unit) =>
   if (decide ((t2.2.2.1 : Int) < ((List.length t2.1 : Nat) : Int))) = true then
    if (decide (0 ≤ t2.2.2.1 ∧ t2.2.2.1 < ((List.length t2.1 : Nat) : Int))) = true then
     if (decide (0 ≤ t2.2.2.1 ∧ t2.2.2.1 < ((List.length t2.2.1 : Nat) : Int))) = true then
      Option.bind (F_laws_eqDeed k (List.getD t2.1 (Int.toNat t2.2.2.1) tDeed.dflt, List.getD t2.2.1 (Int.toNat t2.2.2.1) tDeed.dflt, ())) fun r3 =>
      if (!r3.1) = true then
       some (false, ())
      else
       G1 (t2.1, t2.2.1, IntKind.i64.wrap (t2.2.2.1 + (1 : Int)), ())
     else
      none
    else
     none
   else
    some (true, ())) (x.1, x.2.1, (0 : Int), ())
def F_laws_markText (k : Nat) (x : Int × Unit) : Option (ByteArray × Unit) :=
 if (decide ((x.1 : Int) ≤ (0 : Int))) = true then
  some ((⟨#[109, 48]⟩ : ByteArray), ())
 else
  joinC (fun J1 =>
   loopN k (fun G3 (t4 : Int × ByteArray × Unit) =>
    if (decide ((t4.1 : Int) > (0 : Int))) = true then
     if (decide ((10 : Int) ≠ 0)) = true then
      if (decide (((⟨(List.map (fun n : Int => UInt8.ofNat n.toNat) ([IntKind.u8.wrap (IntKind.i64.wrap ((48 : Int) + (Int.tmod t4.1 (10 : Int))))] : List Int)).toArray⟩ : ByteArray)).size + (t4.2.1).size < 4294967296)) = true then
       if (decide ((10 : Int) ≠ 0)) = true then
        G3 (IntKind.i64.wrap (Int.tdiv t4.1 (10 : Int)), (⟨(List.map (fun n : Int => UInt8.ofNat n.toNat) ([IntKind.u8.wrap (IntKind.i64.wrap ((48 : Int) + (Int.tmod t4.1 (10 : Int))))] : List Int)).toArray⟩ : ByteArray) ++ t4.2.1, ())
       else
        none
      else
       none
     else
      none
    else
     J1 (t4.2.1, ())) (x.1, (⟨#[]⟩ : ByteArray), ())) (fun (t2 : ByteArray × Unit) =>
   if (decide (((⟨#[109]⟩ : ByteArray)).size + (t2.1).size < 4294967296)) = true then
    some ((⟨#[109]⟩ : ByteArray) ++ t2.1, ())
   else
    none)
def F_laws_markLabelS (k : Nat) (x : List DLabel) (n : Int) : Option (Int × (List DLabel)) :=
 loopN k (fun G1 (t2 : List DLabel × Int × Int × Unit) =>
  if (decide ((t2.2.2.1 : Int) < ((List.length t2.1 : Nat) : Int))) = true then
   Option.bind (F_laws_markText k (t2.2.1, ())) fun r3 =>
   if (decide (0 ≤ t2.2.2.1 ∧ t2.2.2.1 < ((List.length t2.1 : Nat) : Int))) = true then
    letC (List.set t2.1 (Int.toNat t2.2.2.1) (r3.1, (List.getD t2.1 (Int.toNat t2.2.2.1) tLabel.dflt).2)) fun l4 =>
    Option.bind (F_laws_markText k (IntKind.i64.wrap (t2.2.1 + (1 : Int)), ())) fun r5 =>
    if (decide (0 ≤ t2.2.2.1 ∧ t2.2.2.1 < ((List.length l4 : Nat) : Int))) = true then
     letC (List.set l4 (Int.toNat t2.2.2.1) ((List.getD l4 (Int.toNat t2.2.2.1) tLabel.dflt).1, r5.1)) fun l6 =>
     G1 (l6, IntKind.i64.wrap ((IntKind.i64.wrap (t2.2.1 + (1 : Int))) + (1 : Int)), IntKind.i64.wrap (t2.2.2.1 + (1 : Int)), ())
    else
     none
   else
    none
  else
   some (t2.2.1, t2.1)) (x, n, (0 : Int), ())
def F_laws_markAlarmS (k : Nat) (x : List DAlarm) (n : Int) : Option (Int × (List DAlarm)) :=
 loopN k (fun G1 (t2 : List DAlarm × Int × Int × Unit) =>
  if (decide ((t2.2.2.1 : Int) < ((List.length t2.1 : Nat) : Int))) = true then
   if (decide (0 ≤ t2.2.2.1 ∧ t2.2.2.1 < ((List.length t2.1 : Nat) : Int))) = true then
    Option.bind (F_laws_markLabelS k ((List.getD t2.1 (Int.toNat t2.2.2.1) tAlarm.dflt).1) t2.2.1) fun r3 =>
    letC (List.set t2.1 (Int.toNat t2.2.2.1) (r3.2, (List.getD t2.1 (Int.toNat t2.2.2.1) tAlarm.dflt).2)) fun l4 =>
    if (decide (0 ≤ t2.2.2.1 ∧ t2.2.2.1 < ((List.length l4 : Nat) : Int))) = true then
     letC (List.set l4 (Int.toNat t2.2.2.1) ((List.getD l4 (Int.toNat t2.2.2.1) tAlarm.dflt).1, r3.1, ((List.getD l4 (Int.toNat t2.2.2.1) tAlarm.dflt).2).2)) fun l5 =>
     if (decide (0 ≤ t2.2.2.1 ∧ t2.2.2.1 < ((List.length l5 : Nat) : Int))) = true then
      letC (List.set l5 (Int.toNat t2.2.2.1) ((List.getD l5 (Int.toNat t2.2.2.1) tAlarm.dflt).1, ((List.getD l5 (Int.toNat t2.2.2.1) tAlarm.dflt).2).1, IntKind.i64.wrap (r3.1 + (1 : Int)), (((List.getD l5 (Int.toNat t2.2.2.1) tAlarm.dflt).2).2).2)) fun l6 =>
      Option.bind (F_laws_markText k (IntKind.i64.wrap ((IntKind.i64.wrap (r3.1 + (1 : Int))) + (1 : Int)), ())) fun r7 =>
      if (decide (0 ≤ t2.2.2.1 ∧ t2.2.2.1 < ((List.length l6 : Nat) : Int))) = true then
       letC (List.set l6 (Int.toNat t2.2.2.1) ((List.getD l6 (Int.toNat t2.2.2.1) tAlarm.dflt).1, ((List.getD l6 (Int.toNat t2.2.2.1) tAlarm.dflt).2).1, (((List.getD l6 (Int.toNat t2.2.2.1) tAlarm.dflt).2).2).1, r7.1)) fun l8 =>
       G1 (l8, IntKind.i64.wrap ((IntKind.i64.wrap ((IntKind.i64.wrap (r3.1 + (1 : Int))) + (1 : Int))) + (1 : Int)), IntKind.i64.wrap (t2.2.2.1 + (1 : Int)), ())
      else
       none
     else
      none
    else
     none
   else
    none
  else
   some (t2.2.1, t2.1)) (x, n, (0 : Int), ())
def F_laws_markDeedS (k : Nat) (x : List DDeed) (n : Int) : Option (Int × (List DDeed)) :=
 loopN k (fun G1 (t2 : List DDeed × Int × Int × Unit) =>
  if (decide ((t2.2.2.1 : Int) < ((List.length t2.1 : Nat) : Int))) = true then
   if (decide (0 ≤ t2.2.2.1 ∧ t2.2.2.1 < ((List.length t2.1 : Nat) : Int))) = true then
    letC (List.set t2.1 (Int.toNat t2.2.2.1) (t2.2.1, (List.getD t2.1 (Int.toNat t2.2.2.1) tDeed.dflt).2)) fun l3 =>
    if (decide (0 ≤ t2.2.2.1 ∧ t2.2.2.1 < ((List.length l3 : Nat) : Int))) = true then
     letC (List.set l3 (Int.toNat t2.2.2.1) ((List.getD l3 (Int.toNat t2.2.2.1) tDeed.dflt).1, IntKind.i64.wrap (t2.2.1 + (1 : Int)), ((List.getD l3 (Int.toNat t2.2.2.1) tDeed.dflt).2).2)) fun l4 =>
     if (decide (0 ≤ t2.2.2.1 ∧ t2.2.2.1 < ((List.length l4 : Nat) : Int))) = true then
      Option.bind (F_laws_markLabelS k (((((List.getD l4 (Int.toNat t2.2.2.1) tDeed.dflt).2).2).1).1) (IntKind.i64.wrap ((IntKind.i64.wrap (t2.2.1 + (1 : Int))) + (1 : Int)))) fun r5 =>
      letC (List.set l4 (Int.toNat t2.2.2.1) ((List.getD l4 (Int.toNat t2.2.2.1) tDeed.dflt).1, ((List.getD l4 (Int.toNat t2.2.2.1) tDeed.dflt).2).1, (r5.2, ((((List.getD l4 (Int.toNat t2.2.2.1) tDeed.dflt).2).2).1).2), (((List.getD l4 (Int.toNat t2.2.2.1) tDeed.dflt).2).2).2)) fun l6 =>
      if (decide (0 ≤ t2.2.2.1 ∧ t2.2.2.1 < ((List.length l6 : Nat) : Int))) = true then
       letC (List.set l6 (Int.toNat t2.2.2.1) ((List.getD l6 (Int.toNat t2.2.2.1) tDeed.dflt).1, ((List.getD l6 (Int.toNat t2.2.2.1) tDeed.dflt).2).1, (((((List.getD l6 (Int.toNat t2.2.2.1) tDeed.dflt).2).2).1).1, r5.1, (((((List.getD l6 (Int.toNat t2.2.2.1) tDeed.dflt).2).2).1).2).2), (((List.getD l6 (Int.toNat t2.2.2.1) tDeed.dflt).2).2).2)) fun l7 =>
       if (decide (0 ≤ t2.2.2.1 ∧ t2.2.2.1 < ((List.length l7 : Nat) : Int))) = true then
        letC (List.set l7 (Int.toNat t2.2.2.1) ((List.getD l7 (Int.toNat t2.2.2.1) tDeed.dflt).1, ((List.getD l7 (Int.toNat t2.2.2.1) tDeed.dflt).2).1, (((((List.getD l7 (Int.toNat t2.2.2.1) tDeed.dflt).2).2).1).1, (((((List.getD l7 (Int.toNat t2.2.2.1) tDeed.dflt).2).2).1).2).1, IntKind.i64.wrap (r5.1 + (1 : Int)), ((((((List.getD l7 (Int.toNat t2.2.2.1) tDeed.dflt).2).2).1).2).2).2), (((List.getD l7 (Int.toNat t2.2.2.1) tDeed.dflt).2).2).2)) fun l8 =>
        Option.bind (F_laws_markText k (IntKind.i64.wrap ((IntKind.i64.wrap (r5.1 + (1 : Int))) + (1 : Int)), ())) fun r9 =>
        if (decide (0 ≤ t2.2.2.1 ∧ t2.2.2.1 < ((List.length l8 : Nat) : Int))) = true then
         letC (List.set l8 (Int.toNat t2.2.2.1) ((List.getD l8 (Int.toNat t2.2.2.1) tDeed.dflt).1, ((List.getD l8 (Int.toNat t2.2.2.1) tDeed.dflt).2).1, (((((List.getD l8 (Int.toNat t2.2.2.1) tDeed.dflt).2).2).1).1, (((((List.getD l8 (Int.toNat t2.2.2.1) tDeed.dflt).2).2).1).2).1, ((((((List.getD l8 (Int.toNat t2.2.2.1) tDeed.dflt).2).2).1).2).2).1, r9.1), (((List.getD l8 (Int.toNat t2.2.2.1) tDeed.dflt).2).2).2)) fun l10 =>
         if (decide (0 ≤ t2.2.2.1 ∧ t2.2.2.1 < ((List.length l10 : Nat) : Int))) = true then
          Option.bind (F_laws_markLabelS k (((((List.getD l10 (Int.toNat t2.2.2.1) tDeed.dflt).2).2).2).1) (IntKind.i64.wrap ((IntKind.i64.wrap ((IntKind.i64.wrap (r5.1 + (1 : Int))) + (1 : Int))) + (1 : Int)))) fun r11 =>
          letC (List.set l10 (Int.toNat t2.2.2.1) ((List.getD l10 (Int.toNat t2.2.2.1) tDeed.dflt).1, ((List.getD l10 (Int.toNat t2.2.2.1) tDeed.dflt).2).1, (((List.getD l10 (Int.toNat t2.2.2.1) tDeed.dflt).2).2).1, r11.2, ((((List.getD l10 (Int.toNat t2.2.2.1) tDeed.dflt).2).2).2).2)) fun l12 =>
          if (decide (0 ≤ t2.2.2.1 ∧ t2.2.2.1 < ((List.length l12 : Nat) : Int))) = true then
           letC (List.set l12 (Int.toNat t2.2.2.1) ((List.getD l12 (Int.toNat t2.2.2.1) tDeed.dflt).1, ((List.getD l12 (Int.toNat t2.2.2.1) tDeed.dflt).2).1, (((List.getD l12 (Int.toNat t2.2.2.1) tDeed.dflt).2).2).1, ((((List.getD l12 (Int.toNat t2.2.2.1) tDeed.dflt).2).2).2).1, r11.1, (((((List.getD l12 (Int.toNat t2.2.2.1) tDeed.dflt).2).2).2).2).2)) fun l13 =>
           if (decide (0 ≤ t2.2.2.1 ∧ t2.2.2.1 < ((List.length l13 : Nat) : Int))) = true then
            letC (List.set l13 (Int.toNat t2.2.2.1) ((List.getD l13 (Int.toNat t2.2.2.1) tDeed.dflt).1, ((List.getD l13 (Int.toNat t2.2.2.1) tDeed.dflt).2).1, (((List.getD l13 (Int.toNat t2.2.2.1) tDeed.dflt).2).2).1, ((((List.getD l13 (Int.toNat t2.2.2.1) tDeed.dflt).2).2).2).1, (((((List.getD l13 (Int.toNat t2.2.2.1) tDeed.dflt).2).2).2).2).1, IntKind.i64.wrap (r11.1 + (1 : Int)), ((((((List.getD l13 (Int.toNat t2.2.2.1) tDeed.dflt).2).2).2).2).2).2)) fun l14 =>
            if (decide (0 ≤ t2.2.2.1 ∧ t2.2.2.1 < ((List.length l14 : Nat) : Int))) = true then
             letC (List.set l14 (Int.toNat t2.2.2.1) ((List.getD l14 (Int.toNat t2.2.2.1) tDeed.dflt).1, ((List.getD l14 (Int.toNat t2.2.2.1) tDeed.dflt).2).1, (((List.getD l14 (Int.toNat t2.2.2.1) tDeed.dflt).2).2).1, ((((List.getD l14 (Int.toNat t2.2.2.1) tDeed.dflt).2).2).2).1, (((((List.getD l14 (Int.toNat t2.2.2.1) tDeed.dflt).2).2).2).2).1, ((((((List.getD l14 (Int.toNat t2.2.2.1) tDeed.dflt).2).2).2).2).2).1, IntKind.i64.wrap ((IntKind.i64.wrap (r11.1 + (1 : Int))) + (1 : Int)), (((((((List.getD l14 (Int.toNat t2.2.2.1) tDeed.dflt).2).2).2).2).2).2).2)) fun l15 =>
             if (decide (0 ≤ t2.2.2.1 ∧ t2.2.2.1 < ((List.length l15 : Nat) : Int))) = true then
              Option.bind (F_laws_markAlarmS k (((((((((List.getD l15 (Int.toNat t2.2.2.1) tDeed.dflt).2).2).2).2).2).2).2).1) (IntKind.i64.wrap ((IntKind.i64.wrap ((IntKind.i64.wrap (r11.1 + (1 : Int))) + (1 : Int))) + (1 : Int)))) fun r16 =>
              letC (List.set l15 (Int.toNat t2.2.2.1) ((List.getD l15 (Int.toNat t2.2.2.1) tDeed.dflt).1, ((List.getD l15 (Int.toNat t2.2.2.1) tDeed.dflt).2).1, (((List.getD l15 (Int.toNat t2.2.2.1) tDeed.dflt).2).2).1, ((((List.getD l15 (Int.toNat t2.2.2.1) tDeed.dflt).2).2).2).1, (((((List.getD l15 (Int.toNat t2.2.2.1) tDeed.dflt).2).2).2).2).1, ((((((List.getD l15 (Int.toNat t2.2.2.1) tDeed.dflt).2).2).2).2).2).1, (((((((List.getD l15 (Int.toNat t2.2.2.1) tDeed.dflt).2).2).2).2).2).2).1, r16.2, ((((((((List.getD l15 (Int.toNat t2.2.2.1) tDeed.dflt).2).2).2).2).2).2).2).2)) fun l17 =>
              if (decide (0 ≤ t2.2.2.1 ∧ t2.2.2.1 < ((List.length l17 : Nat) : Int))) = true then
               letC (List.set l17 (Int.toNat t2.2.2.1) ((List.getD l17 (Int.toNat t2.2.2.1) tDeed.dflt).1, ((List.getD l17 (Int.toNat t2.2.2.1) tDeed.dflt).2).1, (((List.getD l17 (Int.toNat t2.2.2.1) tDeed.dflt).2).2).1, ((((List.getD l17 (Int.toNat t2.2.2.1) tDeed.dflt).2).2).2).1, (((((List.getD l17 (Int.toNat t2.2.2.1) tDeed.dflt).2).2).2).2).1, ((((((List.getD l17 (Int.toNat t2.2.2.1) tDeed.dflt).2).2).2).2).2).1, (((((((List.getD l17 (Int.toNat t2.2.2.1) tDeed.dflt).2).2).2).2).2).2).1, ((((((((List.getD l17 (Int.toNat t2.2.2.1) tDeed.dflt).2).2).2).2).2).2).2).1, r16.1, (((((((((List.getD l17 (Int.toNat t2.2.2.1) tDeed.dflt).2).2).2).2).2).2).2).2).2)) fun l18 =>
               if (decide (0 ≤ t2.2.2.1 ∧ t2.2.2.1 < ((List.length l18 : Nat) : Int))) = true then
                letC (List.set l18 (Int.toNat t2.2.2.1) ((List.getD l18 (Int.toNat t2.2.2.1) tDeed.dflt).1, ((List.getD l18 (Int.toNat t2.2.2.1) tDeed.dflt).2).1, (((List.getD l18 (Int.toNat t2.2.2.1) tDeed.dflt).2).2).1, ((((List.getD l18 (Int.toNat t2.2.2.1) tDeed.dflt).2).2).2).1, (((((List.getD l18 (Int.toNat t2.2.2.1) tDeed.dflt).2).2).2).2).1, ((((((List.getD l18 (Int.toNat t2.2.2.1) tDeed.dflt).2).2).2).2).2).1, (((((((List.getD l18 (Int.toNat t2.2.2.1) tDeed.dflt).2).2).2).2).2).2).1, ((((((((List.getD l18 (Int.toNat t2.2.2.1) tDeed.dflt).2).2).2).2).2).2).2).1, (((((((((List.getD l18 (Int.toNat t2.2.2.1) tDeed.dflt).2).2).2).2).2).2).2).2).1, IntKind.i64.wrap (r16.1 + (1 : Int)), ((((((((((List.getD l18 (Int.toNat t2.2.2.1) tDeed.dflt).2).2).2).2).2).2).2).2).2).2)) fun l19 =>
                if (decide (0 ≤ t2.2.2.1 ∧ t2.2.2.1 < ((List.length l19 : Nat) : Int))) = true then
                 letC (List.set l19 (Int.toNat t2.2.2.1) ((List.getD l19 (Int.toNat t2.2.2.1) tDeed.dflt).1, ((List.getD l19 (Int.toNat t2.2.2.1) tDeed.dflt).2).1, (((List.getD l19 (Int.toNat t2.2.2.1) tDeed.dflt).2).2).1, ((((List.getD l19 (Int.toNat t2.2.2.1) tDeed.dflt).2).2).2).1, (((((List.getD l19 (Int.toNat t2.2.2.1) tDeed.dflt).2).2).2).2).1, ((((((List.getD l19 (Int.toNat t2.2.2.1) tDeed.dflt).2).2).2).2).2).1, (((((((List.getD l19 (Int.toNat t2.2.2.1) tDeed.dflt).2).2).2).2).2).2).1, ((((((((List.getD l19 (Int.toNat t2.2.2.1) tDeed.dflt).2).2).2).2).2).2).2).1, (((((((((List.getD l19 (Int.toNat t2.2.2.1) tDeed.dflt).2).2).2).2).2).2).2).2).1, ((((((((((List.getD l19 (Int.toNat t2.2.2.1) tDeed.dflt).2).2).2).2).2).2).2).2).2).1, IntKind.i64.wrap ((IntKind.i64.wrap (r16.1 + (1 : Int))) + (1 : Int)), (((((((((((List.getD l19 (Int.toNat t2.2.2.1) tDeed.dflt).2).2).2).2).2).2).2).2).2).2).2)) fun l20 =>
                 if (decide (0 ≤ t2.2.2.1 ∧ t2.2.2.1 < ((List.length l20 : Nat) : Int))) = true then
                  letC (List.set l20 (Int.toNat t2.2.2.1) ((List.getD l20 (Int.toNat t2.2.2.1) tDeed.dflt).1, ((List.getD l20 (Int.toNat t2.2.2.1) tDeed.dflt).2).1, (((List.getD l20 (Int.toNat t2.2.2.1) tDeed.dflt).2).2).1, ((((List.getD l20 (Int.toNat t2.2.2.1) tDeed.dflt).2).2).2).1, (((((List.getD l20 (Int.toNat t2.2.2.1) tDeed.dflt).2).2).2).2).1, ((((((List.getD l20 (Int.toNat t2.2.2.1) tDeed.dflt).2).2).2).2).2).1, (((((((List.getD l20 (Int.toNat t2.2.2.1) tDeed.dflt).2).2).2).2).2).2).1, ((((((((List.getD l20 (Int.toNat t2.2.2.1) tDeed.dflt).2).2).2).2).2).2).2).1, (((((((((List.getD l20 (Int.toNat t2.2.2.1) tDeed.dflt).2).2).2).2).2).2).2).2).1, ((((((((((List.getD l20 (Int.toNat t2.2.2.1) tDeed.dflt).2).2).2).2).2).2).2).2).2).1, (((((((((((List.getD l20 (Int.toNat t2.2.2.1) tDeed.dflt).2).2).2).2).2).2).2).2).2).2).1, IntKind.i64.wrap ((IntKind.i64.wrap ((IntKind.i64.wrap (r16.1 + (1 : Int))) + (1 : Int))) + (1 : Int)))) fun l21 =>
                  G1 (l21, IntKind.i64.wrap ((IntKind.i64.wrap ((IntKind.i64.wrap ((IntKind.i64.wrap (r16.1 + (1 : Int))) + (1 : Int))) + (1 : Int))) + (1 : Int)), IntKind.i64.wrap (t2.2.2.1 + (1 : Int)), ())
                 else
                  none
                else
                 none
               else
                none
              else
               none
             else
              none
            else
             none
           else
            none
          else
           none
         else
          none
        else
         none
       else
        none
      else
       none
     else
      none
    else
     none
   else
    none
  else
   some (t2.2.1, t2.1)) (x, n, (0 : Int), ())
def F_laws_markIntS (k : Nat) (x : List Int) (n : Int) : Option (Int × (List Int)) :=
 loopN k (fun G1 (t2 : List Int × Int × Int × Unit) =>
  if (decide ((t2.2.2.1 : Int) < ((List.length t2.1 : Nat) : Int))) = true then
   if (decide (0 ≤ t2.2.2.1 ∧ t2.2.2.1 < ((List.length t2.1 : Nat) : Int))) = true then
    letC (List.set t2.1 (Int.toNat t2.2.2.1) t2.2.1) fun l3 =>
    G1 (l3, IntKind.i64.wrap (t2.2.1 + (1 : Int)), IntKind.i64.wrap (t2.2.2.1 + (1 : Int)), ())
   else
    none
  else
   some (t2.2.1, t2.1)) (x, n, (0 : Int), ())
def F_laws_heldIntS (k : Nat) (x : List Int × Int × Unit) : Option (Int × Unit) :=
 loopN k (fun G1 (t2 : List Int × Int × Int × Unit) =>
  if (decide ((t2.2.2.1 : Int) < ((List.length t2.1 : Nat) : Int))) = true then
   if (decide (0 ≤ t2.2.2.1 ∧ t2.2.2.1 < ((List.length t2.1 : Nat) : Int))) = true then
    if (((List.getD t2.1 (Int.toNat t2.2.2.1) 0) : Int) != t2.2.1) = true then
     some ((-1 : Int), ())
    else
     G1 (t2.1, IntKind.i64.wrap (t2.2.1 + (1 : Int)), IntKind.i64.wrap (t2.2.2.1 + (1 : Int)), ())
   else
    none
  else
   some (t2.2.1, ())) (x.1, x.2.1, (0 : Int), ())
def F_laws_FnExactOrder (k : Nat) (x : List DDeed × Unit) : Option (Bool × Unit) :=
 Option.bind (F_laws_szDeedS k (x.1, (1048576 : Int), ())) fun r1 =>
 if (decide ((r1.1 : Int) < (0 : Int))) = true then
  some (true, ())
 else
  Option.bind (F_laws_toDeedS k (x.1, ())) fun r2 =>
  Option.bind (F_spec_Order k (r2.1, ())) fun r3 =>
  Option.bind (F_laws_toDeedS k (x.1, ())) fun r4 =>
  Option.bind (F_impl_Order k (r4.1, ())) fun r5 =>
  Option.bind (F_laws_eqIntS k (r5.1, r3.1, ())) fun r6 =>
  if (!r6.1) = true then
   some (false, ())
  else
   Option.bind (F_laws_toDeedS k (x.1, ())) fun r7 =>
   Option.bind (F_laws_eqDeedS k (r4.1, r7.1, ())) fun r8 =>
   if (!r8.1) = true then
    some (false, ())
   else
    Option.bind (F_laws_markDeedS k r4.1 (1 : Int)) fun r9 =>
    Option.bind ((if (((decide ((r9.1 : Int) < (0 : Int))) : Bool) == false) = true then F_laws_eqIntS k (r5.1, r3.1, ()) else some (false, ()))) fun r10 =>
    if (if (decide ((r9.1 : Int) < (0 : Int))) = true then true else !r10.1) = true then
     some (false, ())
    else
     Option.bind (F_laws_markIntS k r5.1 (1 : Int)) fun r11 =>
     Option.bind (F_laws_heldIntS k (r11.2, (1 : Int), ())) fun r12 =>
     if (decide ((r12.1 : Int) < (0 : Int))) = true then
      some (false, ())
     else
      if ((r12.1 : Int) != r11.1) = true then
       some (false, ())
      else
       Option.bind (F_laws_toDeedS k (x.1, ())) fun r13 =>
       Option.bind (F_impl_Order k (r13.1, ())) fun r14 =>
       Option.bind (F_laws_eqIntS k (r14.1, r3.1, ())) fun r15 =>
       if (!r15.1) = true then
        some (false, ())
       else
        Option.bind (F_laws_heldIntS k (r11.2, (1 : Int), ())) fun r16 =>
        if (decide ((r16.1 : Int) < (0 : Int))) = true then
         some (false, ())
        else
         if ((r16.1 : Int) != r11.1) = true then
          some (false, ())
         else
          some (true, ())
end Vg.Try
