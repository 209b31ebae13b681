/- What the functions compute, printed by vgen.py from the evaluator's run. -/
import Derived.Test.YtmoafmclhokdaaaVd

namespace Vg.Try
open Go Vg
set_option linter.unusedVariables false
abbrev tLabel : Ty := (.pair .str .str)
abbrev DLabel : Type := (ByteArray × ByteArray)
abbrev tL1Cur : Ty := (.pair (.sl (.int .u8)) (.pair (.int .i64) (.int .i64)))
abbrev DL1Cur : Type := (List Int × (Int × Int))
abbrev tAlarm : Ty := (.pair (.sl tLabel) (.pair (.int .i64) (.pair (.int .i64) .str)))
abbrev DAlarm : Type := (List DLabel × (Int × (Int × ByteArray)))
abbrev tBatch : Ty := (.pair (.int .i64) (.pair (.sl tLabel) (.pair (.int .i64) (.sl tAlarm))))
abbrev DBatch : Type := (Int × (List DLabel × (Int × List DAlarm)))
abbrev tGroup : Ty := (.pair (.int .i64) (.pair (.sl tLabel) (.pair (.int .i64) (.pair (.int .i64) (.sl tAlarm)))))
abbrev DGroup : Type := (Int × (List DLabel × (Int × (Int × List DAlarm))))
def F_laws_big (k : Nat) (x : List Int × Unit) : Option (Bool × Unit) :=
 some (decide ((((List.length x.1 : Nat) : Int) : Int) > (1048576 : Int)), ())
def F_spec_l1New (k : Nat) (x : List Int × Unit) : Option (DL1Cur × Unit) :=
 joinC (fun J1 =>
  loopN k (fun G3 (t4 : List Int × Int × Int × Unit) =>
   if (if (decide ((t4.2.2.1 : Int) < ((List.length t4.1 : Nat) : Int))) = true then decide ((t4.2.2.1 : Int) < (4000 : Int)) else false) = true then
    if (decide (0 ≤ t4.2.2.1 ∧ t4.2.2.1 < ((List.length t4.1 : Nat) : Int))) = true then
     G3 (t4.1, bits (fun _ => (· &&& ·)) .i64 (IntKind.i64.wrap ((IntKind.i64.wrap ((IntKind.i64.wrap (t4.2.1 * (137 : Int))) + (IntKind.i64.wrap (List.getD t4.1 (Int.toNat t4.2.2.1) 0)))) + (11 : Int))) (1073741823 : Int), IntKind.i64.wrap (t4.2.2.1 + (1 : Int)), ())
    else
     none
   else
    J1 (t4.1, t4.2.1, ())) (x.1, IntKind.i64.wrap ((140873 : Int) + ((List.length x.1 : Nat) : Int)), (0 : Int), ())) (fun (t2 : List Int × Int × Unit) =>
  some ((t2.1, 0, t2.2.1), ()))
def F_spec_l1Byte (k : Nat) (x : DL1Cur × Unit) : Option (Int × DL1Cur × Unit) :=
 if (decide (0 ≤ (33 : Int))) = true then
  if (decide (0 ≤ (47 : Int))) = true then
   if (decide ((x.1.2.1 : Int) < ((List.length x.1.1 : Nat) : Int))) = true then
    if (decide (0 ≤ x.1.2.1 ∧ x.1.2.1 < ((List.length x.1.1 : Nat) : Int))) = true then
     some (bits (fun _ => (· &&& ·)) .i64 (IntKind.i64.wrap ((bits (fun _ => (· &&& ·)) .i64 (bits (fun _ => (· ^^^ ·)) .i64 (Int.fdiv (IntKind.i64.wrap ((IntKind.i64.wrap (x.1.2.2 * (6364136223846793005 : Int))) + (1442695040888963407 : Int))) (2 ^ (min (Int.toNat (33 : Int)) IntKind.i64.bits))) (Int.fdiv (IntKind.i64.wrap ((IntKind.i64.wrap (x.1.2.2 * (6364136223846793005 : Int))) + (1442695040888963407 : Int))) (2 ^ (min (Int.toNat (47 : Int)) IntKind.i64.bits)))) (255 : Int)) + (IntKind.i64.wrap (List.getD x.1.1 (Int.toNat x.1.2.1) 0)))) (255 : Int), (x.1.1, IntKind.i64.wrap (x.1.2.1 + (1 : Int)), IntKind.i64.wrap ((IntKind.i64.wrap (x.1.2.2 * (6364136223846793005 : Int))) + (1442695040888963407 : Int))), ())
    else
     none
   else
    some (bits (fun _ => (· &&& ·)) .i64 (bits (fun _ => (· ^^^ ·)) .i64 (Int.fdiv (IntKind.i64.wrap ((IntKind.i64.wrap (x.1.2.2 * (6364136223846793005 : Int))) + (1442695040888963407 : Int))) (2 ^ (min (Int.toNat (33 : Int)) IntKind.i64.bits))) (Int.fdiv (IntKind.i64.wrap ((IntKind.i64.wrap (x.1.2.2 * (6364136223846793005 : Int))) + (1442695040888963407 : Int))) (2 ^ (min (Int.toNat (47 : Int)) IntKind.i64.bits)))) (255 : Int), (x.1.1, x.1.2.1, IntKind.i64.wrap ((IntKind.i64.wrap (x.1.2.2 * (6364136223846793005 : Int))) + (1442695040888963407 : Int))), ())
  else
   none
 else
  none
def F_spec_l1Below (k : Nat) (x : DL1Cur × Int × Unit) : Option (Int × DL1Cur × Unit) :=
 if (decide ((x.2.1 : Int) ≤ (0 : Int))) = true then
  some ((0 : Int), x.1, ())
 else
  if (decide ((x.2.1 : Int) ≤ (256 : Int))) = true then
   Option.bind (F_spec_l1Byte k (x.1, ())) fun r1 =>
   if (decide (x.2.1 ≠ 0)) = true then
    some (Int.tmod r1.1 x.2.1, r1.2.1, ())
   else
    none
  else
   Option.bind (F_spec_l1Byte k (x.1, ())) fun r2 =>
   Option.bind (F_spec_l1Byte k (r2.2.1, ())) fun r3 =>
   Option.bind (F_spec_l1Byte k (r3.2.1, ())) fun r4 =>
   if (decide (x.2.1 ≠ 0)) = true then
    some (Int.tmod (IntKind.i64.wrap ((IntKind.i64.wrap ((IntKind.i64.wrap (r2.1 * (65536 : Int))) + (IntKind.i64.wrap (r3.1 * (256 : Int))))) + r4.1)) x.2.1, r4.2.1, ())
   else
    none
def F_spec_l5By (k : Nat) (x : DL1Cur × Unit) : Option (List ByteArray × DL1Cur × Unit) :=
 Option.bind (F_spec_l1Below k (x.1, (5 : Int), ())) fun r1 =>
 if ((r1.1 : Int) == (0 : Int)) = true then
  some (([] : List ByteArray), r1.2.1, ())
 else
  if ((r1.1 : Int) == (1 : Int)) = true then
   some (([(⟨#[97, 112, 112]⟩ : ByteArray), (⟨#[115, 101, 118]⟩ : ByteArray)] : List ByteArray), r1.2.1, ())
  else
   if ((r1.1 : Int) == (2 : Int)) = true then
    some (([(⟨#[104, 111, 115, 116]⟩ : ByteArray)] : List ByteArray), r1.2.1, ())
   else
    some (([(⟨#[97, 112, 112]⟩ : ByteArray)] : List ByteArray), r1.2.1, ())
def F_spec_l1Str (k : Nat) (x : DL1Cur × List ByteArray × Unit) : Option (ByteArray × DL1Cur × Unit) :=
 Option.bind (F_spec_l1Below k (x.1, ((List.length x.2.1 : Nat) : Int), ())) fun r1 =>
 if (decide (0 ≤ r1.1 ∧ r1.1 < ((List.length x.2.1 : Nat) : Int))) = true then
  some (List.getD x.2.1 (Int.toNat r1.1) ByteArray.empty, r1.2.1, ())
 else
  none
def F_spec_l1Once (k : Nat) (x : DL1Cur × Int × Unit) : Option (Bool × DL1Cur × Unit) :=
 Option.bind (F_spec_l1Below k (x.1, x.2.1, ())) fun r1 =>
 some ((r1.1 : Int) == (0 : Int), r1.2.1, ())
def F_spec_l2Draw (k : Nat) (x : DL1Cur × Unit) : Option (List DLabel × DL1Cur × Unit) :=
 Option.bind (F_spec_l1Str k (x.1, ([(⟨#[97]⟩ : ByteArray), (⟨#[98]⟩ : ByteArray), (⟨#[99]⟩ : ByteArray)] : List ByteArray), ())) fun r1 =>
 loopN k (fun G2 (t3 : DL1Cur × List DLabel × List ByteArray × Int × Int × Unit) =>
  if (decide ((t3.2.2.2.2.1 : Int) < t3.2.2.2.1)) = true then
   if (decide (0 ≤ t3.2.2.2.2.1 ∧ t3.2.2.2.2.1 < ((List.length t3.2.2.1 : Nat) : Int))) = true then
    Option.bind (F_spec_l1Once k (t3.1, (4 : Int), ())) fun r4 =>
    if r4.1 = true then
     Option.bind (F_spec_l1Str k (r4.2.1, ([(⟨#[49]⟩ : ByteArray), (⟨#[50]⟩ : ByteArray)] : List ByteArray), ())) fun r5 =>
     if (decide (List.length t3.2.1 + List.length ([(List.getD t3.2.2.1 (Int.toNat t3.2.2.2.2.1) ByteArray.empty, r5.1)] : List DLabel) < 4294967296)) = true then
      G2 (r5.2.1, t3.2.1 ++ ([(List.getD t3.2.2.1 (Int.toNat t3.2.2.2.2.1) ByteArray.empty, r5.1)] : List DLabel), t3.2.2.1, t3.2.2.2.1, IntKind.i64.wrap (t3.2.2.2.2.1 + (1 : Int)), ())
     else
      none
    else
     G2 (r4.2.1, t3.2.1, t3.2.2.1, t3.2.2.2.1, IntKind.i64.wrap (t3.2.2.2.2.1 + (1 : Int)), ())
   else
    none
  else
   some (t3.2.1, t3.1, ())) (r1.2.1, ([((⟨#[97, 112, 112]⟩ : ByteArray), r1.1)] : List DLabel), ([(⟨#[104, 111, 115, 116]⟩ : ByteArray), (⟨#[115, 101, 118]⟩ : ByteArray), (⟨#[122, 111, 110, 101]⟩ : ByteArray)] : List ByteArray), ((List.length ([(⟨#[104, 111, 115, 116]⟩ : ByteArray), (⟨#[115, 101, 118]⟩ : ByteArray), (⟨#[122, 111, 110, 101]⟩ : ByteArray)] : List ByteArray) : Nat) : Int), (0 : Int), ())
def F_spec_l1Plain (k : Nat) (x : DL1Cur × Unit) : Option (ByteArray × DL1Cur × Unit) :=
 Option.bind (F_spec_l1Str k (x.1, ([(⟨#[97]⟩ : ByteArray), (⟨#[98]⟩ : ByteArray), (⟨#[120, 32, 121]⟩ : ByteArray), (⟨#[]⟩ : ByteArray), (⟨#[99, 114, 105, 116]⟩ : ByteArray), (⟨#[125, 45]⟩ : ByteArray)] : List ByteArray), ())) fun r1 =>
 some (r1.1, r1.2.1, ())
def F_spec_l1Int (k : Nat) (x : DL1Cur × List Int × Unit) : Option (Int × DL1Cur × Unit) :=
 Option.bind (F_spec_l1Below k (x.1, ((List.length x.2.1 : Nat) : Int), ())) fun r1 =>
 if (decide (0 ≤ r1.1 ∧ r1.1 < ((List.length x.2.1 : Nat) : Int))) = true then
  some (List.getD x.2.1 (Int.toNat r1.1) 0, r1.2.1, ())
 else
  none
def F_spec_l4Draw (k : Nat) (x : DL1Cur × Unit) : Option (DAlarm × DL1Cur × Unit) :=
 Option.bind (F_spec_l2Draw k (x.1, ())) fun r1 =>
 Option.bind (F_spec_l1Below k (r1.2.1, (8 : Int), ())) fun r2 =>
 Option.bind (F_spec_l1Plain k (r2.2.1, ())) fun r3 =>
 Option.bind (F_spec_l1Int k (r3.2.1, ([(0 : Int), (2 : Int), (5 : Int), (20 : Int), (60 : Int)] : List Int), ())) fun r4 =>
 some ((r1.1, r2.1, IntKind.i64.wrap (r2.1 + r4.1), r3.1), r4.2.1, ())
def F_spec_l4Copy (k : Nat) (x : DAlarm × Unit) : Option (DAlarm × Unit) :=
 if (decide (List.length ([] : List DLabel) + List.length x.1.1 < 4294967296)) = true then
  some ((([] : List DLabel) ++ x.1.1, x.1.2), ())
 else
  none
def F_spec_l4All (k : Nat) (x : List DAlarm × Unit) : Option (List DAlarm × Unit) :=
 loopN k (fun G1 (t2 : List DAlarm × List DAlarm × Int × Unit) =>
  if (decide ((t2.2.2.1 : Int) < ((List.length t2.1 : Nat) : Int))) = true then
   if (decide (0 ≤ t2.2.2.1 ∧ t2.2.2.1 < ((List.length t2.1 : Nat) : Int))) = true then
    Option.bind (F_spec_l4Copy k (List.getD t2.1 (Int.toNat t2.2.2.1) tAlarm.dflt, ())) fun r3 =>
    if (decide (List.length t2.2.1 + List.length ([r3.1] : List DAlarm) < 4294967296)) = true then
     G1 (t2.1, t2.2.1 ++ ([r3.1] : List DAlarm), IntKind.i64.wrap (t2.2.2.1 + (1 : Int)), ())
    else
     none
   else
    none
  else
   some (t2.2.1, ())) (x.1, ([] : List DAlarm), (0 : Int), ())
def F_spec_l11Copy (k : Nat) (x : DGroup × Unit) : Option (DGroup × Unit) :=
 if (decide (List.length ([] : List DLabel) + List.length x.1.2.1 < 4294967296)) = true then
  Option.bind (F_spec_l4All k (x.1.2.2.2.2, ())) fun r1 =>
  some ((x.1.1, ([] : List DLabel) ++ x.1.2.1, x.1.2.2.1, x.1.2.2.2.1, r1.1), ())
 else
  none
def F_spec_l12Copy (k : Nat) (x : List DGroup × Unit) : Option (List DGroup × Unit) :=
 loopN k (fun G1 (t2 : List DGroup × List DGroup × Int × Unit) =>
  if (decide ((t2.2.2.1 : Int) < ((List.length t2.1 : Nat) : Int))) = true then
   if (decide (0 ≤ t2.2.2.1 ∧ t2.2.2.1 < ((List.length t2.1 : Nat) : Int))) = true then
    Option.bind (F_spec_l11Copy k (List.getD t2.1 (Int.toNat t2.2.2.1) tGroup.dflt, ())) fun r3 =>
    if (decide (List.length t2.2.1 + List.length ([r3.1] : List DGroup) < 4294967296)) = true then
     G1 (t2.1, t2.2.1 ++ ([r3.1] : List DGroup), IntKind.i64.wrap (t2.2.2.1 + (1 : Int)), ())
    else
     none
   else
    none
  else
   some (t2.2.1, ())) (x.1, ([] : List DGroup), (0 : Int), ())
def F_spec_l5Has (k : Nat) (x : List ByteArray × ByteArray × Unit) : Option (Bool × Unit) :=
 loopN k (fun G1 (t2 : List ByteArray × ByteArray × Int × Unit) =>
  if (decide ((t2.2.2.1 : Int) < ((List.length t2.1 : Nat) : Int))) = true then
   if (decide (0 ≤ t2.2.2.1 ∧ t2.2.2.1 < ((List.length t2.1 : Nat) : Int))) = true then
    if (ByteArray.toList (List.getD t2.1 (Int.toNat t2.2.2.1) ByteArray.empty) == ByteArray.toList t2.2.1) = true then
     some (true, ())
    else
     G1 (t2.1, t2.2.1, IntKind.i64.wrap (t2.2.2.1 + (1 : Int)), ())
   else
    none
  else
   some (false, ())) (x.1, x.2.1, (0 : Int), ())
def F_spec_Project (k : Nat) (x : List DLabel × List ByteArray × Unit) : Option (List DLabel × Unit) :=
 loopN k (fun G1 (t2 : List DLabel × List ByteArray × List DLabel × Int × Unit) =>
  if (decide ((t2.2.2.2.1 : Int) < ((List.length t2.1 : Nat) : Int))) = true then
   if (decide (0 ≤ t2.2.2.2.1 ∧ t2.2.2.2.1 < ((List.length t2.1 : Nat) : Int))) = true then
    Option.bind (F_spec_l5Has k (t2.2.1, (List.getD t2.1 (Int.toNat t2.2.2.2.1) tLabel.dflt).1, ())) fun r3 =>
    if r3.1 = true then
     if (decide (0 ≤ t2.2.2.2.1 ∧ t2.2.2.2.1 < ((List.length t2.1 : Nat) : Int))) = true then
      if (decide (List.length t2.2.2.1 + List.length ([List.getD t2.1 (Int.toNat t2.2.2.2.1) tLabel.dflt] : List DLabel) < 4294967296)) = true then
       G1 (t2.1, t2.2.1, t2.2.2.1 ++ ([List.getD t2.1 (Int.toNat t2.2.2.2.1) tLabel.dflt] : List DLabel), IntKind.i64.wrap (t2.2.2.2.1 + (1 : Int)), ())
      else
       none
     else
      none
    else
     G1 (t2.1, t2.2.1, t2.2.2.1, IntKind.i64.wrap (t2.2.2.2.1 + (1 : Int)), ())
   else
    none
  else
   some (t2.2.2.1, ())) (x.1, x.2.1, ([] : List DLabel), (0 : Int), ())
def F_spec_KeyOf (k : Nat) (x : DAlarm × List ByteArray × Unit) : Option (List DLabel × Unit) :=
 Option.bind (F_spec_Project k (x.1.1, x.2.1, ())) fun r1 =>
 some (r1.1, ())
def F_spec_SameSet (k : Nat) (x : List DLabel × List DLabel × Unit) : Option (Bool × Unit) :=
 if ((((List.length x.1 : Nat) : Int) : Int) != ((List.length x.2.1 : Nat) : Int)) = true then
  some (false, ())
 else
  loopN k (fun G1 (t2 : List DLabel × List DLabel × Int × Unit) =>
   if (decide ((t2.2.2.1 : Int) < ((List.length t2.1 : Nat) : Int))) = true then
    if (decide (0 ≤ t2.2.2.1 ∧ t2.2.2.1 < ((List.length t2.1 : Nat) : Int))) = true then
     if (decide (0 ≤ t2.2.2.1 ∧ t2.2.2.1 < ((List.length t2.2.1 : Nat) : Int))) = true then
      if (!(eqv tLabel (List.getD t2.1 (Int.toNat t2.2.2.1) tLabel.dflt) (List.getD t2.2.1 (Int.toNat t2.2.2.1) tLabel.dflt))) = true then
       some (false, ())
      else
       G1 (t2.1, t2.2.1, IntKind.i64.wrap (t2.2.2.1 + (1 : Int)), ())
     else
      none
    else
     none
   else
    some (true, ())) (x.1, x.2.1, (0 : Int), ())
def F_spec_GroupOf (k : Nat) (x : List DGroup × List DLabel × Unit) : Option (Int × Unit) :=
 loopN k (fun G1 (t2 : List DGroup × List DLabel × Int × Unit) =>
  if (decide ((t2.2.2.1 : Int) < ((List.length t2.1 : Nat) : Int))) = true then
   if (decide (0 ≤ t2.2.2.1 ∧ t2.2.2.1 < ((List.length t2.1 : Nat) : Int))) = true then
    Option.bind (F_spec_SameSet k (((List.getD t2.1 (Int.toNat t2.2.2.1) tGroup.dflt).2).1, t2.2.1, ())) fun r3 =>
    if r3.1 = true then
     some (t2.2.2.1, ())
    else
     G1 (t2.1, t2.2.1, IntKind.i64.wrap (t2.2.2.1 + (1 : Int)), ())
   else
    none
  else
   some ((-1 : Int), ())) (x.1, x.2.1, (0 : Int), ())
def F_spec_Less (k : Nat) (x : ByteArray × ByteArray × Unit) : Option (Bool × Unit) :=
 some (Op.bytesLess (ByteArray.toList x.1) (ByteArray.toList x.2.1), ())
def F_spec_SetLess (k : Nat) (x : List DLabel × List DLabel × Unit) : Option (Bool × Unit) :=
 joinC (fun J1 =>
  loopN k (fun G3 (t4 : List DLabel × List DLabel × Int × Unit) =>
   if (if (decide ((t4.2.2.1 : Int) < ((List.length t4.1 : Nat) : Int))) = true then decide ((t4.2.2.1 : Int) < ((List.length t4.2.1 : Nat) : Int)) else false) = true then
    if (decide (0 ≤ t4.2.2.1 ∧ t4.2.2.1 < ((List.length t4.1 : Nat) : Int))) = true then
     if (decide (0 ≤ t4.2.2.1 ∧ t4.2.2.1 < ((List.length t4.2.1 : Nat) : Int))) = true then
      if (!(ByteArray.toList ((List.getD t4.1 (Int.toNat t4.2.2.1) tLabel.dflt).1) == ByteArray.toList ((List.getD t4.2.1 (Int.toNat t4.2.2.1) tLabel.dflt).1))) = true then
       if (decide (0 ≤ t4.2.2.1 ∧ t4.2.2.1 < ((List.length t4.1 : Nat) : Int))) = true then
        if (decide (0 ≤ t4.2.2.1 ∧ t4.2.2.1 < ((List.length t4.2.1 : Nat) : Int))) = true then
         Option.bind (F_spec_Less k ((List.getD t4.1 (Int.toNat t4.2.2.1) tLabel.dflt).1, (List.getD t4.2.1 (Int.toNat t4.2.2.1) tLabel.dflt).1, ())) fun r5 =>
         some (r5.1, ())
        else
         none
       else
        none
      else
       if (decide (0 ≤ t4.2.2.1 ∧ t4.2.2.1 < ((List.length t4.1 : Nat) : Int))) = true then
        if (decide (0 ≤ t4.2.2.1 ∧ t4.2.2.1 < ((List.length t4.2.1 : Nat) : Int))) = true then
         if (!(ByteArray.toList ((List.getD t4.1 (Int.toNat t4.2.2.1) tLabel.dflt).2) == ByteArray.toList ((List.getD t4.2.1 (Int.toNat t4.2.2.1) tLabel.dflt).2))) = true then
          if (decide (0 ≤ t4.2.2.1 ∧ t4.2.2.1 < ((List.length t4.1 : Nat) : Int))) = true then
           if (decide (0 ≤ t4.2.2.1 ∧ t4.2.2.1 < ((List.length t4.2.1 : Nat) : Int))) = true then
            Option.bind (F_spec_Less k ((List.getD t4.1 (Int.toNat t4.2.2.1) tLabel.dflt).2, (List.getD t4.2.1 (Int.toNat t4.2.2.1) tLabel.dflt).2, ())) fun r6 =>
            some (r6.1, ())
           else
            none
          else
           none
         else
          G3 (t4.1, t4.2.1, IntKind.i64.wrap (t4.2.2.1 + (1 : Int)), ())
        else
         none
       else
        none
     else
      none
    else
     none
   else
    J1 (t4.1, t4.2.1, ())) (x.1, x.2.1, (0 : Int), ())) (fun (t2 : List DLabel × List DLabel × Unit) =>
  some (decide ((((List.length t2.1 : Nat) : Int) : Int) < ((List.length t2.2.1 : Nat) : Int)), ()))
def F_spec_JoinIn (k : Nat) (x : DGroup × DAlarm × Unit) : Option (DGroup × Unit) :=
 Option.bind (F_spec_l11Copy k (x.1, ())) fun r1 =>
 Option.bind (F_spec_l4Copy k (x.2.1, ())) fun r2 =>
 joinC (fun J3 =>
  loopN k (fun G5 (t6 : DGroup × DAlarm × DGroup × DGroup × DAlarm × Int × Unit) =>
   if (decide ((t6.2.2.2.2.2.1 : Int) < ((List.length t6.1.2.2.2.2 : Nat) : Int))) = true then
    if (decide (0 ≤ t6.2.2.2.2.2.1 ∧ t6.2.2.2.2.2.1 < ((List.length t6.1.2.2.2.2 : Nat) : Int))) = true then
     Option.bind (F_spec_SameSet k ((List.getD t6.1.2.2.2.2 (Int.toNat t6.2.2.2.2.2.1) tAlarm.dflt).1, t6.2.1.1, ())) fun r7 =>
     if r7.1 = true then
      if (decide (0 ≤ t6.2.2.2.2.2.1 ∧ t6.2.2.2.2.2.1 < ((List.length t6.2.2.2.1.2.2.2.2 : Nat) : Int))) = true then
       some ((t6.2.2.2.1.1, t6.2.2.2.1.2.1, t6.2.2.2.1.2.2.1, t6.2.2.2.1.2.2.2.1, List.set t6.2.2.2.1.2.2.2.2 (Int.toNat t6.2.2.2.2.2.1) t6.2.2.2.2.1), ())
      else
       none
     else
      G5 (t6.1, t6.2.1, t6.2.2.1, t6.2.2.2.1, t6.2.2.2.2.1, IntKind.i64.wrap (t6.2.2.2.2.2.1 + (1 : Int)), ())
    else
     none
   else
    J3 (t6.1, t6.2.1, t6.2.2.1, t6.2.2.2.1, t6.2.2.2.2.1, ())) (x.1, x.2.1, (0, ([] : List DLabel), 0, 0, ([] : List DAlarm)), r1.1, r2.1, (0 : Int), ())) (fun (t4 : DGroup × DAlarm × DGroup × DGroup × DAlarm × Unit) =>
  joinC (fun J8 =>
   loopN k (fun G10 (t11 : DGroup × DAlarm × DGroup × DGroup × DAlarm × Int × Unit) =>
    if (!(((decide ((t11.2.2.2.2.2.1 : Int) < ((List.length t11.1.2.2.2.2 : Nat) : Int))) : Bool) == true) || (decide (0 ≤ t11.2.2.2.2.2.1 ∧ t11.2.2.2.2.2.1 < ((List.length t11.1.2.2.2.2 : Nat) : Int)))) = true then
     Option.bind ((if (((decide ((t11.2.2.2.2.2.1 : Int) < ((List.length t11.1.2.2.2.2 : Nat) : Int))) : Bool) == true) = true then F_spec_SetLess k (t11.2.1.1, (List.getD t11.1.2.2.2.2 (Int.toNat t11.2.2.2.2.2.1) tAlarm.dflt).1, ()) else some (false, ()))) fun r12 =>
     if (if (decide ((t11.2.2.2.2.2.1 : Int) < ((List.length t11.1.2.2.2.2 : Nat) : Int))) = true then !r12.1 else false) = true then
      G10 (t11.1, t11.2.1, t11.2.2.1, t11.2.2.2.1, t11.2.2.2.2.1, IntKind.i64.wrap (t11.2.2.2.2.2.1 + (1 : Int)), ())
     else
      J8 (t11.1, t11.2.1, t11.2.2.1, t11.2.2.2.1, t11.2.2.2.2.1, t11.2.2.2.2.2.1, ())
    else
     none) (t4.1, t4.2.1, t4.2.2.1, t4.2.2.2.1, t4.2.2.2.2.1, (0 : Int), ())) (fun (t9 : DGroup × DAlarm × DGroup × DGroup × DAlarm × Int × Unit) =>
   if (decide (0 ≤ t9.2.2.2.2.2.1 ∧ t9.2.2.2.2.2.1 ≤ ((List.length t9.1.2.2.2.2 : Nat) : Int))) = true then
    Option.bind (F_spec_l4All k (List.take (Int.toNat t9.2.2.2.2.2.1) t9.1.2.2.2.2, ())) fun r13 =>
    if (decide (List.length r13.1 + List.length ([t9.2.2.2.2.1] : List DAlarm) < 4294967296)) = true then
     if (decide (0 ≤ t9.2.2.2.2.2.1 ∧ t9.2.2.2.2.2.1 ≤ ((List.length t9.1.2.2.2.2 : Nat) : Int))) = true then
      Option.bind (F_spec_l4All k (List.drop (Int.toNat t9.2.2.2.2.2.1) t9.1.2.2.2.2, ())) fun r14 =>
      if (decide (List.length (r13.1 ++ ([t9.2.2.2.2.1] : List DAlarm)) + List.length r14.1 < 4294967296)) = true then
       some ((t9.2.2.2.1.1, t9.2.2.2.1.2.1, t9.2.2.2.1.2.2.1, t9.2.2.2.1.2.2.2.1, (r13.1 ++ ([t9.2.2.2.2.1] : List DAlarm)) ++ r14.1), ())
      else
       none
     else
      none
    else
     none
   else
    none))
def F_spec_JoinAll (k : Nat) (x : List DGroup × DAlarm × List ByteArray × Int × Int × Unit) : Option (List DGroup × Bool × Unit) :=
 Option.bind (F_spec_l12Copy k (x.1, ())) fun r1 =>
 Option.bind (F_spec_KeyOf k (x.2.1, x.2.2.1, ())) fun r2 =>
 Option.bind (F_spec_GroupOf k (x.1, r2.1, ())) fun r3 =>
 if (decide ((r3.1 : Int) ≥ (0 : Int))) = true then
  if (decide (0 ≤ r3.1 ∧ r3.1 < ((List.length x.1 : Nat) : Int))) = true then
   Option.bind (F_spec_JoinIn k (List.getD x.1 (Int.toNat r3.1) tGroup.dflt, x.2.1, ())) fun r4 =>
   if (decide (0 ≤ r3.1 ∧ r3.1 < ((List.length r1.1 : Nat) : Int))) = true then
    some (List.set r1.1 (Int.toNat r3.1) r4.1, false, ())
   else
    none
  else
   none
 else
  Option.bind (F_spec_l4Copy k (x.2.1, ())) fun r5 =>
  if (decide (List.length r1.1 + List.length ([(x.2.2.2.1, r2.1, x.2.2.2.2.1, (-1 : Int), ([r5.1] : List DAlarm))] : List DGroup) < 4294967296)) = true then
   some (r1.1 ++ ([(x.2.2.2.1, r2.1, x.2.2.2.2.1, (-1 : Int), ([r5.1] : List DAlarm))] : List DGroup), true, ())
  else
   none
def F_spec_l12Draw (k : Nat) (x : DL1Cur × List ByteArray × Unit) : Option (List DGroup × DL1Cur × Unit) :=
 Option.bind (F_spec_l1Below k (x.1, (7 : Int), ())) fun r1 =>
 loopN k (fun G2 (t3 : DL1Cur × List ByteArray × List DGroup × Int × Int × Unit) =>
  if (decide ((t3.2.2.2.2.1 : Int) > (0 : Int))) = true then
   Option.bind (F_spec_l4Draw k (t3.1, ())) fun r4 =>
   Option.bind (F_spec_l1Below k (r4.2.1, (6 : Int), ())) fun r5 =>
   Option.bind (F_spec_JoinAll k (t3.2.2.1, r4.1, t3.2.1, t3.2.2.2.1, r5.1, ())) fun r6 =>
   if r6.2.1 = true then
    Option.bind (F_spec_l1Below k (r5.2.1, (2 : Int), ())) fun r7 =>
    G2 (r7.2.1, t3.2.1, r6.1, IntKind.i64.wrap ((IntKind.i64.wrap (t3.2.2.2.1 + (1 : Int))) + r7.1), IntKind.i64.wrap (t3.2.2.2.2.1 - (1 : Int)), ())
   else
    G2 (r5.2.1, t3.2.1, r6.1, t3.2.2.2.1, IntKind.i64.wrap (t3.2.2.2.2.1 - (1 : Int)), ())
  else
   some (t3.2.2.1, t3.1, ())) (r1.2.1, x.2.1, ([] : List DGroup), (0 : Int), r1.1, ())
def F_spec_Together (k : Nat) (x : DAlarm × DAlarm × List ByteArray × Unit) : Option (Bool × Unit) :=
 Option.bind (F_spec_KeyOf k (x.1, x.2.2.1, ())) fun r1 =>
 Option.bind (F_spec_KeyOf k (x.2.1, x.2.2.1, ())) fun r2 =>
 Option.bind (F_spec_SameSet k (r1.1, r2.1, ())) fun r3 =>
 some (r3.1, ())
def F_spec_l11Draw (k : Nat) (x : DL1Cur × List ByteArray × Unit) : Option (DGroup × DL1Cur × Unit) :=
 Option.bind (F_spec_l4Draw k (x.1, ())) fun r1 =>
 Option.bind (F_spec_l1Below k (r1.2.1, (5 : Int), ())) fun r2 =>
 Option.bind (F_spec_KeyOf k (r1.1, x.2.1, ())) fun r3 =>
 Option.bind (F_spec_l1Below k (r2.2.1, (5 : Int), ())) fun r4 =>
 joinC (fun J5 =>
  Option.bind (F_spec_l1Below k (r4.2.1, (8 : Int), ())) fun r7 =>
  loopN k (fun G8 (t9 : DL1Cur × List ByteArray × DGroup × DAlarm × DGroup × Int × Unit) =>
   if (decide ((t9.2.2.2.2.2.1 : Int) > (0 : Int))) = true then
    Option.bind (F_spec_l4Draw k (t9.1, ())) fun r10 =>
    Option.bind (F_spec_Together k (t9.2.2.2.1, r10.1, t9.2.1, ())) fun r11 =>
    if r11.1 = true then
     Option.bind (F_spec_JoinIn k (t9.2.2.2.2.1, r10.1, ())) fun r12 =>
     G8 (r10.2.1, t9.2.1, t9.2.2.1, t9.2.2.2.1, r12.1, IntKind.i64.wrap (t9.2.2.2.2.2.1 - (1 : Int)), ())
    else
     G8 (r10.2.1, t9.2.1, t9.2.2.1, t9.2.2.2.1, t9.2.2.2.2.1, IntKind.i64.wrap (t9.2.2.2.2.2.1 - (1 : Int)), ())
   else
    J5 (t9.1, t9.2.2.1, t9.2.2.2.1, t9.2.2.2.2.1, ())) (r7.2.1, x.2.1, (0, ([] : List DLabel), 0, 0, ([] : List DAlarm)), r1.1, (r2.1, r3.1, r4.1, (-1 : Int), ([r1.1] : List DAlarm)), r7.1, ())) (fun (t6 : DL1Cur × DGroup × DAlarm × DGroup × Unit) =>
  Option.bind (F_spec_l1Once k (t6.1, (2 : Int), ())) fun r13 =>
  if r13.1 = true then
   Option.bind (F_spec_l1Below k (r13.2.1, (9 : Int), ())) fun r14 =>
   some ((t6.2.2.2.1.1, t6.2.2.2.1.2.1, t6.2.2.2.1.2.2.1, IntKind.i64.wrap (t6.2.2.2.1.2.2.1 + r14.1), t6.2.2.2.1.2.2.2.2), r14.2.1, ())
  else
   some (t6.2.2.2.1, r13.2.1, ()))
def F_spec_l1Names (k : Nat) (x : DL1Cur × Unit) : Option (ByteArray × DL1Cur × Unit) :=
 Option.bind (F_spec_l1Str k (x.1, ([(⟨#[97, 112, 112]⟩ : ByteArray), (⟨#[104, 111, 115, 116]⟩ : ByteArray), (⟨#[115, 101, 118]⟩ : ByteArray), (⟨#[122, 111, 110, 101]⟩ : ByteArray)] : List ByteArray), ())) fun r1 =>
 some (r1.1, r1.2.1, ())
def F_spec_l1AnyName (k : Nat) (x : DL1Cur × Unit) : Option (ByteArray × DL1Cur × Unit) :=
 Option.bind (F_spec_l1Once k (x.1, (2 : Int), ())) fun r1 =>
 if r1.1 = true then
  Option.bind (F_spec_l1Names k (r1.2.1, ())) fun r2 =>
  some (r2.1, r2.2.1, ())
 else
  Option.bind (F_spec_l1Str k (r1.2.1, ([(⟨#[]⟩ : ByteArray), (⟨#[65]⟩ : ByteArray), (⟨#[110, 105, 110, 101, 99, 104, 97, 114, 115]⟩ : ByteArray), (⟨#[101, 105, 103, 104, 116, 97, 98, 99]⟩ : ByteArray), (⟨#[97, 32, 98]⟩ : ByteArray), (⟨#[97, 49]⟩ : ByteArray)] : List ByteArray), ())) fun r3 =>
  some (r3.1, r3.2.1, ())
def F_spec_l1AnyPlain (k : Nat) (x : DL1Cur × Unit) : Option (ByteArray × DL1Cur × Unit) :=
 Option.bind (F_spec_l1Once k (x.1, (2 : Int), ())) fun r1 =>
 if r1.1 = true then
  Option.bind (F_spec_l1Plain k (r1.2.1, ())) fun r2 =>
  some (r2.1, r2.2.1, ())
 else
  Option.bind (F_spec_l1Str k (r1.2.1, ([(⟨#[34]⟩ : ByteArray), (⟨#[92]⟩ : ByteArray), (⟨#[127]⟩ : ByteArray), (⟨#[31]⟩ : ByteArray), (⟨#[116, 119, 101, 108, 118, 101, 32, 98, 121, 116, 101, 115]⟩ : ByteArray), (⟨#[116, 104, 105, 114, 116, 101, 101, 110, 98, 121, 116, 101, 115]⟩ : ByteArray), (⟨#[126]⟩ : ByteArray), (⟨#[125]⟩ : ByteArray), (⟨#[44, 32, 98, 61]⟩ : ByteArray), (⟨#[125, 32, 49, 45, 50]⟩ : ByteArray)] : List ByteArray), ())) fun r3 =>
  some (r3.1, r3.2.1, ())
def F_spec_l2Any (k : Nat) (x : DL1Cur × Unit) : Option (List DLabel × DL1Cur × Unit) :=
 Option.bind (F_spec_l2Draw k (x.1, ())) fun r1 =>
 Option.bind (F_spec_l1Below k (r1.2.1, (10 : Int), ())) fun r2 =>
 if ((r2.1 : Int) == (0 : Int)) = true then
  Option.bind (F_spec_l1AnyName k (r2.2.1, ())) fun r3 =>
  Option.bind (F_spec_l1AnyPlain k (r3.2.1, ())) fun r4 =>
  if (decide (List.length r1.1 + List.length ([(r3.1, r4.1)] : List DLabel) < 4294967296)) = true then
   some (r1.1 ++ ([(r3.1, r4.1)] : List DLabel), r4.2.1, ())
  else
   none
 else
  if ((r2.1 : Int) == (1 : Int)) = true then
   if (decide (List.length ([((⟨#[122, 122]⟩ : ByteArray), (⟨#[49]⟩ : ByteArray))] : List DLabel) + List.length r1.1 < 4294967296)) = true then
    some (([((⟨#[122, 122]⟩ : ByteArray), (⟨#[49]⟩ : ByteArray))] : List DLabel) ++ r1.1, r2.2.1, ())
   else
    none
  else
   if ((r2.1 : Int) == (2 : Int)) = true then
    if (decide (0 ≤ (0 : Int) ∧ (0 : Int) < ((List.length r1.1 : Nat) : Int))) = true then
     if (decide (List.length r1.1 + List.length ([List.getD r1.1 (Int.toNat (0 : Int)) tLabel.dflt] : List DLabel) < 4294967296)) = true then
      some (r1.1 ++ ([List.getD r1.1 (Int.toNat (0 : Int)) tLabel.dflt] : List DLabel), r2.2.1, ())
     else
      none
    else
     none
   else
    if ((r2.1 : Int) == (3 : Int)) = true then
     if (decide (List.length r1.1 + List.length ([((⟨#[122, 117]⟩ : ByteArray), ByteArray.empty), ((⟨#[122, 118]⟩ : ByteArray), ByteArray.empty), ((⟨#[122, 119]⟩ : ByteArray), ByteArray.empty), ((⟨#[122, 120]⟩ : ByteArray), ByteArray.empty)] : List DLabel) < 4294967296)) = true then
      some (r1.1 ++ ([((⟨#[122, 117]⟩ : ByteArray), ByteArray.empty), ((⟨#[122, 118]⟩ : ByteArray), ByteArray.empty), ((⟨#[122, 119]⟩ : ByteArray), ByteArray.empty), ((⟨#[122, 120]⟩ : ByteArray), ByteArray.empty)] : List DLabel), r2.2.1, ())
     else
      none
    else
     if ((r2.1 : Int) == (4 : Int)) = true then
      Option.bind (F_spec_l1AnyPlain k (r2.2.1, ())) fun r5 =>
      if (decide (0 ≤ (0 : Int) ∧ (0 : Int) < ((List.length r1.1 : Nat) : Int))) = true then
       some (List.set r1.1 (Int.toNat (0 : Int)) ((List.getD r1.1 (Int.toNat (0 : Int)) tLabel.dflt).1, r5.1), r5.2.1, ())
      else
       none
     else
      if ((r2.1 : Int) == (5 : Int)) = true then
       some (([] : List DLabel), r2.2.1, ())
      else
       some (r1.1, r2.2.1, ())
def F_spec_l1Odd (k : Nat) (x : DL1Cur × Unit) : Option (Int × DL1Cur × Unit) :=
 Option.bind (F_spec_l1Int k (x.1, ([(-1 : Int), (0 : Int), (1 : Int), (2 : Int), (255 : Int), (256 : Int), (65535 : Int), (2147483647 : Int), (2147483648 : Int), (4294967295 : Int), (4294967296 : Int), (-2147483648 : Int), (9223372036854775807 : Int), (-9223372036854775808 : Int)] : List Int), ())) fun r1 =>
 some (r1.1, r1.2.1, ())
def F_spec_l1Raw (k : Nat) (x : DL1Cur × Unit) : Option (Int × DL1Cur × Unit) :=
 Option.bind (F_spec_l1Once k (x.1, (2 : Int), ())) fun r1 =>
 if r1.1 = true then
  Option.bind (F_spec_l1Odd k (r1.2.1, ())) fun r2 =>
  some (r2.1, r2.2.1, ())
 else
  Option.bind (F_spec_l1Int k (r1.2.1, ([(-1 : Int), (0 : Int), (1 : Int), (3 : Int), (99999 : Int), (100000 : Int)] : List Int), ())) fun r3 =>
  some (r3.1, r3.2.1, ())
def F_spec_l4Any (k : Nat) (x : DL1Cur × Unit) : Option (DAlarm × DL1Cur × Unit) :=
 Option.bind (F_spec_l4Draw k (x.1, ())) fun r1 =>
 Option.bind (F_spec_l1Below k (r1.2.1, (12 : Int), ())) fun r2 =>
 if ((r2.1 : Int) == (0 : Int)) = true then
  Option.bind (F_spec_l2Any k (r2.2.1, ())) fun r3 =>
  some ((r3.1, r1.1.2), r3.2.1, ())
 else
  if ((r2.1 : Int) == (1 : Int)) = true then
   Option.bind (F_spec_l1Int k (r2.2.1, ([(-1 : Int), (99999 : Int), (100000 : Int)] : List Int), ())) fun r4 =>
   some ((r1.1.1, r4.1, r1.1.2.2), r4.2.1, ())
  else
   if ((r2.1 : Int) == (2 : Int)) = true then
    Option.bind (F_spec_l1Raw k (r2.2.1, ())) fun r5 =>
    some ((r1.1.1, r1.1.2.1, r5.1, r1.1.2.2.2), r5.2.1, ())
   else
    if ((r2.1 : Int) == (3 : Int)) = true then
     Option.bind (F_spec_l1AnyPlain k (r2.2.1, ())) fun r6 =>
     some ((r1.1.1, r1.1.2.1, r1.1.2.2.1, r6.1), r6.2.1, ())
    else
     some (r1.1, r2.2.1, ())
def F_spec_l11Any (k : Nat) (x : DL1Cur × List ByteArray × Unit) : Option (DGroup × DL1Cur × Unit) :=
 Option.bind (F_spec_l11Draw k (x.1, x.2.1, ())) fun r1 =>
 Option.bind (F_spec_l1Below k (r1.2.1, (14 : Int), ())) fun r2 =>
 if ((r2.1 : Int) == (0 : Int)) = true then
  some (((-1 : Int), r1.1.2), r2.2.1, ())
 else
  if ((r2.1 : Int) == (1 : Int)) = true then
   Option.bind (F_spec_l2Any k (r2.2.1, ())) fun r3 =>
   some ((r1.1.1, r3.1, r1.1.2.2), r3.2.1, ())
  else
   if ((r2.1 : Int) == (2 : Int)) = true then
    Option.bind (F_spec_l1Raw k (r2.2.1, ())) fun r4 =>
    some ((r1.1.1, r1.1.2.1, r4.1, r1.1.2.2.2), r4.2.1, ())
   else
    if ((r2.1 : Int) == (3 : Int)) = true then
     Option.bind (F_spec_l1Int k (r2.2.1, ([(-2 : Int), (0 : Int), (100000 : Int)] : List Int), ())) fun r5 =>
     some ((r1.1.1, r1.1.2.1, r1.1.2.2.1, r5.1, r1.1.2.2.2.2), r5.2.1, ())
    else
     if ((r2.1 : Int) == (4 : Int)) = true then
      Option.bind (F_spec_l4Any k (r2.2.1, ())) fun r6 =>
      if (decide (List.length r1.1.2.2.2.2 + List.length ([r6.1] : List DAlarm) < 4294967296)) = true then
       some ((r1.1.1, r1.1.2.1, r1.1.2.2.1, r1.1.2.2.2.1, r1.1.2.2.2.2 ++ ([r6.1] : List DAlarm)), r6.2.1, ())
      else
       none
     else
      if ((r2.1 : Int) == (5 : Int)) = true then
       some ((r1.1.1, r1.1.2.1, r1.1.2.2.1, r1.1.2.2.2.1, ([] : List DAlarm)), r2.2.1, ())
      else
       some (r1.1, r2.2.1, ())
def F_spec_l12Any (k : Nat) (x : DL1Cur × List ByteArray × Unit) : Option (List DGroup × DL1Cur × Unit) :=
 Option.bind (F_spec_l12Draw k (x.1, x.2.1, ())) fun r1 =>
 Option.bind (F_spec_l1Below k (r1.2.1, (8 : Int), ())) fun r2 =>
 if ((r2.1 : Int) == (0 : Int)) = true then
  Option.bind (F_spec_l11Any k (r2.2.1, x.2.1, ())) fun r3 =>
  if (decide (List.length r1.1 + List.length ([r3.1] : List DGroup) < 4294967296)) = true then
   some (r1.1 ++ ([r3.1] : List DGroup), r3.2.1, ())
  else
   none
 else
  if ((r2.1 : Int) == (1 : Int)) = true then
   if (decide ((((List.length r1.1 : Nat) : Int) : Int) > (0 : Int))) = true then
    Option.bind (F_spec_l11Any k (r2.2.1, x.2.1, ())) fun r4 =>
    if (decide (0 ≤ (0 : Int) ∧ (0 : Int) < ((List.length r1.1 : Nat) : Int))) = true then
     some (List.set r1.1 (Int.toNat (0 : Int)) r4.1, r4.2.1, ())
    else
     none
   else
    some (r1.1, r2.2.1, ())
  else
   some (r1.1, r2.2.1, ())
def F_spec_DrawJoinAll (k : Nat) (x : List Int × Unit) : Option (List DGroup × DAlarm × List ByteArray × Int × Int × Unit) :=
 Option.bind (F_spec_l1New k (x.1, ())) fun r1 =>
 Option.bind (F_spec_l5By k (r1.1, ())) fun r2 =>
 Option.bind (F_spec_l12Any k (r2.2.1, r2.1, ())) fun r3 =>
 Option.bind (F_spec_l4Draw k (r3.2.1, ())) fun r4 =>
 Option.bind (F_spec_l1Below k (r4.2.1, (9 : Int), ())) fun r5 =>
 some (r3.1, r4.1, r2.1, (20 : Int), r5.1, ())
def F_impl_copySet (k : Nat) (x : List DLabel × Unit) : Option (List DLabel × Unit) :=
 if (decide (List.length ([] : List DLabel) + List.length x.1 < 4294967296)) = true then
  some (([] : List DLabel) ++ x.1, ())
 else
  none
def F_impl_copyAlarm (k : Nat) (x : DAlarm × Unit) : Option (DAlarm × Unit) :=
 Option.bind (F_impl_copySet k (x.1.1, ())) fun r1 =>
 some ((r1.1, x.1.2), ())
def F_impl_copyAlarms (k : Nat) (x : List DAlarm × Unit) : Option (List DAlarm × Unit) :=
 loopN k (fun G1 (t2 : List DAlarm × List DAlarm × Int × Int × Unit) =>
  if (decide ((t2.2.2.2.1 : Int) < t2.2.2.1)) = true then
   if (decide (0 ≤ t2.2.2.2.1 ∧ t2.2.2.2.1 < ((List.length t2.2.1 : Nat) : Int))) = true then
    Option.bind (F_impl_copyAlarm k (List.getD t2.2.1 (Int.toNat t2.2.2.2.1) tAlarm.dflt, ())) fun r3 =>
    if (decide (List.length t2.1 + List.length ([r3.1] : List DAlarm) < 4294967296)) = true then
     G1 (t2.1 ++ ([r3.1] : List DAlarm), t2.2.1, t2.2.2.1, IntKind.i64.wrap (t2.2.2.2.1 + (1 : Int)), ())
    else
     none
   else
    none
  else
   some (t2.1, ())) (([] : List DAlarm), x.1, ((List.length x.1 : Nat) : Int), (0 : Int), ())
def F_impl_copyGroup (k : Nat) (x : DGroup × Unit) : Option (DGroup × Unit) :=
 Option.bind (F_impl_copySet k (x.1.2.1, ())) fun r1 =>
 Option.bind (F_impl_copyAlarms k (x.1.2.2.2.2, ())) fun r2 =>
 some ((x.1.1, r1.1, x.1.2.2.1, x.1.2.2.2.1, r2.1), ())
def F_impl_copyGroups (k : Nat) (x : List DGroup × Unit) : Option (List DGroup × Unit) :=
 loopN k (fun G1 (t2 : List DGroup × List DGroup × Int × Int × Unit) =>
  if (decide ((t2.2.2.2.1 : Int) < t2.2.2.1)) = true then
   if (decide (0 ≤ t2.2.2.2.1 ∧ t2.2.2.2.1 < ((List.length t2.2.1 : Nat) : Int))) = true then
    Option.bind (F_impl_copyGroup k (List.getD t2.2.1 (Int.toNat t2.2.2.2.1) tGroup.dflt, ())) fun r3 =>
    if (decide (List.length t2.1 + List.length ([r3.1] : List DGroup) < 4294967296)) = true then
     G1 (t2.1 ++ ([r3.1] : List DGroup), t2.2.1, t2.2.2.1, IntKind.i64.wrap (t2.2.2.2.1 + (1 : Int)), ())
    else
     none
   else
    none
  else
   some (t2.1, ())) (([] : List DGroup), x.1, ((List.length x.1 : Nat) : Int), (0 : Int), ())
def F_impl_hasText (k : Nat) (x : List ByteArray × ByteArray × Unit) : Option (Bool × Unit) :=
 loopN k (fun G1 (t2 : ByteArray × List ByteArray × Int × Int × Unit) =>
  if (decide ((t2.2.2.2.1 : Int) < t2.2.2.1)) = true then
   if (decide (0 ≤ t2.2.2.2.1 ∧ t2.2.2.2.1 < ((List.length t2.2.1 : Nat) : Int))) = true then
    if (ByteArray.toList (List.getD t2.2.1 (Int.toNat t2.2.2.2.1) ByteArray.empty) == ByteArray.toList t2.1) = true then
     some (true, ())
    else
     G1 (t2.1, t2.2.1, t2.2.2.1, IntKind.i64.wrap (t2.2.2.2.1 + (1 : Int)), ())
   else
    none
  else
   some (false, ())) (x.2.1, x.1, ((List.length x.1 : Nat) : Int), (0 : Int), ())
def F_impl_Project (k : Nat) (x : List DLabel × List ByteArray × Unit) : Option (List DLabel × Unit) :=
 loopN k (fun G1 (t2 : List ByteArray × List DLabel × List DLabel × Int × Int × Unit) =>
  if (decide ((t2.2.2.2.2.1 : Int) < t2.2.2.2.1)) = true then
   if (decide (0 ≤ t2.2.2.2.2.1 ∧ t2.2.2.2.2.1 < ((List.length t2.2.2.1 : Nat) : Int))) = true then
    Option.bind (F_impl_hasText k (t2.1, (List.getD t2.2.2.1 (Int.toNat t2.2.2.2.2.1) tLabel.dflt).1, ())) fun r3 =>
    if r3.1 = true then
     if (decide (List.length t2.2.1 + List.length ([List.getD t2.2.2.1 (Int.toNat t2.2.2.2.2.1) tLabel.dflt] : List DLabel) < 4294967296)) = true then
      G1 (t2.1, t2.2.1 ++ ([List.getD t2.2.2.1 (Int.toNat t2.2.2.2.2.1) tLabel.dflt] : List DLabel), t2.2.2.1, t2.2.2.2.1, IntKind.i64.wrap (t2.2.2.2.2.1 + (1 : Int)), ())
     else
      none
    else
     G1 (t2.1, t2.2.1, t2.2.2.1, t2.2.2.2.1, IntKind.i64.wrap (t2.2.2.2.2.1 + (1 : Int)), ())
   else
    none
  else
   some (t2.2.1, ())) (x.2.1, ([] : List DLabel), x.1, ((List.length x.1 : Nat) : Int), (0 : Int), ())
def F_impl_KeyOf (k : Nat) (x : DAlarm × List ByteArray × Unit) : Option (List DLabel × Unit) :=
 Option.bind (F_impl_Project k (x.1.1, x.2.1, ())) fun r1 =>
 some (r1.1, ())
def F_impl_SameSet (k : Nat) (x : List DLabel × List DLabel × Unit) : Option (Bool × Unit) :=
 if ((((List.length x.1 : Nat) : Int) : Int) != ((List.length x.2.1 : Nat) : Int)) = true then
  some (false, ())
 else
  loopN k (fun G1 (t2 : List DLabel × List DLabel × Int × Int × Unit) =>
   if (decide ((t2.2.2.2.1 : Int) < t2.2.2.1)) = true then
    if (decide (0 ≤ t2.2.2.2.1 ∧ t2.2.2.2.1 < ((List.length t2.1 : Nat) : Int))) = true then
     if (decide (0 ≤ t2.2.2.2.1 ∧ t2.2.2.2.1 < ((List.length t2.2.1 : Nat) : Int))) = true then
      if (!(eqv tLabel (List.getD t2.1 (Int.toNat t2.2.2.2.1) tLabel.dflt) (List.getD t2.2.1 (Int.toNat t2.2.2.2.1) tLabel.dflt))) = true then
       some (false, ())
      else
       G1 (t2.1, t2.2.1, t2.2.2.1, IntKind.i64.wrap (t2.2.2.2.1 + (1 : Int)), ())
     else
      none
    else
     none
   else
    some (true, ())) (x.1, x.2.1, ((List.length x.1 : Nat) : Int), (0 : Int), ())
def F_impl_GroupOf (k : Nat) (x : List DGroup × List DLabel × Unit) : Option (Int × Unit) :=
 loopN k (fun G1 (t2 : List DLabel × List DGroup × Int × Int × Unit) =>
  if (decide ((t2.2.2.2.1 : Int) < t2.2.2.1)) = true then
   if (decide (0 ≤ t2.2.2.2.1 ∧ t2.2.2.2.1 < ((List.length t2.2.1 : Nat) : Int))) = true then
    Option.bind (F_impl_SameSet k (((List.getD t2.2.1 (Int.toNat t2.2.2.2.1) tGroup.dflt).2).1, t2.1, ())) fun r3 =>
    if r3.1 = true then
     some (t2.2.2.2.1, ())
    else
     G1 (t2.1, t2.2.1, t2.2.2.1, IntKind.i64.wrap (t2.2.2.2.1 + (1 : Int)), ())
   else
    none
  else
   some ((-1 : Int), ())) (x.2.1, x.1, ((List.length x.1 : Nat) : Int), (0 : Int), ())
def F_impl_labelsAt (k : Nat) (x : List DAlarm × List DLabel × Unit) : Option (Int × Unit) :=
 loopN k (fun G1 (t2 : List DLabel × List DAlarm × Int × Int × Unit) =>
  if (decide ((t2.2.2.2.1 : Int) < t2.2.2.1)) = true then
   if (decide (0 ≤ t2.2.2.2.1 ∧ t2.2.2.2.1 < ((List.length t2.2.1 : Nat) : Int))) = true then
    Option.bind (F_impl_SameSet k ((List.getD t2.2.1 (Int.toNat t2.2.2.2.1) tAlarm.dflt).1, t2.1, ())) fun r3 =>
    if r3.1 = true then
     some (t2.2.2.2.1, ())
    else
     G1 (t2.1, t2.2.1, t2.2.2.1, IntKind.i64.wrap (t2.2.2.2.1 + (1 : Int)), ())
   else
    none
  else
   some ((-1 : Int), ())) (x.2.1, x.1, ((List.length x.1 : Nat) : Int), (0 : Int), ())
def F_impl_SetLess (k : Nat) (x : List DLabel × List DLabel × Unit) : Option (Bool × Unit) :=
 joinC (fun J1 =>
  loopN k (fun G3 (t4 : List DLabel × List DLabel × Int × Unit) =>
   if (if (decide ((t4.2.2.1 : Int) < ((List.length t4.1 : Nat) : Int))) = true then decide ((t4.2.2.1 : Int) < ((List.length t4.2.1 : Nat) : Int)) else false) = true then
    if (decide (0 ≤ t4.2.2.1 ∧ t4.2.2.1 < ((List.length t4.1 : Nat) : Int))) = true then
     if (decide (0 ≤ t4.2.2.1 ∧ t4.2.2.1 < ((List.length t4.2.1 : Nat) : Int))) = true then
      if (!(ByteArray.toList ((List.getD t4.1 (Int.toNat t4.2.2.1) tLabel.dflt).1) == ByteArray.toList ((List.getD t4.2.1 (Int.toNat t4.2.2.1) tLabel.dflt).1))) = true then
       if (decide (0 ≤ t4.2.2.1 ∧ t4.2.2.1 < ((List.length t4.1 : Nat) : Int))) = true then
        if (decide (0 ≤ t4.2.2.1 ∧ t4.2.2.1 < ((List.length t4.2.1 : Nat) : Int))) = true then
         some (Op.bytesLess (ByteArray.toList ((List.getD t4.1 (Int.toNat t4.2.2.1) tLabel.dflt).1)) (ByteArray.toList ((List.getD t4.2.1 (Int.toNat t4.2.2.1) tLabel.dflt).1)), ())
        else
         none
       else
        none
      else
       if (decide (0 ≤ t4.2.2.1 ∧ t4.2.2.1 < ((List.length t4.1 : Nat) : Int))) = true then
        if (decide (0 ≤ t4.2.2.1 ∧ t4.2.2.1 < ((List.length t4.2.1 : Nat) : Int))) = true then
         if (!(ByteArray.toList ((List.getD t4.1 (Int.toNat t4.2.2.1) tLabel.dflt).2) == ByteArray.toList ((List.getD t4.2.1 (Int.toNat t4.2.2.1) tLabel.dflt).2))) = true then
          if (decide (0 ≤ t4.2.2.1 ∧ t4.2.2.1 < ((List.length t4.1 : Nat) : Int))) = true then
           if (decide (0 ≤ t4.2.2.1 ∧ t4.2.2.1 < ((List.length t4.2.1 : Nat) : Int))) = true then
            some (Op.bytesLess (ByteArray.toList ((List.getD t4.1 (Int.toNat t4.2.2.1) tLabel.dflt).2)) (ByteArray.toList ((List.getD t4.2.1 (Int.toNat t4.2.2.1) tLabel.dflt).2)), ())
           else
            none
          else
           none
         else
          G3 (t4.1, t4.2.1, IntKind.i64.wrap (t4.2.2.1 + (1 : Int)), ())
        else
         none
       else
        none
     else
      none
    else
     none
   else
    J1 (t4.1, t4.2.1, ())) (x.1, x.2.1, (0 : Int), ())) (fun (t2 : List DLabel × List DLabel × Unit) =>
  some (decide ((((List.length t2.1 : Nat) : Int) : Int) < ((List.length t2.2.1 : Nat) : Int)), ()))
def F_impl_inserted (k : Nat) (x : List DAlarm × DAlarm × Unit) : Option (List DAlarm × Unit) :=
 joinC (fun J1 =>
  loopN k (fun G3 (t4 : List DAlarm × DAlarm × Int × Unit) =>
   if (!(((decide ((t4.2.2.1 : Int) < ((List.length t4.1 : Nat) : Int))) : Bool) == true) || (decide (0 ≤ t4.2.2.1 ∧ t4.2.2.1 < ((List.length t4.1 : Nat) : Int)))) = true then
    Option.bind ((if (((decide ((t4.2.2.1 : Int) < ((List.length t4.1 : Nat) : Int))) : Bool) == true) = true then F_impl_SetLess k (t4.2.1.1, (List.getD t4.1 (Int.toNat t4.2.2.1) tAlarm.dflt).1, ()) else some (false, ()))) fun r5 =>
    if (if (decide ((t4.2.2.1 : Int) < ((List.length t4.1 : Nat) : Int))) = true then !r5.1 else false) = true then
     G3 (t4.1, t4.2.1, IntKind.i64.wrap (t4.2.2.1 + (1 : Int)), ())
    else
     J1 (t4.1, t4.2.1, t4.2.2.1, ())
   else
    none) (x.1, x.2.1, (0 : Int), ())) (fun (t2 : List DAlarm × DAlarm × Int × Unit) =>
  if (decide (0 ≤ t2.2.2.1 ∧ t2.2.2.1 ≤ ((List.length t2.1 : Nat) : Int))) = true then
   Option.bind (F_impl_copyAlarms k (List.take (Int.toNat t2.2.2.1) t2.1, ())) fun r6 =>
   Option.bind (F_impl_copyAlarm k (t2.2.1, ())) fun r7 =>
   if (decide (List.length r6.1 + List.length ([r7.1] : List DAlarm) < 4294967296)) = true then
    if (decide (0 ≤ t2.2.2.1 ∧ t2.2.2.1 ≤ ((List.length t2.1 : Nat) : Int))) = true then
     Option.bind (F_impl_copyAlarms k (List.drop (Int.toNat t2.2.2.1) t2.1, ())) fun r8 =>
     if (decide (List.length (r6.1 ++ ([r7.1] : List DAlarm)) + List.length r8.1 < 4294967296)) = true then
      some ((r6.1 ++ ([r7.1] : List DAlarm)) ++ r8.1, ())
     else
      none
    else
     none
   else
    none
  else
   none)
def F_impl_JoinIn (k : Nat) (x : DGroup × DAlarm × Unit) : Option (DGroup × Unit) :=
 Option.bind (F_impl_copyGroup k (x.1, ())) fun r1 =>
 Option.bind (F_impl_labelsAt k (x.1.2.2.2.2, x.2.1.1, ())) fun r2 =>
 if (decide ((r2.1 : Int) ≥ (0 : Int))) = true then
  Option.bind (F_impl_copyAlarm k (x.2.1, ())) fun r3 =>
  if (decide (0 ≤ r2.1 ∧ r2.1 < ((List.length r1.1.2.2.2.2 : Nat) : Int))) = true then
   some ((r1.1.1, r1.1.2.1, r1.1.2.2.1, r1.1.2.2.2.1, List.set r1.1.2.2.2.2 (Int.toNat r2.1) r3.1), ())
  else
   none
 else
  Option.bind (F_impl_inserted k (x.1.2.2.2.2, x.2.1, ())) fun r4 =>
  some ((r1.1.1, r1.1.2.1, r1.1.2.2.1, r1.1.2.2.2.1, r4.1), ())
def F_impl_JoinAll (k : Nat) (x : List DGroup × DAlarm × List ByteArray × Int × Int × Unit) : Option (List DGroup × Bool × Unit) :=
 Option.bind (F_impl_copyGroups k (x.1, ())) fun r1 =>
 Option.bind (F_impl_KeyOf k (x.2.1, x.2.2.1, ())) fun r2 =>
 Option.bind (F_impl_GroupOf k (x.1, r2.1, ())) fun r3 =>
 if (decide ((r3.1 : Int) ≥ (0 : Int))) = true then
  if (decide (0 ≤ r3.1 ∧ r3.1 < ((List.length x.1 : Nat) : Int))) = true then
   Option.bind (F_impl_JoinIn k (List.getD x.1 (Int.toNat r3.1) tGroup.dflt, x.2.1, ())) fun r4 =>
   if (decide (0 ≤ r3.1 ∧ r3.1 < ((List.length r1.1 : Nat) : Int))) = true then
    some (List.set r1.1 (Int.toNat r3.1) r4.1, false, ())
   else
    none
  else
   none
 else
  Option.bind (F_impl_copyAlarm k (x.2.1, ())) fun r5 =>
  if (decide (List.length r1.1 + List.length ([(x.2.2.2.1, r2.1, x.2.2.2.2.1, (-1 : Int), ([r5.1] : List DAlarm))] : List DGroup) < 4294967296)) = true then
   some (r1.1 ++ ([(x.2.2.2.1, r2.1, x.2.2.2.2.1, (-1 : Int), ([r5.1] : List DAlarm))] : List DGroup), true, ())
  else
   none
def F_spec_DrawFlushAt (k : Nat) (x : List Int × Unit) : Option (List DGroup × Int × Int × Unit) :=
 Option.bind (F_spec_l1New k (x.1, ())) fun r1 =>
 Option.bind (F_spec_l5By k (r1.1, ())) fun r2 =>
 Option.bind (F_spec_l12Any k (r2.2.1, r2.1, ())) fun r3 =>
 Option.bind (F_spec_l1Below k (r3.2.1, (6 : Int), ())) fun r4 =>
 if (((decide ((((List.length r3.1 : Nat) : Int) : Int) > (0 : Int))) : Bool) == true) = true then
  Option.bind (F_spec_l1Once k (r4.2.1, (3 : Int), ())) fun r5 =>
  if (if (decide ((((List.length r3.1 : Nat) : Int) : Int) > (0 : Int))) = true then !r5.1 else false) = true then
   Option.bind (F_spec_l1Below k (r5.2.1, ((List.length r3.1 : Nat) : Int), ())) fun r6 =>
   if (decide (0 ≤ r6.1 ∧ r6.1 < ((List.length r3.1 : Nat) : Int))) = true then
    Option.bind (F_spec_l1Below k (r6.2.1, (40 : Int), ())) fun r7 =>
    some (r3.1, (List.getD r3.1 (Int.toNat r6.1) tGroup.dflt).1, r7.1, ())
   else
    none
  else
   Option.bind (F_spec_l1Below k (r5.2.1, (40 : Int), ())) fun r8 =>
   some (r3.1, IntKind.i64.wrap (r4.1 - (1 : Int)), r8.1, ())
 else
  if (if (decide ((((List.length r3.1 : Nat) : Int) : Int) > (0 : Int))) = true then !false else false) = true then
   Option.bind (F_spec_l1Below k (r4.2.1, ((List.length r3.1 : Nat) : Int), ())) fun r9 =>
   if (decide (0 ≤ r9.1 ∧ r9.1 < ((List.length r3.1 : Nat) : Int))) = true then
    Option.bind (F_spec_l1Below k (r9.2.1, (40 : Int), ())) fun r10 =>
    some (r3.1, (List.getD r3.1 (Int.toNat r9.1) tGroup.dflt).1, r10.1, ())
   else
    none
  else
   Option.bind (F_spec_l1Below k (r4.2.1, (40 : Int), ())) fun r11 =>
   some (r3.1, IntKind.i64.wrap (r4.1 - (1 : Int)), r11.1, ())
def F_impl_GroupAt (k : Nat) (x : List DGroup × Int × Unit) : Option (Int × Unit) :=
 loopN k (fun G1 (t2 : Int × List DGroup × Int × Int × Unit) =>
  if (decide ((t2.2.2.2.1 : Int) < t2.2.2.1)) = true then
   if (decide (0 ≤ t2.2.2.2.1 ∧ t2.2.2.2.1 < ((List.length t2.2.1 : Nat) : Int))) = true then
    if ((((List.getD t2.2.1 (Int.toNat t2.2.2.2.1) tGroup.dflt).1) : Int) == t2.1) = true then
     some (t2.2.2.2.1, ())
    else
     G1 (t2.1, t2.2.1, t2.2.2.1, IntKind.i64.wrap (t2.2.2.2.1 + (1 : Int)), ())
   else
    none
  else
   some ((-1 : Int), ())) (x.2.1, x.1, ((List.length x.1 : Nat) : Int), (0 : Int), ())
def F_impl_Over (k : Nat) (x : DAlarm × Int × Unit) : Option (Bool × Unit) :=
 some (decide ((x.1.2.2.1 : Int) ≤ x.2.1), ())
def F_impl_Swept (k : Nat) (x : List DAlarm × Int × Unit) : Option (List DAlarm × Unit) :=
 loopN k (fun G1 (t2 : Int × List DAlarm × List DAlarm × Int × Int × Unit) =>
  if (decide ((t2.2.2.2.2.1 : Int) < t2.2.2.2.1)) = true then
   if (decide (0 ≤ t2.2.2.2.2.1 ∧ t2.2.2.2.2.1 < ((List.length t2.2.2.1 : Nat) : Int))) = true then
    Option.bind (F_impl_Over k (List.getD t2.2.2.1 (Int.toNat t2.2.2.2.2.1) tAlarm.dflt, t2.1, ())) fun r3 =>
    if (!r3.1) = true then
     Option.bind (F_impl_copyAlarm k (List.getD t2.2.2.1 (Int.toNat t2.2.2.2.2.1) tAlarm.dflt, ())) fun r4 =>
     if (decide (List.length t2.2.1 + List.length ([r4.1] : List DAlarm) < 4294967296)) = true then
      G1 (t2.1, t2.2.1 ++ ([r4.1] : List DAlarm), t2.2.2.1, t2.2.2.2.1, IntKind.i64.wrap (t2.2.2.2.2.1 + (1 : Int)), ())
     else
      none
    else
     G1 (t2.1, t2.2.1, t2.2.2.1, t2.2.2.2.1, IntKind.i64.wrap (t2.2.2.2.2.1 + (1 : Int)), ())
   else
    none
  else
   some (t2.2.1, ())) (x.2.1, ([] : List DAlarm), x.1, ((List.length x.1 : Nat) : Int), (0 : Int), ())
def F_impl_Flush (k : Nat) (x : DGroup × Int × Unit) : Option (DGroup × DBatch × Unit) :=
 Option.bind (F_impl_copyGroup k (x.1, ())) fun r1 =>
 Option.bind (F_impl_Swept k (x.1.2.2.2.2, x.2.1, ())) fun r2 =>
 Option.bind (F_impl_copySet k (x.1.2.1, ())) fun r3 =>
 Option.bind (F_impl_copyAlarms k (x.1.2.2.2.2, ())) fun r4 =>
 some ((r1.1.1, r1.1.2.1, r1.1.2.2.1, x.2.1, r2.1), (x.1.1, r3.1, x.2.1, r4.1), ())
def F_impl_FlushAt (k : Nat) (x : List DGroup × Int × Int × Unit) : Option (List DGroup × DBatch × Bool × Unit) :=
 Option.bind (F_impl_copyGroups k (x.1, ())) fun r1 =>
 Option.bind (F_impl_GroupAt k (x.1, x.2.1, ())) fun r2 =>
 if (decide ((r2.1 : Int) < (0 : Int))) = true then
  some (r1.1, (0, ([] : List DLabel), 0, ([] : List DAlarm)), false, ())
 else
  if (decide (0 ≤ r2.1 ∧ r2.1 < ((List.length x.1 : Nat) : Int))) = true then
   Option.bind (F_impl_Flush k (List.getD x.1 (Int.toNat r2.1) tGroup.dflt, x.2.2.1, ())) fun r3 =>
   if (decide (0 ≤ r2.1 ∧ r2.1 < ((List.length r1.1 : Nat) : Int))) = true then
    if ((((List.length r3.1.2.2.2.2 : Nat) : Int) : Int) == (0 : Int)) = true then
     if (decide (0 ≤ r2.1 ∧ r2.1 < ((List.length (List.set r1.1 (Int.toNat r2.1) r3.1) : Nat) : Int) ∧ List.length (List.set r1.1 (Int.toNat r2.1) r3.1) < 4294967296)) = true then
      some (List.take (Int.toNat r2.1) (List.set r1.1 (Int.toNat r2.1) r3.1) ++ List.drop (Int.toNat r2.1 + 1) (List.set r1.1 (Int.toNat r2.1) r3.1), r3.2.1, true, ())
     else
      none
    else
     some (List.set r1.1 (Int.toNat r2.1) r3.1, r3.2.1, true, ())
   else
    none
  else
   none
def F_spec_GroupAt (k : Nat) (x : List DGroup × Int × Unit) : Option (Int × Unit) :=
 loopN k (fun G1 (t2 : List DGroup × Int × Int × Unit) =>
  if (decide ((t2.2.2.1 : Int) < ((List.length t2.1 : Nat) : Int))) = true then
   if (decide (0 ≤ t2.2.2.1 ∧ t2.2.2.1 < ((List.length t2.1 : Nat) : Int))) = true then
    if ((((List.getD t2.1 (Int.toNat t2.2.2.1) tGroup.dflt).1) : Int) == t2.2.1) = true then
     some (t2.2.2.1, ())
    else
     G1 (t2.1, t2.2.1, IntKind.i64.wrap (t2.2.2.1 + (1 : Int)), ())
   else
    none
  else
   some ((-1 : Int), ())) (x.1, x.2.1, (0 : Int), ())
def F_spec_Over (k : Nat) (x : DAlarm × Int × Unit) : Option (Bool × Unit) :=
 some (decide ((x.1.2.2.1 : Int) ≤ x.2.1), ())
def F_spec_l11Batch (k : Nat) (x : DBatch × Unit) : Option (DBatch × Unit) :=
 if (decide (List.length ([] : List DLabel) + List.length x.1.2.1 < 4294967296)) = true then
  Option.bind (F_spec_l4All k (x.1.2.2.2, ())) fun r1 =>
  some ((x.1.1, ([] : List DLabel) ++ x.1.2.1, x.1.2.2.1, r1.1), ())
 else
  none
def F_spec_Flush (k : Nat) (x : DGroup × Int × Unit) : Option (DGroup × DBatch × Unit) :=
 Option.bind (F_spec_l11Copy k (x.1, ())) fun r1 =>
 joinC (fun J2 =>
  loopN k (fun G4 (t5 : Int × DGroup × DGroup × DBatch × DGroup × Int × Unit) =>
   if (decide ((t5.2.2.2.2.2.1 : Int) < ((List.length t5.2.1.2.2.2.2 : Nat) : Int))) = true then
    if (decide (0 ≤ t5.2.2.2.2.2.1 ∧ t5.2.2.2.2.2.1 < ((List.length t5.2.1.2.2.2.2 : Nat) : Int))) = true then
     Option.bind (F_spec_Over k (List.getD t5.2.1.2.2.2.2 (Int.toNat t5.2.2.2.2.2.1) tAlarm.dflt, t5.1, ())) fun r6 =>
     if (!r6.1) = true then
      if (decide (0 ≤ t5.2.2.2.2.2.1 ∧ t5.2.2.2.2.2.1 < ((List.length t5.2.1.2.2.2.2 : Nat) : Int))) = true then
       Option.bind (F_spec_l4Copy k (List.getD t5.2.1.2.2.2.2 (Int.toNat t5.2.2.2.2.2.1) tAlarm.dflt, ())) fun r7 =>
       if (decide (List.length t5.2.2.2.2.1.2.2.2.2 + List.length ([r7.1] : List DAlarm) < 4294967296)) = true then
        G4 (t5.1, t5.2.1, t5.2.2.1, t5.2.2.2.1, (t5.2.2.2.2.1.1, t5.2.2.2.2.1.2.1, t5.2.2.2.2.1.2.2.1, t5.2.2.2.2.1.2.2.2.1, t5.2.2.2.2.1.2.2.2.2 ++ ([r7.1] : List DAlarm)), IntKind.i64.wrap (t5.2.2.2.2.2.1 + (1 : Int)), ())
       else
        none
      else
       none
     else
      G4 (t5.1, t5.2.1, t5.2.2.1, t5.2.2.2.1, t5.2.2.2.2.1, IntKind.i64.wrap (t5.2.2.2.2.2.1 + (1 : Int)), ())
    else
     none
   else
    J2 (t5.1, t5.2.1, t5.2.2.1, t5.2.2.2.1, t5.2.2.2.2.1, ())) (x.2.1, x.1, (0, ([] : List DLabel), 0, 0, ([] : List DAlarm)), (0, ([] : List DLabel), 0, ([] : List DAlarm)), (r1.1.1, r1.1.2.1, r1.1.2.2.1, x.2.1, ([] : List DAlarm)), (0 : Int), ())) (fun (t3 : Int × DGroup × DGroup × DBatch × DGroup × Unit) =>
  Option.bind (F_spec_l11Batch k ((t3.2.1.1, t3.2.1.2.1, t3.1, t3.2.1.2.2.2.2), ())) fun r8 =>
  some (t3.2.2.2.2.1, r8.1, ()))
def F_spec_FlushAt (k : Nat) (x : List DGroup × Int × Int × Unit) : Option (List DGroup × DBatch × Bool × Unit) :=
 Option.bind (F_spec_l12Copy k (x.1, ())) fun r1 =>
 Option.bind (F_spec_GroupAt k (x.1, x.2.1, ())) fun r2 =>
 if (decide ((r2.1 : Int) < (0 : Int))) = true then
  some (r1.1, (0, ([] : List DLabel), 0, ([] : List DAlarm)), false, ())
 else
  if (decide (0 ≤ r2.1 ∧ r2.1 < ((List.length x.1 : Nat) : Int))) = true then
   Option.bind (F_spec_Flush k (List.getD x.1 (Int.toNat r2.1) tGroup.dflt, x.2.2.1, ())) fun r3 =>
   if (decide (0 ≤ r2.1 ∧ r2.1 < ((List.length r1.1 : Nat) : Int))) = true then
    if ((((List.length r3.1.2.2.2.2 : Nat) : Int) : Int) == (0 : Int)) = true then
     if (decide (0 ≤ r2.1 ∧ r2.1 ≤ ((List.length x.1 : Nat) : Int))) = true then
      Option.bind (F_spec_l12Copy k (List.take (Int.toNat r2.1) x.1, ())) fun r4 =>
      if (decide (0 ≤ (IntKind.i64.wrap (r2.1 + (1 : Int))) ∧ (IntKind.i64.wrap (r2.1 + (1 : Int))) ≤ ((List.length x.1 : Nat) : Int))) = true then
       Option.bind (F_spec_l12Copy k (List.drop (Int.toNat (IntKind.i64.wrap (r2.1 + (1 : Int)))) x.1, ())) fun r5 =>
       if (decide (List.length r4.1 + List.length r5.1 < 4294967296)) = true then
        some (r4.1 ++ r5.1, r3.2.1, true, ())
       else
        none
      else
       none
     else
      none
    else
     some (List.set r1.1 (Int.toNat r2.1) r3.1, r3.2.1, true, ())
   else
    none
  else
   none
def F_spec_DrawGroupsOk (k : Nat) (x : List Int × Unit) : Option (List DGroup × List ByteArray × Unit) :=
 Option.bind (F_spec_l1New k (x.1, ())) fun r1 =>
 Option.bind (F_spec_l5By k (r1.1, ())) fun r2 =>
 Option.bind (F_spec_l12Any k (r2.2.1, r2.1, ())) fun r3 =>
 some (r3.1, r2.1, ())
def F_spec_DrawGroupOf (k : Nat) (x : List Int × Unit) : Option (List DGroup × List DLabel × Unit) :=
 Option.bind (F_spec_l1New k (x.1, ())) fun r1 =>
 Option.bind (F_spec_l5By k (r1.1, ())) fun r2 =>
 Option.bind (F_spec_l12Any k (r2.2.1, r2.1, ())) fun r3 =>
 if (((decide ((((List.length r3.1 : Nat) : Int) : Int) > (0 : Int))) : Bool) == true) = true then
  Option.bind (F_spec_l1Once k (r3.2.1, (2 : Int), ())) fun r4 =>
  if (if (decide ((((List.length r3.1 : Nat) : Int) : Int) > (0 : Int))) = true then r4.1 else false) = true then
   Option.bind (F_spec_l1Below k (r4.2.1, ((List.length r3.1 : Nat) : Int), ())) fun r5 =>
   if (decide (0 ≤ r5.1 ∧ r5.1 < ((List.length r3.1 : Nat) : Int))) = true then
    if (decide (List.length ([] : List DLabel) + List.length (((List.getD r3.1 (Int.toNat r5.1) tGroup.dflt).2).1) < 4294967296)) = true then
     some (r3.1, ([] : List DLabel) ++ (((List.getD r3.1 (Int.toNat r5.1) tGroup.dflt).2).1), ())
    else
     none
   else
    none
  else
   Option.bind (F_spec_l4Draw k (r4.2.1, ())) fun r6 =>
   Option.bind (F_spec_KeyOf k (r6.1, r2.1, ())) fun r7 =>
   some (r3.1, r7.1, ())
 else
  if (if (decide ((((List.length r3.1 : Nat) : Int) : Int) > (0 : Int))) = true then false else false) = true then
   Option.bind (F_spec_l1Below k (r3.2.1, ((List.length r3.1 : Nat) : Int), ())) fun r8 =>
   if (decide (0 ≤ r8.1 ∧ r8.1 < ((List.length r3.1 : Nat) : Int))) = true then
    if (decide (List.length ([] : List DLabel) + List.length (((List.getD r3.1 (Int.toNat r8.1) tGroup.dflt).2).1) < 4294967296)) = true then
     some (r3.1, ([] : List DLabel) ++ (((List.getD r3.1 (Int.toNat r8.1) tGroup.dflt).2).1), ())
    else
     none
   else
    none
  else
   Option.bind (F_spec_l4Draw k (r3.2.1, ())) fun r9 =>
   Option.bind (F_spec_KeyOf k (r9.1, r2.1, ())) fun r10 =>
   some (r3.1, r10.1, ())
def F_spec_DrawGroupAt (k : Nat) (x : List Int × Unit) : Option (List DGroup × Int × Unit) :=
 Option.bind (F_spec_l1New k (x.1, ())) fun r1 =>
 Option.bind (F_spec_l5By k (r1.1, ())) fun r2 =>
 Option.bind (F_spec_l12Any k (r2.2.1, r2.1, ())) fun r3 =>
 Option.bind (F_spec_l1Below k (r3.2.1, (6 : Int), ())) fun r4 =>
 some (r3.1, IntKind.i64.wrap (r4.1 - (1 : Int)), ())
def F_spec_l7Labels (k : Nat) (x : DL1Cur × List DAlarm × Unit) : Option (List DLabel × DL1Cur × Unit) :=
 if (((decide ((((List.length x.2.1 : Nat) : Int) : Int) > (0 : Int))) : Bool) == true) = true then
  Option.bind (F_spec_l1Once k (x.1, (3 : Int), ())) fun r1 =>
  if (if (decide ((((List.length x.2.1 : Nat) : Int) : Int) > (0 : Int))) = true then !r1.1 else false) = true then
   Option.bind (F_spec_l1Below k (r1.2.1, ((List.length x.2.1 : Nat) : Int), ())) fun r2 =>
   if (decide (0 ≤ r2.1 ∧ r2.1 < ((List.length x.2.1 : Nat) : Int))) = true then
    if (decide (List.length ([] : List DLabel) + List.length ((List.getD x.2.1 (Int.toNat r2.1) tAlarm.dflt).1) < 4294967296)) = true then
     some (([] : List DLabel) ++ ((List.getD x.2.1 (Int.toNat r2.1) tAlarm.dflt).1), r2.2.1, ())
    else
     none
   else
    none
  else
   Option.bind (F_spec_l2Draw k (r1.2.1, ())) fun r3 =>
   some (r3.1, r3.2.1, ())
 else
  if (if (decide ((((List.length x.2.1 : Nat) : Int) : Int) > (0 : Int))) = true then !false else false) = true then
   Option.bind (F_spec_l1Below k (x.1, ((List.length x.2.1 : Nat) : Int), ())) fun r4 =>
   if (decide (0 ≤ r4.1 ∧ r4.1 < ((List.length x.2.1 : Nat) : Int))) = true then
    if (decide (List.length ([] : List DLabel) + List.length ((List.getD x.2.1 (Int.toNat r4.1) tAlarm.dflt).1) < 4294967296)) = true then
     some (([] : List DLabel) ++ ((List.getD x.2.1 (Int.toNat r4.1) tAlarm.dflt).1), r4.2.1, ())
    else
     none
   else
    none
  else
   Option.bind (F_spec_l2Draw k (x.1, ())) fun r5 =>
   some (r5.1, r5.2.1, ())
def F_spec_DrawMemberOf (k : Nat) (x : List Int × Unit) : Option (List DGroup × List DLabel × Unit) :=
 Option.bind (F_spec_l1New k (x.1, ())) fun r1 =>
 Option.bind (F_spec_l5By k (r1.1, ())) fun r2 =>
 Option.bind (F_spec_l12Any k (r2.2.1, r2.1, ())) fun r3 =>
 if (decide ((((List.length r3.1 : Nat) : Int) : Int) > (0 : Int))) = true then
  Option.bind (F_spec_l1Below k (r3.2.1, ((List.length r3.1 : Nat) : Int), ())) fun r4 =>
  if (decide (0 ≤ r4.1 ∧ r4.1 < ((List.length r3.1 : Nat) : Int))) = true then
   Option.bind (F_spec_l7Labels k (r4.2.1, ((((List.getD r3.1 (Int.toNat r4.1) tGroup.dflt).2).2).2).2, ())) fun r5 =>
   some (r3.1, r5.1, ())
  else
   none
 else
  Option.bind (F_spec_l2Draw k (r3.2.1, ())) fun r6 =>
  some (r3.1, r6.1, ())
def F_impl_SameAlarm (k : Nat) (x : DAlarm × DAlarm × Unit) : Option (Bool × Unit) :=
 Option.bind (F_impl_SameSet k (x.1.1, x.2.1.1, ())) fun r1 =>
 some (if (if (if r1.1 = true then (x.1.2.1 : Int) == x.2.1.2.1 else false) = true then (x.1.2.2.1 : Int) == x.2.1.2.2.1 else false) = true then ByteArray.toList x.1.2.2.2 == ByteArray.toList x.2.1.2.2.2 else false, ())
def F_impl_sameAlarms (k : Nat) (x : List DAlarm × List DAlarm × Unit) : Option (Bool × Unit) :=
 if ((((List.length x.1 : Nat) : Int) : Int) != ((List.length x.2.1 : Nat) : Int)) = true then
  some (false, ())
 else
  loopN k (fun G1 (t2 : List DAlarm × List DAlarm × Int × Int × Unit) =>
   if (decide ((t2.2.2.2.1 : Int) < t2.2.2.1)) = true then
    if (decide (0 ≤ t2.2.2.2.1 ∧ t2.2.2.2.1 < ((List.length t2.1 : Nat) : Int))) = true then
     if (decide (0 ≤ t2.2.2.2.1 ∧ t2.2.2.2.1 < ((List.length t2.2.1 : Nat) : Int))) = true then
      Option.bind (F_impl_SameAlarm k (List.getD t2.1 (Int.toNat t2.2.2.2.1) tAlarm.dflt, List.getD t2.2.1 (Int.toNat t2.2.2.2.1) tAlarm.dflt, ())) fun r3 =>
      if (!r3.1) = true then
       some (false, ())
      else
       G1 (t2.1, t2.2.1, t2.2.2.1, IntKind.i64.wrap (t2.2.2.2.1 + (1 : Int)), ())
     else
      none
    else
     none
   else
    some (true, ())) (x.1, x.2.1, ((List.length x.1 : Nat) : Int), (0 : Int), ())
def F_impl_SameGroup (k : Nat) (x : DGroup × DGroup × Unit) : Option (Bool × Unit) :=
 Option.bind ((if ((((x.1.1 : Int) == x.2.1.1) : Bool) == true) = true then F_impl_SameSet k (x.1.2.1, x.2.1.2.1, ()) else some (false, ()))) fun r1 =>
 Option.bind ((if (((if (if (if ((x.1.1 : Int) == x.2.1.1) = true then r1.1 else false) = true then (x.1.2.2.1 : Int) == x.2.1.2.2.1 else false) = true then (x.1.2.2.2.1 : Int) == x.2.1.2.2.2.1 else false) : Bool) == true) = true then F_impl_sameAlarms k (x.1.2.2.2.2, x.2.1.2.2.2.2, ()) else some (false, ()))) fun r2 =>
 some (if (if (if (if ((x.1.1 : Int) == x.2.1.1) = true then r1.1 else false) = true then (x.1.2.2.1 : Int) == x.2.1.2.2.1 else false) = true then (x.1.2.2.2.1 : Int) == x.2.1.2.2.2.1 else false) = true then r2.1 else false, ())
def F_laws_sameGroups (k : Nat) (x : List DGroup × List DGroup × Unit) : Option (Bool × Unit) :=
 if ((((List.length x.1 : Nat) : Int) : Int) != ((List.length x.2.1 : Nat) : Int)) = true then
  some (false, ())
 else
  loopN k (fun G1 (t2 : List DGroup × List DGroup × Int × Unit) =>
   if (decide ((t2.2.2.1 : Int) < ((List.length t2.1 : Nat) : Int))) = true then
    if (decide (0 ≤ t2.2.2.1 ∧ t2.2.2.1 < ((List.length t2.1 : Nat) : Int))) = true then
     if (decide (0 ≤ t2.2.2.1 ∧ t2.2.2.1 < ((List.length t2.2.1 : Nat) : Int))) = true then
      Option.bind (F_impl_SameGroup k (List.getD t2.1 (Int.toNat t2.2.2.1) tGroup.dflt, List.getD t2.2.1 (Int.toNat t2.2.2.1) tGroup.dflt, ())) fun r3 =>
      if (!r3.1) = true then
       some (false, ())
      else
       G1 (t2.1, t2.2.1, IntKind.i64.wrap (t2.2.2.1 + (1 : Int)), ())
     else
      none
    else
     none
   else
    some (true, ())) (x.1, x.2.1, (0 : Int), ())
def F_impl_SameBatch (k : Nat) (x : DBatch × DBatch × Unit) : Option (Bool × Unit) :=
 Option.bind ((if ((((x.1.1 : Int) == x.2.1.1) : Bool) == true) = true then F_impl_SameSet k (x.1.2.1, x.2.1.2.1, ()) else some (false, ()))) fun r1 =>
 Option.bind ((if (((if (if ((x.1.1 : Int) == x.2.1.1) = true then r1.1 else false) = true then (x.1.2.2.1 : Int) == x.2.1.2.2.1 else false) : Bool) == true) = true then F_impl_sameAlarms k (x.1.2.2.2, x.2.1.2.2.2, ()) else some (false, ()))) fun r2 =>
 some (if (if (if ((x.1.1 : Int) == x.2.1.1) = true then r1.1 else false) = true then (x.1.2.2.1 : Int) == x.2.1.2.2.1 else false) = true then r2.1 else false, ())
def F_impl_in (k : Nat) (x : Int × Int × Int × Unit) : Option (Bool × Unit) :=
 some (if (decide ((x.1 : Int) ≥ x.2.1)) = true then decide ((x.1 : Int) ≤ x.2.2.1) else false, ())
def F_impl_NameOk (k : Nat) (x : ByteArray × Unit) : Option (Bool × Unit) :=
 Option.bind (F_impl_in k (((ByteArray.size x.1 : Nat) : Int), (1 : Int), (8 : Int), ())) fun r1 =>
 if (!r1.1) = true then
  some (false, ())
 else
  loopN k (fun G2 (t3 : ByteArray × Int × Unit) =>
   if (decide ((t3.2.1 : Int) < ((ByteArray.size t3.1 : Nat) : Int))) = true then
    if (decide (0 ≤ t3.2.1 ∧ t3.2.1 < ((ByteArray.size t3.1 : Nat) : Int))) = true then
     if (!(((decide (((bt t3.1 t3.2.1) : Int) < (97 : Int))) : Bool) == false) || (decide (0 ≤ t3.2.1 ∧ t3.2.1 < ((ByteArray.size t3.1 : Nat) : Int)))) = true then
      if (if (decide (((bt t3.1 t3.2.1) : Int) < (97 : Int))) = true then true else decide (((bt t3.1 t3.2.1) : Int) > (122 : Int))) = true then
       some (false, ())
      else
       G2 (t3.1, IntKind.i64.wrap (t3.2.1 + (1 : Int)), ())
     else
      none
    else
     none
   else
    some (true, ())) (x.1, (0 : Int), ())
def F_impl_PlainOk (k : Nat) (x : ByteArray × Unit) : Option (Bool × Unit) :=
 if (decide ((((ByteArray.size x.1 : Nat) : Int) : Int) > (12 : Int))) = true then
  some (false, ())
 else
  loopN k (fun G1 (t2 : ByteArray × Int × Unit) =>
   if (decide ((t2.2.1 : Int) < ((ByteArray.size t2.1 : Nat) : Int))) = true then
    if (decide (0 ≤ t2.2.1 ∧ t2.2.1 < ((ByteArray.size t2.1 : Nat) : Int))) = true then
     if (if (if (if (decide (((bt t2.1 t2.2.1) : Int) < (32 : Int))) = true then true else decide (((bt t2.1 t2.2.1) : Int) > (126 : Int))) = true then true else ((bt t2.1 t2.2.1) : Int) == (34 : Int)) = true then true else ((bt t2.1 t2.2.1) : Int) == (92 : Int)) = true then
      some (false, ())
     else
      G1 (t2.1, IntKind.i64.wrap (t2.2.1 + (1 : Int)), ())
    else
     none
   else
    some (true, ())) (x.1, (0 : Int), ())
def F_impl_LabelOk (k : Nat) (x : DLabel × Unit) : Option (Bool × Unit) :=
 Option.bind (F_impl_NameOk k (x.1.1, ())) fun r1 =>
 Option.bind ((if ((r1.1 : Bool) == true) = true then F_impl_PlainOk k (x.1.2, ()) else some (false, ()))) fun r2 =>
 some (if r1.1 = true then r2.1 else false, ())
def F_impl_SetOk (k : Nat) (x : List DLabel × Unit) : Option (Bool × Unit) :=
 loopN k (fun G1 (t2 : List DLabel × List DLabel × Int × Int × Unit) =>
  if (decide ((t2.2.2.2.1 : Int) < t2.2.2.1)) = true then
   if (decide (0 ≤ t2.2.2.2.1 ∧ t2.2.2.2.1 < ((List.length t2.2.1 : Nat) : Int))) = true then
    Option.bind ((if (((decide ((t2.2.2.2.1 : Int) ≥ (4 : Int))) : Bool) == false) = true then F_impl_LabelOk k (List.getD t2.2.1 (Int.toNat t2.2.2.2.1) tLabel.dflt, ()) else some (false, ()))) fun r3 =>
    if (!((((if (decide ((t2.2.2.2.1 : Int) ≥ (4 : Int))) = true then true else !r3.1) : Bool) == false) && (((decide ((t2.2.2.2.1 : Int) > (0 : Int))) : Bool) == true)) || (decide (0 ≤ (IntKind.i64.wrap (t2.2.2.2.1 - (1 : Int))) ∧ (IntKind.i64.wrap (t2.2.2.2.1 - (1 : Int))) < ((List.length t2.1 : Nat) : Int)))) = true then
     if (if (if (decide ((t2.2.2.2.1 : Int) ≥ (4 : Int))) = true then true else !r3.1) = true then true else if (decide ((t2.2.2.2.1 : Int) > (0 : Int))) = true then !(Op.bytesLess (ByteArray.toList ((List.getD t2.1 (Int.toNat (IntKind.i64.wrap (t2.2.2.2.1 - (1 : Int)))) tLabel.dflt).1)) (ByteArray.toList ((List.getD t2.2.1 (Int.toNat t2.2.2.2.1) tLabel.dflt).1))) else false) = true then
      some (false, ())
     else
      G1 (t2.1, t2.2.1, t2.2.2.1, IntKind.i64.wrap (t2.2.2.2.1 + (1 : Int)), ())
    else
     none
   else
    none
  else
   some (true, ())) (x.1, x.1, ((List.length x.1 : Nat) : Int), (0 : Int), ())
def F_impl_AlarmOk (k : Nat) (x : DAlarm × Unit) : Option (Bool × Unit) :=
 Option.bind ((if (((decide ((((List.length x.1.1 : Nat) : Int) : Int) > (0 : Int))) : Bool) == true) = true then F_impl_SetOk k (x.1.1, ()) else some (false, ()))) fun r1 =>
 Option.bind ((if (((if (decide ((((List.length x.1.1 : Nat) : Int) : Int) > (0 : Int))) = true then r1.1 else false) : Bool) == true) = true then F_impl_in k (x.1.2.1, (0 : Int), (99999 : Int), ()) else some (false, ()))) fun r2 =>
 Option.bind ((if (((if (if (decide ((((List.length x.1.1 : Nat) : Int) : Int) > (0 : Int))) = true then r1.1 else false) = true then r2.1 else false) : Bool) == true) = true then F_impl_in k (x.1.2.2.1, x.1.2.1, (99999 : Int), ()) else some (false, ()))) fun r3 =>
 Option.bind ((if (((if (if (if (decide ((((List.length x.1.1 : Nat) : Int) : Int) > (0 : Int))) = true then r1.1 else false) = true then r2.1 else false) = true then r3.1 else false) : Bool) == true) = true then F_impl_PlainOk k (x.1.2.2.2, ()) else some (false, ()))) fun r4 =>
 some (if (if (if (if (decide ((((List.length x.1.1 : Nat) : Int) : Int) > (0 : Int))) = true then r1.1 else false) = true then r2.1 else false) = true then r3.1 else false) = true then r4.1 else false, ())
def F_impl_keyedOk (k : Nat) (x : List DAlarm × List DLabel × List ByteArray × Unit) : Option (Bool × Unit) :=
 loopN k (fun G1 (t2 : List DAlarm × List DLabel × List ByteArray × List DAlarm × Int × Int × Unit) =>
  if (decide ((t2.2.2.2.2.2.1 : Int) < t2.2.2.2.2.1)) = true then
   if (decide (0 ≤ t2.2.2.2.2.2.1 ∧ t2.2.2.2.2.2.1 < ((List.length t2.2.2.2.1 : Nat) : Int))) = true then
    Option.bind (F_impl_AlarmOk k (List.getD t2.2.2.2.1 (Int.toNat t2.2.2.2.2.2.1) tAlarm.dflt, ())) fun r3 =>
    Option.bind ((if (((!r3.1) : Bool) == false) = true then F_impl_KeyOf k (List.getD t2.2.2.2.1 (Int.toNat t2.2.2.2.2.2.1) tAlarm.dflt, t2.2.2.1, ()) else some (([] : List DLabel), ()))) fun r4 =>
    Option.bind ((if (((!r3.1) : Bool) == false) = true then F_impl_SameSet k (r4.1, t2.2.1, ()) else some (false, ()))) fun r5 =>
    if (!((((if (!r3.1) = true then true else !r5.1) : Bool) == false) && (((decide ((t2.2.2.2.2.2.1 : Int) > (0 : Int))) : Bool) == true)) || (decide (0 ≤ (IntKind.i64.wrap (t2.2.2.2.2.2.1 - (1 : Int))) ∧ (IntKind.i64.wrap (t2.2.2.2.2.2.1 - (1 : Int))) < ((List.length t2.1 : Nat) : Int)))) = true then
     Option.bind ((if ((((if (!r3.1) = true then true else !r5.1) : Bool) == false) && (((decide ((t2.2.2.2.2.2.1 : Int) > (0 : Int))) : Bool) == true)) = true then F_impl_SetLess k ((List.getD t2.1 (Int.toNat (IntKind.i64.wrap (t2.2.2.2.2.2.1 - (1 : Int)))) tAlarm.dflt).1, (List.getD t2.2.2.2.1 (Int.toNat t2.2.2.2.2.2.1) tAlarm.dflt).1, ()) else some (false, ()))) fun r6 =>
     if (if (if (!r3.1) = true then true else !r5.1) = true then true else if (decide ((t2.2.2.2.2.2.1 : Int) > (0 : Int))) = true then !r6.1 else false) = true then
      some (false, ())
     else
      G1 (t2.1, t2.2.1, t2.2.2.1, t2.2.2.2.1, t2.2.2.2.2.1, IntKind.i64.wrap (t2.2.2.2.2.2.1 + (1 : Int)), ())
    else
     none
   else
    none
  else
   some (true, ())) (x.1, x.2.1, x.2.2.1, x.1, ((List.length x.1 : Nat) : Int), (0 : Int), ())
def F_impl_GroupOk (k : Nat) (x : DGroup × List ByteArray × Unit) : Option (Bool × Unit) :=
 Option.bind ((if (((decide ((x.1.1 : Int) < (0 : Int))) : Bool) == false) = true then F_impl_SetOk k (x.1.2.1, ()) else some (false, ()))) fun r1 =>
 Option.bind ((if (((if (decide ((x.1.1 : Int) < (0 : Int))) = true then true else !r1.1) : Bool) == false) = true then F_impl_in k (x.1.2.2.1, (0 : Int), (99999 : Int), ()) else some (false, ()))) fun r2 =>
 Option.bind ((if ((((if (if (decide ((x.1.1 : Int) < (0 : Int))) = true then true else !r1.1) = true then true else !r2.1) : Bool) == false) && ((((x.1.2.2.2.1 : Int) != (-1 : Int)) : Bool) == true)) = true then F_impl_in k (x.1.2.2.2.1, x.1.2.2.1, (99999 : Int), ()) else some (false, ()))) fun r3 =>
 if (if (if (if (decide ((x.1.1 : Int) < (0 : Int))) = true then true else !r1.1) = true then true else !r2.1) = true then true else if ((x.1.2.2.2.1 : Int) != (-1 : Int)) = true then !r3.1 else false) = true then
  some (false, ())
 else
  Option.bind ((if (((decide ((((List.length x.1.2.2.2.2 : Nat) : Int) : Int) > (0 : Int))) : Bool) == true) = true then F_impl_keyedOk k (x.1.2.2.2.2, x.1.2.1, x.2.1, ()) else some (false, ()))) fun r4 =>
  some (if (decide ((((List.length x.1.2.2.2.2 : Nat) : Int) : Int) > (0 : Int))) = true then r4.1 else false, ())
def F_impl_GroupsOk (k : Nat) (x : List DGroup × List ByteArray × Unit) : Option (Bool × Unit) :=
 loopN k (fun G1 (t2 : List DGroup × List ByteArray × List DGroup × Int × Int × Unit) =>
  if (decide ((t2.2.2.2.2.1 : Int) < t2.2.2.2.1)) = true then
   if (decide (0 ≤ t2.2.2.2.2.1 ∧ t2.2.2.2.2.1 < ((List.length t2.2.2.1 : Nat) : Int))) = true then
    Option.bind ((if (((decide ((t2.2.2.2.2.1 : Int) ≥ (12 : Int))) : Bool) == false) = true then F_impl_GroupOk k (List.getD t2.2.2.1 (Int.toNat t2.2.2.2.2.1) tGroup.dflt, t2.2.1, ()) else some (false, ()))) fun r3 =>
    if (!((((if (decide ((t2.2.2.2.2.1 : Int) ≥ (12 : Int))) = true then true else !r3.1) : Bool) == false) && (((decide ((t2.2.2.2.2.1 : Int) > (0 : Int))) : Bool) == true)) || (decide (0 ≤ (IntKind.i64.wrap (t2.2.2.2.2.1 - (1 : Int))) ∧ (IntKind.i64.wrap (t2.2.2.2.2.1 - (1 : Int))) < ((List.length t2.1 : Nat) : Int)))) = true then
     Option.bind ((if (((if (if (decide ((t2.2.2.2.2.1 : Int) ≥ (12 : Int))) = true then true else !r3.1) = true then true else if (decide ((t2.2.2.2.2.1 : Int) > (0 : Int))) = true then decide ((((List.getD t2.1 (Int.toNat (IntKind.i64.wrap (t2.2.2.2.2.1 - (1 : Int)))) tGroup.dflt).1) : Int) ≥ ((List.getD t2.2.2.1 (Int.toNat t2.2.2.2.2.1) tGroup.dflt).1)) else false) : Bool) == false) = true then F_impl_GroupOf k (t2.1, ((List.getD t2.2.2.1 (Int.toNat t2.2.2.2.2.1) tGroup.dflt).2).1, ()) else some (0, ()))) fun r4 =>
     if (if (if (if (decide ((t2.2.2.2.2.1 : Int) ≥ (12 : Int))) = true then true else !r3.1) = true then true else if (decide ((t2.2.2.2.2.1 : Int) > (0 : Int))) = true then decide ((((List.getD t2.1 (Int.toNat (IntKind.i64.wrap (t2.2.2.2.2.1 - (1 : Int)))) tGroup.dflt).1) : Int) ≥ ((List.getD t2.2.2.1 (Int.toNat t2.2.2.2.2.1) tGroup.dflt).1)) else false) = true then true else (r4.1 : Int) != t2.2.2.2.2.1) = true then
      some (false, ())
     else
      G1 (t2.1, t2.2.1, t2.2.2.1, t2.2.2.2.1, IntKind.i64.wrap (t2.2.2.2.2.1 + (1 : Int)), ())
    else
     none
   else
    none
  else
   some (true, ())) (x.1, x.2.1, x.1, ((List.length x.1 : Nat) : Int), (0 : Int), ())
def F_spec_l1In (k : Nat) (x : Int × Int × Int × Unit) : Option (Bool × Unit) :=
 some (if (decide ((x.1 : Int) ≥ x.2.1)) = true then decide ((x.1 : Int) ≤ x.2.2.1) else false, ())
def F_spec_NameOk (k : Nat) (x : ByteArray × Unit) : Option (Bool × Unit) :=
 joinC (fun J1 =>
  loopN k (fun G3 (t4 : ByteArray × Int × Unit) =>
   if (decide ((t4.2.1 : Int) < ((ByteArray.size t4.1 : Nat) : Int))) = true then
    if (decide (0 ≤ t4.2.1 ∧ t4.2.1 < ((ByteArray.size t4.1 : Nat) : Int))) = true then
     if (!(((decide (((bt t4.1 t4.2.1) : Int) < (97 : Int))) : Bool) == false) || (decide (0 ≤ t4.2.1 ∧ t4.2.1 < ((ByteArray.size t4.1 : Nat) : Int)))) = true then
      if (if (decide (((bt t4.1 t4.2.1) : Int) < (97 : Int))) = true then true else decide (((bt t4.1 t4.2.1) : Int) > (122 : Int))) = true then
       some (false, ())
      else
       G3 (t4.1, IntKind.i64.wrap (t4.2.1 + (1 : Int)), ())
     else
      none
    else
     none
   else
    J1 (t4.1, ())) (x.1, (0 : Int), ())) (fun (t2 : ByteArray × Unit) =>
  Option.bind (F_spec_l1In k (((ByteArray.size t2.1 : Nat) : Int), (1 : Int), (8 : Int), ())) fun r5 =>
  some (r5.1, ()))
def F_spec_PlainOk (k : Nat) (x : ByteArray × Unit) : Option (Bool × Unit) :=
 joinC (fun J1 =>
  loopN k (fun G3 (t4 : ByteArray × Int × Unit) =>
   if (decide ((t4.2.1 : Int) < ((ByteArray.size t4.1 : Nat) : Int))) = true then
    if (decide (0 ≤ t4.2.1 ∧ t4.2.1 < ((ByteArray.size t4.1 : Nat) : Int))) = true then
     if (!(((decide (((bt t4.1 t4.2.1) : Int) < (32 : Int))) : Bool) == false) || (decide (0 ≤ t4.2.1 ∧ t4.2.1 < ((ByteArray.size t4.1 : Nat) : Int)))) = true then
      if (!(((if (decide (((bt t4.1 t4.2.1) : Int) < (32 : Int))) = true then true else decide (((bt t4.1 t4.2.1) : Int) > (126 : Int))) : Bool) == false) || (decide (0 ≤ t4.2.1 ∧ t4.2.1 < ((ByteArray.size t4.1 : Nat) : Int)))) = true then
       if (!(((if (if (decide (((bt t4.1 t4.2.1) : Int) < (32 : Int))) = true then true else decide (((bt t4.1 t4.2.1) : Int) > (126 : Int))) = true then true else ((bt t4.1 t4.2.1) : Int) == (34 : Int)) : Bool) == false) || (decide (0 ≤ t4.2.1 ∧ t4.2.1 < ((ByteArray.size t4.1 : Nat) : Int)))) = true then
        if (if (if (if (decide (((bt t4.1 t4.2.1) : Int) < (32 : Int))) = true then true else decide (((bt t4.1 t4.2.1) : Int) > (126 : Int))) = true then true else ((bt t4.1 t4.2.1) : Int) == (34 : Int)) = true then true else ((bt t4.1 t4.2.1) : Int) == (92 : Int)) = true then
         some (false, ())
        else
         G3 (t4.1, IntKind.i64.wrap (t4.2.1 + (1 : Int)), ())
       else
        none
      else
       none
     else
      none
    else
     none
   else
    J1 (t4.1, ())) (x.1, (0 : Int), ())) (fun (t2 : ByteArray × Unit) =>
  some (decide ((((ByteArray.size t2.1 : Nat) : Int) : Int) ≤ (12 : Int)), ()))
def F_spec_LabelOk (k : Nat) (x : DLabel × Unit) : Option (Bool × Unit) :=
 Option.bind (F_spec_NameOk k (x.1.1, ())) fun r1 =>
 Option.bind ((if ((r1.1 : Bool) == true) = true then F_spec_PlainOk k (x.1.2, ()) else some (false, ()))) fun r2 =>
 some (if r1.1 = true then r2.1 else false, ())
def F_spec_SetOk (k : Nat) (x : List DLabel × Unit) : Option (Bool × Unit) :=
 joinC (fun J1 =>
  loopN k (fun G3 (t4 : List DLabel × Int × Unit) =>
   if (decide ((t4.2.1 : Int) < ((List.length t4.1 : Nat) : Int))) = true then
    if (decide (0 ≤ t4.2.1 ∧ t4.2.1 < ((List.length t4.1 : Nat) : Int))) = true then
     Option.bind (F_spec_LabelOk k (List.getD t4.1 (Int.toNat t4.2.1) tLabel.dflt, ())) fun r5 =>
     if (!((((!r5.1) : Bool) == false) && (((decide ((t4.2.1 : Int) > (0 : Int))) : Bool) == true)) || (decide (0 ≤ (IntKind.i64.wrap (t4.2.1 - (1 : Int))) ∧ (IntKind.i64.wrap (t4.2.1 - (1 : Int))) < ((List.length t4.1 : Nat) : Int)))) = true then
      if (!((((!r5.1) : Bool) == false) && (((decide ((t4.2.1 : Int) > (0 : Int))) : Bool) == true)) || (decide (0 ≤ t4.2.1 ∧ t4.2.1 < ((List.length t4.1 : Nat) : Int)))) = true then
       Option.bind ((if ((((!r5.1) : Bool) == false) && (((decide ((t4.2.1 : Int) > (0 : Int))) : Bool) == true)) = true then F_spec_Less k ((List.getD t4.1 (Int.toNat (IntKind.i64.wrap (t4.2.1 - (1 : Int)))) tLabel.dflt).1, (List.getD t4.1 (Int.toNat t4.2.1) tLabel.dflt).1, ()) else some (false, ()))) fun r6 =>
       if (if (!r5.1) = true then true else if (decide ((t4.2.1 : Int) > (0 : Int))) = true then !r6.1 else false) = true then
        some (false, ())
       else
        G3 (t4.1, IntKind.i64.wrap (t4.2.1 + (1 : Int)), ())
      else
       none
     else
      none
    else
     none
   else
    J1 (t4.1, ())) (x.1, (0 : Int), ())) (fun (t2 : List DLabel × Unit) =>
  some (decide ((((List.length t2.1 : Nat) : Int) : Int) ≤ (4 : Int)), ()))
def F_spec_AlarmOk (k : Nat) (x : DAlarm × Unit) : Option (Bool × Unit) :=
 Option.bind (F_spec_SetOk k (x.1.1, ())) fun r1 =>
 Option.bind ((if (((if r1.1 = true then decide ((((List.length x.1.1 : Nat) : Int) : Int) > (0 : Int)) else false) : Bool) == true) = true then F_spec_l1In k (x.1.2.1, (0 : Int), (99999 : Int), ()) else some (false, ()))) fun r2 =>
 Option.bind ((if (((if (if r1.1 = true then decide ((((List.length x.1.1 : Nat) : Int) : Int) > (0 : Int)) else false) = true then r2.1 else false) : Bool) == true) = true then F_spec_l1In k (x.1.2.2.1, x.1.2.1, (99999 : Int), ()) else some (false, ()))) fun r3 =>
 Option.bind ((if (((if (if (if r1.1 = true then decide ((((List.length x.1.1 : Nat) : Int) : Int) > (0 : Int)) else false) = true then r2.1 else false) = true then r3.1 else false) : Bool) == true) = true then F_spec_PlainOk k (x.1.2.2.2, ()) else some (false, ()))) fun r4 =>
 some (if (if (if (if r1.1 = true then decide ((((List.length x.1.1 : Nat) : Int) : Int) > (0 : Int)) else false) = true then r2.1 else false) = true then r3.1 else false) = true then r4.1 else false, ())
def F_spec_GroupOk (k : Nat) (x : DGroup × List ByteArray × Unit) : Option (Bool × Unit) :=
 joinC (fun J1 =>
  loopN k (fun G3 (t4 : List ByteArray × DGroup × Int × Unit) =>
   if (decide ((t4.2.2.1 : Int) < ((List.length t4.2.1.2.2.2.2 : Nat) : Int))) = true then
    if (decide (0 ≤ t4.2.2.1 ∧ t4.2.2.1 < ((List.length t4.2.1.2.2.2.2 : Nat) : Int))) = true then
     Option.bind (F_spec_AlarmOk k (List.getD t4.2.1.2.2.2.2 (Int.toNat t4.2.2.1) tAlarm.dflt, ())) fun r5 =>
     if (!((((!r5.1) : Bool) == false) && (((decide ((t4.2.2.1 : Int) > (0 : Int))) : Bool) == true)) || (decide (0 ≤ (IntKind.i64.wrap (t4.2.2.1 - (1 : Int))) ∧ (IntKind.i64.wrap (t4.2.2.1 - (1 : Int))) < ((List.length t4.2.1.2.2.2.2 : Nat) : Int)))) = true then
      if (!((((!r5.1) : Bool) == false) && (((decide ((t4.2.2.1 : Int) > (0 : Int))) : Bool) == true)) || (decide (0 ≤ t4.2.2.1 ∧ t4.2.2.1 < ((List.length t4.2.1.2.2.2.2 : Nat) : Int)))) = true then
       Option.bind ((if ((((!r5.1) : Bool) == false) && (((decide ((t4.2.2.1 : Int) > (0 : Int))) : Bool) == true)) = true then F_spec_SetLess k ((List.getD t4.2.1.2.2.2.2 (Int.toNat (IntKind.i64.wrap (t4.2.2.1 - (1 : Int)))) tAlarm.dflt).1, (List.getD t4.2.1.2.2.2.2 (Int.toNat t4.2.2.1) tAlarm.dflt).1, ()) else some (false, ()))) fun r6 =>
       if (!(((if (!r5.1) = true then true else if (decide ((t4.2.2.1 : Int) > (0 : Int))) = true then !r6.1 else false) : Bool) == false) || (decide (0 ≤ t4.2.2.1 ∧ t4.2.2.1 < ((List.length t4.2.1.2.2.2.2 : Nat) : Int)))) = true then
        Option.bind ((if (((if (!r5.1) = true then true else if (decide ((t4.2.2.1 : Int) > (0 : Int))) = true then !r6.1 else false) : Bool) == false) = true then F_spec_KeyOf k (List.getD t4.2.1.2.2.2.2 (Int.toNat t4.2.2.1) tAlarm.dflt, t4.1, ()) else some (([] : List DLabel), ()))) fun r7 =>
        Option.bind ((if (((if (!r5.1) = true then true else if (decide ((t4.2.2.1 : Int) > (0 : Int))) = true then !r6.1 else false) : Bool) == false) = true then F_spec_SameSet k (r7.1, t4.2.1.2.1, ()) else some (false, ()))) fun r8 =>
        if (if (if (!r5.1) = true then true else if (decide ((t4.2.2.1 : Int) > (0 : Int))) = true then !r6.1 else false) = true then true else !r8.1) = true then
         some (false, ())
        else
         G3 (t4.1, t4.2.1, IntKind.i64.wrap (t4.2.2.1 + (1 : Int)), ())
       else
        none
      else
       none
     else
      none
    else
     none
   else
    J1 (t4.2.1, ())) (x.2.1, x.1, (0 : Int), ())) (fun (t2 : DGroup × Unit) =>
  Option.bind ((if (((decide ((t2.1.1 : Int) ≥ (0 : Int))) : Bool) == true) = true then F_spec_SetOk k (t2.1.2.1, ()) else some (false, ()))) fun r9 =>
  Option.bind ((if (((if (decide ((t2.1.1 : Int) ≥ (0 : Int))) = true then r9.1 else false) : Bool) == true) = true then F_spec_l1In k (t2.1.2.2.1, (0 : Int), (99999 : Int), ()) else some (false, ()))) fun r10 =>
  Option.bind ((if ((((if (if (decide ((t2.1.1 : Int) ≥ (0 : Int))) = true then r9.1 else false) = true then r10.1 else false) : Bool) == true) && ((((t2.1.2.2.2.1 : Int) == (-1 : Int)) : Bool) == false)) = true then F_spec_l1In k (t2.1.2.2.2.1, t2.1.2.2.1, (99999 : Int), ()) else some (false, ()))) fun r11 =>
  some (if (if (if (if (decide ((t2.1.1 : Int) ≥ (0 : Int))) = true then r9.1 else false) = true then r10.1 else false) = true then if ((t2.1.2.2.2.1 : Int) == (-1 : Int)) = true then true else r11.1 else false) = true then decide ((((List.length t2.1.2.2.2.2 : Nat) : Int) : Int) > (0 : Int)) else false, ()))
def F_spec_GroupsOk (k : Nat) (x : List DGroup × List ByteArray × Unit) : Option (Bool × Unit) :=
 joinC (fun J1 =>
  loopN k (fun G3 (t4 : List DGroup × List ByteArray × Int × Unit) =>
   if (decide ((t4.2.2.1 : Int) < ((List.length t4.1 : Nat) : Int))) = true then
    if (decide (0 ≤ t4.2.2.1 ∧ t4.2.2.1 < ((List.length t4.1 : Nat) : Int))) = true then
     Option.bind (F_spec_GroupOk k (List.getD t4.1 (Int.toNat t4.2.2.1) tGroup.dflt, t4.2.1, ())) fun r5 =>
     if (!((((!r5.1) : Bool) == false) && (((decide ((t4.2.2.1 : Int) > (0 : Int))) : Bool) == true)) || (decide (0 ≤ (IntKind.i64.wrap (t4.2.2.1 - (1 : Int))) ∧ (IntKind.i64.wrap (t4.2.2.1 - (1 : Int))) < ((List.length t4.1 : Nat) : Int)))) = true then
      if (!((((!r5.1) : Bool) == false) && (((decide ((t4.2.2.1 : Int) > (0 : Int))) : Bool) == true)) || (decide (0 ≤ t4.2.2.1 ∧ t4.2.2.1 < ((List.length t4.1 : Nat) : Int)))) = true then
       if (if (!r5.1) = true then true else if (decide ((t4.2.2.1 : Int) > (0 : Int))) = true then decide ((((List.getD t4.1 (Int.toNat (IntKind.i64.wrap (t4.2.2.1 - (1 : Int)))) tGroup.dflt).1) : Int) ≥ ((List.getD t4.1 (Int.toNat t4.2.2.1) tGroup.dflt).1)) else false) = true then
        some (false, ())
       else
        loopN k (fun G6 (t7 : List DGroup × List ByteArray × Int × Int × Unit) =>
         if (decide ((t7.2.2.2.1 : Int) < t7.2.2.1)) = true then
          if (decide (0 ≤ t7.2.2.2.1 ∧ t7.2.2.2.1 < ((List.length t7.1 : Nat) : Int))) = true then
           if (decide (0 ≤ t7.2.2.1 ∧ t7.2.2.1 < ((List.length t7.1 : Nat) : Int))) = true then
            Option.bind (F_spec_SameSet k (((List.getD t7.1 (Int.toNat t7.2.2.2.1) tGroup.dflt).2).1, ((List.getD t7.1 (Int.toNat t7.2.2.1) tGroup.dflt).2).1, ())) fun r8 =>
            if r8.1 = true then
             some (false, ())
            else
             G6 (t7.1, t7.2.1, t7.2.2.1, IntKind.i64.wrap (t7.2.2.2.1 + (1 : Int)), ())
           else
            none
          else
           none
         else
          G3 (t7.1, t7.2.1, IntKind.i64.wrap (t7.2.2.1 + (1 : Int)), ())) (t4.1, t4.2.1, t4.2.2.1, (0 : Int), ())
      else
       none
     else
      none
    else
     none
   else
    J1 (t4.1, ())) (x.1, x.2.1, (0 : Int), ())) (fun (t2 : List DGroup × Unit) =>
  some (decide ((((List.length t2.1 : Nat) : Int) : Int) ≤ (12 : Int)), ()))
def F_impl_MemberOf (k : Nat) (x : List DGroup × List DLabel × Unit) : Option (Int × Unit) :=
 loopN k (fun G1 (t2 : List DLabel × List DGroup × Int × Int × Unit) =>
  if (decide ((t2.2.2.2.1 : Int) < t2.2.2.1)) = true then
   if (decide (0 ≤ t2.2.2.2.1 ∧ t2.2.2.2.1 < ((List.length t2.2.1 : Nat) : Int))) = true then
    Option.bind (F_impl_labelsAt k (((((List.getD t2.2.1 (Int.toNat t2.2.2.2.1) tGroup.dflt).2).2).2).2, t2.1, ())) fun r3 =>
    if (decide ((r3.1 : Int) ≥ (0 : Int))) = true then
     some ((List.getD t2.2.1 (Int.toNat t2.2.2.2.1) tGroup.dflt).1, ())
    else
     G1 (t2.1, t2.2.1, t2.2.2.1, IntKind.i64.wrap (t2.2.2.2.1 + (1 : Int)), ())
   else
    none
  else
   some ((-1 : Int), ())) (x.2.1, x.1, ((List.length x.1 : Nat) : Int), (0 : Int), ())
def F_spec_MemberOf (k : Nat) (x : List DGroup × List DLabel × Unit) : Option (Int × Unit) :=
 loopN k (fun G1 (t2 : List DGroup × List DLabel × Int × Unit) =>
  if (decide ((t2.2.2.1 : Int) < ((List.length t2.1 : Nat) : Int))) = true then
   loopN k (fun G3 (t4 : List DGroup × List DLabel × Int × Int × Unit) =>
    if (decide (0 ≤ t4.2.2.1 ∧ t4.2.2.1 < ((List.length t4.1 : Nat) : Int))) = true then
     if (decide ((t4.2.2.2.1 : Int) < ((List.length (((((List.getD t4.1 (Int.toNat t4.2.2.1) tGroup.dflt).2).2).2).2) : Nat) : Int))) = true then
      if (decide (0 ≤ t4.2.2.1 ∧ t4.2.2.1 < ((List.length t4.1 : Nat) : Int))) = true then
       if (decide (0 ≤ t4.2.2.2.1 ∧ t4.2.2.2.1 < ((List.length (((((List.getD t4.1 (Int.toNat t4.2.2.1) tGroup.dflt).2).2).2).2) : Nat) : Int))) = true then
        Option.bind (F_spec_SameSet k ((List.getD (((((List.getD t4.1 (Int.toNat t4.2.2.1) tGroup.dflt).2).2).2).2) (Int.toNat t4.2.2.2.1) tAlarm.dflt).1, t4.2.1, ())) fun r5 =>
        if r5.1 = true then
         if (decide (0 ≤ t4.2.2.1 ∧ t4.2.2.1 < ((List.length t4.1 : Nat) : Int))) = true then
          some ((List.getD t4.1 (Int.toNat t4.2.2.1) tGroup.dflt).1, ())
         else
          none
        else
         G3 (t4.1, t4.2.1, t4.2.2.1, IntKind.i64.wrap (t4.2.2.2.1 + (1 : Int)), ())
       else
        none
      else
       none
     else
      G1 (t4.1, t4.2.1, IntKind.i64.wrap (t4.2.2.1 + (1 : Int)), ())
    else
     none) (t2.1, t2.2.1, t2.2.2.1, (0 : Int), ())
  else
   some ((-1 : Int), ())) (x.1, x.2.1, (0 : Int), ())
def F_laws_FnGroups (k : Nat) (x : List Int × Unit) : Option (Bool × Unit) :=
 Option.bind (F_laws_big k (x.1, ())) fun r1 =>
 if r1.1 = true then
  some (true, ())
 else
  Option.bind (F_spec_DrawJoinAll k (x.1, ())) fun r2 =>
  Option.bind (F_impl_JoinAll k (r2.1, r2.2.1, r2.2.2.1, r2.2.2.2.1, r2.2.2.2.2.1, ())) fun r3 =>
  Option.bind (F_spec_JoinAll k (r2.1, r2.2.1, r2.2.2.1, r2.2.2.2.1, r2.2.2.2.2.1, ())) fun r4 =>
  Option.bind (F_spec_DrawFlushAt k (x.1, ())) fun r5 =>
  Option.bind (F_impl_FlushAt k (r5.1, r5.2.1, r5.2.2.1, ())) fun r6 =>
  Option.bind (F_spec_FlushAt k (r5.1, r5.2.1, r5.2.2.1, ())) fun r7 =>
  Option.bind (F_spec_DrawGroupsOk k (x.1, ())) fun r8 =>
  Option.bind (F_spec_DrawGroupOf k (x.1, ())) fun r9 =>
  Option.bind (F_spec_DrawGroupAt k (x.1, ())) fun r10 =>
  Option.bind (F_spec_DrawMemberOf k (x.1, ())) fun r11 =>
  Option.bind (F_laws_sameGroups k (r3.1, r4.1, ())) fun r12 =>
  Option.bind ((if (((if (!r12.1) = true then true else !((r3.2.1 : Bool) == r4.2.1)) : Bool) == false) = true then F_laws_sameGroups k (r6.1, r7.1, ()) else some (false, ()))) fun r13 =>
  Option.bind ((if (((if (if (!r12.1) = true then true else !((r3.2.1 : Bool) == r4.2.1)) = true then true else !r13.1) : Bool) == false) = true then F_impl_SameBatch k (r6.2.1, r7.2.1, ()) else some (false, ()))) fun r14 =>
  Option.bind ((if (((if (if (if (if (!r12.1) = true then true else !((r3.2.1 : Bool) == r4.2.1)) = true then true else !r13.1) = true then true else !r14.1) = true then true else !((r6.2.2.1 : Bool) == r7.2.2.1)) : Bool) == false) = true then F_impl_GroupsOk k (r8.1, r8.2.1, ()) else some (false, ()))) fun r15 =>
  Option.bind ((if (((if (if (if (if (!r12.1) = true then true else !((r3.2.1 : Bool) == r4.2.1)) = true then true else !r13.1) = true then true else !r14.1) = true then true else !((r6.2.2.1 : Bool) == r7.2.2.1)) : Bool) == false) = true then F_spec_GroupsOk k (r8.1, r8.2.1, ()) else some (false, ()))) fun r16 =>
  Option.bind ((if (((if (if (if (if (if (!r12.1) = true then true else !((r3.2.1 : Bool) == r4.2.1)) = true then true else !r13.1) = true then true else !r14.1) = true then true else !((r6.2.2.1 : Bool) == r7.2.2.1)) = true then true else !((r15.1 : Bool) == r16.1)) : Bool) == false) = true then F_impl_GroupOf k (r9.1, r9.2.1, ()) else some (0, ()))) fun r17 =>
  Option.bind ((if (((if (if (if (if (if (!r12.1) = true then true else !((r3.2.1 : Bool) == r4.2.1)) = true then true else !r13.1) = true then true else !r14.1) = true then true else !((r6.2.2.1 : Bool) == r7.2.2.1)) = true then true else !((r15.1 : Bool) == r16.1)) : Bool) == false) = true then F_spec_GroupOf k (r9.1, r9.2.1, ()) else some (0, ()))) fun r18 =>
  Option.bind ((if (((if (if (if (if (if (if (!r12.1) = true then true else !((r3.2.1 : Bool) == r4.2.1)) = true then true else !r13.1) = true then true else !r14.1) = true then true else !((r6.2.2.1 : Bool) == r7.2.2.1)) = true then true else !((r15.1 : Bool) == r16.1)) = true then true else (r17.1 : Int) != r18.1) : Bool) == false) = true then F_impl_GroupAt k (r10.1, r10.2.1, ()) else some (0, ()))) fun r19 =>
  Option.bind ((if (((if (if (if (if (if (if (!r12.1) = true then true else !((r3.2.1 : Bool) == r4.2.1)) = true then true else !r13.1) = true then true else !r14.1) = true then true else !((r6.2.2.1 : Bool) == r7.2.2.1)) = true then true else !((r15.1 : Bool) == r16.1)) = true then true else (r17.1 : Int) != r18.1) : Bool) == false) = true then F_spec_GroupAt k (r10.1, r10.2.1, ()) else some (0, ()))) fun r20 =>
  Option.bind ((if (((if (if (if (if (if (if (if (!r12.1) = true then true else !((r3.2.1 : Bool) == r4.2.1)) = true then true else !r13.1) = true then true else !r14.1) = true then true else !((r6.2.2.1 : Bool) == r7.2.2.1)) = true then true else !((r15.1 : Bool) == r16.1)) = true then true else (r17.1 : Int) != r18.1) = true then true else (r19.1 : Int) != r20.1) : Bool) == false) = true then F_impl_MemberOf k (r11.1, r11.2.1, ()) else some (0, ()))) fun r21 =>
  Option.bind ((if (((if (if (if (if (if (if (if (!r12.1) = true then true else !((r3.2.1 : Bool) == r4.2.1)) = true then true else !r13.1) = true then true else !r14.1) = true then true else !((r6.2.2.1 : Bool) == r7.2.2.1)) = true then true else !((r15.1 : Bool) == r16.1)) = true then true else (r17.1 : Int) != r18.1) = true then true else (r19.1 : Int) != r20.1) : Bool) == false) = true then F_spec_MemberOf k (r11.1, r11.2.1, ()) else some (0, ()))) fun r22 =>
  if (if (if (if (if (if (if (if (if (!r12.1) = true then true else !((r3.2.1 : Bool) == r4.2.1)) = true then true else !r13.1) = true then true else !r14.1) = true then true else !((r6.2.2.1 : Bool) == r7.2.2.1)) = true then true else !((r15.1 : Bool) == r16.1)) = true then true else (r17.1 : Int) != r18.1) = true then true else (r19.1 : Int) != r20.1) = true then true else (r21.1 : Int) != r22.1) = true then
   some (false, ())
  else
   Option.bind (F_impl_KeyOf k (r2.2.1, r2.2.2.1, ())) fun r23 =>
   Option.bind (F_impl_GroupOf k (r3.1, r23.1, ())) fun r24 =>
   Option.bind ((if (((decide ((r24.1 : Int) < (0 : Int))) : Bool) == false) = true then F_impl_KeyOf k (r2.2.1, r2.2.2.1, ()) else some (([] : List DLabel), ()))) fun r25 =>
   Option.bind ((if (((decide ((r24.1 : Int) < (0 : Int))) : Bool) == false) = true then F_impl_GroupOf k (r2.1, r25.1, ()) else some (0, ()))) fun r26 =>
   if (!(((((if (decide ((r24.1 : Int) < (0 : Int))) = true then true else !((r3.2.1 : Bool) == (decide ((r26.1 : Int) < (0 : Int))))) : Bool) == false) && ((r3.2.1 : Bool) == true)) && ((((((List.length r3.1 : Nat) : Int) : Int) != (IntKind.i64.wrap (((List.length r2.1 : Nat) : Int) + (1 : Int)))) : Bool) == false)) || (decide (0 ≤ r24.1 ∧ r24.1 < ((List.length r3.1 : Nat) : Int)))) = true then
    if (!(((((if (decide ((r24.1 : Int) < (0 : Int))) = true then true else !((r3.2.1 : Bool) == (decide ((r26.1 : Int) < (0 : Int))))) : Bool) == false) && ((r3.2.1 : Bool) == true)) && (((if ((((List.length r3.1 : Nat) : Int) : Int) != (IntKind.i64.wrap (((List.length r2.1 : Nat) : Int) + (1 : Int)))) = true then true else (((List.getD r3.1 (Int.toNat r24.1) tGroup.dflt).1) : Int) != r2.2.2.2.1) : Bool) == false)) || (decide (0 ≤ r24.1 ∧ r24.1 < ((List.length r3.1 : Nat) : Int)))) = true then
     if (!(((((if (decide ((r24.1 : Int) < (0 : Int))) = true then true else !((r3.2.1 : Bool) == (decide ((r26.1 : Int) < (0 : Int))))) : Bool) == false) && ((r3.2.1 : Bool) == true)) && (((if (if ((((List.length r3.1 : Nat) : Int) : Int) != (IntKind.i64.wrap (((List.length r2.1 : Nat) : Int) + (1 : Int)))) = true then true else (((List.getD r3.1 (Int.toNat r24.1) tGroup.dflt).1) : Int) != r2.2.2.2.1) = true then true else (((((List.getD r3.1 (Int.toNat r24.1) tGroup.dflt).2).2).1) : Int) != r2.2.2.2.2.1) : Bool) == false)) || (decide (0 ≤ r24.1 ∧ r24.1 < ((List.length r3.1 : Nat) : Int)))) = true then
      if (if (if (if (decide ((r24.1 : Int) < (0 : Int))) = true then true else !((r3.2.1 : Bool) == (decide ((r26.1 : Int) < (0 : Int))))) = true then true else if r3.2.1 = true then if (if (if ((((List.length r3.1 : Nat) : Int) : Int) != (IntKind.i64.wrap (((List.length r2.1 : Nat) : Int) + (1 : Int)))) = true then true else (((List.getD r3.1 (Int.toNat r24.1) tGroup.dflt).1) : Int) != r2.2.2.2.1) = true then true else (((((List.getD r3.1 (Int.toNat r24.1) tGroup.dflt).2).2).1) : Int) != r2.2.2.2.2.1) = true then true else (((List.length (((((List.getD r3.1 (Int.toNat r24.1) tGroup.dflt).2).2).2).2) : Nat) : Int) : Int) != (1 : Int) else false) = true then true else if (!r3.2.1) = true then (((List.length r3.1 : Nat) : Int) : Int) != ((List.length r2.1 : Nat) : Int) else false) = true then
       some (false, ())
      else
       Option.bind ((if (((!r6.2.2.1) : Bool) == true) = true then F_laws_sameGroups k (r6.1, r5.1, ()) else some (false, ()))) fun r27 =>
       some (if (if (!r6.2.2.1) = true then r27.1 else false) = true then true else if (if (if r6.2.2.1 = true then (r6.2.1.1 : Int) == r5.2.1 else false) = true then (r6.2.1.2.2.1 : Int) == r5.2.2.1 else false) = true then if ((((List.length r6.1 : Nat) : Int) : Int) == ((List.length r5.1 : Nat) : Int)) = true then true else (((List.length r6.1 : Nat) : Int) : Int) == (IntKind.i64.wrap (((List.length r5.1 : Nat) : Int) - (1 : Int))) else false, ())
     else
      none
    else
     none
   else
    none
end Vg.Try
