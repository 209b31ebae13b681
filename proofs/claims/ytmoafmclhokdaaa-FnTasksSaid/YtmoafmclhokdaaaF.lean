/- What the functions compute, printed by vgen.py from the evaluator's run. -/
import Derived.Test.YtmoafmclhokdaaaVd
namespace Vg.Try
open Go Vg
set_option linter.unusedVariables false
abbrev tLabel : Ty := (.pair .str .str)
abbrev DLabel : Type := (ByteArray × ByteArray)
abbrev tL1Cur : Ty := (.pair (.sl (.int .u8)) (.pair (.int .i64) (.int .i64)))
abbrev DL1Cur : Type := (List Int × (Int × Int))
abbrev tAlarm : Ty := (.pair (.sl tLabel) (.pair (.int .i64) (.pair (.int .i64) .str)))
abbrev DAlarm : Type := (List DLabel × (Int × (Int × ByteArray)))
abbrev tTask : Ty := (.pair (.int .i64) (.pair (.int .i64) (.pair tAlarm (.pair (.sl tLabel) (.pair (.int .i64) (.pair (.sl (.int .i64)) (.pair (.sl tAlarm) (.pair (.int .i64) (.int .i64)))))))))
abbrev DTask : Type := (Int × (Int × (DAlarm × (List DLabel × (Int × (List Int × (List DAlarm × (Int × Int))))))))
def F_strings_Join (k : Nat) (x : List ByteArray × ByteArray × Unit) : Option (ByteArray × Unit) := joinF x
def F_laws_big (k : Nat) (x : List Int × Unit) : Option (Bool × Unit) :=
 some (decide ((((List.length x.1 : Nat) : Int) : Int) > (1048576 : Int)), ())
def F_spec_l1New (k : Nat) (x : List Int × Unit) : Option (DL1Cur × Unit) :=
 joinC (fun J1 =>
  loopN k (fun G3 (t4 : List Int × Int × Int × Unit) =>
   if (if (decide ((t4.2.2.1 : Int) < ((List.length t4.1 : Nat) : Int))) = true then decide ((t4.2.2.1 : Int) < (4000 : Int)) else false) = true then
    if (decide (0 ≤ t4.2.2.1 ∧ t4.2.2.1 < ((List.length t4.1 : Nat) : Int))) = true then
     G3 (t4.1, bits (fun _ => (· &&& ·)) .i64 (IntKind.i64.wrap ((IntKind.i64.wrap ((IntKind.i64.wrap (t4.2.1 * (137 : Int))) + (IntKind.i64.wrap (List.getD t4.1 (Int.toNat t4.2.2.1) 0)))) + (11 : Int))) (1073741823 : Int), IntKind.i64.wrap (t4.2.2.1 + (1 : Int)), ())
    else
     none
   else
    J1 (t4.1, t4.2.1, ())) (x.1, IntKind.i64.wrap ((140873 : Int) + ((List.length x.1 : Nat) : Int)), (0 : Int), ())) (fun (t2 : List Int × Int × Unit) =>
  some ((t2.1, 0, t2.2.1), ()))
def F_spec_l1Byte (k : Nat) (x : DL1Cur × Unit) : Option (Int × DL1Cur × Unit) :=
 if (decide (0 ≤ (33 : Int))) = true then
  if (decide (0 ≤ (47 : Int))) = true then
   if (decide ((x.1.2.1 : Int) < ((List.length x.1.1 : Nat) : Int))) = true then
    if (decide (0 ≤ x.1.2.1 ∧ x.1.2.1 < ((List.length x.1.1 : Nat) : Int))) = true then
     some (bits (fun _ => (· &&& ·)) .i64 (IntKind.i64.wrap ((bits (fun _ => (· &&& ·)) .i64 (bits (fun _ => (· ^^^ ·)) .i64 (Int.fdiv (IntKind.i64.wrap ((IntKind.i64.wrap (x.1.2.2 * (6364136223846793005 : Int))) + (1442695040888963407 : Int))) (2 ^ (min (Int.toNat (33 : Int)) IntKind.i64.bits))) (Int.fdiv (IntKind.i64.wrap ((IntKind.i64.wrap (x.1.2.2 * (6364136223846793005 : Int))) + (1442695040888963407 : Int))) (2 ^ (min (Int.toNat (47 : Int)) IntKind.i64.bits)))) (255 : Int)) + (IntKind.i64.wrap (List.getD x.1.1 (Int.toNat x.1.2.1) 0)))) (255 : Int), (x.1.1, IntKind.i64.wrap (x.1.2.1 + (1 : Int)), IntKind.i64.wrap ((IntKind.i64.wrap (x.1.2.2 * (6364136223846793005 : Int))) + (1442695040888963407 : Int))), ())
    else
     none
   else
    some (bits (fun _ => (· &&& ·)) .i64 (bits (fun _ => (· ^^^ ·)) .i64 (Int.fdiv (IntKind.i64.wrap ((IntKind.i64.wrap (x.1.2.2 * (6364136223846793005 : Int))) + (1442695040888963407 : Int))) (2 ^ (min (Int.toNat (33 : Int)) IntKind.i64.bits))) (Int.fdiv (IntKind.i64.wrap ((IntKind.i64.wrap (x.1.2.2 * (6364136223846793005 : Int))) + (1442695040888963407 : Int))) (2 ^ (min (Int.toNat (47 : Int)) IntKind.i64.bits)))) (255 : Int), (x.1.1, x.1.2.1, IntKind.i64.wrap ((IntKind.i64.wrap (x.1.2.2 * (6364136223846793005 : Int))) + (1442695040888963407 : Int))), ())
  else
   none
 else
  none
def F_spec_l1Below (k : Nat) (x : DL1Cur × Int × Unit) : Option (Int × DL1Cur × Unit) :=
 if (decide ((x.2.1 : Int) ≤ (0 : Int))) = true then
  some ((0 : Int), x.1, ())
 else
  if (decide ((x.2.1 : Int) ≤ (256 : Int))) = true then
   Option.bind (F_spec_l1Byte k (x.1, ())) fun r1 =>
   if (decide (x.2.1 ≠ 0)) = true then
    some (Int.tmod r1.1 x.2.1, r1.2.1, ())
   else
    none
  else
   Option.bind (F_spec_l1Byte k (x.1, ())) fun r2 =>
   Option.bind (F_spec_l1Byte k (r2.2.1, ())) fun r3 =>
   Option.bind (F_spec_l1Byte k (r3.2.1, ())) fun r4 =>
   if (decide (x.2.1 ≠ 0)) = true then
    some (Int.tmod (IntKind.i64.wrap ((IntKind.i64.wrap ((IntKind.i64.wrap (r2.1 * (65536 : Int))) + (IntKind.i64.wrap (r3.1 * (256 : Int))))) + r4.1)) x.2.1, r4.2.1, ())
   else
    none
def F_spec_l1Str (k : Nat) (x : DL1Cur × List ByteArray × Unit) : Option (ByteArray × DL1Cur × Unit) :=
 Option.bind (F_spec_l1Below k (x.1, ((List.length x.2.1 : Nat) : Int), ())) fun r1 =>
 if (decide (0 ≤ r1.1 ∧ r1.1 < ((List.length x.2.1 : Nat) : Int))) = true then
  some (List.getD x.2.1 (Int.toNat r1.1) ByteArray.empty, r1.2.1, ())
 else
  none
def F_spec_l1Once (k : Nat) (x : DL1Cur × Int × Unit) : Option (Bool × DL1Cur × Unit) :=
 Option.bind (F_spec_l1Below k (x.1, x.2.1, ())) fun r1 =>
 some ((r1.1 : Int) == (0 : Int), r1.2.1, ())
def F_spec_l2Draw (k : Nat) (x : DL1Cur × Unit) : Option (List DLabel × DL1Cur × Unit) :=
 Option.bind (F_spec_l1Str k (x.1, ([(⟨#[97]⟩ : ByteArray), (⟨#[98]⟩ : ByteArray), (⟨#[99]⟩ : ByteArray)] : List ByteArray), ())) fun r1 =>
 loopN k (fun G2 (t3 : DL1Cur × List DLabel × List ByteArray × Int × Int × Unit) =>
  if (decide ((t3.2.2.2.2.1 : Int) < t3.2.2.2.1)) = true then
   if (decide (0 ≤ t3.2.2.2.2.1 ∧ t3.2.2.2.2.1 < ((List.length t3.2.2.1 : Nat) : Int))) = true then
    Option.bind (F_spec_l1Once k (t3.1, (4 : Int), ())) fun r4 =>
    if r4.1 = true then
     Option.bind (F_spec_l1Str k (r4.2.1, ([(⟨#[49]⟩ : ByteArray), (⟨#[50]⟩ : ByteArray)] : List ByteArray), ())) fun r5 =>
     if (decide (List.length t3.2.1 + List.length ([(List.getD t3.2.2.1 (Int.toNat t3.2.2.2.2.1) ByteArray.empty, r5.1)] : List DLabel) < 4294967296)) = true then
      G2 (r5.2.1, t3.2.1 ++ ([(List.getD t3.2.2.1 (Int.toNat t3.2.2.2.2.1) ByteArray.empty, r5.1)] : List DLabel), t3.2.2.1, t3.2.2.2.1, IntKind.i64.wrap (t3.2.2.2.2.1 + (1 : Int)), ())
     else
      none
    else
     G2 (r4.2.1, t3.2.1, t3.2.2.1, t3.2.2.2.1, IntKind.i64.wrap (t3.2.2.2.2.1 + (1 : Int)), ())
   else
    none
  else
   some (t3.2.1, t3.1, ())) (r1.2.1, ([((⟨#[97, 112, 112]⟩ : ByteArray), r1.1)] : List DLabel), ([(⟨#[104, 111, 115, 116]⟩ : ByteArray), (⟨#[115, 101, 118]⟩ : ByteArray), (⟨#[122, 111, 110, 101]⟩ : ByteArray)] : List ByteArray), ((List.length ([(⟨#[104, 111, 115, 116]⟩ : ByteArray), (⟨#[115, 101, 118]⟩ : ByteArray), (⟨#[122, 111, 110, 101]⟩ : ByteArray)] : List ByteArray) : Nat) : Int), (0 : Int), ())
def F_spec_l1Plain (k : Nat) (x : DL1Cur × Unit) : Option (ByteArray × DL1Cur × Unit) :=
 Option.bind (F_spec_l1Str k (x.1, ([(⟨#[97]⟩ : ByteArray), (⟨#[98]⟩ : ByteArray), (⟨#[120, 32, 121]⟩ : ByteArray), (⟨#[]⟩ : ByteArray), (⟨#[99, 114, 105, 116]⟩ : ByteArray), (⟨#[125, 45]⟩ : ByteArray)] : List ByteArray), ())) fun r1 =>
 some (r1.1, r1.2.1, ())
def F_spec_l1Int (k : Nat) (x : DL1Cur × List Int × Unit) : Option (Int × DL1Cur × Unit) :=
 Option.bind (F_spec_l1Below k (x.1, ((List.length x.2.1 : Nat) : Int), ())) fun r1 =>
 if (decide (0 ≤ r1.1 ∧ r1.1 < ((List.length x.2.1 : Nat) : Int))) = true then
  some (List.getD x.2.1 (Int.toNat r1.1) 0, r1.2.1, ())
 else
  none
def F_spec_l4Draw (k : Nat) (x : DL1Cur × Unit) : Option (DAlarm × DL1Cur × Unit) :=
 Option.bind (F_spec_l2Draw k (x.1, ())) fun r1 =>
 Option.bind (F_spec_l1Below k (r1.2.1, (8 : Int), ())) fun r2 =>
 Option.bind (F_spec_l1Plain k (r2.2.1, ())) fun r3 =>
 Option.bind (F_spec_l1Int k (r3.2.1, ([(0 : Int), (2 : Int), (5 : Int), (20 : Int), (60 : Int)] : List Int), ())) fun r4 =>
 some ((r1.1, r2.1, IntKind.i64.wrap (r2.1 + r4.1), r3.1), r4.2.1, ())
def F_spec_l5List (k : Nat) (x : DL1Cur × Unit) : Option (List DAlarm × DL1Cur × Unit) :=
 Option.bind (F_spec_l1Below k (x.1, (6 : Int), ())) fun r1 =>
 loopN k (fun G2 (t3 : DL1Cur × List DAlarm × Int × Unit) =>
  if (decide ((t3.2.2.1 : Int) > (0 : Int))) = true then
   Option.bind (F_spec_l4Draw k (t3.1, ())) fun r4 =>
   if (decide (List.length t3.2.1 + List.length ([r4.1] : List DAlarm) < 4294967296)) = true then
    G2 (r4.2.1, t3.2.1 ++ ([r4.1] : List DAlarm), IntKind.i64.wrap (t3.2.2.1 - (1 : Int)), ())
   else
    none
  else
   some (t3.2.1, t3.1, ())) (r1.2.1, ([] : List DAlarm), r1.1, ())
def F_spec_l1Names (k : Nat) (x : DL1Cur × Unit) : Option (ByteArray × DL1Cur × Unit) :=
 Option.bind (F_spec_l1Str k (x.1, ([(⟨#[97, 112, 112]⟩ : ByteArray), (⟨#[104, 111, 115, 116]⟩ : ByteArray), (⟨#[115, 101, 118]⟩ : ByteArray), (⟨#[122, 111, 110, 101]⟩ : ByteArray)] : List ByteArray), ())) fun r1 =>
 some (r1.1, r1.2.1, ())
def F_spec_l1AnyName (k : Nat) (x : DL1Cur × Unit) : Option (ByteArray × DL1Cur × Unit) :=
 Option.bind (F_spec_l1Once k (x.1, (2 : Int), ())) fun r1 =>
 if r1.1 = true then
  Option.bind (F_spec_l1Names k (r1.2.1, ())) fun r2 =>
  some (r2.1, r2.2.1, ())
 else
  Option.bind (F_spec_l1Str k (r1.2.1, ([(⟨#[]⟩ : ByteArray), (⟨#[65]⟩ : ByteArray), (⟨#[110, 105, 110, 101, 99, 104, 97, 114, 115]⟩ : ByteArray), (⟨#[101, 105, 103, 104, 116, 97, 98, 99]⟩ : ByteArray), (⟨#[97, 32, 98]⟩ : ByteArray), (⟨#[97, 49]⟩ : ByteArray)] : List ByteArray), ())) fun r3 =>
  some (r3.1, r3.2.1, ())
def F_spec_l1AnyPlain (k : Nat) (x : DL1Cur × Unit) : Option (ByteArray × DL1Cur × Unit) :=
 Option.bind (F_spec_l1Once k (x.1, (2 : Int), ())) fun r1 =>
 if r1.1 = true then
  Option.bind (F_spec_l1Plain k (r1.2.1, ())) fun r2 =>
  some (r2.1, r2.2.1, ())
 else
  Option.bind (F_spec_l1Str k (r1.2.1, ([(⟨#[34]⟩ : ByteArray), (⟨#[92]⟩ : ByteArray), (⟨#[127]⟩ : ByteArray), (⟨#[31]⟩ : ByteArray), (⟨#[116, 119, 101, 108, 118, 101, 32, 98, 121, 116, 101, 115]⟩ : ByteArray), (⟨#[116, 104, 105, 114, 116, 101, 101, 110, 98, 121, 116, 101, 115]⟩ : ByteArray), (⟨#[126]⟩ : ByteArray), (⟨#[125]⟩ : ByteArray), (⟨#[44, 32, 98, 61]⟩ : ByteArray), (⟨#[125, 32, 49, 45, 50]⟩ : ByteArray)] : List ByteArray), ())) fun r3 =>
  some (r3.1, r3.2.1, ())
def F_spec_l2Any (k : Nat) (x : DL1Cur × Unit) : Option (List DLabel × DL1Cur × Unit) :=
 Option.bind (F_spec_l2Draw k (x.1, ())) fun r1 =>
 Option.bind (F_spec_l1Below k (r1.2.1, (10 : Int), ())) fun r2 =>
 if ((r2.1 : Int) == (0 : Int)) = true then
  Option.bind (F_spec_l1AnyName k (r2.2.1, ())) fun r3 =>
  Option.bind (F_spec_l1AnyPlain k (r3.2.1, ())) fun r4 =>
  if (decide (List.length r1.1 + List.length ([(r3.1, r4.1)] : List DLabel) < 4294967296)) = true then
   some (r1.1 ++ ([(r3.1, r4.1)] : List DLabel), r4.2.1, ())
  else
   none
 else
  if ((r2.1 : Int) == (1 : Int)) = true then
   if (decide (List.length ([((⟨#[122, 122]⟩ : ByteArray), (⟨#[49]⟩ : ByteArray))] : List DLabel) + List.length r1.1 < 4294967296)) = true then
    some (([((⟨#[122, 122]⟩ : ByteArray), (⟨#[49]⟩ : ByteArray))] : List DLabel) ++ r1.1, r2.2.1, ())
   else
    none
  else
   if ((r2.1 : Int) == (2 : Int)) = true then
    if (decide (0 ≤ (0 : Int) ∧ (0 : Int) < ((List.length r1.1 : Nat) : Int))) = true then
     if (decide (List.length r1.1 + List.length ([List.getD r1.1 (Int.toNat (0 : Int)) tLabel.dflt] : List DLabel) < 4294967296)) = true then
      some (r1.1 ++ ([List.getD r1.1 (Int.toNat (0 : Int)) tLabel.dflt] : List DLabel), r2.2.1, ())
     else
      none
    else
     none
   else
    if ((r2.1 : Int) == (3 : Int)) = true then
     if (decide (List.length r1.1 + List.length ([((⟨#[122, 117]⟩ : ByteArray), ByteArray.empty), ((⟨#[122, 118]⟩ : ByteArray), ByteArray.empty), ((⟨#[122, 119]⟩ : ByteArray), ByteArray.empty), ((⟨#[122, 120]⟩ : ByteArray), ByteArray.empty)] : List DLabel) < 4294967296)) = true then
      some (r1.1 ++ ([((⟨#[122, 117]⟩ : ByteArray), ByteArray.empty), ((⟨#[122, 118]⟩ : ByteArray), ByteArray.empty), ((⟨#[122, 119]⟩ : ByteArray), ByteArray.empty), ((⟨#[122, 120]⟩ : ByteArray), ByteArray.empty)] : List DLabel), r2.2.1, ())
     else
      none
    else
     if ((r2.1 : Int) == (4 : Int)) = true then
      Option.bind (F_spec_l1AnyPlain k (r2.2.1, ())) fun r5 =>
      if (decide (0 ≤ (0 : Int) ∧ (0 : Int) < ((List.length r1.1 : Nat) : Int))) = true then
       some (List.set r1.1 (Int.toNat (0 : Int)) ((List.getD r1.1 (Int.toNat (0 : Int)) tLabel.dflt).1, r5.1), r5.2.1, ())
      else
       none
     else
      if ((r2.1 : Int) == (5 : Int)) = true then
       some (([] : List DLabel), r2.2.1, ())
      else
       some (r1.1, r2.2.1, ())
def F_spec_l1Odd (k : Nat) (x : DL1Cur × Unit) : Option (Int × DL1Cur × Unit) :=
 Option.bind (F_spec_l1Int k (x.1, ([(-1 : Int), (0 : Int), (1 : Int), (2 : Int), (255 : Int), (256 : Int), (65535 : Int), (2147483647 : Int), (2147483648 : Int), (4294967295 : Int), (4294967296 : Int), (-2147483648 : Int), (9223372036854775807 : Int), (-9223372036854775808 : Int)] : List Int), ())) fun r1 =>
 some (r1.1, r1.2.1, ())
def F_spec_l1Raw (k : Nat) (x : DL1Cur × Unit) : Option (Int × DL1Cur × Unit) :=
 Option.bind (F_spec_l1Once k (x.1, (2 : Int), ())) fun r1 =>
 if r1.1 = true then
  Option.bind (F_spec_l1Odd k (r1.2.1, ())) fun r2 =>
  some (r2.1, r2.2.1, ())
 else
  Option.bind (F_spec_l1Int k (r1.2.1, ([(-1 : Int), (0 : Int), (1 : Int), (3 : Int), (99999 : Int), (100000 : Int)] : List Int), ())) fun r3 =>
  some (r3.1, r3.2.1, ())
def F_spec_l4Any (k : Nat) (x : DL1Cur × Unit) : Option (DAlarm × DL1Cur × Unit) :=
 Option.bind (F_spec_l4Draw k (x.1, ())) fun r1 =>
 Option.bind (F_spec_l1Below k (r1.2.1, (12 : Int), ())) fun r2 =>
 if ((r2.1 : Int) == (0 : Int)) = true then
  Option.bind (F_spec_l2Any k (r2.2.1, ())) fun r3 =>
  some ((r3.1, r1.1.2), r3.2.1, ())
 else
  if ((r2.1 : Int) == (1 : Int)) = true then
   Option.bind (F_spec_l1Int k (r2.2.1, ([(-1 : Int), (99999 : Int), (100000 : Int)] : List Int), ())) fun r4 =>
   some ((r1.1.1, r4.1, r1.1.2.2), r4.2.1, ())
  else
   if ((r2.1 : Int) == (2 : Int)) = true then
    Option.bind (F_spec_l1Raw k (r2.2.1, ())) fun r5 =>
    some ((r1.1.1, r1.1.2.1, r5.1, r1.1.2.2.2), r5.2.1, ())
   else
    if ((r2.1 : Int) == (3 : Int)) = true then
     Option.bind (F_spec_l1AnyPlain k (r2.2.1, ())) fun r6 =>
     some ((r1.1.1, r1.1.2.1, r1.1.2.2.1, r6.1), r6.2.1, ())
    else
     some (r1.1, r2.2.1, ())
def F_spec_l14Any (k : Nat) (x : DL1Cur × Unit) : Option (DTask × DL1Cur × Unit) :=
 Option.bind (F_spec_l1Below k (x.1, (7 : Int), ())) fun r1 =>
 Option.bind (F_spec_l1Below k (r1.2.1, (2 : Int), ())) fun r2 =>
 joinC (fun J3 =>
  if ((r1.1 : Int) == (1 : Int)) = true then
   Option.bind (F_spec_l4Draw k (r2.2.1, ())) fun r5 =>
   Option.bind (F_spec_l1Below k (r5.2.1, (3 : Int), ())) fun r6 =>
   J3 (r6.2.1, (0, 0, (([] : List DLabel), 0, 0, ByteArray.empty), ([] : List DLabel), 0, ([] : List Int), ([] : List DAlarm), 0, 0), (r1.1, r6.1, r5.1, ([] : List DLabel), 0, ([] : List Int), ([] : List DAlarm), 0, 0), ())
  else
   if ((r1.1 : Int) == (2 : Int)) = true then
    Option.bind (F_spec_l2Draw k (r2.2.1, ())) fun r7 =>
    J3 (r7.2.1, (0, 0, (([] : List DLabel), 0, 0, ByteArray.empty), ([] : List DLabel), 0, ([] : List Int), ([] : List DAlarm), 0, 0), (r1.1, r2.1, (([] : List DLabel), 0, 0, ByteArray.empty), r7.1, 0, ([] : List Int), ([] : List DAlarm), 0, 0), ())
   else
    if ((r1.1 : Int) == (3 : Int)) = true then
     Option.bind (F_spec_l1Below k (r2.2.1, (3 : Int), ())) fun r8 =>
     joinC (fun J9 =>
      loopN k (fun G11 (t12 : DL1Cur × DTask × DTask × Unit) =>
       if (decide ((((List.length t12.2.2.1.2.2.2.2.2.1 : Nat) : Int) : Int) < t12.2.2.1.2.2.2.2.1)) = true then
        Option.bind (F_spec_l1Below k (t12.1, (4 : Int), ())) fun r13 =>
        if (decide (List.length t12.2.2.1.2.2.2.2.2.1 + List.length ([r13.1] : List Int) < 4294967296)) = true then
         G11 (r13.2.1, t12.2.1, (t12.2.2.1.1, t12.2.2.1.2.1, t12.2.2.1.2.2.1, t12.2.2.1.2.2.2.1, t12.2.2.1.2.2.2.2.1, t12.2.2.1.2.2.2.2.2.1 ++ ([r13.1] : List Int), t12.2.2.1.2.2.2.2.2.2), ())
        else
         none
       else
        J9 (t12.1, t12.2.1, t12.2.2.1, ())) (r8.2.1, (0, 0, (([] : List DLabel), 0, 0, ByteArray.empty), ([] : List DLabel), 0, ([] : List Int), ([] : List DAlarm), 0, 0), (r1.1, r2.1, (([] : List DLabel), 0, 0, ByteArray.empty), ([] : List DLabel), r8.1, ([] : List Int), ([] : List DAlarm), 0, 0), ())) (fun (t10 : DL1Cur × DTask × DTask × Unit) =>
      Option.bind (F_spec_l5List k (t10.1, ())) fun r14 =>
      if (((decide ((t10.2.2.1.2.2.2.2.1 : Int) > (0 : Int))) : Bool) == true) = true then
       Option.bind (F_spec_l1Once k (r14.2.1, (3 : Int), ())) fun r15 =>
       if (if (decide ((t10.2.2.1.2.2.2.2.1 : Int) > (0 : Int))) = true then r15.1 else false) = true then
        J3 (r15.2.1, t10.2.1, (t10.2.2.1.1, (2 : Int), t10.2.2.1.2.2.1, t10.2.2.1.2.2.2.1, t10.2.2.1.2.2.2.2.1, t10.2.2.1.2.2.2.2.2.1, r14.1, t10.2.2.1.2.2.2.2.2.2.2), ())
       else
        J3 (r15.2.1, t10.2.1, (t10.2.2.1.1, t10.2.2.1.2.1, t10.2.2.1.2.2.1, t10.2.2.1.2.2.2.1, t10.2.2.1.2.2.2.2.1, t10.2.2.1.2.2.2.2.2.1, r14.1, t10.2.2.1.2.2.2.2.2.2.2), ())
      else
       if (if (decide ((t10.2.2.1.2.2.2.2.1 : Int) > (0 : Int))) = true then false else false) = true then
        J3 (r14.2.1, t10.2.1, (t10.2.2.1.1, (2 : Int), t10.2.2.1.2.2.1, t10.2.2.1.2.2.2.1, t10.2.2.1.2.2.2.2.1, t10.2.2.1.2.2.2.2.2.1, r14.1, t10.2.2.1.2.2.2.2.2.2.2), ())
       else
        J3 (r14.2.1, t10.2.1, (t10.2.2.1.1, t10.2.2.1.2.1, t10.2.2.1.2.2.1, t10.2.2.1.2.2.2.1, t10.2.2.1.2.2.2.2.1, t10.2.2.1.2.2.2.2.2.1, r14.1, t10.2.2.1.2.2.2.2.2.2.2), ()))
    else
     if ((r1.1 : Int) == (4 : Int)) = true then
      Option.bind (F_spec_l1Below k (r2.2.1, (3 : Int), ())) fun r16 =>
      J3 (r16.2.1, (0, 0, (([] : List DLabel), 0, 0, ByteArray.empty), ([] : List DLabel), 0, ([] : List Int), ([] : List DAlarm), 0, 0), (r1.1, r2.1, (([] : List DLabel), 0, 0, ByteArray.empty), ([] : List DLabel), r16.1, ([] : List Int), ([] : List DAlarm), 0, 0), ())
     else
      if ((r1.1 : Int) == (5 : Int)) = true then
       Option.bind (F_spec_l4Draw k (r2.2.1, ())) fun r17 =>
       J3 (r17.2.1, (0, 0, (([] : List DLabel), 0, 0, ByteArray.empty), ([] : List DLabel), 0, ([] : List Int), ([] : List DAlarm), 0, 0), (r1.1, r2.1, r17.1, ([] : List DLabel), 0, ([] : List Int), ([] : List DAlarm), 0, 0), ())
      else
       if ((r1.1 : Int) == (6 : Int)) = true then
        Option.bind (F_spec_l1Below k (r2.2.1, (4 : Int), ())) fun r18 =>
        J3 (r18.2.1, (0, 0, (([] : List DLabel), 0, 0, ByteArray.empty), ([] : List DLabel), 0, ([] : List Int), ([] : List DAlarm), 0, 0), (r1.1, r2.1, (([] : List DLabel), 0, 0, ByteArray.empty), ([] : List DLabel), 0, ([] : List Int), ([] : List DAlarm), r18.1, 0), ())
       else
        J3 (r2.2.1, (0, 0, (([] : List DLabel), 0, 0, ByteArray.empty), ([] : List DLabel), 0, ([] : List Int), ([] : List DAlarm), 0, 0), (r1.1, (0 : Int), (([] : List DLabel), 0, 0, ByteArray.empty), ([] : List DLabel), 0, ([] : List Int), ([] : List DAlarm), 0, 0), ())) (fun (t4 : DL1Cur × DTask × DTask × Unit) =>
  joinC (fun J19 =>
   if ((t4.2.2.1.1 : Int) != (0 : Int)) = true then
    Option.bind (F_spec_l1Below k (t4.1, (4 : Int), ())) fun r21 =>
    J19 (r21.2.1, t4.2.1, (t4.2.2.1.1, t4.2.2.1.2.1, t4.2.2.1.2.2.1, t4.2.2.1.2.2.2.1, t4.2.2.1.2.2.2.2.1, t4.2.2.1.2.2.2.2.2.1, t4.2.2.1.2.2.2.2.2.2.1, t4.2.2.1.2.2.2.2.2.2.2.1, r21.1), ())
   else
    J19 (t4.1, t4.2.1, t4.2.2.1, ())) (fun (t20 : DL1Cur × DTask × DTask × Unit) =>
   Option.bind (F_spec_l1Below k (t20.1, (20 : Int), ())) fun r22 =>
   if ((r22.1 : Int) == (0 : Int)) = true then
    Option.bind (F_spec_l1Int k (r22.2.1, ([(-1 : Int), (0 : Int), (1 : Int), (3 : Int), (7 : Int)] : List Int), ())) fun r23 =>
    some ((r23.1, t20.2.2.1.2), r23.2.1, ())
   else
    if ((r22.1 : Int) == (1 : Int)) = true then
     Option.bind (F_spec_l1Int k (r22.2.1, ([(-1 : Int), (2 : Int), (3 : Int)] : List Int), ())) fun r24 =>
     some ((t20.2.2.1.1, r24.1, t20.2.2.1.2.2), r24.2.1, ())
    else
     if ((r22.1 : Int) == (2 : Int)) = true then
      Option.bind (F_spec_l4Any k (r22.2.1, ())) fun r25 =>
      some ((t20.2.2.1.1, t20.2.2.1.2.1, r25.1, t20.2.2.1.2.2.2), r25.2.1, ())
     else
      if ((r22.1 : Int) == (3 : Int)) = true then
       Option.bind (F_spec_l2Any k (r22.2.1, ())) fun r26 =>
       some ((t20.2.2.1.1, t20.2.2.1.2.1, t20.2.2.1.2.2.1, r26.1, t20.2.2.1.2.2.2.2), r26.2.1, ())
      else
       if ((r22.1 : Int) == (4 : Int)) = true then
        Option.bind (F_spec_l1Int k (r22.2.1, ([(-1 : Int), (1 : Int), (3 : Int)] : List Int), ())) fun r27 =>
        some ((t20.2.2.1.1, t20.2.2.1.2.1, t20.2.2.1.2.2.1, t20.2.2.1.2.2.2.1, r27.1, t20.2.2.1.2.2.2.2.2), r27.2.1, ())
       else
        if ((r22.1 : Int) == (5 : Int)) = true then
         Option.bind (F_spec_l1Int k (r22.2.1, ([(-1 : Int), (1 : Int)] : List Int), ())) fun r28 =>
         if (decide (List.length t20.2.2.1.2.2.2.2.2.1 + List.length ([r28.1] : List Int) < 4294967296)) = true then
          some ((t20.2.2.1.1, t20.2.2.1.2.1, t20.2.2.1.2.2.1, t20.2.2.1.2.2.2.1, t20.2.2.1.2.2.2.2.1, t20.2.2.1.2.2.2.2.2.1 ++ ([r28.1] : List Int), t20.2.2.1.2.2.2.2.2.2), r28.2.1, ())
         else
          none
        else
         if ((r22.1 : Int) == (6 : Int)) = true then
          Option.bind (F_spec_l4Any k (r22.2.1, ())) fun r29 =>
          if (decide (List.length t20.2.2.1.2.2.2.2.2.2.1 + List.length ([r29.1] : List DAlarm) < 4294967296)) = true then
           some ((t20.2.2.1.1, t20.2.2.1.2.1, t20.2.2.1.2.2.1, t20.2.2.1.2.2.2.1, t20.2.2.1.2.2.2.2.1, t20.2.2.1.2.2.2.2.2.1, t20.2.2.1.2.2.2.2.2.2.1 ++ ([r29.1] : List DAlarm), t20.2.2.1.2.2.2.2.2.2.2), r29.2.1, ())
          else
           none
         else
          if ((r22.1 : Int) == (7 : Int)) = true then
           Option.bind (F_spec_l1Int k (r22.2.1, ([(-1 : Int), (1 : Int)] : List Int), ())) fun r30 =>
           some ((t20.2.2.1.1, t20.2.2.1.2.1, t20.2.2.1.2.2.1, t20.2.2.1.2.2.2.1, t20.2.2.1.2.2.2.2.1, t20.2.2.1.2.2.2.2.2.1, t20.2.2.1.2.2.2.2.2.2.1, r30.1, t20.2.2.1.2.2.2.2.2.2.2.2), r30.2.1, ())
          else
           if ((r22.1 : Int) == (8 : Int)) = true then
            some ((t20.2.2.1.1, t20.2.2.1.2.1, t20.2.2.1.2.2.1, t20.2.2.1.2.2.2.1, t20.2.2.1.2.2.2.2.1, t20.2.2.1.2.2.2.2.2.1, t20.2.2.1.2.2.2.2.2.2.1, t20.2.2.1.2.2.2.2.2.2.2.1, (-1 : Int)), r22.2.1, ())
           else
            some (t20.2.2.1, r22.2.1, ())))
def F_spec_DrawTaskOk (k : Nat) (x : List Int × Unit) : Option (DTask × Int × Unit) :=
 Option.bind (F_spec_l1New k (x.1, ())) fun r1 =>
 Option.bind (F_spec_l14Any k (r1.1, ())) fun r2 =>
 Option.bind (F_spec_l1Below k (r2.2.1, (3 : Int), ())) fun r3 =>
 joinC (fun J4 =>
  if ((r2.1.1 : Int) == (5 : Int)) = true then
   J4 ((0, 0, (([] : List DLabel), 0, 0, ByteArray.empty), ([] : List DLabel), 0, ([] : List Int), ([] : List DAlarm), 0, 0), r2.1, (3 : Int), r3.2.1, ())
  else
   J4 ((0, 0, (([] : List DLabel), 0, 0, ByteArray.empty), ([] : List DLabel), 0, ([] : List Int), ([] : List DAlarm), 0, 0), r2.1, r3.1, r3.2.1, ())) (fun (t5 : DTask × DTask × Int × DL1Cur × Unit) =>
  joinC (fun J6 =>
   if ((t5.2.1.1 : Int) == (6 : Int)) = true then
    J6 (t5.1, t5.2.1, (4 : Int), t5.2.2.2.1, ())
   else
    J6 (t5.1, t5.2.1, t5.2.2.1, t5.2.2.2.1, ())) (fun (t7 : DTask × DTask × Int × DL1Cur × Unit) =>
   Option.bind (F_spec_l1Once k (t7.2.2.2.1, (6 : Int), ())) fun r8 =>
   if r8.1 = true then
    Option.bind (F_spec_l1Below k (r8.2.1, (7 : Int), ())) fun r9 =>
    some (t7.2.1, IntKind.i64.wrap (r9.1 - (1 : Int)), ())
   else
    some (t7.2.1, t7.2.2.1, ())))
def F_spec_DrawHoldsPart (k : Nat) (x : List Int × Unit) : Option (DTask × Int × Unit) :=
 Option.bind (F_spec_l1New k (x.1, ())) fun r1 =>
 Option.bind (F_spec_l14Any k (r1.1, ())) fun r2 =>
 Option.bind (F_spec_l1Below k (r2.2.1, (5 : Int), ())) fun r3 =>
 some (r2.1, IntKind.i64.wrap (r3.1 - (1 : Int)), ())
def F_spec_DrawWantsPart (k : Nat) (x : List Int × Unit) : Option (DTask × Int × Unit) :=
 Option.bind (F_spec_l1New k (x.1, ())) fun r1 =>
 Option.bind (F_spec_l14Any k (r1.1, ())) fun r2 =>
 Option.bind (F_spec_l1Below k (r2.2.1, (5 : Int), ())) fun r3 =>
 some (r2.1, IntKind.i64.wrap (r3.1 - (1 : Int)), ())
def F_spec_DrawHoldsGroups (k : Nat) (x : List Int × Unit) : Option (DTask × Unit) :=
 Option.bind (F_spec_l1New k (x.1, ())) fun r1 =>
 Option.bind (F_spec_l14Any k (r1.1, ())) fun r2 =>
 some (r2.1, ())
def F_spec_DrawWantsGroups (k : Nat) (x : List Int × Unit) : Option (DTask × Unit) :=
 Option.bind (F_spec_l1New k (x.1, ())) fun r1 =>
 Option.bind (F_spec_l14Any k (r1.1, ())) fun r2 =>
 some (r2.1, ())
def F_impl_in (k : Nat) (x : Int × Int × Int × Unit) : Option (Bool × Unit) :=
 some (if (decide ((x.1 : Int) ≥ x.2.1)) = true then decide ((x.1 : Int) ≤ x.2.2.1) else false, ())
def F_impl_NameOk (k : Nat) (x : ByteArray × Unit) : Option (Bool × Unit) :=
 Option.bind (F_impl_in k (((ByteArray.size x.1 : Nat) : Int), (1 : Int), (8 : Int), ())) fun r1 =>
 if (!r1.1) = true then
  some (false, ())
 else
  loopN k (fun G2 (t3 : ByteArray × Int × Unit) =>
   if (decide ((t3.2.1 : Int) < ((ByteArray.size t3.1 : Nat) : Int))) = true then
    if (decide (0 ≤ t3.2.1 ∧ t3.2.1 < ((ByteArray.size t3.1 : Nat) : Int))) = true then
     if (!(((decide (((bt t3.1 t3.2.1) : Int) < (97 : Int))) : Bool) == false) || (decide (0 ≤ t3.2.1 ∧ t3.2.1 < ((ByteArray.size t3.1 : Nat) : Int)))) = true then
      if (if (decide (((bt t3.1 t3.2.1) : Int) < (97 : Int))) = true then true else decide (((bt t3.1 t3.2.1) : Int) > (122 : Int))) = true then
       some (false, ())
      else
       G2 (t3.1, IntKind.i64.wrap (t3.2.1 + (1 : Int)), ())
     else
      none
    else
     none
   else
    some (true, ())) (x.1, (0 : Int), ())
def F_impl_PlainOk (k : Nat) (x : ByteArray × Unit) : Option (Bool × Unit) :=
 if (decide ((((ByteArray.size x.1 : Nat) : Int) : Int) > (12 : Int))) = true then
  some (false, ())
 else
  loopN k (fun G1 (t2 : ByteArray × Int × Unit) =>
   if (decide ((t2.2.1 : Int) < ((ByteArray.size t2.1 : Nat) : Int))) = true then
    if (decide (0 ≤ t2.2.1 ∧ t2.2.1 < ((ByteArray.size t2.1 : Nat) : Int))) = true then
     if (if (if (if (decide (((bt t2.1 t2.2.1) : Int) < (32 : Int))) = true then true else decide (((bt t2.1 t2.2.1) : Int) > (126 : Int))) = true then true else ((bt t2.1 t2.2.1) : Int) == (34 : Int)) = true then true else ((bt t2.1 t2.2.1) : Int) == (92 : Int)) = true then
      some (false, ())
     else
      G1 (t2.1, IntKind.i64.wrap (t2.2.1 + (1 : Int)), ())
    else
     none
   else
    some (true, ())) (x.1, (0 : Int), ())
def F_impl_LabelOk (k : Nat) (x : DLabel × Unit) : Option (Bool × Unit) :=
 Option.bind (F_impl_NameOk k (x.1.1, ())) fun r1 =>
 Option.bind ((if ((r1.1 : Bool) == true) = true then F_impl_PlainOk k (x.1.2, ()) else some (false, ()))) fun r2 =>
 some (if r1.1 = true then r2.1 else false, ())
def F_impl_SetOk (k : Nat) (x : List DLabel × Unit) : Option (Bool × Unit) :=
 loopN k (fun G1 (t2 : List DLabel × List DLabel × Int × Int × Unit) =>
  if (decide ((t2.2.2.2.1 : Int) < t2.2.2.1)) = true then
   if (decide (0 ≤ t2.2.2.2.1 ∧ t2.2.2.2.1 < ((List.length t2.2.1 : Nat) : Int))) = true then
    Option.bind ((if (((decide ((t2.2.2.2.1 : Int) ≥ (4 : Int))) : Bool) == false) = true then F_impl_LabelOk k (List.getD t2.2.1 (Int.toNat t2.2.2.2.1) tLabel.dflt, ()) else some (false, ()))) fun r3 =>
    if (!((((if (decide ((t2.2.2.2.1 : Int) ≥ (4 : Int))) = true then true else !r3.1) : Bool) == false) && (((decide ((t2.2.2.2.1 : Int) > (0 : Int))) : Bool) == true)) || (decide (0 ≤ (IntKind.i64.wrap (t2.2.2.2.1 - (1 : Int))) ∧ (IntKind.i64.wrap (t2.2.2.2.1 - (1 : Int))) < ((List.length t2.1 : Nat) : Int)))) = true then
     if (if (if (decide ((t2.2.2.2.1 : Int) ≥ (4 : Int))) = true then true else !r3.1) = true then true else if (decide ((t2.2.2.2.1 : Int) > (0 : Int))) = true then !(Op.bytesLess (ByteArray.toList ((List.getD t2.1 (Int.toNat (IntKind.i64.wrap (t2.2.2.2.1 - (1 : Int)))) tLabel.dflt).1)) (ByteArray.toList ((List.getD t2.2.1 (Int.toNat t2.2.2.2.1) tLabel.dflt).1))) else false) = true then
      some (false, ())
     else
      G1 (t2.1, t2.2.1, t2.2.2.1, IntKind.i64.wrap (t2.2.2.2.1 + (1 : Int)), ())
    else
     none
   else
    none
  else
   some (true, ())) (x.1, x.1, ((List.length x.1 : Nat) : Int), (0 : Int), ())
def F_impl_SetText (k : Nat) (x : List DLabel × Unit) : Option (ByteArray × Unit) :=
 Option.bind (F_impl_SetOk k (x.1, ())) fun r1 =>
 if (!r1.1) = true then
  some ((⟨#[]⟩ : ByteArray), ())
 else
  joinC (fun J2 =>
   loopN k (fun G4 (t5 : List ByteArray × List DLabel × Int × Int × Unit) =>
    if (decide ((t5.2.2.2.1 : Int) < t5.2.2.1)) = true then
     if (decide (0 ≤ t5.2.2.2.1 ∧ t5.2.2.2.1 < ((List.length t5.2.1 : Nat) : Int))) = true then
      if (decide ((((List.getD t5.2.1 (Int.toNat t5.2.2.2.1) tLabel.dflt).1)).size + ((⟨#[61, 34]⟩ : ByteArray)).size < 4294967296)) = true then
       if (decide (((((List.getD t5.2.1 (Int.toNat t5.2.2.2.1) tLabel.dflt).1) ++ (⟨#[61, 34]⟩ : ByteArray))).size + (((List.getD t5.2.1 (Int.toNat t5.2.2.2.1) tLabel.dflt).2)).size < 4294967296)) = true then
        if (decide ((((((List.getD t5.2.1 (Int.toNat t5.2.2.2.1) tLabel.dflt).1) ++ (⟨#[61, 34]⟩ : ByteArray)) ++ ((List.getD t5.2.1 (Int.toNat t5.2.2.2.1) tLabel.dflt).2))).size + ((⟨#[34]⟩ : ByteArray)).size < 4294967296)) = true then
         if (decide (List.length t5.1 + List.length ([((((List.getD t5.2.1 (Int.toNat t5.2.2.2.1) tLabel.dflt).1) ++ (⟨#[61, 34]⟩ : ByteArray)) ++ ((List.getD t5.2.1 (Int.toNat t5.2.2.2.1) tLabel.dflt).2)) ++ (⟨#[34]⟩ : ByteArray)] : List ByteArray) < 4294967296)) = true then
          G4 (t5.1 ++ ([((((List.getD t5.2.1 (Int.toNat t5.2.2.2.1) tLabel.dflt).1) ++ (⟨#[61, 34]⟩ : ByteArray)) ++ ((List.getD t5.2.1 (Int.toNat t5.2.2.2.1) tLabel.dflt).2)) ++ (⟨#[34]⟩ : ByteArray)] : List ByteArray), t5.2.1, t5.2.2.1, IntKind.i64.wrap (t5.2.2.2.1 + (1 : Int)), ())
         else
          none
        else
         none
       else
        none
      else
       none
     else
      none
    else
     J2 (t5.1, ())) (([] : List ByteArray), x.1, ((List.length x.1 : Nat) : Int), (0 : Int), ())) (fun (t3 : List ByteArray × Unit) =>
   Option.bind (F_strings_Join k (t3.1, (⟨#[44, 32]⟩ : ByteArray), ())) fun r6 =>
   if (decide (((⟨#[123]⟩ : ByteArray)).size + (r6.1).size < 4294967296)) = true then
    if (decide ((((⟨#[123]⟩ : ByteArray) ++ r6.1)).size + ((⟨#[125]⟩ : ByteArray)).size < 4294967296)) = true then
     some (((⟨#[123]⟩ : ByteArray) ++ r6.1) ++ (⟨#[125]⟩ : ByteArray), ())
    else
     none
   else
    none)
def F_impl_Sum (k : Nat) (x : ByteArray × Unit) : Option (Int × Unit) :=
 joinC (fun J1 =>
  loopN k (fun G3 (t4 : ByteArray × Int × Int × Unit) =>
   if (decide ((t4.2.2.1 : Int) < ((ByteArray.size t4.1 : Nat) : Int))) = true then
    if (decide (0 ≤ t4.2.2.1 ∧ t4.2.2.1 < ((ByteArray.size t4.1 : Nat) : Int))) = true then
     G3 (t4.1, IntKind.u32.wrap ((bits (fun _ => (· ^^^ ·)) .u32 t4.2.1 (IntKind.u32.wrap (bt t4.1 t4.2.2.1))) * (16777619 : Int)), IntKind.i64.wrap (t4.2.2.1 + (1 : Int)), ())
    else
     none
   else
    J1 (t4.2.1, ())) (x.1, (2166136261 : Int), (0 : Int), ())) (fun (t2 : Int × Unit) =>
  some (IntKind.i64.wrap t2.1, ()))
def F_impl_Finger (k : Nat) (x : List DLabel × Unit) : Option (Int × Unit) :=
 Option.bind (F_impl_SetText k (x.1, ())) fun r1 =>
 Option.bind (F_impl_Sum k (r1.1, ())) fun r2 =>
 if (decide (0 ≤ (16 : Int))) = true then
  if (decide ((32 : Int) ≠ 0)) = true then
   some (Int.tmod (bits (fun _ => (· ^^^ ·)) .i64 r2.1 (Int.fdiv r2.1 (2 ^ (min (Int.toNat (16 : Int)) IntKind.i64.bits)))) (32 : Int), ())
  else
   none
 else
  none
def F_impl_PartOf (k : Nat) (x : Int × Int × Unit) : Option (Int × Unit) :=
 if (if (decide ((x.2.1 : Int) < (1 : Int))) = true then true else decide ((x.1 : Int) < (0 : Int))) = true then
  some ((0 : Int), ())
 else
  if (decide (x.2.1 ≠ 0)) = true then
   some (Int.tmod x.1 x.2.1, ())
  else
   none
def F_impl_partAt (k : Nat) (x : DTask × Int × Bool × Unit) : Option (Int × Unit) :=
 if (if (decide ((x.2.1 : Int) < (1 : Int))) = true then true else !x.2.2.1) = true then
  some ((-1 : Int), ())
 else
  if ((x.1.1 : Int) == (1 : Int)) = true then
   Option.bind (F_impl_Finger k (x.1.2.2.1.1, ())) fun r1 =>
   Option.bind (F_impl_PartOf k (r1.1, x.2.1, ())) fun r2 =>
   some (r2.1, ())
  else
   if ((x.1.1 : Int) == (2 : Int)) = true then
    Option.bind (F_impl_Finger k (x.1.2.2.2.1, ())) fun r3 =>
    Option.bind (F_impl_PartOf k (r3.1, x.2.1, ())) fun r4 =>
    some (r4.1, ())
   else
    if (if ((x.1.1 : Int) == (3 : Int)) = true then true else (x.1.1 : Int) == (4 : Int)) = true then
     some (x.1.2.2.2.2.1, ())
    else
     some ((-1 : Int), ())
def F_impl_HoldsPart (k : Nat) (x : DTask × Int × Unit) : Option (Int × Unit) :=
 Option.bind (F_impl_partAt k (x.1, x.2.1, if ((x.1.2.1 : Int) == (1 : Int)) = true then true else if ((x.1.1 : Int) == (1 : Int)) = true then (x.1.2.1 : Int) == (2 : Int) else false, ())) fun r1 =>
 some (r1.1, ())
def F_impl_SameSet (k : Nat) (x : List DLabel × List DLabel × Unit) : Option (Bool × Unit) :=
 if ((((List.length x.1 : Nat) : Int) : Int) != ((List.length x.2.1 : Nat) : Int)) = true then
  some (false, ())
 else
  loopN k (fun G1 (t2 : List DLabel × List DLabel × Int × Int × Unit) =>
   if (decide ((t2.2.2.2.1 : Int) < t2.2.2.1)) = true then
    if (decide (0 ≤ t2.2.2.2.1 ∧ t2.2.2.2.1 < ((List.length t2.1 : Nat) : Int))) = true then
     if (decide (0 ≤ t2.2.2.2.1 ∧ t2.2.2.2.1 < ((List.length t2.2.1 : Nat) : Int))) = true then
      if (!(eqv tLabel (List.getD t2.1 (Int.toNat t2.2.2.2.1) tLabel.dflt) (List.getD t2.2.1 (Int.toNat t2.2.2.2.1) tLabel.dflt))) = true then
       some (false, ())
      else
       G1 (t2.1, t2.2.1, t2.2.2.1, IntKind.i64.wrap (t2.2.2.2.1 + (1 : Int)), ())
     else
      none
    else
     none
   else
    some (true, ())) (x.1, x.2.1, ((List.length x.1 : Nat) : Int), (0 : Int), ())
def F_impl_SameAlarm (k : Nat) (x : DAlarm × DAlarm × Unit) : Option (Bool × Unit) :=
 Option.bind (F_impl_SameSet k (x.1.1, x.2.1.1, ())) fun r1 =>
 some (if (if (if r1.1 = true then (x.1.2.1 : Int) == x.2.1.2.1 else false) = true then (x.1.2.2.1 : Int) == x.2.1.2.2.1 else false) = true then ByteArray.toList x.1.2.2.2 == ByteArray.toList x.2.1.2.2.2 else false, ())
def F_impl_sameInts (k : Nat) (x : List Int × List Int × Unit) : Option (Bool × Unit) :=
 if ((((List.length x.1 : Nat) : Int) : Int) != ((List.length x.2.1 : Nat) : Int)) = true then
  some (false, ())
 else
  loopN k (fun G1 (t2 : List Int × List Int × Int × Int × Unit) =>
   if (decide ((t2.2.2.2.1 : Int) < t2.2.2.1)) = true then
    if (decide (0 ≤ t2.2.2.2.1 ∧ t2.2.2.2.1 < ((List.length t2.1 : Nat) : Int))) = true then
     if (decide (0 ≤ t2.2.2.2.1 ∧ t2.2.2.2.1 < ((List.length t2.2.1 : Nat) : Int))) = true then
      if (((List.getD t2.1 (Int.toNat t2.2.2.2.1) 0) : Int) != (List.getD t2.2.1 (Int.toNat t2.2.2.2.1) 0)) = true then
       some (false, ())
      else
       G1 (t2.1, t2.2.1, t2.2.2.1, IntKind.i64.wrap (t2.2.2.2.1 + (1 : Int)), ())
     else
      none
    else
     none
   else
    some (true, ())) (x.1, x.2.1, ((List.length x.1 : Nat) : Int), (0 : Int), ())
def F_impl_sameAlarms (k : Nat) (x : List DAlarm × List DAlarm × Unit) : Option (Bool × Unit) :=
 if ((((List.length x.1 : Nat) : Int) : Int) != ((List.length x.2.1 : Nat) : Int)) = true then
  some (false, ())
 else
  loopN k (fun G1 (t2 : List DAlarm × List DAlarm × Int × Int × Unit) =>
   if (decide ((t2.2.2.2.1 : Int) < t2.2.2.1)) = true then
    if (decide (0 ≤ t2.2.2.2.1 ∧ t2.2.2.2.1 < ((List.length t2.1 : Nat) : Int))) = true then
     if (decide (0 ≤ t2.2.2.2.1 ∧ t2.2.2.2.1 < ((List.length t2.2.1 : Nat) : Int))) = true then
      Option.bind (F_impl_SameAlarm k (List.getD t2.1 (Int.toNat t2.2.2.2.1) tAlarm.dflt, List.getD t2.2.1 (Int.toNat t2.2.2.2.1) tAlarm.dflt, ())) fun r3 =>
      if (!r3.1) = true then
       some (false, ())
      else
       G1 (t2.1, t2.2.1, t2.2.2.1, IntKind.i64.wrap (t2.2.2.2.1 + (1 : Int)), ())
     else
      none
    else
     none
   else
    some (true, ())) (x.1, x.2.1, ((List.length x.1 : Nat) : Int), (0 : Int), ())
def F_impl_sameTask (k : Nat) (x : DTask × DTask × Unit) : Option (Bool × Unit) :=
 Option.bind ((if (((if ((x.1.1 : Int) == x.2.1.1) = true then (x.1.2.1 : Int) == x.2.1.2.1 else false) : Bool) == true) = true then F_impl_SameAlarm k (x.1.2.2.1, x.2.1.2.2.1, ()) else some (false, ()))) fun r1 =>
 Option.bind ((if (((if (if ((x.1.1 : Int) == x.2.1.1) = true then (x.1.2.1 : Int) == x.2.1.2.1 else false) = true then r1.1 else false) : Bool) == true) = true then F_impl_SameSet k (x.1.2.2.2.1, x.2.1.2.2.2.1, ()) else some (false, ()))) fun r2 =>
 Option.bind ((if (((if (if (if (if ((x.1.1 : Int) == x.2.1.1) = true then (x.1.2.1 : Int) == x.2.1.2.1 else false) = true then r1.1 else false) = true then r2.1 else false) = true then (x.1.2.2.2.2.1 : Int) == x.2.1.2.2.2.2.1 else false) : Bool) == true) = true then F_impl_sameInts k (x.1.2.2.2.2.2.1, x.2.1.2.2.2.2.2.1, ()) else some (false, ()))) fun r3 =>
 Option.bind ((if (((if (if (if (if (if ((x.1.1 : Int) == x.2.1.1) = true then (x.1.2.1 : Int) == x.2.1.2.1 else false) = true then r1.1 else false) = true then r2.1 else false) = true then (x.1.2.2.2.2.1 : Int) == x.2.1.2.2.2.2.1 else false) = true then r3.1 else false) : Bool) == true) = true then F_impl_sameAlarms k (x.1.2.2.2.2.2.2.1, x.2.1.2.2.2.2.2.2.1, ()) else some (false, ()))) fun r4 =>
 some (if (if (if (if (if (if (if (if ((x.1.1 : Int) == x.2.1.1) = true then (x.1.2.1 : Int) == x.2.1.2.1 else false) = true then r1.1 else false) = true then r2.1 else false) = true then (x.1.2.2.2.2.1 : Int) == x.2.1.2.2.2.2.1 else false) = true then r3.1 else false) = true then r4.1 else false) = true then (x.1.2.2.2.2.2.2.2.1 : Int) == x.2.1.2.2.2.2.2.2.2.1 else false) = true then (x.1.2.2.2.2.2.2.2.2 : Int) == x.2.1.2.2.2.2.2.2.2.2 else false, ())
def F_impl_AlarmOk (k : Nat) (x : DAlarm × Unit) : Option (Bool × Unit) :=
 Option.bind ((if (((decide ((((List.length x.1.1 : Nat) : Int) : Int) > (0 : Int))) : Bool) == true) = true then F_impl_SetOk k (x.1.1, ()) else some (false, ()))) fun r1 =>
 Option.bind ((if (((if (decide ((((List.length x.1.1 : Nat) : Int) : Int) > (0 : Int))) = true then r1.1 else false) : Bool) == true) = true then F_impl_in k (x.1.2.1, (0 : Int), (99999 : Int), ()) else some (false, ()))) fun r2 =>
 Option.bind ((if (((if (if (decide ((((List.length x.1.1 : Nat) : Int) : Int) > (0 : Int))) = true then r1.1 else false) = true then r2.1 else false) : Bool) == true) = true then F_impl_in k (x.1.2.2.1, x.1.2.1, (99999 : Int), ()) else some (false, ()))) fun r3 =>
 Option.bind ((if (((if (if (if (decide ((((List.length x.1.1 : Nat) : Int) : Int) > (0 : Int))) = true then r1.1 else false) = true then r2.1 else false) = true then r3.1 else false) : Bool) == true) = true then F_impl_PlainOk k (x.1.2.2.2, ()) else some (false, ()))) fun r4 =>
 some (if (if (if (if (decide ((((List.length x.1.1 : Nat) : Int) : Int) > (0 : Int))) = true then r1.1 else false) = true then r2.1 else false) = true then r3.1 else false) = true then r4.1 else false, ())
def F_impl_alarmsOk (k : Nat) (x : List DAlarm × Unit) : Option (Bool × Unit) :=
 loopN k (fun G1 (t2 : List DAlarm × Int × Int × Unit) =>
  if (decide ((t2.2.2.1 : Int) < t2.2.1)) = true then
   if (decide (0 ≤ t2.2.2.1 ∧ t2.2.2.1 < ((List.length t2.1 : Nat) : Int))) = true then
    Option.bind (F_impl_AlarmOk k (List.getD t2.1 (Int.toNat t2.2.2.1) tAlarm.dflt, ())) fun r3 =>
    if (!r3.1) = true then
     some (false, ())
    else
     G1 (t2.1, t2.2.1, IntKind.i64.wrap (t2.2.2.1 + (1 : Int)), ())
   else
    none
  else
   some (true, ())) (x.1, ((List.length x.1 : Nat) : Int), (0 : Int), ())
def F_impl_snapOk (k : Nat) (x : DTask × Unit) : Option (Bool × Unit) :=
 joinC (fun J1 =>
  loopN k (fun G3 (t4 : DTask × List Int × Int × Int × Unit) =>
   if (decide ((t4.2.2.2.1 : Int) < t4.2.2.1)) = true then
    if (decide (0 ≤ t4.2.2.2.1 ∧ t4.2.2.2.1 < ((List.length t4.2.1 : Nat) : Int))) = true then
     if (decide (((List.getD t4.2.1 (Int.toNat t4.2.2.2.1) 0) : Int) < (0 : Int))) = true then
      some (false, ())
     else
      G3 (t4.1, t4.2.1, t4.2.2.1, IntKind.i64.wrap (t4.2.2.2.1 + (1 : Int)), ())
    else
     none
   else
    J1 (t4.1, ())) (x.1, x.1.2.2.2.2.2.1, ((List.length x.1.2.2.2.2.2.1 : Nat) : Int), (0 : Int), ())) (fun (t2 : DTask × Unit) =>
  Option.bind ((if ((((((List.length t2.1.2.2.2.2.2.1 : Nat) : Int) : Int) != t2.1.2.2.2.2.1) : Bool) == false) = true then F_impl_alarmsOk k (t2.1.2.2.2.2.2.2.1, ()) else some (false, ()))) fun r5 =>
  if (if ((((List.length t2.1.2.2.2.2.2.1 : Nat) : Int) : Int) != t2.1.2.2.2.2.1) = true then true else !r5.1) = true then
   some (false, ())
  else
   if ((t2.1.2.1 : Int) == (2 : Int)) = true then
    Option.bind (F_impl_in k (t2.1.2.2.2.2.1, (1 : Int), (3 : Int), ())) fun r6 =>
    some (r6.1, ())
   else
    Option.bind (F_impl_in k (t2.1.2.2.2.2.1, (0 : Int), (2 : Int), ())) fun r7 =>
    some (r7.1, ()))
def F_impl_TaskOk (k : Nat) (x : DTask × Int × Unit) : Option (Bool × Unit) :=
 joinC (fun J1 =>
  Option.bind (F_impl_in k (x.2.1, (0 : Int), (4 : Int), ())) fun r3 =>
  if (!r3.1) = true then
   some (false, ())
  else
   if ((x.1.1 : Int) == (0 : Int)) = true then
    Option.bind (F_impl_sameTask k (x.1, (0, 0, (([] : List DLabel), 0, 0, ByteArray.empty), ([] : List DLabel), 0, ([] : List Int), ([] : List DAlarm), 0, 0), ())) fun r4 =>
    some (r4.1, ())
   else
    if (if ((x.1.1 : Int) == (1 : Int)) = true then decide ((x.2.1 : Int) < (3 : Int)) else false) = true then
     Option.bind (F_impl_AlarmOk k (x.1.2.2.1, ())) fun r5 =>
     J1 (x.1, (x.1.1, x.1.2.1, x.1.2.2.1, ([] : List DLabel), 0, ([] : List Int), ([] : List DAlarm), 0, x.1.2.2.2.2.2.2.2.2), r5.1, (2 : Int), ())
    else
     if (if ((x.1.1 : Int) == (2 : Int)) = true then decide ((x.2.1 : Int) < (3 : Int)) else false) = true then
      Option.bind (F_impl_SetOk k (x.1.2.2.2.1, ())) fun r6 =>
      J1 (x.1, (x.1.1, x.1.2.1, (([] : List DLabel), 0, 0, ByteArray.empty), x.1.2.2.2.1, 0, ([] : List Int), ([] : List DAlarm), 0, x.1.2.2.2.2.2.2.2.2), r6.1, (1 : Int), ())
     else
      if (if ((x.1.1 : Int) == (3 : Int)) = true then decide ((x.2.1 : Int) < (3 : Int)) else false) = true then
       Option.bind (F_impl_snapOk k (x.1, ())) fun r7 =>
       J1 (x.1, (x.1.1, x.1.2.1, (([] : List DLabel), 0, 0, ByteArray.empty), ([] : List DLabel), x.1.2.2.2.2.1, x.1.2.2.2.2.2.1, x.1.2.2.2.2.2.2.1, 0, x.1.2.2.2.2.2.2.2.2), r7.1, (2 : Int), ())
      else
       if (if ((x.1.1 : Int) == (4 : Int)) = true then decide ((x.2.1 : Int) < (3 : Int)) else false) = true then
        Option.bind (F_impl_in k (x.1.2.2.2.2.1, (0 : Int), (2 : Int), ())) fun r8 =>
        J1 (x.1, (x.1.1, x.1.2.1, (([] : List DLabel), 0, 0, ByteArray.empty), ([] : List DLabel), x.1.2.2.2.2.1, ([] : List Int), ([] : List DAlarm), 0, x.1.2.2.2.2.2.2.2.2), r8.1, (1 : Int), ())
       else
        if (if ((x.1.1 : Int) == (5 : Int)) = true then (x.2.1 : Int) == (3 : Int) else false) = true then
         Option.bind (F_impl_AlarmOk k (x.1.2.2.1, ())) fun r9 =>
         J1 (x.1, (x.1.1, x.1.2.1, x.1.2.2.1, ([] : List DLabel), 0, ([] : List Int), ([] : List DAlarm), 0, x.1.2.2.2.2.2.2.2.2), r9.1, (1 : Int), ())
        else
         if (if ((x.1.1 : Int) == (6 : Int)) = true then (x.2.1 : Int) == (4 : Int) else false) = true then
          J1 (x.1, (x.1.1, x.1.2.1, (([] : List DLabel), 0, 0, ByteArray.empty), ([] : List DLabel), 0, ([] : List Int), ([] : List DAlarm), x.1.2.2.2.2.2.2.2), decide ((x.1.2.2.2.2.2.2.2.1 : Int) ≥ (0 : Int)), (1 : Int), ())
         else
          J1 (x.1, (x.1.1, x.1.2.1, (([] : List DLabel), 0, 0, ByteArray.empty), ([] : List DLabel), 0, ([] : List Int), ([] : List DAlarm), 0, x.1.2.2.2.2.2.2.2.2), false, (1 : Int), ())) (fun (t2 : DTask × DTask × Bool × Int × Unit) =>
  Option.bind ((if ((t2.2.2.1 : Bool) == true) = true then F_impl_in k (t2.1.2.1, (0 : Int), t2.2.2.2.1, ()) else some (false, ()))) fun r10 =>
  Option.bind ((if (((if (if t2.2.2.1 = true then r10.1 else false) = true then decide ((t2.1.2.2.2.2.2.2.2.2 : Int) ≥ (0 : Int)) else false) : Bool) == true) = true then F_impl_sameTask k (t2.1, t2.2.1, ()) else some (false, ()))) fun r11 =>
  some (if (if (if t2.2.2.1 = true then r10.1 else false) = true then decide ((t2.1.2.2.2.2.2.2.2.2 : Int) ≥ (0 : Int)) else false) = true then r11.1 else false, ()))
def F_spec_l1In (k : Nat) (x : Int × Int × Int × Unit) : Option (Bool × Unit) :=
 some (if (decide ((x.1 : Int) ≥ x.2.1)) = true then decide ((x.1 : Int) ≤ x.2.2.1) else false, ())
def F_spec_NameOk (k : Nat) (x : ByteArray × Unit) : Option (Bool × Unit) :=
 joinC (fun J1 =>
  loopN k (fun G3 (t4 : ByteArray × Int × Unit) =>
   if (decide ((t4.2.1 : Int) < ((ByteArray.size t4.1 : Nat) : Int))) = true then
    if (decide (0 ≤ t4.2.1 ∧ t4.2.1 < ((ByteArray.size t4.1 : Nat) : Int))) = true then
     if (!(((decide (((bt t4.1 t4.2.1) : Int) < (97 : Int))) : Bool) == false) || (decide (0 ≤ t4.2.1 ∧ t4.2.1 < ((ByteArray.size t4.1 : Nat) : Int)))) = true then
      if (if (decide (((bt t4.1 t4.2.1) : Int) < (97 : Int))) = true then true else decide (((bt t4.1 t4.2.1) : Int) > (122 : Int))) = true then
       some (false, ())
      else
       G3 (t4.1, IntKind.i64.wrap (t4.2.1 + (1 : Int)), ())
     else
      none
    else
     none
   else
    J1 (t4.1, ())) (x.1, (0 : Int), ())) (fun (t2 : ByteArray × Unit) =>
  Option.bind (F_spec_l1In k (((ByteArray.size t2.1 : Nat) : Int), (1 : Int), (8 : Int), ())) fun r5 =>
  some (r5.1, ()))
def F_spec_PlainOk (k : Nat) (x : ByteArray × Unit) : Option (Bool × Unit) :=
 joinC (fun J1 =>
  loopN k (fun G3 (t4 : ByteArray × Int × Unit) =>
   if (decide ((t4.2.1 : Int) < ((ByteArray.size t4.1 : Nat) : Int))) = true then
    if (decide (0 ≤ t4.2.1 ∧ t4.2.1 < ((ByteArray.size t4.1 : Nat) : Int))) = true then
     if (!(((decide (((bt t4.1 t4.2.1) : Int) < (32 : Int))) : Bool) == false) || (decide (0 ≤ t4.2.1 ∧ t4.2.1 < ((ByteArray.size t4.1 : Nat) : Int)))) = true then
      if (!(((if (decide (((bt t4.1 t4.2.1) : Int) < (32 : Int))) = true then true else decide (((bt t4.1 t4.2.1) : Int) > (126 : Int))) : Bool) == false) || (decide (0 ≤ t4.2.1 ∧ t4.2.1 < ((ByteArray.size t4.1 : Nat) : Int)))) = true then
       if (!(((if (if (decide (((bt t4.1 t4.2.1) : Int) < (32 : Int))) = true then true else decide (((bt t4.1 t4.2.1) : Int) > (126 : Int))) = true then true else ((bt t4.1 t4.2.1) : Int) == (34 : Int)) : Bool) == false) || (decide (0 ≤ t4.2.1 ∧ t4.2.1 < ((ByteArray.size t4.1 : Nat) : Int)))) = true then
        if (if (if (if (decide (((bt t4.1 t4.2.1) : Int) < (32 : Int))) = true then true else decide (((bt t4.1 t4.2.1) : Int) > (126 : Int))) = true then true else ((bt t4.1 t4.2.1) : Int) == (34 : Int)) = true then true else ((bt t4.1 t4.2.1) : Int) == (92 : Int)) = true then
         some (false, ())
        else
         G3 (t4.1, IntKind.i64.wrap (t4.2.1 + (1 : Int)), ())
       else
        none
      else
       none
     else
      none
    else
     none
   else
    J1 (t4.1, ())) (x.1, (0 : Int), ())) (fun (t2 : ByteArray × Unit) =>
  some (decide ((((ByteArray.size t2.1 : Nat) : Int) : Int) ≤ (12 : Int)), ()))
def F_spec_LabelOk (k : Nat) (x : DLabel × Unit) : Option (Bool × Unit) :=
 Option.bind (F_spec_NameOk k (x.1.1, ())) fun r1 =>
 Option.bind ((if ((r1.1 : Bool) == true) = true then F_spec_PlainOk k (x.1.2, ()) else some (false, ()))) fun r2 =>
 some (if r1.1 = true then r2.1 else false, ())
def F_spec_Less (k : Nat) (x : ByteArray × ByteArray × Unit) : Option (Bool × Unit) :=
 some (Op.bytesLess (ByteArray.toList x.1) (ByteArray.toList x.2.1), ())
def F_spec_SetOk (k : Nat) (x : List DLabel × Unit) : Option (Bool × Unit) :=
 joinC (fun J1 =>
  loopN k (fun G3 (t4 : List DLabel × Int × Unit) =>
   if (decide ((t4.2.1 : Int) < ((List.length t4.1 : Nat) : Int))) = true then
    if (decide (0 ≤ t4.2.1 ∧ t4.2.1 < ((List.length t4.1 : Nat) : Int))) = true then
     Option.bind (F_spec_LabelOk k (List.getD t4.1 (Int.toNat t4.2.1) tLabel.dflt, ())) fun r5 =>
     if (!((((!r5.1) : Bool) == false) && (((decide ((t4.2.1 : Int) > (0 : Int))) : Bool) == true)) || (decide (0 ≤ (IntKind.i64.wrap (t4.2.1 - (1 : Int))) ∧ (IntKind.i64.wrap (t4.2.1 - (1 : Int))) < ((List.length t4.1 : Nat) : Int)))) = true then
      if (!((((!r5.1) : Bool) == false) && (((decide ((t4.2.1 : Int) > (0 : Int))) : Bool) == true)) || (decide (0 ≤ t4.2.1 ∧ t4.2.1 < ((List.length t4.1 : Nat) : Int)))) = true then
       Option.bind ((if ((((!r5.1) : Bool) == false) && (((decide ((t4.2.1 : Int) > (0 : Int))) : Bool) == true)) = true then F_spec_Less k ((List.getD t4.1 (Int.toNat (IntKind.i64.wrap (t4.2.1 - (1 : Int)))) tLabel.dflt).1, (List.getD t4.1 (Int.toNat t4.2.1) tLabel.dflt).1, ()) else some (false, ()))) fun r6 =>
       if (if (!r5.1) = true then true else if (decide ((t4.2.1 : Int) > (0 : Int))) = true then !r6.1 else false) = true then
        some (false, ())
       else
        G3 (t4.1, IntKind.i64.wrap (t4.2.1 + (1 : Int)), ())
      else
       none
     else
      none
    else
     none
   else
    J1 (t4.1, ())) (x.1, (0 : Int), ())) (fun (t2 : List DLabel × Unit) =>
  some (decide ((((List.length t2.1 : Nat) : Int) : Int) ≤ (4 : Int)), ()))
def F_spec_AlarmOk (k : Nat) (x : DAlarm × Unit) : Option (Bool × Unit) :=
 Option.bind (F_spec_SetOk k (x.1.1, ())) fun r1 =>
 Option.bind ((if (((if r1.1 = true then decide ((((List.length x.1.1 : Nat) : Int) : Int) > (0 : Int)) else false) : Bool) == true) = true then F_spec_l1In k (x.1.2.1, (0 : Int), (99999 : Int), ()) else some (false, ()))) fun r2 =>
 Option.bind ((if (((if (if r1.1 = true then decide ((((List.length x.1.1 : Nat) : Int) : Int) > (0 : Int)) else false) = true then r2.1 else false) : Bool) == true) = true then F_spec_l1In k (x.1.2.2.1, x.1.2.1, (99999 : Int), ()) else some (false, ()))) fun r3 =>
 Option.bind ((if (((if (if (if r1.1 = true then decide ((((List.length x.1.1 : Nat) : Int) : Int) > (0 : Int)) else false) = true then r2.1 else false) = true then r3.1 else false) : Bool) == true) = true then F_spec_PlainOk k (x.1.2.2.2, ()) else some (false, ()))) fun r4 =>
 some (if (if (if (if r1.1 = true then decide ((((List.length x.1.1 : Nat) : Int) : Int) > (0 : Int)) else false) = true then r2.1 else false) = true then r3.1 else false) = true then r4.1 else false, ())
def F_spec_l14Got (k : Nat) (x : List DAlarm × Unit) : Option (Bool × Unit) :=
 loopN k (fun G1 (t2 : List DAlarm × Int × Unit) =>
  if (decide ((t2.2.1 : Int) < ((List.length t2.1 : Nat) : Int))) = true then
   if (decide (0 ≤ t2.2.1 ∧ t2.2.1 < ((List.length t2.1 : Nat) : Int))) = true then
    Option.bind (F_spec_AlarmOk k (List.getD t2.1 (Int.toNat t2.2.1) tAlarm.dflt, ())) fun r3 =>
    if (!r3.1) = true then
     some (false, ())
    else
     G1 (t2.1, IntKind.i64.wrap (t2.2.1 + (1 : Int)), ())
   else
    none
  else
   some (true, ())) (x.1, (0 : Int), ())
def F_spec_SameSet (k : Nat) (x : List DLabel × List DLabel × Unit) : Option (Bool × Unit) :=
 if ((((List.length x.1 : Nat) : Int) : Int) != ((List.length x.2.1 : Nat) : Int)) = true then
  some (false, ())
 else
  loopN k (fun G1 (t2 : List DLabel × List DLabel × Int × Unit) =>
   if (decide ((t2.2.2.1 : Int) < ((List.length t2.1 : Nat) : Int))) = true then
    if (decide (0 ≤ t2.2.2.1 ∧ t2.2.2.1 < ((List.length t2.1 : Nat) : Int))) = true then
     if (decide (0 ≤ t2.2.2.1 ∧ t2.2.2.1 < ((List.length t2.2.1 : Nat) : Int))) = true then
      if (!(eqv tLabel (List.getD t2.1 (Int.toNat t2.2.2.1) tLabel.dflt) (List.getD t2.2.1 (Int.toNat t2.2.2.1) tLabel.dflt))) = true then
       some (false, ())
      else
       G1 (t2.1, t2.2.1, IntKind.i64.wrap (t2.2.2.1 + (1 : Int)), ())
     else
      none
    else
     none
   else
    some (true, ())) (x.1, x.2.1, (0 : Int), ())
def F_spec_SameAlarm (k : Nat) (x : DAlarm × DAlarm × Unit) : Option (Bool × Unit) :=
 Option.bind (F_spec_SameSet k (x.1.1, x.2.1.1, ())) fun r1 =>
 some (if (if (if r1.1 = true then (x.1.2.1 : Int) == x.2.1.2.1 else false) = true then (x.1.2.2.1 : Int) == x.2.1.2.2.1 else false) = true then ByteArray.toList x.1.2.2.2 == ByteArray.toList x.2.1.2.2.2 else false, ())
def F_spec_l14Zero (k : Nat) (x : DAlarm × Unit) : Option (Bool × Unit) :=
 Option.bind (F_spec_SameAlarm k (x.1, (([] : List DLabel), 0, 0, ByteArray.empty), ())) fun r1 =>
 some (r1.1, ())
def F_spec_l14Seen (k : Nat) (x : DTask × Unit) : Option (Bool × Unit) :=
 joinC (fun J1 =>
  loopN k (fun G3 (t4 : DTask × Int × Unit) =>
   if (decide ((t4.2.1 : Int) < ((List.length t4.1.2.2.2.2.2.1 : Nat) : Int))) = true then
    if (decide (0 ≤ t4.2.1 ∧ t4.2.1 < ((List.length t4.1.2.2.2.2.2.1 : Nat) : Int))) = true then
     if (decide (((List.getD t4.1.2.2.2.2.2.1 (Int.toNat t4.2.1) 0) : Int) < (0 : Int))) = true then
      some (false, ())
     else
      G3 (t4.1, IntKind.i64.wrap (t4.2.1 + (1 : Int)), ())
    else
     none
   else
    J1 (t4.1, ())) (x.1, (0 : Int), ())) (fun (t2 : DTask × Unit) =>
  if ((t2.1.2.1 : Int) == (2 : Int)) = true then
   Option.bind (F_spec_l1In k (((List.length t2.1.2.2.2.2.2.1 : Nat) : Int), (1 : Int), (3 : Int), ())) fun r5 =>
   some (if r5.1 = true then (t2.1.2.2.2.2.1 : Int) == ((List.length t2.1.2.2.2.2.2.1 : Nat) : Int) else false, ())
  else
   some (if ((((List.length t2.1.2.2.2.2.2.1 : Nat) : Int) : Int) == t2.1.2.2.2.2.1) = true then decide ((t2.1.2.2.2.2.1 : Int) ≤ (2 : Int)) else false, ()))
def F_spec_TaskOk (k : Nat) (x : DTask × Int × Unit) : Option (Bool × Unit) :=
 Option.bind ((if (((decide ((x.1.2.2.2.2.2.2.2.2 : Int) < (0 : Int))) : Bool) == false) = true then F_spec_l1In k (x.1.2.1, (0 : Int), (2 : Int), ()) else some (false, ()))) fun r1 =>
 Option.bind ((if (((if (decide ((x.1.2.2.2.2.2.2.2.2 : Int) < (0 : Int))) = true then true else !r1.1) : Bool) == false) = true then F_spec_l1In k (x.2.1, (0 : Int), (4 : Int), ()) else some (false, ()))) fun r2 =>
 Option.bind ((if (((if (if (decide ((x.1.2.2.2.2.2.2.2.2 : Int) < (0 : Int))) = true then true else !r1.1) = true then true else !r2.1) : Bool) == false) = true then F_spec_l14Got k (x.1.2.2.2.2.2.2.1, ()) else some (false, ()))) fun r3 =>
 if (if (if (if (if (if (decide ((x.1.2.2.2.2.2.2.2.2 : Int) < (0 : Int))) = true then true else !r1.1) = true then true else !r2.1) = true then true else !r3.1) = true then true else decide ((x.1.2.2.2.2.1 : Int) < (0 : Int))) = true then true else decide ((x.1.2.2.2.2.2.2.2.1 : Int) < (0 : Int))) = true then
  some (false, ())
 else
  if ((x.1.1 : Int) == (0 : Int)) = true then
   Option.bind ((if ((((x.1.2.1 : Int) == (0 : Int)) : Bool) == true) = true then F_spec_l14Zero k (x.1.2.2.1, ()) else some (false, ()))) fun r4 =>
   some (if (if (if (if (if ((x.1.2.1 : Int) == (0 : Int)) = true then r4.1 else false) = true then (((List.length x.1.2.2.2.1 : Nat) : Int) : Int) == (0 : Int) else false) = true then if (if ((x.1.2.2.2.2.1 : Int) == (0 : Int)) = true then (((List.length x.1.2.2.2.2.2.1 : Nat) : Int) : Int) == (0 : Int) else false) = true then (((List.length x.1.2.2.2.2.2.2.1 : Nat) : Int) : Int) == (0 : Int) else false else false) = true then (x.1.2.2.2.2.2.2.2.1 : Int) == (0 : Int) else false) = true then (x.1.2.2.2.2.2.2.2.2 : Int) == (0 : Int) else false, ())
  else
   if ((x.1.1 : Int) == (1 : Int)) = true then
    Option.bind ((if (((decide ((x.2.1 : Int) < (3 : Int))) : Bool) == true) = true then F_spec_AlarmOk k (x.1.2.2.1, ()) else some (false, ()))) fun r5 =>
    some (if (if (if (if (decide ((x.2.1 : Int) < (3 : Int))) = true then r5.1 else false) = true then (((List.length x.1.2.2.2.1 : Nat) : Int) : Int) == (0 : Int) else false) = true then if (if ((x.1.2.2.2.2.1 : Int) == (0 : Int)) = true then (((List.length x.1.2.2.2.2.2.1 : Nat) : Int) : Int) == (0 : Int) else false) = true then (((List.length x.1.2.2.2.2.2.2.1 : Nat) : Int) : Int) == (0 : Int) else false else false) = true then (x.1.2.2.2.2.2.2.2.1 : Int) == (0 : Int) else false, ())
   else
    if ((x.1.1 : Int) == (2 : Int)) = true then
     Option.bind ((if (((if (decide ((x.2.1 : Int) < (3 : Int))) = true then decide ((x.1.2.1 : Int) < (2 : Int)) else false) : Bool) == true) = true then F_spec_l14Zero k (x.1.2.2.1, ()) else some (false, ()))) fun r6 =>
     Option.bind ((if (((if (if (decide ((x.2.1 : Int) < (3 : Int))) = true then decide ((x.1.2.1 : Int) < (2 : Int)) else false) = true then r6.1 else false) : Bool) == true) = true then F_spec_SetOk k (x.1.2.2.2.1, ()) else some (false, ()))) fun r7 =>
     some (if (if (if (if (if (decide ((x.2.1 : Int) < (3 : Int))) = true then decide ((x.1.2.1 : Int) < (2 : Int)) else false) = true then r6.1 else false) = true then r7.1 else false) = true then if (if ((x.1.2.2.2.2.1 : Int) == (0 : Int)) = true then (((List.length x.1.2.2.2.2.2.1 : Nat) : Int) : Int) == (0 : Int) else false) = true then (((List.length x.1.2.2.2.2.2.2.1 : Nat) : Int) : Int) == (0 : Int) else false else false) = true then (x.1.2.2.2.2.2.2.2.1 : Int) == (0 : Int) else false, ())
    else
     if ((x.1.1 : Int) == (3 : Int)) = true then
      Option.bind ((if (((decide ((x.2.1 : Int) < (3 : Int))) : Bool) == true) = true then F_spec_l14Zero k (x.1.2.2.1, ()) else some (false, ()))) fun r8 =>
      Option.bind ((if (((if (if (if (decide ((x.2.1 : Int) < (3 : Int))) = true then r8.1 else false) = true then (((List.length x.1.2.2.2.1 : Nat) : Int) : Int) == (0 : Int) else false) = true then (x.1.2.2.2.2.2.2.2.1 : Int) == (0 : Int) else false) : Bool) == true) = true then F_spec_l14Seen k (x.1, ()) else some (false, ()))) fun r9 =>
      some (if (if (if (if (decide ((x.2.1 : Int) < (3 : Int))) = true then r8.1 else false) = true then (((List.length x.1.2.2.2.1 : Nat) : Int) : Int) == (0 : Int) else false) = true then (x.1.2.2.2.2.2.2.2.1 : Int) == (0 : Int) else false) = true then r9.1 else false, ())
     else
      if ((x.1.1 : Int) == (4 : Int)) = true then
       Option.bind ((if (((if (decide ((x.2.1 : Int) < (3 : Int))) = true then decide ((x.1.2.1 : Int) < (2 : Int)) else false) : Bool) == true) = true then F_spec_l14Zero k (x.1.2.2.1, ()) else some (false, ()))) fun r10 =>
       some (if (if (if (if (if (if (if (decide ((x.2.1 : Int) < (3 : Int))) = true then decide ((x.1.2.1 : Int) < (2 : Int)) else false) = true then r10.1 else false) = true then (((List.length x.1.2.2.2.1 : Nat) : Int) : Int) == (0 : Int) else false) = true then (x.1.2.2.2.2.2.2.2.1 : Int) == (0 : Int) else false) = true then decide ((x.1.2.2.2.2.1 : Int) ≤ (2 : Int)) else false) = true then (((List.length x.1.2.2.2.2.2.1 : Nat) : Int) : Int) == (0 : Int) else false) = true then (((List.length x.1.2.2.2.2.2.2.1 : Nat) : Int) : Int) == (0 : Int) else false, ())
      else
       if ((x.1.1 : Int) == (5 : Int)) = true then
        Option.bind ((if (((if ((x.2.1 : Int) == (3 : Int)) = true then decide ((x.1.2.1 : Int) < (2 : Int)) else false) : Bool) == true) = true then F_spec_AlarmOk k (x.1.2.2.1, ()) else some (false, ()))) fun r11 =>
        some (if (if (if (if (if ((x.2.1 : Int) == (3 : Int)) = true then decide ((x.1.2.1 : Int) < (2 : Int)) else false) = true then r11.1 else false) = true then (((List.length x.1.2.2.2.1 : Nat) : Int) : Int) == (0 : Int) else false) = true then if (if ((x.1.2.2.2.2.1 : Int) == (0 : Int)) = true then (((List.length x.1.2.2.2.2.2.1 : Nat) : Int) : Int) == (0 : Int) else false) = true then (((List.length x.1.2.2.2.2.2.2.1 : Nat) : Int) : Int) == (0 : Int) else false else false) = true then (x.1.2.2.2.2.2.2.2.1 : Int) == (0 : Int) else false, ())
       else
        if ((x.1.1 : Int) == (6 : Int)) = true then
         Option.bind ((if (((if ((x.2.1 : Int) == (4 : Int)) = true then decide ((x.1.2.1 : Int) < (2 : Int)) else false) : Bool) == true) = true then F_spec_l14Zero k (x.1.2.2.1, ()) else some (false, ()))) fun r12 =>
         some (if (if (if (if ((x.2.1 : Int) == (4 : Int)) = true then decide ((x.1.2.1 : Int) < (2 : Int)) else false) = true then r12.1 else false) = true then (((List.length x.1.2.2.2.1 : Nat) : Int) : Int) == (0 : Int) else false) = true then if (if ((x.1.2.2.2.2.1 : Int) == (0 : Int)) = true then (((List.length x.1.2.2.2.2.2.1 : Nat) : Int) : Int) == (0 : Int) else false) = true then (((List.length x.1.2.2.2.2.2.2.1 : Nat) : Int) : Int) == (0 : Int) else false else false, ())
        else
         some (false, ())
def F_spec_SetText (k : Nat) (x : List DLabel × Unit) : Option (ByteArray × Unit) :=
 Option.bind (F_spec_SetOk k (x.1, ())) fun r1 =>
 if (!r1.1) = true then
  some ((⟨#[]⟩ : ByteArray), ())
 else
  joinC (fun J2 =>
   loopN k (fun G4 (t5 : List DLabel × ByteArray × Int × Unit) =>
    if (decide ((t5.2.2.1 : Int) < ((List.length t5.1 : Nat) : Int))) = true then
     joinC (fun J6 =>
      if (decide ((t5.2.2.1 : Int) > (0 : Int))) = true then
       if (decide ((t5.2.1).size + ((⟨#[44, 32]⟩ : ByteArray)).size < 4294967296)) = true then
        J6 (t5.1, t5.2.1 ++ (⟨#[44, 32]⟩ : ByteArray), t5.2.2.1, ())
       else
        none
      else
       J6 (t5.1, t5.2.1, t5.2.2.1, ())) (fun (t7 : List DLabel × ByteArray × Int × Unit) =>
      if (decide (0 ≤ t7.2.2.1 ∧ t7.2.2.1 < ((List.length t7.1 : Nat) : Int))) = true then
       if (decide ((t7.2.1).size + (((List.getD t7.1 (Int.toNat t7.2.2.1) tLabel.dflt).1)).size < 4294967296)) = true then
        if (decide (((t7.2.1 ++ ((List.getD t7.1 (Int.toNat t7.2.2.1) tLabel.dflt).1))).size + ((⟨#[61, 34]⟩ : ByteArray)).size < 4294967296)) = true then
         if (decide (0 ≤ t7.2.2.1 ∧ t7.2.2.1 < ((List.length t7.1 : Nat) : Int))) = true then
          if (decide ((((t7.2.1 ++ ((List.getD t7.1 (Int.toNat t7.2.2.1) tLabel.dflt).1)) ++ (⟨#[61, 34]⟩ : ByteArray))).size + (((List.getD t7.1 (Int.toNat t7.2.2.1) tLabel.dflt).2)).size < 4294967296)) = true then
           if (decide (((((t7.2.1 ++ ((List.getD t7.1 (Int.toNat t7.2.2.1) tLabel.dflt).1)) ++ (⟨#[61, 34]⟩ : ByteArray)) ++ ((List.getD t7.1 (Int.toNat t7.2.2.1) tLabel.dflt).2))).size + ((⟨#[34]⟩ : ByteArray)).size < 4294967296)) = true then
            G4 (t7.1, (((t7.2.1 ++ ((List.getD t7.1 (Int.toNat t7.2.2.1) tLabel.dflt).1)) ++ (⟨#[61, 34]⟩ : ByteArray)) ++ ((List.getD t7.1 (Int.toNat t7.2.2.1) tLabel.dflt).2)) ++ (⟨#[34]⟩ : ByteArray), IntKind.i64.wrap (t7.2.2.1 + (1 : Int)), ())
           else
            none
          else
           none
         else
          none
        else
         none
       else
        none
      else
       none)
    else
     J2 (t5.2.1, ())) (x.1, (⟨#[123]⟩ : ByteArray), (0 : Int), ())) (fun (t3 : ByteArray × Unit) =>
   if (decide ((t3.1).size + ((⟨#[125]⟩ : ByteArray)).size < 4294967296)) = true then
    some (t3.1 ++ (⟨#[125]⟩ : ByteArray), ())
   else
    none)
def F_spec_Sum (k : Nat) (x : ByteArray × Unit) : Option (Int × Unit) :=
 loopN k (fun G1 (t2 : ByteArray × Int × Int × Unit) =>
  if (decide ((t2.2.2.1 : Int) < ((ByteArray.size t2.1 : Nat) : Int))) = true then
   if (decide (0 ≤ t2.2.2.1 ∧ t2.2.2.1 < ((ByteArray.size t2.1 : Nat) : Int))) = true then
    G1 (t2.1, bits (fun _ => (· &&& ·)) .i64 (IntKind.i64.wrap ((bits (fun _ => (· ^^^ ·)) .i64 t2.2.1 (IntKind.i64.wrap (bt t2.1 t2.2.2.1))) * (16777619 : Int))) (4294967295 : Int), IntKind.i64.wrap (t2.2.2.1 + (1 : Int)), ())
   else
    none
  else
   some (t2.2.1, ())) (x.1, (2166136261 : Int), (0 : Int), ())
def F_spec_Finger (k : Nat) (x : List DLabel × Unit) : Option (Int × Unit) :=
 Option.bind (F_spec_SetText k (x.1, ())) fun r1 =>
 Option.bind (F_spec_Sum k (r1.1, ())) fun r2 =>
 if (decide (0 ≤ (16 : Int))) = true then
  if (decide ((32 : Int) ≠ 0)) = true then
   some (Int.tmod (bits (fun _ => (· ^^^ ·)) .i64 r2.1 (Int.fdiv r2.1 (2 ^ (min (Int.toNat (16 : Int)) IntKind.i64.bits)))) (32 : Int), ())
  else
   none
 else
  none
def F_spec_PartOf (k : Nat) (x : Int × Int × Unit) : Option (Int × Unit) :=
 if (if (decide ((x.2.1 : Int) < (1 : Int))) = true then true else decide ((x.1 : Int) < (0 : Int))) = true then
  some ((0 : Int), ())
 else
  if (decide (x.2.1 ≠ 0)) = true then
   some (Int.tmod x.1 x.2.1, ())
  else
   none
def F_spec_HoldsPart (k : Nat) (x : DTask × Int × Unit) : Option (Int × Unit) :=
 if (decide ((x.2.1 : Int) < (1 : Int))) = true then
  some ((-1 : Int), ())
 else
  if (if ((x.1.1 : Int) == (1 : Int)) = true then if ((x.1.2.1 : Int) == (1 : Int)) = true then true else (x.1.2.1 : Int) == (2 : Int) else false) = true then
   Option.bind (F_spec_Finger k (x.1.2.2.1.1, ())) fun r1 =>
   Option.bind (F_spec_PartOf k (r1.1, x.2.1, ())) fun r2 =>
   some (r2.1, ())
  else
   if (if ((x.1.1 : Int) == (2 : Int)) = true then (x.1.2.1 : Int) == (1 : Int) else false) = true then
    Option.bind (F_spec_Finger k (x.1.2.2.2.1, ())) fun r3 =>
    Option.bind (F_spec_PartOf k (r3.1, x.2.1, ())) fun r4 =>
    some (r4.1, ())
   else
    if (if (if ((x.1.1 : Int) == (3 : Int)) = true then true else (x.1.1 : Int) == (4 : Int)) = true then (x.1.2.1 : Int) == (1 : Int) else false) = true then
     some (x.1.2.2.2.2.1, ())
    else
     some ((-1 : Int), ())
def F_impl_WantsPart (k : Nat) (x : DTask × Int × Unit) : Option (Int × Unit) :=
 Option.bind (F_impl_partAt k (x.1, x.2.1, (x.1.2.1 : Int) == (0 : Int), ())) fun r1 =>
 some (r1.1, ())
def F_spec_WantsPart (k : Nat) (x : DTask × Int × Unit) : Option (Int × Unit) :=
 if (if (decide ((x.2.1 : Int) < (1 : Int))) = true then true else (x.1.2.1 : Int) != (0 : Int)) = true then
  some ((-1 : Int), ())
 else
  if ((x.1.1 : Int) == (1 : Int)) = true then
   Option.bind (F_spec_Finger k (x.1.2.2.1.1, ())) fun r1 =>
   Option.bind (F_spec_PartOf k (r1.1, x.2.1, ())) fun r2 =>
   some (r2.1, ())
  else
   if ((x.1.1 : Int) == (2 : Int)) = true then
    Option.bind (F_spec_Finger k (x.1.2.2.2.1, ())) fun r3 =>
    Option.bind (F_spec_PartOf k (r3.1, x.2.1, ())) fun r4 =>
    some (r4.1, ())
   else
    if ((x.1.1 : Int) == (3 : Int)) = true then
     if ((x.1.1 : Int) == (3 : Int)) = true then
      some (x.1.2.2.2.2.1, ())
     else
      some ((-1 : Int), ())
    else
     if ((x.1.1 : Int) == (4 : Int)) = true then
      some (x.1.2.2.2.2.1, ())
     else
      some ((-1 : Int), ())
def F_impl_HoldsGroups (k : Nat) (x : DTask × Unit) : Option (Bool × Unit) :=
 some (if (if ((x.1.1 : Int) == (5 : Int)) = true then true else (x.1.1 : Int) == (6 : Int)) = true then (x.1.2.1 : Int) == (1 : Int) else false, ())
def F_spec_HoldsGroups (k : Nat) (x : DTask × Unit) : Option (Bool × Unit) :=
 some (if (if ((x.1.1 : Int) == (5 : Int)) = true then true else (x.1.1 : Int) == (6 : Int)) = true then (x.1.2.1 : Int) == (1 : Int) else false, ())
def F_impl_WantsGroups (k : Nat) (x : DTask × Unit) : Option (Bool × Unit) :=
 some (if (if ((x.1.1 : Int) == (5 : Int)) = true then true else (x.1.1 : Int) == (6 : Int)) = true then (x.1.2.1 : Int) == (0 : Int) else false, ())
def F_spec_WantsGroups (k : Nat) (x : DTask × Unit) : Option (Bool × Unit) :=
 some (if (if ((x.1.1 : Int) == (5 : Int)) = true then true else (x.1.1 : Int) == (6 : Int)) = true then (x.1.2.1 : Int) == (0 : Int) else false, ())
def F_laws_FnTasks (k : Nat) (x : List Int × Unit) : Option (Bool × Unit) :=
 Option.bind (F_laws_big k (x.1, ())) fun r1 =>
 if r1.1 = true then
  some (true, ())
 else
  Option.bind (F_spec_DrawTaskOk k (x.1, ())) fun r2 =>
  Option.bind (F_spec_DrawHoldsPart k (x.1, ())) fun r3 =>
  Option.bind (F_spec_DrawWantsPart k (x.1, ())) fun r4 =>
  Option.bind (F_spec_DrawHoldsGroups k (x.1, ())) fun r5 =>
  Option.bind (F_spec_DrawWantsGroups k (x.1, ())) fun r6 =>
  Option.bind (F_impl_HoldsPart k (r3.1, r3.2.1, ())) fun r7 =>
  Option.bind (F_impl_TaskOk k (r2.1, r2.2.1, ())) fun r8 =>
  Option.bind (F_spec_TaskOk k (r2.1, r2.2.1, ())) fun r9 =>
  Option.bind ((if ((((r8.1 : Bool) == r9.1) : Bool) == true) = true then F_spec_HoldsPart k (r3.1, r3.2.1, ()) else some (0, ()))) fun r10 =>
  Option.bind ((if (((if ((r8.1 : Bool) == r9.1) = true then (r7.1 : Int) == r10.1 else false) : Bool) == true) = true then F_impl_WantsPart k (r4.1, r4.2.1, ()) else some (0, ()))) fun r11 =>
  Option.bind ((if (((if ((r8.1 : Bool) == r9.1) = true then (r7.1 : Int) == r10.1 else false) : Bool) == true) = true then F_spec_WantsPart k (r4.1, r4.2.1, ()) else some (0, ()))) fun r12 =>
  Option.bind ((if (((if (if ((r8.1 : Bool) == r9.1) = true then (r7.1 : Int) == r10.1 else false) = true then (r11.1 : Int) == r12.1 else false) : Bool) == true) = true then F_impl_HoldsGroups k (r5.1, ()) else some (false, ()))) fun r13 =>
  Option.bind ((if (((if (if ((r8.1 : Bool) == r9.1) = true then (r7.1 : Int) == r10.1 else false) = true then (r11.1 : Int) == r12.1 else false) : Bool) == true) = true then F_spec_HoldsGroups k (r5.1, ()) else some (false, ()))) fun r14 =>
  Option.bind ((if (((if (if (if ((r8.1 : Bool) == r9.1) = true then (r7.1 : Int) == r10.1 else false) = true then (r11.1 : Int) == r12.1 else false) = true then (r13.1 : Bool) == r14.1 else false) : Bool) == true) = true then F_impl_WantsGroups k (r6.1, ()) else some (false, ()))) fun r15 =>
  Option.bind ((if (((if (if (if ((r8.1 : Bool) == r9.1) = true then (r7.1 : Int) == r10.1 else false) = true then (r11.1 : Int) == r12.1 else false) = true then (r13.1 : Bool) == r14.1 else false) : Bool) == true) = true then F_spec_WantsGroups k (r6.1, ()) else some (false, ()))) fun r16 =>
  Option.bind ((if (((if (if (if (if ((r8.1 : Bool) == r9.1) = true then (r7.1 : Int) == r10.1 else false) = true then (r11.1 : Int) == r12.1 else false) = true then (r13.1 : Bool) == r14.1 else false) = true then (r15.1 : Bool) == r16.1 else false) : Bool) == true) = true then F_impl_HoldsGroups k (r5.1, ()) else some (false, ()))) fun r17 =>
  Option.bind ((if ((((if (if (if (if ((r8.1 : Bool) == r9.1) = true then (r7.1 : Int) == r10.1 else false) = true then (r11.1 : Int) == r12.1 else false) = true then (r13.1 : Bool) == r14.1 else false) = true then (r15.1 : Bool) == r16.1 else false) : Bool) == true) && ((r17.1 : Bool) == true)) = true then F_impl_WantsGroups k (r5.1, ()) else some (false, ()))) fun r18 =>
  Option.bind ((if ((((if (if (if (if (if ((r8.1 : Bool) == r9.1) = true then (r7.1 : Int) == r10.1 else false) = true then (r11.1 : Int) == r12.1 else false) = true then (r13.1 : Bool) == r14.1 else false) = true then (r15.1 : Bool) == r16.1 else false) = true then !(if r17.1 = true then r18.1 else false) else false) : Bool) == true) && ((((r7.1 : Int) == (-1 : Int)) : Bool) == false)) = true then F_impl_WantsPart k (r3.1, r3.2.1, ()) else some (0, ()))) fun r19 =>
  some (if (if (if (if (if (if (if ((r8.1 : Bool) == r9.1) = true then (r7.1 : Int) == r10.1 else false) = true then (r11.1 : Int) == r12.1 else false) = true then (r13.1 : Bool) == r14.1 else false) = true then (r15.1 : Bool) == r16.1 else false) = true then !(if r17.1 = true then r18.1 else false) else false) = true then if ((r7.1 : Int) == (-1 : Int)) = true then true else (r19.1 : Int) == (-1 : Int) else false) = true then if (decide ((r3.2.1 : Int) ≥ (1 : Int))) = true then true else (r7.1 : Int) == (-1 : Int) else false, ())
end Vg.Try
