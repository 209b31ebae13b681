/- What the functions compute: more of them. -/
import Derived.Test.YtlpeoedbginanaaGreatF
namespace Vg.Tryz
open Go Vg
set_option linter.unusedVariables false
def F_spec_WantsPart (k : Nat) (x : DTask × Int × Unit) : Option (Int × Unit) :=
  if (if (decide ((x.2.1 : Int) < (1 : Int))) = true then true else (x.1.2.1 : Int) != (0 : Int)) = true then
    some ((-1 : Int), ())
  else
    if ((x.1.1 : Int) == (1 : Int)) = true then
      Option.bind (F_spec_Finger k (x.1.2.2.1.1, ())) fun (r1 : Int × Unit) =>
      Option.bind (F_spec_PartOf k (r1.1, x.2.1, ())) fun (r2 : Int × Unit) =>
      some (r2.1, ())
    else
      if ((x.1.1 : Int) == (2 : Int)) = true then
        Option.bind (F_spec_Finger k (x.1.2.2.2.1, ())) fun (r3 : Int × Unit) =>
        Option.bind (F_spec_PartOf k (r3.1, x.2.1, ())) fun (r4 : Int × Unit) =>
        some (r4.1, ())
      else
        if ((x.1.1 : Int) == (3 : Int)) = true then
          if ((x.1.1 : Int) == (3 : Int)) = true then
            some (x.1.2.2.2.2.1, ())
          else
            some ((-1 : Int), ())
        else
          if ((x.1.1 : Int) == (4 : Int)) = true then
            some (x.1.2.2.2.2.1, ())
          else
            some ((-1 : Int), ())
def F_spec_WantsGroups (k : Nat) (x : DTask × Unit) : Option (Bool × Unit) :=
  some (if (if ((x.1.1 : Int) == (5 : Int)) = true then true else (x.1.1 : Int) == (6 : Int)) = true then (x.1.2.1 : Int) == (0 : Int) else false, ())
def F_spec_WaitsFor (k : Nat) (x : DWorld × Int × Unit) : Option (Int × Unit) :=
  Option.bind (F_spec_WorldOk k (x.1, ())) fun (r1 : Bool × Unit) =>
  Option.bind ((if (((!r1.1) : Bool) == false) = true then F_spec_l1In k (x.2.1, (0 : Int), (4 : Int), ()) else some (false, ()))) fun (r2 : Bool × Unit) =>
  if (if (!r1.1) = true then true else !r2.1) = true then
    some ((-1 : Int), ())
  else
    if (decide (0 ≤ x.2.1 ∧ x.2.1 < ((List.length x.1.2.2.2.2.2.2.2.2.2.2.2.2.1 : Nat) : Int))) = true then
      Option.bind (F_spec_WantsPart k (List.getD x.1.2.2.2.2.2.2.2.2.2.2.2.2.1 (Int.toNat x.2.1) tTask.dflt, ((List.length x.1.2.2.2.1 : Nat) : Int), ())) fun (r3 : Int × Unit) =>
      if (decide ((r3.1 : Int) ≥ (0 : Int))) = true then
        if (decide (0 ≤ r3.1 ∧ r3.1 < ((List.length x.1.2.2.2.1 : Nat) : Int))) = true then
          some ((List.getD x.1.2.2.2.1 (Int.toNat r3.1) tPart.dflt).1, ())
        else
          none
      else
        if (decide (0 ≤ x.2.1 ∧ x.2.1 < ((List.length x.1.2.2.2.2.2.2.2.2.2.2.2.2.1 : Nat) : Int))) = true then
          Option.bind (F_spec_WantsGroups k (List.getD x.1.2.2.2.2.2.2.2.2.2.2.2.2.1 (Int.toNat x.2.1) tTask.dflt, ())) fun (r4 : Bool × Unit) =>
          if r4.1 = true then
            some (x.1.2.2.2.2.2.2.1, ())
          else
            some ((-1 : Int), ())
        else
          none
    else
      none
def F_impl_WantsPart (k : Nat) (x : DTask × Int × Unit) : Option (Int × Unit) :=
  Option.bind (F_impl_partAt k (x.1, x.2.1, (x.1.2.1 : Int) == (0 : Int), ())) fun (r1 : Int × Unit) =>
  some (r1.1, ())
def F_impl_WantsGroups (k : Nat) (x : DTask × Unit) : Option (Bool × Unit) :=
  some (if (if ((x.1.1 : Int) == (5 : Int)) = true then true else (x.1.1 : Int) == (6 : Int)) = true then (x.1.2.1 : Int) == (0 : Int) else false, ())
def F_impl_WaitsFor (k : Nat) (x : DWorld × Int × Unit) : Option (Int × Unit) :=
  Option.bind (F_impl_WorldOk k (x.1, ())) fun (r1 : Bool × Unit) =>
  Option.bind ((if (((!r1.1) : Bool) == false) = true then F_impl_in k (x.2.1, (0 : Int), (4 : Int), ()) else some (false, ()))) fun (r2 : Bool × Unit) =>
  if (if (!r1.1) = true then true else !r2.1) = true then
    some ((-1 : Int), ())
  else
    if (decide (0 ≤ x.2.1 ∧ x.2.1 < ((List.length x.1.2.2.2.2.2.2.2.2.2.2.2.2.1 : Nat) : Int))) = true then
      Option.bind (F_impl_WantsPart k (List.getD x.1.2.2.2.2.2.2.2.2.2.2.2.2.1 (Int.toNat x.2.1) tTask.dflt, ((List.length x.1.2.2.2.1 : Nat) : Int), ())) fun (r3 : Int × Unit) =>
      if (decide ((r3.1 : Int) ≥ (0 : Int))) = true then
        if (decide (0 ≤ r3.1 ∧ r3.1 < ((List.length x.1.2.2.2.1 : Nat) : Int))) = true then
          some ((List.getD x.1.2.2.2.1 (Int.toNat r3.1) tPart.dflt).1, ())
        else
          none
      else
        if (decide (0 ≤ x.2.1 ∧ x.2.1 < ((List.length x.1.2.2.2.2.2.2.2.2.2.2.2.2.1 : Nat) : Int))) = true then
          Option.bind (F_impl_WantsGroups k (List.getD x.1.2.2.2.2.2.2.2.2.2.2.2.2.1 (Int.toNat x.2.1) tTask.dflt, ())) fun (r4 : Bool × Unit) =>
          if r4.1 = true then
            some (x.1.2.2.2.2.2.2.1, ())
          else
            some ((-1 : Int), ())
        else
          none
    else
      none
def F_laws_FnExactWaitsFor (k : Nat) (x : DWorld × Int × Unit) : Option (Bool × Unit) :=
  Option.bind (F_laws_szWorld k (x.1, (1048576 : Int), ())) fun (r1 : Int × Unit) =>
  if (decide ((r1.1 : Int) < (0 : Int))) = true then
    some (true, ())
  else
    Option.bind (F_laws_toWorld k (x.1, ())) fun (r2 : DWorld × Unit) =>
    Option.bind (F_spec_WaitsFor k (r2.1, x.2.1, ())) fun (r3 : Int × Unit) =>
    Option.bind (F_laws_toWorld k (x.1, ())) fun (r4 : DWorld × Unit) =>
    Option.bind (F_impl_WaitsFor k (r4.1, x.2.1, ())) fun (r5 : Int × Unit) =>
    if ((r5.1 : Int) != r3.1) = true then
      some (false, ())
    else
      Option.bind (F_laws_toWorld k (x.1, ())) fun (r6 : DWorld × Unit) =>
      Option.bind (F_laws_eqWorld k (r4.1, r6.1, ())) fun (r7 : Bool × Unit) =>
      if (!r7.1) = true then
        some (false, ())
      else
        some (true, ())
end Vg.Tryz
