/- What the functions compute, printed by vgen.py from the evaluator's run. -/
import Derived.Test.YtcobjindoakgmaaVc

namespace Vg.Try
open Go Vg
set_option linter.unusedVariables false
abbrev tLabel : Ty := (.pair .str .str)
abbrev DLabel : Type := (ByteArray × ByteArray)
abbrev tAlarm : Ty := (.pair (.sl tLabel) (.pair (.int .i64) (.pair (.int .i64) .str)))
abbrev DAlarm : Type := (List DLabel × (Int × (Int × ByteArray)))
def F_laws_szLabel (k : Nat) (x : DLabel × Int × Unit) : Option (Int × Unit) :=
  if (decide (((IntKind.i64.wrap (x.2.1 - ((ByteArray.size x.1.1 : Nat) : Int))) : Int) < (0 : Int))) = true then
    some ((-1 : Int), ())
  else
    if (decide (((IntKind.i64.wrap ((IntKind.i64.wrap (x.2.1 - ((ByteArray.size x.1.1 : Nat) : Int))) - ((ByteArray.size x.1.2 : Nat) : Int))) : Int) < (0 : Int))) = true then
      some ((-1 : Int), ())
    else
      some (IntKind.i64.wrap ((IntKind.i64.wrap (x.2.1 - ((ByteArray.size x.1.1 : Nat) : Int))) - ((ByteArray.size x.1.2 : Nat) : Int)), ())
def F_laws_szLabelS (k : Nat) (x : List DLabel × Int × Unit) : Option (Int × Unit) :=
  if (decide (((IntKind.i64.wrap (x.2.1 - ((List.length x.1 : Nat) : Int))) : Int) < (0 : Int))) = true then
    some ((-1 : Int), ())
  else
    loopN k (fun G1 (t2 : List DLabel × Int × Int × Unit) =>
      if (decide ((t2.2.2.1 : Int) < ((List.length t2.1 : Nat) : Int))) = true then
        if (decide (0 ≤ t2.2.2.1 ∧ t2.2.2.1 < ((List.length t2.1 : Nat) : Int))) = true then
          Option.bind (F_laws_szLabel k (List.getD t2.1 (Int.toNat t2.2.2.1) tLabel.dflt, t2.2.1, ())) fun (r3 : Int × Unit) =>
          if (decide ((r3.1 : Int) < (0 : Int))) = true then
            some ((-1 : Int), ())
          else
            G1 (t2.1, r3.1, IntKind.i64.wrap (t2.2.2.1 + (1 : Int)), ())
        else
          none
      else
        some (t2.2.1, ())) (x.1, IntKind.i64.wrap (x.2.1 - ((List.length x.1 : Nat) : Int)), (0 : Int), ())
def F_laws_szAlarm (k : Nat) (x : DAlarm × Int × Unit) : Option (Int × Unit) :=
  Option.bind (F_laws_szLabelS k (x.1.1, x.2.1, ())) fun (r1 : Int × Unit) =>
  if (decide ((r1.1 : Int) < (0 : Int))) = true then
    some ((-1 : Int), ())
  else
    if (decide (((IntKind.i64.wrap (r1.1 - ((ByteArray.size x.1.2.2.2 : Nat) : Int))) : Int) < (0 : Int))) = true then
      some ((-1 : Int), ())
    else
      some (IntKind.i64.wrap (r1.1 - ((ByteArray.size x.1.2.2.2 : Nat) : Int)), ())
def F_laws_szAlarmS (k : Nat) (x : List DAlarm × Int × Unit) : Option (Int × Unit) :=
  if (decide (((IntKind.i64.wrap (x.2.1 - ((List.length x.1 : Nat) : Int))) : Int) < (0 : Int))) = true then
    some ((-1 : Int), ())
  else
    loopN k (fun G1 (t2 : List DAlarm × Int × Int × Unit) =>
      if (decide ((t2.2.2.1 : Int) < ((List.length t2.1 : Nat) : Int))) = true then
        if (decide (0 ≤ t2.2.2.1 ∧ t2.2.2.1 < ((List.length t2.1 : Nat) : Int))) = true then
          Option.bind (F_laws_szAlarm k (List.getD t2.1 (Int.toNat t2.2.2.1) tAlarm.dflt, t2.2.1, ())) fun (r3 : Int × Unit) =>
          if (decide ((r3.1 : Int) < (0 : Int))) = true then
            some ((-1 : Int), ())
          else
            G1 (t2.1, r3.1, IntKind.i64.wrap (t2.2.2.1 + (1 : Int)), ())
        else
          none
      else
        some (t2.2.1, ())) (x.1, IntKind.i64.wrap (x.2.1 - ((List.length x.1 : Nat) : Int)), (0 : Int), ())
def F_laws_toLabel (k : Nat) (x : DLabel × Unit) : Option (DLabel × Unit) :=
  some ((x.1.1, x.1.2), ())
def F_laws_toLabelS (k : Nat) (x : List DLabel × Unit) : Option (List DLabel × Unit) :=
  if (decide (0 ≤ ((List.length x.1 : Nat) : Int) ∧ ((List.length x.1 : Nat) : Int) < 4294967296 ∧ ((List.length x.1 : Nat) : Int) = ((List.length x.1 : Nat) : Int))) = true then
    loopN k (fun G1 (t2 : List DLabel × List DLabel × Int × Unit) =>
      if (decide ((t2.2.2.1 : Int) < ((List.length t2.1 : Nat) : Int))) = true then
        if (decide (0 ≤ t2.2.2.1 ∧ t2.2.2.1 < ((List.length t2.1 : Nat) : Int))) = true then
          Option.bind (F_laws_toLabel k (List.getD t2.1 (Int.toNat t2.2.2.1) tLabel.dflt, ())) fun (r3 : DLabel × Unit) =>
          if (decide (0 ≤ t2.2.2.1 ∧ t2.2.2.1 < ((List.length t2.2.1 : Nat) : Int))) = true then
            G1 (t2.1, List.set t2.2.1 (Int.toNat t2.2.2.1) r3.1, IntKind.i64.wrap (t2.2.2.1 + (1 : Int)), ())
          else
            none
        else
          none
      else
        some (t2.2.1, ())) (x.1, List.replicate (Int.toNat ((List.length x.1 : Nat) : Int)) tLabel.dflt, (0 : Int), ())
  else
    none
def F_laws_toAlarm (k : Nat) (x : DAlarm × Unit) : Option (DAlarm × Unit) :=
  Option.bind (F_laws_toLabelS k (x.1.1, ())) fun (r1 : List DLabel × Unit) =>
  some ((r1.1, (x.1.2.1, (x.1.2.2.1, x.1.2.2.2))), ())
def F_laws_toAlarmS (k : Nat) (x : List DAlarm × Unit) : Option (List DAlarm × Unit) :=
  if (decide (0 ≤ ((List.length x.1 : Nat) : Int) ∧ ((List.length x.1 : Nat) : Int) < 4294967296 ∧ ((List.length x.1 : Nat) : Int) = ((List.length x.1 : Nat) : Int))) = true then
    loopN k (fun G1 (t2 : List DAlarm × List DAlarm × Int × Unit) =>
      if (decide ((t2.2.2.1 : Int) < ((List.length t2.1 : Nat) : Int))) = true then
        if (decide (0 ≤ t2.2.2.1 ∧ t2.2.2.1 < ((List.length t2.1 : Nat) : Int))) = true then
          Option.bind (F_laws_toAlarm k (List.getD t2.1 (Int.toNat t2.2.2.1) tAlarm.dflt, ())) fun (r3 : DAlarm × Unit) =>
          if (decide (0 ≤ t2.2.2.1 ∧ t2.2.2.1 < ((List.length t2.2.1 : Nat) : Int))) = true then
            G1 (t2.1, List.set t2.2.1 (Int.toNat t2.2.2.1) r3.1, IntKind.i64.wrap (t2.2.2.1 + (1 : Int)), ())
          else
            none
        else
          none
      else
        some (t2.2.1, ())) (x.1, List.replicate (Int.toNat ((List.length x.1 : Nat) : Int)) tAlarm.dflt, (0 : Int), ())
  else
    none
def F_spec_Over (k : Nat) (x : DAlarm × Int × Unit) : Option (Bool × Unit) :=
  some (decide ((x.1.2.2.1 : Int) ≤ x.2.1), ())
def F_spec_l4Copy (k : Nat) (x : DAlarm × Unit) : Option (DAlarm × Unit) :=
  if (decide (List.length ([] : List DLabel) + List.length x.1.1 < 4294967296)) = true then
    some ((([] : List DLabel) ++ x.1.1, x.1.2), ())
  else
    none
def F_spec_Swept (k : Nat) (x : List DAlarm × Int × Unit) : Option (List DAlarm × Unit) :=
  loopN k (fun G1 (t2 : List DAlarm × Int × List DAlarm × Int × Unit) =>
    if (decide ((t2.2.2.2.1 : Int) < ((List.length t2.1 : Nat) : Int))) = true then
      if (decide (0 ≤ t2.2.2.2.1 ∧ t2.2.2.2.1 < ((List.length t2.1 : Nat) : Int))) = true then
        Option.bind (F_spec_Over k (List.getD t2.1 (Int.toNat t2.2.2.2.1) tAlarm.dflt, t2.2.1, ())) fun (r3 : Bool × Unit) =>
        if (!r3.1) = true then
          if (decide (0 ≤ t2.2.2.2.1 ∧ t2.2.2.2.1 < ((List.length t2.1 : Nat) : Int))) = true then
            Option.bind (F_spec_l4Copy k (List.getD t2.1 (Int.toNat t2.2.2.2.1) tAlarm.dflt, ())) fun (r4 : DAlarm × Unit) =>
            if (decide (List.length t2.2.2.1 + List.length ([r4.1] : List DAlarm) < 4294967296)) = true then
              G1 (t2.1, t2.2.1, t2.2.2.1 ++ ([r4.1] : List DAlarm), IntKind.i64.wrap (t2.2.2.2.1 + (1 : Int)), ())
            else
              none
          else
            none
        else
          G1 (t2.1, t2.2.1, t2.2.2.1, IntKind.i64.wrap (t2.2.2.2.1 + (1 : Int)), ())
      else
        none
    else
      some (t2.2.2.1, ())) (x.1, x.2.1, ([] : List DAlarm), (0 : Int), ())
def F_impl_Over (k : Nat) (x : DAlarm × Int × Unit) : Option (Bool × Unit) :=
  some (decide ((x.1.2.2.1 : Int) ≤ x.2.1), ())
def F_impl_copySet (k : Nat) (x : List DLabel × Unit) : Option (List DLabel × Unit) :=
  if (decide (List.length ([] : List DLabel) + List.length x.1 < 4294967296)) = true then
    some (([] : List DLabel) ++ x.1, ())
  else
    none
def F_impl_copyAlarm (k : Nat) (x : DAlarm × Unit) : Option (DAlarm × Unit) :=
  Option.bind (F_impl_copySet k (x.1.1, ())) fun (r1 : List DLabel × Unit) =>
  some ((r1.1, x.1.2), ())
def F_impl_Swept (k : Nat) (x : List DAlarm × Int × Unit) : Option (List DAlarm × Unit) :=
  loopN k (fun G1 (t2 : Int × List DAlarm × List DAlarm × Int × Int × Unit) =>
    if (decide ((t2.2.2.2.2.1 : Int) < t2.2.2.2.1)) = true then
      if (decide (0 ≤ t2.2.2.2.2.1 ∧ t2.2.2.2.2.1 < ((List.length t2.2.2.1 : Nat) : Int))) = true then
        Option.bind (F_impl_Over k (List.getD t2.2.2.1 (Int.toNat t2.2.2.2.2.1) tAlarm.dflt, t2.1, ())) fun (r3 : Bool × Unit) =>
        if (!r3.1) = true then
          Option.bind (F_impl_copyAlarm k (List.getD t2.2.2.1 (Int.toNat t2.2.2.2.2.1) tAlarm.dflt, ())) fun (r4 : DAlarm × Unit) =>
          if (decide (List.length t2.2.1 + List.length ([r4.1] : List DAlarm) < 4294967296)) = true then
            G1 (t2.1, t2.2.1 ++ ([r4.1] : List DAlarm), t2.2.2.1, t2.2.2.2.1, IntKind.i64.wrap (t2.2.2.2.2.1 + (1 : Int)), ())
          else
            none
        else
          G1 (t2.1, t2.2.1, t2.2.2.1, t2.2.2.2.1, IntKind.i64.wrap (t2.2.2.2.2.1 + (1 : Int)), ())
      else
        none
    else
      some (t2.2.1, ())) (x.2.1, ([] : List DAlarm), x.1, ((List.length x.1 : Nat) : Int), (0 : Int), ())
def F_laws_eqLabel (k : Nat) (x : DLabel × DLabel × Unit) : Option (Bool × Unit) :=
  if (!(ByteArray.toList x.1.1 == ByteArray.toList x.2.1.1)) = true then
    some (false, ())
  else
    if (!(ByteArray.toList x.1.2 == ByteArray.toList x.2.1.2)) = true then
      some (false, ())
    else
      some (true, ())
def F_laws_eqLabelS (k : Nat) (x : List DLabel × List DLabel × Unit) : Option (Bool × Unit) :=
  if ((((List.length x.1 : Nat) : Int) : Int) != ((List.length x.2.1 : Nat) : Int)) = true then
    some (false, ())
  else
    loopN k (fun G1 (t2 : List DLabel × List DLabel × Int × Unit) =>
      if (decide ((t2.2.2.1 : Int) < ((List.length t2.1 : Nat) : Int))) = true then
        if (decide (0 ≤ t2.2.2.1 ∧ t2.2.2.1 < ((List.length t2.1 : Nat) : Int))) = true then
          if (decide (0 ≤ t2.2.2.1 ∧ t2.2.2.1 < ((List.length t2.2.1 : Nat) : Int))) = true then
            Option.bind (F_laws_eqLabel k (List.getD t2.1 (Int.toNat t2.2.2.1) tLabel.dflt, List.getD t2.2.1 (Int.toNat t2.2.2.1) tLabel.dflt, ())) fun (r3 : Bool × Unit) =>
            if (!r3.1) = true then
              some (false, ())
            else
              G1 (t2.1, t2.2.1, IntKind.i64.wrap (t2.2.2.1 + (1 : Int)), ())
          else
            none
        else
          none
      else
        some (true, ())) (x.1, x.2.1, (0 : Int), ())
def F_laws_eqAlarm (k : Nat) (x : DAlarm × DAlarm × Unit) : Option (Bool × Unit) :=
  Option.bind (F_laws_eqLabelS k (x.1.1, x.2.1.1, ())) fun (r1 : Bool × Unit) =>
  if (!r1.1) = true then
    some (false, ())
  else
    if ((x.1.2.1 : Int) != x.2.1.2.1) = true then
      some (false, ())
    else
      if ((x.1.2.2.1 : Int) != x.2.1.2.2.1) = true then
        some (false, ())
      else
        if (!(ByteArray.toList x.1.2.2.2 == ByteArray.toList x.2.1.2.2.2)) = true then
          some (false, ())
        else
          some (true, ())
def F_laws_eqAlarmS (k : Nat) (x : List DAlarm × List DAlarm × Unit) : Option (Bool × Unit) :=
  if ((((List.length x.1 : Nat) : Int) : Int) != ((List.length x.2.1 : Nat) : Int)) = true then
    some (false, ())
  else
    loopN k (fun G1 (t2 : List DAlarm × List DAlarm × Int × Unit) =>
      if (decide ((t2.2.2.1 : Int) < ((List.length t2.1 : Nat) : Int))) = true then
        if (decide (0 ≤ t2.2.2.1 ∧ t2.2.2.1 < ((List.length t2.1 : Nat) : Int))) = true then
          if (decide (0 ≤ t2.2.2.1 ∧ t2.2.2.1 < ((List.length t2.2.1 : Nat) : Int))) = true then
            Option.bind (F_laws_eqAlarm k (List.getD t2.1 (Int.toNat t2.2.2.1) tAlarm.dflt, List.getD t2.2.1 (Int.toNat t2.2.2.1) tAlarm.dflt, ())) fun (r3 : Bool × Unit) =>
            if (!r3.1) = true then
              some (false, ())
            else
              G1 (t2.1, t2.2.1, IntKind.i64.wrap (t2.2.2.1 + (1 : Int)), ())
          else
            none
        else
          none
      else
        some (true, ())) (x.1, x.2.1, (0 : Int), ())
def F_laws_markText (k : Nat) (x : Int × Unit) : Option (ByteArray × Unit) :=
  if (decide ((x.1 : Int) ≤ (0 : Int))) = true then
    some ((⟨#[109, 48]⟩ : ByteArray), ())
  else
    joinC (fun J1 =>
      loopN k (fun G3 (t4 : Int × ByteArray × Unit) =>
        if (decide ((t4.1 : Int) > (0 : Int))) = true then
          if (decide ((10 : Int) ≠ 0)) = true then
            if (decide (((⟨(List.map (fun n : Int => UInt8.ofNat n.toNat) ([IntKind.u8.wrap (IntKind.i64.wrap ((48 : Int) + (Int.tmod t4.1 (10 : Int))))] : List Int)).toArray⟩ : ByteArray)).size + (t4.2.1).size < 4294967296)) = true then
              if (decide ((10 : Int) ≠ 0)) = true then
                G3 (IntKind.i64.wrap (Int.tdiv t4.1 (10 : Int)), (⟨(List.map (fun n : Int => UInt8.ofNat n.toNat) ([IntKind.u8.wrap (IntKind.i64.wrap ((48 : Int) + (Int.tmod t4.1 (10 : Int))))] : List Int)).toArray⟩ : ByteArray) ++ t4.2.1, ())
              else
                none
            else
              none
          else
            none
        else
          J1 (t4.2.1, ())) (x.1, (⟨#[]⟩ : ByteArray), ())) (fun (t2 : ByteArray × Unit) =>
      if (decide (((⟨#[109]⟩ : ByteArray)).size + (t2.1).size < 4294967296)) = true then
        some ((⟨#[109]⟩ : ByteArray) ++ t2.1, ())
      else
        none)
def F_laws_markLabelS (k : Nat) (x : List DLabel) (n : Int) : Option (Int × (List DLabel)) :=
  loopN k (fun G1 (t2 : List DLabel × Int × Int × Unit) =>
    if (decide ((t2.2.2.1 : Int) < ((List.length t2.1 : Nat) : Int))) = true then
      Option.bind (F_laws_markText k (t2.2.1, ())) fun (r3 : ByteArray × Unit) =>
      if (decide (0 ≤ t2.2.2.1 ∧ t2.2.2.1 < ((List.length t2.1 : Nat) : Int))) = true then
        letC (List.set t2.1 (Int.toNat t2.2.2.1) (r3.1, (List.getD t2.1 (Int.toNat t2.2.2.1) tLabel.dflt).2)) fun (l4 : List DLabel) =>
        Option.bind (F_laws_markText k (IntKind.i64.wrap (t2.2.1 + (1 : Int)), ())) fun (r5 : ByteArray × Unit) =>
        if (decide (0 ≤ t2.2.2.1 ∧ t2.2.2.1 < ((List.length l4 : Nat) : Int))) = true then
          letC (List.set l4 (Int.toNat t2.2.2.1) ((List.getD l4 (Int.toNat t2.2.2.1) tLabel.dflt).1, r5.1)) fun (l6 : List DLabel) =>
          G1 (l6, IntKind.i64.wrap ((IntKind.i64.wrap (t2.2.1 + (1 : Int))) + (1 : Int)), IntKind.i64.wrap (t2.2.2.1 + (1 : Int)), ())
        else
          none
      else
        none
    else
      some (t2.2.1, t2.1)) (x, n, (0 : Int), ())
def F_laws_markAlarmS (k : Nat) (x : List DAlarm) (n : Int) : Option (Int × (List DAlarm)) :=
  loopN k (fun G1 (t2 : List DAlarm × Int × Int × Unit) =>
    if (decide ((t2.2.2.1 : Int) < ((List.length t2.1 : Nat) : Int))) = true then
      if (decide (0 ≤ t2.2.2.1 ∧ t2.2.2.1 < ((List.length t2.1 : Nat) : Int))) = true then
        Option.bind (F_laws_markLabelS k ((List.getD t2.1 (Int.toNat t2.2.2.1) tAlarm.dflt).1) t2.2.1) fun (r3 : Int × (List DLabel)) =>
        letC (List.set t2.1 (Int.toNat t2.2.2.1) (r3.2, (List.getD t2.1 (Int.toNat t2.2.2.1) tAlarm.dflt).2)) fun (l4 : List DAlarm) =>
        if (decide (0 ≤ t2.2.2.1 ∧ t2.2.2.1 < ((List.length l4 : Nat) : Int))) = true then
          letC (List.set l4 (Int.toNat t2.2.2.1) ((List.getD l4 (Int.toNat t2.2.2.1) tAlarm.dflt).1, (r3.1, ((List.getD l4 (Int.toNat t2.2.2.1) tAlarm.dflt).2).2))) fun (l5 : List DAlarm) =>
          if (decide (0 ≤ t2.2.2.1 ∧ t2.2.2.1 < ((List.length l5 : Nat) : Int))) = true then
            letC (List.set l5 (Int.toNat t2.2.2.1) ((List.getD l5 (Int.toNat t2.2.2.1) tAlarm.dflt).1, (((List.getD l5 (Int.toNat t2.2.2.1) tAlarm.dflt).2).1, (IntKind.i64.wrap (r3.1 + (1 : Int)), (((List.getD l5 (Int.toNat t2.2.2.1) tAlarm.dflt).2).2).2)))) fun (l6 : List DAlarm) =>
            Option.bind (F_laws_markText k (IntKind.i64.wrap ((IntKind.i64.wrap (r3.1 + (1 : Int))) + (1 : Int)), ())) fun (r7 : ByteArray × Unit) =>
            if (decide (0 ≤ t2.2.2.1 ∧ t2.2.2.1 < ((List.length l6 : Nat) : Int))) = true then
              letC (List.set l6 (Int.toNat t2.2.2.1) ((List.getD l6 (Int.toNat t2.2.2.1) tAlarm.dflt).1, (((List.getD l6 (Int.toNat t2.2.2.1) tAlarm.dflt).2).1, ((((List.getD l6 (Int.toNat t2.2.2.1) tAlarm.dflt).2).2).1, r7.1)))) fun (l8 : List DAlarm) =>
              G1 (l8, IntKind.i64.wrap ((IntKind.i64.wrap ((IntKind.i64.wrap (r3.1 + (1 : Int))) + (1 : Int))) + (1 : Int)), IntKind.i64.wrap (t2.2.2.1 + (1 : Int)), ())
            else
              none
          else
            none
        else
          none
      else
        none
    else
      some (t2.2.1, t2.1)) (x, n, (0 : Int), ())
def F_laws_heldLabelS (k : Nat) (x : List DLabel × Int × Unit) : Option (Int × Unit) :=
  loopN k (fun G1 (t2 : List DLabel × Int × Int × Unit) =>
    if (decide ((t2.2.2.1 : Int) < ((List.length t2.1 : Nat) : Int))) = true then
      if (decide (0 ≤ t2.2.2.1 ∧ t2.2.2.1 < ((List.length t2.1 : Nat) : Int))) = true then
        Option.bind (F_laws_markText k (t2.2.1, ())) fun (r3 : ByteArray × Unit) =>
        if (!(ByteArray.toList ((List.getD t2.1 (Int.toNat t2.2.2.1) tLabel.dflt).1) == ByteArray.toList r3.1)) = true then
          some ((-1 : Int), ())
        else
          if (decide (0 ≤ t2.2.2.1 ∧ t2.2.2.1 < ((List.length t2.1 : Nat) : Int))) = true then
            Option.bind (F_laws_markText k (IntKind.i64.wrap (t2.2.1 + (1 : Int)), ())) fun (r4 : ByteArray × Unit) =>
            if (!(ByteArray.toList ((List.getD t2.1 (Int.toNat t2.2.2.1) tLabel.dflt).2) == ByteArray.toList r4.1)) = true then
              some ((-1 : Int), ())
            else
              G1 (t2.1, IntKind.i64.wrap ((IntKind.i64.wrap (t2.2.1 + (1 : Int))) + (1 : Int)), IntKind.i64.wrap (t2.2.2.1 + (1 : Int)), ())
          else
            none
      else
        none
    else
      some (t2.2.1, ())) (x.1, x.2.1, (0 : Int), ())
def F_laws_heldAlarmS (k : Nat) (x : List DAlarm × Int × Unit) : Option (Int × Unit) :=
  loopN k (fun G1 (t2 : List DAlarm × Int × Int × Unit) =>
    if (decide ((t2.2.2.1 : Int) < ((List.length t2.1 : Nat) : Int))) = true then
      if (decide (0 ≤ t2.2.2.1 ∧ t2.2.2.1 < ((List.length t2.1 : Nat) : Int))) = true then
        Option.bind (F_laws_heldLabelS k ((List.getD t2.1 (Int.toNat t2.2.2.1) tAlarm.dflt).1, t2.2.1, ())) fun (r3 : Int × Unit) =>
        if (decide ((r3.1 : Int) < (0 : Int))) = true then
          some ((-1 : Int), ())
        else
          if (decide (0 ≤ t2.2.2.1 ∧ t2.2.2.1 < ((List.length t2.1 : Nat) : Int))) = true then
            if (((((List.getD t2.1 (Int.toNat t2.2.2.1) tAlarm.dflt).2).1) : Int) != r3.1) = true then
              some ((-1 : Int), ())
            else
              if (decide (0 ≤ t2.2.2.1 ∧ t2.2.2.1 < ((List.length t2.1 : Nat) : Int))) = true then
                if ((((((List.getD t2.1 (Int.toNat t2.2.2.1) tAlarm.dflt).2).2).1) : Int) != (IntKind.i64.wrap (r3.1 + (1 : Int)))) = true then
                  some ((-1 : Int), ())
                else
                  if (decide (0 ≤ t2.2.2.1 ∧ t2.2.2.1 < ((List.length t2.1 : Nat) : Int))) = true then
                    Option.bind (F_laws_markText k (IntKind.i64.wrap ((IntKind.i64.wrap (r3.1 + (1 : Int))) + (1 : Int)), ())) fun (r4 : ByteArray × Unit) =>
                    if (!(ByteArray.toList ((((List.getD t2.1 (Int.toNat t2.2.2.1) tAlarm.dflt).2).2).2) == ByteArray.toList r4.1)) = true then
                      some ((-1 : Int), ())
                    else
                      G1 (t2.1, IntKind.i64.wrap ((IntKind.i64.wrap ((IntKind.i64.wrap (r3.1 + (1 : Int))) + (1 : Int))) + (1 : Int)), IntKind.i64.wrap (t2.2.2.1 + (1 : Int)), ())
                  else
                    none
              else
                none
          else
            none
      else
        none
    else
      some (t2.2.1, ())) (x.1, x.2.1, (0 : Int), ())
def F_laws_FnExactSwept (k : Nat) (x : List DAlarm × Int × Unit) : Option (Bool × Unit) :=
  Option.bind (F_laws_szAlarmS k (x.1, (1048576 : Int), ())) fun (r1 : Int × Unit) =>
  if (decide ((r1.1 : Int) < (0 : Int))) = true then
    some (true, ())
  else
    Option.bind (F_laws_toAlarmS k (x.1, ())) fun (r2 : List DAlarm × Unit) =>
    Option.bind (F_spec_Swept k (r2.1, x.2.1, ())) fun (r3 : List DAlarm × Unit) =>
    Option.bind (F_laws_toAlarmS k (x.1, ())) fun (r4 : List DAlarm × Unit) =>
    Option.bind (F_impl_Swept k (r4.1, x.2.1, ())) fun (r5 : List DAlarm × Unit) =>
    Option.bind (F_laws_eqAlarmS k (r5.1, r3.1, ())) fun (r6 : Bool × Unit) =>
    if (!r6.1) = true then
      some (false, ())
    else
      Option.bind (F_laws_toAlarmS k (x.1, ())) fun (r7 : List DAlarm × Unit) =>
      Option.bind (F_laws_eqAlarmS k (r4.1, r7.1, ())) fun (r8 : Bool × Unit) =>
      if (!r8.1) = true then
        some (false, ())
      else
        Option.bind (F_laws_markAlarmS k r4.1 (1 : Int)) fun (r9 : Int × (List DAlarm)) =>
        Option.bind ((if (((decide ((r9.1 : Int) < (0 : Int))) : Bool) == false) = true then F_laws_eqAlarmS k (r5.1, r3.1, ()) else some (false, ()))) fun (r10 : Bool × Unit) =>
        if (if (decide ((r9.1 : Int) < (0 : Int))) = true then true else !r10.1) = true then
          some (false, ())
        else
          Option.bind (F_laws_markAlarmS k r5.1 (1 : Int)) fun (r11 : Int × (List DAlarm)) =>
          Option.bind (F_laws_heldAlarmS k (r11.2, (1 : Int), ())) fun (r12 : Int × Unit) =>
          if (decide ((r12.1 : Int) < (0 : Int))) = true then
            some (false, ())
          else
            if ((r12.1 : Int) != r11.1) = true then
              some (false, ())
            else
              Option.bind (F_laws_toAlarmS k (x.1, ())) fun (r13 : List DAlarm × Unit) =>
              Option.bind (F_impl_Swept k (r13.1, x.2.1, ())) fun (r14 : List DAlarm × Unit) =>
              Option.bind (F_laws_eqAlarmS k (r14.1, r3.1, ())) fun (r15 : Bool × Unit) =>
              if (!r15.1) = true then
                some (false, ())
              else
                Option.bind (F_laws_heldAlarmS k (r11.2, (1 : Int), ())) fun (r16 : Int × Unit) =>
                if (decide ((r16.1 : Int) < (0 : Int))) = true then
                  some (false, ())
                else
                  if ((r16.1 : Int) != r11.1) = true then
                    some (false, ())
                  else
                    some (true, ())
end Vg.Try
