/-
  No cell of these rows narrows 'for every input' (looked for: loops, veiled, ifaces, maps, wideKeys, modest, calm, conditions, laid).
  DERIVED. THE GIVEN ROWS OF THIS SEAT. 9 by the template 'for every input the law returns true; each argument reads behind the call as it read before'; 0 by the template 'total and deterministic' (their statements: YtgikmhjpcnnhjaaGreatTotals.lean).
  GIVEN WITH THE SEED: the statements are not yours to turn. If you find one false, say at which input.
  Laid BY PROGRAM, IN A SANDBOX (cutbox-rows.mjs): the forced cells as the released guide's own fill.sh prints them over the translation 295ffacb5b2e2315… (all of the seat's roots in one cut). By AI agents, Wed Nov 11 2026. No macro, syntax, notation, axiom, sorry.
-/
import Derived.Test.YtgikmhjpcnnhjaaGreatChecked
import GoSem.Claim
import GoSem.ClaimJoined
import GoSem.ClaimMapViews
import Derived.JoinedTies
import Derived.KernelRfl
namespace Go.Proofs.YtgikmhjpcnnhjaaGreat
/- THE CELL 'sum', in the pinned program and in every row, IS THE sha256 OF THE DUMP (.gsa) THAT YtgikmhjpcnnhjaaGreatProg.lean LOADS. Nothing in Lean hashes anything: it is a label: what it is worth is what the hold of that sum in a sandbox is worth. -/
noncomputable def Tryz.pinned : Pinned := { name := "ytgikmhjpcnnhjaagreat", sum := "295ffacb5b2e2315de807eae6ad1f1fb9a2a56eac434926cfb4443d3c15673e4", checked := Tryz.checked }
namespace Rows
def none {H : Type} : Left H := { results := [], args := [] }

/-- 'laws.FnNobodyStuck': WHATEVER THE INPUT: true; the input reads as it did. -/
def fnNobodyStuckSpec : ChangeSpec := { name := "fnNobodyStuck", fn := fun _ => fun
  | [d] => { results := [.lit (.bool true)], args := [d] }
  | _ => none }
def fnNobodyStuckRow : OpenClaim := { program := "ytgikmhjpcnnhjaagreat", sum := "295ffacb5b2e2315de807eae6ad1f1fb9a2a56eac434926cfb4443d3c15673e4", func := "loop.example/g00490/laws.FnNobodyStuck", spec := "fnNobodyStuck", inPlace := ["internal/abi.NoEscape", "internal/bytealg.MakeNoZero", "internal/reflectlite.ValueOf", "internal/reflectlite.Swapper", "(internal/reflectlite.Value).Len"], unfollowed := true, recurses := true, apart := false }
def FnNobodyStuckSaid : Prop := fnNobodyStuckRow.holds Tryz.pinned (OpenSpec.ofChange fnNobodyStuckSpec)

/-- ITS FALSE NEIGHBOUR: 'it returns false'. Refute it at one input. -/
def fnNobodyStuckWrong : ChangeSpec := { name := "fnNobodyStuck", fn := fun _ => fun
  | [d] => { results := [.lit (.bool false)], args := [d] }
  | _ => none }
def FnNobodyStuckWrongFalsely : Prop := fnNobodyStuckRow.holds Tryz.pinned (OpenSpec.ofChange fnNobodyStuckWrong)

/-- 'laws.FnWorlds': WHATEVER THE INPUT: true; the input reads as it did. -/
def fnWorldsSpec : ChangeSpec := { name := "fnWorlds", fn := fun _ => fun
  | [d] => { results := [.lit (.bool true)], args := [d] }
  | _ => none }
def fnWorldsRow : OpenClaim := { program := "ytgikmhjpcnnhjaagreat", sum := "295ffacb5b2e2315de807eae6ad1f1fb9a2a56eac434926cfb4443d3c15673e4", func := "loop.example/g00490/laws.FnWorlds", spec := "fnWorlds", inPlace := ["internal/abi.NoEscape", "internal/bytealg.MakeNoZero", "internal/reflectlite.ValueOf", "internal/reflectlite.Swapper", "(internal/reflectlite.Value).Len"], unfollowed := true, recurses := true, apart := false }
def FnWorldsSaid : Prop := fnWorldsRow.holds Tryz.pinned (OpenSpec.ofChange fnWorldsSpec)

/-- ITS FALSE NEIGHBOUR: 'it returns false'. Refute it at one input. -/
def fnWorldsWrong : ChangeSpec := { name := "fnWorlds", fn := fun _ => fun
  | [d] => { results := [.lit (.bool false)], args := [d] }
  | _ => none }
def FnWorldsWrongFalsely : Prop := fnWorldsRow.holds Tryz.pinned (OpenSpec.ofChange fnWorldsWrong)

/-- 'laws.FnRaises': WHATEVER THE INPUT: true; the input reads as it did. -/
def fnRaisesSpec : ChangeSpec := { name := "fnRaises", fn := fun _ => fun
  | [d] => { results := [.lit (.bool true)], args := [d] }
  | _ => none }
def fnRaisesRow : OpenClaim := { program := "ytgikmhjpcnnhjaagreat", sum := "295ffacb5b2e2315de807eae6ad1f1fb9a2a56eac434926cfb4443d3c15673e4", func := "loop.example/g00490/laws.FnRaises", spec := "fnRaises", inPlace := ["internal/abi.NoEscape", "internal/bytealg.MakeNoZero", "internal/reflectlite.ValueOf", "internal/reflectlite.Swapper", "(internal/reflectlite.Value).Len"], unfollowed := true, recurses := true, apart := false }
def FnRaisesSaid : Prop := fnRaisesRow.holds Tryz.pinned (OpenSpec.ofChange fnRaisesSpec)

/-- ITS FALSE NEIGHBOUR: 'it returns false'. Refute it at one input. -/
def fnRaisesWrong : ChangeSpec := { name := "fnRaises", fn := fun _ => fun
  | [d] => { results := [.lit (.bool false)], args := [d] }
  | _ => none }
def FnRaisesWrongFalsely : Prop := fnRaisesRow.holds Tryz.pinned (OpenSpec.ofChange fnRaisesWrong)

/-- 'laws.FnJoinSteps': WHATEVER THE INPUT: true; the input reads as it did. -/
def fnJoinStepsSpec : ChangeSpec := { name := "fnJoinSteps", fn := fun _ => fun
  | [d] => { results := [.lit (.bool true)], args := [d] }
  | _ => none }
def fnJoinStepsRow : OpenClaim := { program := "ytgikmhjpcnnhjaagreat", sum := "295ffacb5b2e2315de807eae6ad1f1fb9a2a56eac434926cfb4443d3c15673e4", func := "loop.example/g00490/laws.FnJoinSteps", spec := "fnJoinSteps", inPlace := ["internal/abi.NoEscape", "internal/bytealg.MakeNoZero", "internal/reflectlite.ValueOf", "internal/reflectlite.Swapper", "(internal/reflectlite.Value).Len"], unfollowed := true, recurses := true, apart := false }
def FnJoinStepsSaid : Prop := fnJoinStepsRow.holds Tryz.pinned (OpenSpec.ofChange fnJoinStepsSpec)

/-- ITS FALSE NEIGHBOUR: 'it returns false'. Refute it at one input. -/
def fnJoinStepsWrong : ChangeSpec := { name := "fnJoinSteps", fn := fun _ => fun
  | [d] => { results := [.lit (.bool false)], args := [d] }
  | _ => none }
def FnJoinStepsWrongFalsely : Prop := fnJoinStepsRow.holds Tryz.pinned (OpenSpec.ofChange fnJoinStepsWrong)

/-- 'laws.FnPutSteps': WHATEVER THE INPUT: true; the input reads as it did. -/
def fnPutStepsSpec : ChangeSpec := { name := "fnPutSteps", fn := fun _ => fun
  | [d] => { results := [.lit (.bool true)], args := [d] }
  | _ => none }
def fnPutStepsRow : OpenClaim := { program := "ytgikmhjpcnnhjaagreat", sum := "295ffacb5b2e2315de807eae6ad1f1fb9a2a56eac434926cfb4443d3c15673e4", func := "loop.example/g00490/laws.FnPutSteps", spec := "fnPutSteps", inPlace := ["internal/abi.NoEscape", "internal/bytealg.MakeNoZero", "internal/reflectlite.ValueOf", "internal/reflectlite.Swapper", "(internal/reflectlite.Value).Len"], unfollowed := true, recurses := true, apart := false }
def FnPutStepsSaid : Prop := fnPutStepsRow.holds Tryz.pinned (OpenSpec.ofChange fnPutStepsSpec)

/-- ITS FALSE NEIGHBOUR: 'it returns false'. Refute it at one input. -/
def fnPutStepsWrong : ChangeSpec := { name := "fnPutSteps", fn := fun _ => fun
  | [d] => { results := [.lit (.bool false)], args := [d] }
  | _ => none }
def FnPutStepsWrongFalsely : Prop := fnPutStepsRow.holds Tryz.pinned (OpenSpec.ofChange fnPutStepsWrong)

/-- 'laws.FnLooks': WHATEVER THE INPUT: true; the input reads as it did. -/
def fnLooksSpec : ChangeSpec := { name := "fnLooks", fn := fun _ => fun
  | [d] => { results := [.lit (.bool true)], args := [d] }
  | _ => none }
def fnLooksRow : OpenClaim := { program := "ytgikmhjpcnnhjaagreat", sum := "295ffacb5b2e2315de807eae6ad1f1fb9a2a56eac434926cfb4443d3c15673e4", func := "loop.example/g00490/laws.FnLooks", spec := "fnLooks", inPlace := ["internal/abi.NoEscape", "internal/bytealg.MakeNoZero", "internal/reflectlite.ValueOf", "internal/reflectlite.Swapper", "(internal/reflectlite.Value).Len"], unfollowed := true, recurses := true, apart := false }
def FnLooksSaid : Prop := fnLooksRow.holds Tryz.pinned (OpenSpec.ofChange fnLooksSpec)

/-- ITS FALSE NEIGHBOUR: 'it returns false'. Refute it at one input. -/
def fnLooksWrong : ChangeSpec := { name := "fnLooks", fn := fun _ => fun
  | [d] => { results := [.lit (.bool false)], args := [d] }
  | _ => none }
def FnLooksWrongFalsely : Prop := fnLooksRow.holds Tryz.pinned (OpenSpec.ofChange fnLooksWrong)

/-- 'laws.FnSweeps': WHATEVER THE INPUT: true; the input reads as it did. -/
def fnSweepsSpec : ChangeSpec := { name := "fnSweeps", fn := fun _ => fun
  | [d] => { results := [.lit (.bool true)], args := [d] }
  | _ => none }
def fnSweepsRow : OpenClaim := { program := "ytgikmhjpcnnhjaagreat", sum := "295ffacb5b2e2315de807eae6ad1f1fb9a2a56eac434926cfb4443d3c15673e4", func := "loop.example/g00490/laws.FnSweeps", spec := "fnSweeps", inPlace := ["internal/abi.NoEscape", "internal/bytealg.MakeNoZero", "internal/reflectlite.ValueOf", "internal/reflectlite.Swapper", "(internal/reflectlite.Value).Len"], unfollowed := true, recurses := true, apart := false }
def FnSweepsSaid : Prop := fnSweepsRow.holds Tryz.pinned (OpenSpec.ofChange fnSweepsSpec)

/-- ITS FALSE NEIGHBOUR: 'it returns false'. Refute it at one input. -/
def fnSweepsWrong : ChangeSpec := { name := "fnSweeps", fn := fun _ => fun
  | [d] => { results := [.lit (.bool false)], args := [d] }
  | _ => none }
def FnSweepsWrongFalsely : Prop := fnSweepsRow.holds Tryz.pinned (OpenSpec.ofChange fnSweepsWrong)

/-- 'laws.FnNoneTooMany': WHATEVER THE INPUT: true; the input reads as it did. -/
def fnNoneTooManySpec : ChangeSpec := { name := "fnNoneTooMany", fn := fun _ => fun
  | [d] => { results := [.lit (.bool true)], args := [d] }
  | _ => none }
def fnNoneTooManyRow : OpenClaim := { program := "ytgikmhjpcnnhjaagreat", sum := "295ffacb5b2e2315de807eae6ad1f1fb9a2a56eac434926cfb4443d3c15673e4", func := "loop.example/g00490/laws.FnNoneTooMany", spec := "fnNoneTooMany", inPlace := ["internal/reflectlite.ValueOf", "internal/reflectlite.Swapper", "(internal/reflectlite.Value).Len", "internal/abi.NoEscape", "internal/bytealg.MakeNoZero"], unfollowed := true, recurses := true, apart := false }
def FnNoneTooManySaid : Prop := fnNoneTooManyRow.holds Tryz.pinned (OpenSpec.ofChange fnNoneTooManySpec)

/-- ITS FALSE NEIGHBOUR: 'it returns false'. Refute it at one input. -/
def fnNoneTooManyWrong : ChangeSpec := { name := "fnNoneTooMany", fn := fun _ => fun
  | [d] => { results := [.lit (.bool false)], args := [d] }
  | _ => none }
def FnNoneTooManyWrongFalsely : Prop := fnNoneTooManyRow.holds Tryz.pinned (OpenSpec.ofChange fnNoneTooManyWrong)

/-- 'laws.FnNotDropped': WHATEVER THE INPUT: true; the input reads as it did. -/
def fnNotDroppedSpec : ChangeSpec := { name := "fnNotDropped", fn := fun _ => fun
  | [d] => { results := [.lit (.bool true)], args := [d] }
  | _ => none }
def fnNotDroppedRow : OpenClaim := { program := "ytgikmhjpcnnhjaagreat", sum := "295ffacb5b2e2315de807eae6ad1f1fb9a2a56eac434926cfb4443d3c15673e4", func := "loop.example/g00490/laws.FnNotDropped", spec := "fnNotDropped", inPlace := ["internal/reflectlite.ValueOf", "internal/reflectlite.Swapper", "(internal/reflectlite.Value).Len", "internal/abi.NoEscape", "internal/bytealg.MakeNoZero"], unfollowed := true, recurses := true, apart := false }
def FnNotDroppedSaid : Prop := fnNotDroppedRow.holds Tryz.pinned (OpenSpec.ofChange fnNotDroppedSpec)

/-- ITS FALSE NEIGHBOUR: 'it returns false'. Refute it at one input. -/
def fnNotDroppedWrong : ChangeSpec := { name := "fnNotDropped", fn := fun _ => fun
  | [d] => { results := [.lit (.bool false)], args := [d] }
  | _ => none }
def FnNotDroppedWrongFalsely : Prop := fnNotDroppedRow.holds Tryz.pinned (OpenSpec.ofChange fnNotDroppedWrong)

/- THE SECOND FORM. 'bulk': how many values and letters a reading holds, each counted each time it is reached (what is shared counts as often as it is met; a slice's spare places count too). A statement '..UptoSaid' is the law's where the arguments, and the package variables that the reading takes, are together of bulk at most 1048576: NARROWER than '..Said'. Prove '..Said' where nothing that the law and all that it calls make is longer than what came in: it says more and counts as full. Else prove '..UptoSaid'. A law counts once. -/
mutual
def uptoBulk {H : Type} : DataW H → Nat
  | .lit (.string bytes) => bytes.length + 1
  | .lit _ => 1
  | .nil => 1
  | .ptr d => uptoBulk d + 1
  | .slice elems spare => uptoBulkAll elems + uptoBulkAll spare + 1
  | .agg parts => uptoBulkAll parts + 1
  | .iface _ d => uptoBulk d + 1
  | .map entries => uptoBulkEntries entries + 1
  | .held _ => 1
def uptoBulkAll {H : Type} : List (DataW H) → Nat
  | [] => 0
  | d :: r => uptoBulk d + uptoBulkAll r
def uptoBulkEntries {H : Type} : List (Lit × DataW H) → Nat
  | [] => 0
  | x :: r => uptoBulkEntry x + uptoBulkEntries r
def uptoBulkEntry {H : Type} : Lit × DataW H → Nat
  | (.string bytes, d) => bytes.length + uptoBulk d + 1
  | (_, d) => uptoBulk d + 1
 end
def uptoSmall : (H : Type) → List (DataW H) → Bool := fun _ ds => decide (uptoBulkAll ds ≤ 1048576)
def OpenSpec.upto (s : _root_.Go.ChangeSpec) : _root_.Go.OpenSpec := { _root_.Go.OpenSpec.ofChange s with cond := some uptoSmall }

/-- 'laws.FnNobodyStuck', WHERE WHAT IT READS IS OF BULK AT MOST 1048576: true; the input reads as it did. -/
def fnNobodyStuckUptoRow : OpenClaim := { program := "ytgikmhjpcnnhjaagreat", sum := "295ffacb5b2e2315de807eae6ad1f1fb9a2a56eac434926cfb4443d3c15673e4", func := "loop.example/g00490/laws.FnNobodyStuck", spec := "fnNobodyStuck", inPlace := ["internal/abi.NoEscape", "internal/bytealg.MakeNoZero", "internal/reflectlite.ValueOf", "internal/reflectlite.Swapper", "(internal/reflectlite.Value).Len"], unfollowed := true, recurses := true, apart := false, narrowed := true }
def FnNobodyStuckUptoSaid : Prop := fnNobodyStuckUptoRow.holds Tryz.pinned (OpenSpec.upto fnNobodyStuckSpec)

/-- 'laws.FnWorlds', WHERE WHAT IT READS IS OF BULK AT MOST 1048576: true; the input reads as it did. -/
def fnWorldsUptoRow : OpenClaim := { program := "ytgikmhjpcnnhjaagreat", sum := "295ffacb5b2e2315de807eae6ad1f1fb9a2a56eac434926cfb4443d3c15673e4", func := "loop.example/g00490/laws.FnWorlds", spec := "fnWorlds", inPlace := ["internal/abi.NoEscape", "internal/bytealg.MakeNoZero", "internal/reflectlite.ValueOf", "internal/reflectlite.Swapper", "(internal/reflectlite.Value).Len"], unfollowed := true, recurses := true, apart := false, narrowed := true }
def FnWorldsUptoSaid : Prop := fnWorldsUptoRow.holds Tryz.pinned (OpenSpec.upto fnWorldsSpec)

/-- 'laws.FnRaises', WHERE WHAT IT READS IS OF BULK AT MOST 1048576: true; the input reads as it did. -/
def fnRaisesUptoRow : OpenClaim := { program := "ytgikmhjpcnnhjaagreat", sum := "295ffacb5b2e2315de807eae6ad1f1fb9a2a56eac434926cfb4443d3c15673e4", func := "loop.example/g00490/laws.FnRaises", spec := "fnRaises", inPlace := ["internal/abi.NoEscape", "internal/bytealg.MakeNoZero", "internal/reflectlite.ValueOf", "internal/reflectlite.Swapper", "(internal/reflectlite.Value).Len"], unfollowed := true, recurses := true, apart := false, narrowed := true }
def FnRaisesUptoSaid : Prop := fnRaisesUptoRow.holds Tryz.pinned (OpenSpec.upto fnRaisesSpec)

/-- 'laws.FnJoinSteps', WHERE WHAT IT READS IS OF BULK AT MOST 1048576: true; the input reads as it did. -/
def fnJoinStepsUptoRow : OpenClaim := { program := "ytgikmhjpcnnhjaagreat", sum := "295ffacb5b2e2315de807eae6ad1f1fb9a2a56eac434926cfb4443d3c15673e4", func := "loop.example/g00490/laws.FnJoinSteps", spec := "fnJoinSteps", inPlace := ["internal/abi.NoEscape", "internal/bytealg.MakeNoZero", "internal/reflectlite.ValueOf", "internal/reflectlite.Swapper", "(internal/reflectlite.Value).Len"], unfollowed := true, recurses := true, apart := false, narrowed := true }
def FnJoinStepsUptoSaid : Prop := fnJoinStepsUptoRow.holds Tryz.pinned (OpenSpec.upto fnJoinStepsSpec)

/-- 'laws.FnPutSteps', WHERE WHAT IT READS IS OF BULK AT MOST 1048576: true; the input reads as it did. -/
def fnPutStepsUptoRow : OpenClaim := { program := "ytgikmhjpcnnhjaagreat", sum := "295ffacb5b2e2315de807eae6ad1f1fb9a2a56eac434926cfb4443d3c15673e4", func := "loop.example/g00490/laws.FnPutSteps", spec := "fnPutSteps", inPlace := ["internal/abi.NoEscape", "internal/bytealg.MakeNoZero", "internal/reflectlite.ValueOf", "internal/reflectlite.Swapper", "(internal/reflectlite.Value).Len"], unfollowed := true, recurses := true, apart := false, narrowed := true }
def FnPutStepsUptoSaid : Prop := fnPutStepsUptoRow.holds Tryz.pinned (OpenSpec.upto fnPutStepsSpec)

/-- 'laws.FnLooks', WHERE WHAT IT READS IS OF BULK AT MOST 1048576: true; the input reads as it did. -/
def fnLooksUptoRow : OpenClaim := { program := "ytgikmhjpcnnhjaagreat", sum := "295ffacb5b2e2315de807eae6ad1f1fb9a2a56eac434926cfb4443d3c15673e4", func := "loop.example/g00490/laws.FnLooks", spec := "fnLooks", inPlace := ["internal/abi.NoEscape", "internal/bytealg.MakeNoZero", "internal/reflectlite.ValueOf", "internal/reflectlite.Swapper", "(internal/reflectlite.Value).Len"], unfollowed := true, recurses := true, apart := false, narrowed := true }
def FnLooksUptoSaid : Prop := fnLooksUptoRow.holds Tryz.pinned (OpenSpec.upto fnLooksSpec)

/-- 'laws.FnSweeps', WHERE WHAT IT READS IS OF BULK AT MOST 1048576: true; the input reads as it did. -/
def fnSweepsUptoRow : OpenClaim := { program := "ytgikmhjpcnnhjaagreat", sum := "295ffacb5b2e2315de807eae6ad1f1fb9a2a56eac434926cfb4443d3c15673e4", func := "loop.example/g00490/laws.FnSweeps", spec := "fnSweeps", inPlace := ["internal/abi.NoEscape", "internal/bytealg.MakeNoZero", "internal/reflectlite.ValueOf", "internal/reflectlite.Swapper", "(internal/reflectlite.Value).Len"], unfollowed := true, recurses := true, apart := false, narrowed := true }
def FnSweepsUptoSaid : Prop := fnSweepsUptoRow.holds Tryz.pinned (OpenSpec.upto fnSweepsSpec)

/-- 'laws.FnNoneTooMany', WHERE WHAT IT READS IS OF BULK AT MOST 1048576: true; the input reads as it did. -/
def fnNoneTooManyUptoRow : OpenClaim := { program := "ytgikmhjpcnnhjaagreat", sum := "295ffacb5b2e2315de807eae6ad1f1fb9a2a56eac434926cfb4443d3c15673e4", func := "loop.example/g00490/laws.FnNoneTooMany", spec := "fnNoneTooMany", inPlace := ["internal/reflectlite.ValueOf", "internal/reflectlite.Swapper", "(internal/reflectlite.Value).Len", "internal/abi.NoEscape", "internal/bytealg.MakeNoZero"], unfollowed := true, recurses := true, apart := false, narrowed := true }
def FnNoneTooManyUptoSaid : Prop := fnNoneTooManyUptoRow.holds Tryz.pinned (OpenSpec.upto fnNoneTooManySpec)

/-- 'laws.FnNotDropped', WHERE WHAT IT READS IS OF BULK AT MOST 1048576: true; the input reads as it did. -/
def fnNotDroppedUptoRow : OpenClaim := { program := "ytgikmhjpcnnhjaagreat", sum := "295ffacb5b2e2315de807eae6ad1f1fb9a2a56eac434926cfb4443d3c15673e4", func := "loop.example/g00490/laws.FnNotDropped", spec := "fnNotDropped", inPlace := ["internal/reflectlite.ValueOf", "internal/reflectlite.Swapper", "(internal/reflectlite.Value).Len", "internal/abi.NoEscape", "internal/bytealg.MakeNoZero"], unfollowed := true, recurses := true, apart := false, narrowed := true }
def FnNotDroppedUptoSaid : Prop := fnNotDroppedUptoRow.holds Tryz.pinned (OpenSpec.upto fnNotDroppedSpec)

end Rows
end Go.Proofs.YtgikmhjpcnnhjaaGreat
