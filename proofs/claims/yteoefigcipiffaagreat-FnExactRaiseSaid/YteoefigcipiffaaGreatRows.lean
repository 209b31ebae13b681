/-
  No cell of these rows narrows 'for every input' (looked for: loops, veiled, ifaces, maps, wideKeys, modest, calm, conditions, laid).
  DERIVED. THE GIVEN ROWS OF THIS SEAT. 10 by the template 'for every input the law returns true; each argument reads behind the call as it read before'; 0 by the template 'total and deterministic' (their statements: YteoefigcipiffaaGreatTotals.lean).
  GIVEN WITH THE SEED: the statements are not yours to turn. If you find one false, say at which input.
  Laid BY PROGRAM, IN A SANDBOX (cutbox-rows.mjs): the forced cells as the released guide's own fill.sh prints them over the translation 665a1af0102b7952… (all of the seat's roots in one cut). By AI agents, Wed Nov 11 2026. No macro, syntax, notation, axiom, sorry.
-/
import Derived.Test.YteoefigcipiffaaGreatChecked
import GoSem.Claim
import GoSem.ClaimJoined
import GoSem.ClaimMapViews
import Derived.JoinedTies
import Derived.KernelRfl
namespace Go.Proofs.YteoefigcipiffaaGreat
/- THE CELL 'sum', in the pinned program and in every row, IS THE sha256 OF THE DUMP (.gsa) THAT YteoefigcipiffaaGreatProg.lean LOADS. Nothing in Lean hashes anything: it is a label: what it is worth is what the hold of that sum in a sandbox is worth. -/
noncomputable def Tryz.pinned : Pinned := { name := "yteoefigcipiffaagreat", sum := "665a1af0102b79526460dcea2dfe57a58d8474a794609c90730d9fd9c176d609", checked := Tryz.checked }
namespace Rows
def none {H : Type} : Left H := { results := [], args := [] }

/-- 'laws.FnExactAble': WHATEVER THE INPUT: true; the input reads as it did. -/
def fnExactAbleSpec : ChangeSpec := { name := "fnExactAble", fn := fun _ => fun
  | [d1, d2] => { results := [.lit (.bool true)], args := [d1, d2] }
  | _ => none }
def fnExactAbleRow : OpenClaim := { program := "yteoefigcipiffaagreat", sum := "665a1af0102b79526460dcea2dfe57a58d8474a794609c90730d9fd9c176d609", func := "loop.example/g00490/laws.FnExactAble", spec := "fnExactAble", inPlace := ["internal/abi.NoEscape", "internal/bytealg.MakeNoZero", "internal/reflectlite.ValueOf", "internal/reflectlite.Swapper", "(internal/reflectlite.Value).Len"], unfollowed := true, recurses := true, apart := false }
def FnExactAbleSaid : Prop := fnExactAbleRow.holds Tryz.pinned (OpenSpec.ofChange fnExactAbleSpec)

/-- ITS FALSE NEIGHBOUR: 'it returns false'. Refute it at one input. -/
def fnExactAbleWrong : ChangeSpec := { name := "fnExactAble", fn := fun _ => fun
  | [d1, d2] => { results := [.lit (.bool false)], args := [d1, d2] }
  | _ => none }
def FnExactAbleWrongFalsely : Prop := fnExactAbleRow.holds Tryz.pinned (OpenSpec.ofChange fnExactAbleWrong)

/-- 'laws.FnExactClean': WHATEVER THE INPUT: true; the input reads as it did. -/
def fnExactCleanSpec : ChangeSpec := { name := "fnExactClean", fn := fun _ => fun
  | [d1, d2] => { results := [.lit (.bool true)], args := [d1, d2] }
  | _ => none }
def fnExactCleanRow : OpenClaim := { program := "yteoefigcipiffaagreat", sum := "665a1af0102b79526460dcea2dfe57a58d8474a794609c90730d9fd9c176d609", func := "loop.example/g00490/laws.FnExactClean", spec := "fnExactClean", inPlace := ["internal/abi.NoEscape", "internal/bytealg.MakeNoZero", "internal/reflectlite.ValueOf", "internal/reflectlite.Swapper", "(internal/reflectlite.Value).Len"], unfollowed := true, recurses := true, apart := false }
def FnExactCleanSaid : Prop := fnExactCleanRow.holds Tryz.pinned (OpenSpec.ofChange fnExactCleanSpec)

/-- ITS FALSE NEIGHBOUR: 'it returns false'. Refute it at one input. -/
def fnExactCleanWrong : ChangeSpec := { name := "fnExactClean", fn := fun _ => fun
  | [d1, d2] => { results := [.lit (.bool false)], args := [d1, d2] }
  | _ => none }
def FnExactCleanWrongFalsely : Prop := fnExactCleanRow.holds Tryz.pinned (OpenSpec.ofChange fnExactCleanWrong)

/-- 'laws.FnExactList': WHATEVER THE INPUT: true; the input reads as it did. -/
def fnExactListSpec : ChangeSpec := { name := "fnExactList", fn := fun _ => fun
  | [d1, d2] => { results := [.lit (.bool true)], args := [d1, d2] }
  | _ => none }
def fnExactListRow : OpenClaim := { program := "yteoefigcipiffaagreat", sum := "665a1af0102b79526460dcea2dfe57a58d8474a794609c90730d9fd9c176d609", func := "loop.example/g00490/laws.FnExactList", spec := "fnExactList", inPlace := ["internal/abi.NoEscape", "internal/bytealg.MakeNoZero", "internal/reflectlite.ValueOf", "internal/reflectlite.Swapper", "(internal/reflectlite.Value).Len"], unfollowed := true, recurses := true, apart := false }
def FnExactListSaid : Prop := fnExactListRow.holds Tryz.pinned (OpenSpec.ofChange fnExactListSpec)

/-- ITS FALSE NEIGHBOUR: 'it returns false'. Refute it at one input. -/
def fnExactListWrong : ChangeSpec := { name := "fnExactList", fn := fun _ => fun
  | [d1, d2] => { results := [.lit (.bool false)], args := [d1, d2] }
  | _ => none }
def FnExactListWrongFalsely : Prop := fnExactListRow.holds Tryz.pinned (OpenSpec.ofChange fnExactListWrong)

/-- 'laws.FnExactLook': WHATEVER THE INPUT: true; the input reads as it did. -/
def fnExactLookSpec : ChangeSpec := { name := "fnExactLook", fn := fun _ => fun
  | [d1, d2, d3] => { results := [.lit (.bool true)], args := [d1, d2, d3] }
  | _ => none }
def fnExactLookRow : OpenClaim := { program := "yteoefigcipiffaagreat", sum := "665a1af0102b79526460dcea2dfe57a58d8474a794609c90730d9fd9c176d609", func := "loop.example/g00490/laws.FnExactLook", spec := "fnExactLook", inPlace := ["internal/abi.NoEscape", "internal/bytealg.MakeNoZero", "internal/reflectlite.ValueOf", "internal/reflectlite.Swapper", "(internal/reflectlite.Value).Len"], unfollowed := true, recurses := true, apart := false }
def FnExactLookSaid : Prop := fnExactLookRow.holds Tryz.pinned (OpenSpec.ofChange fnExactLookSpec)

/-- ITS FALSE NEIGHBOUR: 'it returns false'. Refute it at one input. -/
def fnExactLookWrong : ChangeSpec := { name := "fnExactLook", fn := fun _ => fun
  | [d1, d2, d3] => { results := [.lit (.bool false)], args := [d1, d2, d3] }
  | _ => none }
def FnExactLookWrongFalsely : Prop := fnExactLookRow.holds Tryz.pinned (OpenSpec.ofChange fnExactLookWrong)

/-- 'laws.FnExactRaise': WHATEVER THE INPUT: true; the input reads as it did. -/
def fnExactRaiseSpec : ChangeSpec := { name := "fnExactRaise", fn := fun _ => fun
  | [d1, d2, d3] => { results := [.lit (.bool true)], args := [d1, d2, d3] }
  | _ => none }
def fnExactRaiseRow : OpenClaim := { program := "yteoefigcipiffaagreat", sum := "665a1af0102b79526460dcea2dfe57a58d8474a794609c90730d9fd9c176d609", func := "loop.example/g00490/laws.FnExactRaise", spec := "fnExactRaise", inPlace := ["internal/abi.NoEscape", "internal/bytealg.MakeNoZero", "internal/reflectlite.ValueOf", "internal/reflectlite.Swapper", "(internal/reflectlite.Value).Len"], unfollowed := true, recurses := true, apart := false }
def FnExactRaiseSaid : Prop := fnExactRaiseRow.holds Tryz.pinned (OpenSpec.ofChange fnExactRaiseSpec)

/-- ITS FALSE NEIGHBOUR: 'it returns false'. Refute it at one input. -/
def fnExactRaiseWrong : ChangeSpec := { name := "fnExactRaise", fn := fun _ => fun
  | [d1, d2, d3] => { results := [.lit (.bool false)], args := [d1, d2, d3] }
  | _ => none }
def FnExactRaiseWrongFalsely : Prop := fnExactRaiseRow.holds Tryz.pinned (OpenSpec.ofChange fnExactRaiseWrong)

/-- 'laws.FnExactSweepStep': WHATEVER THE INPUT: true; the input reads as it did. -/
def fnExactSweepStepSpec : ChangeSpec := { name := "fnExactSweepStep", fn := fun _ => fun
  | [d1, d2] => { results := [.lit (.bool true)], args := [d1, d2] }
  | _ => none }
def fnExactSweepStepRow : OpenClaim := { program := "yteoefigcipiffaagreat", sum := "665a1af0102b79526460dcea2dfe57a58d8474a794609c90730d9fd9c176d609", func := "loop.example/g00490/laws.FnExactSweepStep", spec := "fnExactSweepStep", inPlace := ["internal/abi.NoEscape", "internal/bytealg.MakeNoZero", "internal/reflectlite.ValueOf", "internal/reflectlite.Swapper", "(internal/reflectlite.Value).Len"], unfollowed := true, recurses := true, apart := false }
def FnExactSweepStepSaid : Prop := fnExactSweepStepRow.holds Tryz.pinned (OpenSpec.ofChange fnExactSweepStepSpec)

/-- ITS FALSE NEIGHBOUR: 'it returns false'. Refute it at one input. -/
def fnExactSweepStepWrong : ChangeSpec := { name := "fnExactSweepStep", fn := fun _ => fun
  | [d1, d2] => { results := [.lit (.bool false)], args := [d1, d2] }
  | _ => none }
def FnExactSweepStepWrongFalsely : Prop := fnExactSweepStepRow.holds Tryz.pinned (OpenSpec.ofChange fnExactSweepStepWrong)

/-- 'laws.FnExactLookStep': WHATEVER THE INPUT: true; the input reads as it did. -/
def fnExactLookStepSpec : ChangeSpec := { name := "fnExactLookStep", fn := fun _ => fun
  | [d1, d2] => { results := [.lit (.bool true)], args := [d1, d2] }
  | _ => none }
def fnExactLookStepRow : OpenClaim := { program := "yteoefigcipiffaagreat", sum := "665a1af0102b79526460dcea2dfe57a58d8474a794609c90730d9fd9c176d609", func := "loop.example/g00490/laws.FnExactLookStep", spec := "fnExactLookStep", inPlace := ["internal/abi.NoEscape", "internal/bytealg.MakeNoZero", "internal/reflectlite.ValueOf", "internal/reflectlite.Swapper", "(internal/reflectlite.Value).Len"], unfollowed := true, recurses := true, apart := false }
def FnExactLookStepSaid : Prop := fnExactLookStepRow.holds Tryz.pinned (OpenSpec.ofChange fnExactLookStepSpec)

/-- ITS FALSE NEIGHBOUR: 'it returns false'. Refute it at one input. -/
def fnExactLookStepWrong : ChangeSpec := { name := "fnExactLookStep", fn := fun _ => fun
  | [d1, d2] => { results := [.lit (.bool false)], args := [d1, d2] }
  | _ => none }
def FnExactLookStepWrongFalsely : Prop := fnExactLookStepRow.holds Tryz.pinned (OpenSpec.ofChange fnExactLookStepWrong)

/-- 'laws.FnExactJoinStep': WHATEVER THE INPUT: true; the input reads as it did. -/
def fnExactJoinStepSpec : ChangeSpec := { name := "fnExactJoinStep", fn := fun _ => fun
  | [d] => { results := [.lit (.bool true)], args := [d] }
  | _ => none }
def fnExactJoinStepRow : OpenClaim := { program := "yteoefigcipiffaagreat", sum := "665a1af0102b79526460dcea2dfe57a58d8474a794609c90730d9fd9c176d609", func := "loop.example/g00490/laws.FnExactJoinStep", spec := "fnExactJoinStep", inPlace := ["internal/abi.NoEscape", "internal/bytealg.MakeNoZero", "internal/reflectlite.ValueOf", "internal/reflectlite.Swapper", "(internal/reflectlite.Value).Len"], unfollowed := true, recurses := true, apart := false }
def FnExactJoinStepSaid : Prop := fnExactJoinStepRow.holds Tryz.pinned (OpenSpec.ofChange fnExactJoinStepSpec)

/-- ITS FALSE NEIGHBOUR: 'it returns false'. Refute it at one input. -/
def fnExactJoinStepWrong : ChangeSpec := { name := "fnExactJoinStep", fn := fun _ => fun
  | [d] => { results := [.lit (.bool false)], args := [d] }
  | _ => none }
def FnExactJoinStepWrongFalsely : Prop := fnExactJoinStepRow.holds Tryz.pinned (OpenSpec.ofChange fnExactJoinStepWrong)

/-- 'laws.FnExactFlushStep': WHATEVER THE INPUT: true; the input reads as it did. -/
def fnExactFlushStepSpec : ChangeSpec := { name := "fnExactFlushStep", fn := fun _ => fun
  | [d] => { results := [.lit (.bool true)], args := [d] }
  | _ => none }
def fnExactFlushStepRow : OpenClaim := { program := "yteoefigcipiffaagreat", sum := "665a1af0102b79526460dcea2dfe57a58d8474a794609c90730d9fd9c176d609", func := "loop.example/g00490/laws.FnExactFlushStep", spec := "fnExactFlushStep", inPlace := ["internal/abi.NoEscape", "internal/bytealg.MakeNoZero", "internal/reflectlite.ValueOf", "internal/reflectlite.Swapper", "(internal/reflectlite.Value).Len"], unfollowed := true, recurses := true, apart := false }
def FnExactFlushStepSaid : Prop := fnExactFlushStepRow.holds Tryz.pinned (OpenSpec.ofChange fnExactFlushStepSpec)

/-- ITS FALSE NEIGHBOUR: 'it returns false'. Refute it at one input. -/
def fnExactFlushStepWrong : ChangeSpec := { name := "fnExactFlushStep", fn := fun _ => fun
  | [d] => { results := [.lit (.bool false)], args := [d] }
  | _ => none }
def FnExactFlushStepWrongFalsely : Prop := fnExactFlushStepRow.holds Tryz.pinned (OpenSpec.ofChange fnExactFlushStepWrong)

/-- 'laws.FnExactPutStep': WHATEVER THE INPUT: true; the input reads as it did. -/
def fnExactPutStepSpec : ChangeSpec := { name := "fnExactPutStep", fn := fun _ => fun
  | [d1, d2] => { results := [.lit (.bool true)], args := [d1, d2] }
  | _ => none }
def fnExactPutStepRow : OpenClaim := { program := "yteoefigcipiffaagreat", sum := "665a1af0102b79526460dcea2dfe57a58d8474a794609c90730d9fd9c176d609", func := "loop.example/g00490/laws.FnExactPutStep", spec := "fnExactPutStep", inPlace := ["internal/abi.NoEscape", "internal/bytealg.MakeNoZero", "internal/reflectlite.ValueOf", "internal/reflectlite.Swapper", "(internal/reflectlite.Value).Len"], unfollowed := true, recurses := true, apart := false }
def FnExactPutStepSaid : Prop := fnExactPutStepRow.holds Tryz.pinned (OpenSpec.ofChange fnExactPutStepSpec)

/-- ITS FALSE NEIGHBOUR: 'it returns false'. Refute it at one input. -/
def fnExactPutStepWrong : ChangeSpec := { name := "fnExactPutStep", fn := fun _ => fun
  | [d1, d2] => { results := [.lit (.bool false)], args := [d1, d2] }
  | _ => none }
def FnExactPutStepWrongFalsely : Prop := fnExactPutStepRow.holds Tryz.pinned (OpenSpec.ofChange fnExactPutStepWrong)

/- THE SECOND FORM. 'bulk': how many values and letters a reading holds, each counted each time it is reached (what is shared counts as often as it is met; a slice's spare places count too). A statement '..UptoSaid' is the law's where the arguments, and the package variables that the reading takes, are together of bulk at most 1048576: NARROWER than '..Said'. Prove '..Said' where nothing that the law and all that it calls make is longer than what came in: it says more and counts as full. Else prove '..UptoSaid'. A law counts once. -/
mutual
def uptoBulk {H : Type} : DataW H → Nat
  | .lit (.string bytes) => bytes.length + 1
  | .lit _ => 1
  | .nil => 1
  | .ptr d => uptoBulk d + 1
  | .slice elems spare => uptoBulkAll elems + uptoBulkAll spare + 1
  | .agg parts => uptoBulkAll parts + 1
  | .iface _ d => uptoBulk d + 1
  | .map entries => uptoBulkEntries entries + 1
  | .held _ => 1
def uptoBulkAll {H : Type} : List (DataW H) → Nat
  | [] => 0
  | d :: r => uptoBulk d + uptoBulkAll r
def uptoBulkEntries {H : Type} : List (Lit × DataW H) → Nat
  | [] => 0
  | x :: r => uptoBulkEntry x + uptoBulkEntries r
def uptoBulkEntry {H : Type} : Lit × DataW H → Nat
  | (.string bytes, d) => bytes.length + uptoBulk d + 1
  | (_, d) => uptoBulk d + 1
 end
def uptoSmall : (H : Type) → List (DataW H) → Bool := fun _ ds => decide (uptoBulkAll ds ≤ 1048576)
def OpenSpec.upto (s : _root_.Go.ChangeSpec) : _root_.Go.OpenSpec := { _root_.Go.OpenSpec.ofChange s with cond := some uptoSmall }

/-- 'laws.FnExactAble', WHERE WHAT IT READS IS OF BULK AT MOST 1048576: true; the input reads as it did. -/
def fnExactAbleUptoRow : OpenClaim := { program := "yteoefigcipiffaagreat", sum := "665a1af0102b79526460dcea2dfe57a58d8474a794609c90730d9fd9c176d609", func := "loop.example/g00490/laws.FnExactAble", spec := "fnExactAble", inPlace := ["internal/abi.NoEscape", "internal/bytealg.MakeNoZero", "internal/reflectlite.ValueOf", "internal/reflectlite.Swapper", "(internal/reflectlite.Value).Len"], unfollowed := true, recurses := true, apart := false, narrowed := true }
def FnExactAbleUptoSaid : Prop := fnExactAbleUptoRow.holds Tryz.pinned (OpenSpec.upto fnExactAbleSpec)

/-- 'laws.FnExactClean', WHERE WHAT IT READS IS OF BULK AT MOST 1048576: true; the input reads as it did. -/
def fnExactCleanUptoRow : OpenClaim := { program := "yteoefigcipiffaagreat", sum := "665a1af0102b79526460dcea2dfe57a58d8474a794609c90730d9fd9c176d609", func := "loop.example/g00490/laws.FnExactClean", spec := "fnExactClean", inPlace := ["internal/abi.NoEscape", "internal/bytealg.MakeNoZero", "internal/reflectlite.ValueOf", "internal/reflectlite.Swapper", "(internal/reflectlite.Value).Len"], unfollowed := true, recurses := true, apart := false, narrowed := true }
def FnExactCleanUptoSaid : Prop := fnExactCleanUptoRow.holds Tryz.pinned (OpenSpec.upto fnExactCleanSpec)

/-- 'laws.FnExactList', WHERE WHAT IT READS IS OF BULK AT MOST 1048576: true; the input reads as it did. -/
def fnExactListUptoRow : OpenClaim := { program := "yteoefigcipiffaagreat", sum := "665a1af0102b79526460dcea2dfe57a58d8474a794609c90730d9fd9c176d609", func := "loop.example/g00490/laws.FnExactList", spec := "fnExactList", inPlace := ["internal/abi.NoEscape", "internal/bytealg.MakeNoZero", "internal/reflectlite.ValueOf", "internal/reflectlite.Swapper", "(internal/reflectlite.Value).Len"], unfollowed := true, recurses := true, apart := false, narrowed := true }
def FnExactListUptoSaid : Prop := fnExactListUptoRow.holds Tryz.pinned (OpenSpec.upto fnExactListSpec)

/-- 'laws.FnExactLook', WHERE WHAT IT READS IS OF BULK AT MOST 1048576: true; the input reads as it did. -/
def fnExactLookUptoRow : OpenClaim := { program := "yteoefigcipiffaagreat", sum := "665a1af0102b79526460dcea2dfe57a58d8474a794609c90730d9fd9c176d609", func := "loop.example/g00490/laws.FnExactLook", spec := "fnExactLook", inPlace := ["internal/abi.NoEscape", "internal/bytealg.MakeNoZero", "internal/reflectlite.ValueOf", "internal/reflectlite.Swapper", "(internal/reflectlite.Value).Len"], unfollowed := true, recurses := true, apart := false, narrowed := true }
def FnExactLookUptoSaid : Prop := fnExactLookUptoRow.holds Tryz.pinned (OpenSpec.upto fnExactLookSpec)

/-- 'laws.FnExactRaise', WHERE WHAT IT READS IS OF BULK AT MOST 1048576: true; the input reads as it did. -/
def fnExactRaiseUptoRow : OpenClaim := { program := "yteoefigcipiffaagreat", sum := "665a1af0102b79526460dcea2dfe57a58d8474a794609c90730d9fd9c176d609", func := "loop.example/g00490/laws.FnExactRaise", spec := "fnExactRaise", inPlace := ["internal/abi.NoEscape", "internal/bytealg.MakeNoZero", "internal/reflectlite.ValueOf", "internal/reflectlite.Swapper", "(internal/reflectlite.Value).Len"], unfollowed := true, recurses := true, apart := false, narrowed := true }
def FnExactRaiseUptoSaid : Prop := fnExactRaiseUptoRow.holds Tryz.pinned (OpenSpec.upto fnExactRaiseSpec)

/-- 'laws.FnExactSweepStep', WHERE WHAT IT READS IS OF BULK AT MOST 1048576: true; the input reads as it did. -/
def fnExactSweepStepUptoRow : OpenClaim := { program := "yteoefigcipiffaagreat", sum := "665a1af0102b79526460dcea2dfe57a58d8474a794609c90730d9fd9c176d609", func := "loop.example/g00490/laws.FnExactSweepStep", spec := "fnExactSweepStep", inPlace := ["internal/abi.NoEscape", "internal/bytealg.MakeNoZero", "internal/reflectlite.ValueOf", "internal/reflectlite.Swapper", "(internal/reflectlite.Value).Len"], unfollowed := true, recurses := true, apart := false, narrowed := true }
def FnExactSweepStepUptoSaid : Prop := fnExactSweepStepUptoRow.holds Tryz.pinned (OpenSpec.upto fnExactSweepStepSpec)

/-- 'laws.FnExactLookStep', WHERE WHAT IT READS IS OF BULK AT MOST 1048576: true; the input reads as it did. -/
def fnExactLookStepUptoRow : OpenClaim := { program := "yteoefigcipiffaagreat", sum := "665a1af0102b79526460dcea2dfe57a58d8474a794609c90730d9fd9c176d609", func := "loop.example/g00490/laws.FnExactLookStep", spec := "fnExactLookStep", inPlace := ["internal/abi.NoEscape", "internal/bytealg.MakeNoZero", "internal/reflectlite.ValueOf", "internal/reflectlite.Swapper", "(internal/reflectlite.Value).Len"], unfollowed := true, recurses := true, apart := false, narrowed := true }
def FnExactLookStepUptoSaid : Prop := fnExactLookStepUptoRow.holds Tryz.pinned (OpenSpec.upto fnExactLookStepSpec)

/-- 'laws.FnExactJoinStep', WHERE WHAT IT READS IS OF BULK AT MOST 1048576: true; the input reads as it did. -/
def fnExactJoinStepUptoRow : OpenClaim := { program := "yteoefigcipiffaagreat", sum := "665a1af0102b79526460dcea2dfe57a58d8474a794609c90730d9fd9c176d609", func := "loop.example/g00490/laws.FnExactJoinStep", spec := "fnExactJoinStep", inPlace := ["internal/abi.NoEscape", "internal/bytealg.MakeNoZero", "internal/reflectlite.ValueOf", "internal/reflectlite.Swapper", "(internal/reflectlite.Value).Len"], unfollowed := true, recurses := true, apart := false, narrowed := true }
def FnExactJoinStepUptoSaid : Prop := fnExactJoinStepUptoRow.holds Tryz.pinned (OpenSpec.upto fnExactJoinStepSpec)

/-- 'laws.FnExactFlushStep', WHERE WHAT IT READS IS OF BULK AT MOST 1048576: true; the input reads as it did. -/
def fnExactFlushStepUptoRow : OpenClaim := { program := "yteoefigcipiffaagreat", sum := "665a1af0102b79526460dcea2dfe57a58d8474a794609c90730d9fd9c176d609", func := "loop.example/g00490/laws.FnExactFlushStep", spec := "fnExactFlushStep", inPlace := ["internal/abi.NoEscape", "internal/bytealg.MakeNoZero", "internal/reflectlite.ValueOf", "internal/reflectlite.Swapper", "(internal/reflectlite.Value).Len"], unfollowed := true, recurses := true, apart := false, narrowed := true }
def FnExactFlushStepUptoSaid : Prop := fnExactFlushStepUptoRow.holds Tryz.pinned (OpenSpec.upto fnExactFlushStepSpec)

/-- 'laws.FnExactPutStep', WHERE WHAT IT READS IS OF BULK AT MOST 1048576: true; the input reads as it did. -/
def fnExactPutStepUptoRow : OpenClaim := { program := "yteoefigcipiffaagreat", sum := "665a1af0102b79526460dcea2dfe57a58d8474a794609c90730d9fd9c176d609", func := "loop.example/g00490/laws.FnExactPutStep", spec := "fnExactPutStep", inPlace := ["internal/abi.NoEscape", "internal/bytealg.MakeNoZero", "internal/reflectlite.ValueOf", "internal/reflectlite.Swapper", "(internal/reflectlite.Value).Len"], unfollowed := true, recurses := true, apart := false, narrowed := true }
def FnExactPutStepUptoSaid : Prop := fnExactPutStepUptoRow.holds Tryz.pinned (OpenSpec.upto fnExactPutStepSpec)

end Rows
end Go.Proofs.YteoefigcipiffaaGreat
