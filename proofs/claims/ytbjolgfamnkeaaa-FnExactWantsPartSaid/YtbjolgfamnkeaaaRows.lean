/-
  No cell of these rows narrows 'for every input' (looked for: loops, veiled, ifaces, maps, wideKeys, modest, calm, conditions, laid).
  DERIVED. THE GIVEN ROWS OF THIS SEAT. 5 by the template 'for every input the law returns true; each argument reads behind the call as it read before'; 0 by the template 'total and deterministic' (their statements: YtbjolgfamnkeaaaTotals.lean).
  GIVEN WITH THE SEED: the statements are not yours to turn. If you find one false, say at which input.
  Laid BY PROGRAM, IN A SANDBOX (cutbox-rows.mjs): the forced cells as the released guide's own fill.sh prints them over the translation c1606ea2b66f13cb… (all of the seat's roots in one cut). By AI agents, Wed Nov 11 2026. No macro, syntax, notation, axiom, sorry.
-/
import Derived.Test.YtbjolgfamnkeaaaChecked
import GoSem.Claim
import GoSem.ClaimJoined
import GoSem.ClaimMapViews
import Derived.JoinedTies
import Derived.KernelRfl
namespace Go.Proofs.Ytbjolgfamnkeaaa
/- THE CELL 'sum', in the pinned program and in every row, IS THE sha256 OF THE DUMP (.gsa) THAT YtbjolgfamnkeaaaProg.lean LOADS. Nothing in Lean hashes anything: it is a label: what it is worth is what the hold of that sum in a sandbox is worth. -/
noncomputable def Try.pinned : Pinned := { name := "ytbjolgfamnkeaaa", sum := "c1606ea2b66f13cbe6d3c97c14a3c62209947efca952df6f2c9d8a24f6d874ab", checked := Try.checked }
namespace Rows
def none {H : Type} : Left H := { results := [], args := [] }

/-- 'laws.FnExactWantsPart': WHATEVER THE INPUT: true; the input reads as it did. -/
def fnExactWantsPartSpec : ChangeSpec := { name := "fnExactWantsPart", fn := fun _ => fun
  | [d1, d2] => { results := [.lit (.bool true)], args := [d1, d2] }
  | _ => none }
def fnExactWantsPartRow : OpenClaim := { program := "ytbjolgfamnkeaaa", sum := "c1606ea2b66f13cbe6d3c97c14a3c62209947efca952df6f2c9d8a24f6d874ab", func := "loop.example/g00490/laws.FnExactWantsPart", spec := "fnExactWantsPart", inPlace := ["internal/abi.NoEscape", "internal/bytealg.MakeNoZero"], apart := false }
def FnExactWantsPartSaid : Prop := fnExactWantsPartRow.holds Try.pinned (OpenSpec.ofChange fnExactWantsPartSpec)

/-- ITS FALSE NEIGHBOUR: 'it returns false'. Refute it at one input. -/
def fnExactWantsPartWrong : ChangeSpec := { name := "fnExactWantsPart", fn := fun _ => fun
  | [d1, d2] => { results := [.lit (.bool false)], args := [d1, d2] }
  | _ => none }
def FnExactWantsPartWrongFalsely : Prop := fnExactWantsPartRow.holds Try.pinned (OpenSpec.ofChange fnExactWantsPartWrong)

/-- 'laws.FnExactModelOk': WHATEVER THE INPUT: true; the input reads as it did. -/
def fnExactModelOkSpec : ChangeSpec := { name := "fnExactModelOk", fn := fun _ => fun
  | [d] => { results := [.lit (.bool true)], args := [d] }
  | _ => none }
def fnExactModelOkRow : OpenClaim := { program := "ytbjolgfamnkeaaa", sum := "c1606ea2b66f13cbe6d3c97c14a3c62209947efca952df6f2c9d8a24f6d874ab", func := "loop.example/g00490/laws.FnExactModelOk", spec := "fnExactModelOk", apart := false }
def FnExactModelOkSaid : Prop := fnExactModelOkRow.holds Try.pinned (OpenSpec.ofChange fnExactModelOkSpec)

/-- ITS FALSE NEIGHBOUR: 'it returns false'. Refute it at one input. -/
def fnExactModelOkWrong : ChangeSpec := { name := "fnExactModelOk", fn := fun _ => fun
  | [d] => { results := [.lit (.bool false)], args := [d] }
  | _ => none }
def FnExactModelOkWrongFalsely : Prop := fnExactModelOkRow.holds Try.pinned (OpenSpec.ofChange fnExactModelOkWrong)

/-- 'laws.FnExactRipe': WHATEVER THE INPUT: true; the input reads as it did. -/
def fnExactRipeSpec : ChangeSpec := { name := "fnExactRipe", fn := fun _ => fun
  | [d] => { results := [.lit (.bool true)], args := [d] }
  | _ => none }
def fnExactRipeRow : OpenClaim := { program := "ytbjolgfamnkeaaa", sum := "c1606ea2b66f13cbe6d3c97c14a3c62209947efca952df6f2c9d8a24f6d874ab", func := "loop.example/g00490/laws.FnExactRipe", spec := "fnExactRipe", apart := false }
def FnExactRipeSaid : Prop := fnExactRipeRow.holds Try.pinned (OpenSpec.ofChange fnExactRipeSpec)

/-- ITS FALSE NEIGHBOUR: 'it returns false'. Refute it at one input. -/
def fnExactRipeWrong : ChangeSpec := { name := "fnExactRipe", fn := fun _ => fun
  | [d] => { results := [.lit (.bool false)], args := [d] }
  | _ => none }
def FnExactRipeWrongFalsely : Prop := fnExactRipeRow.holds Try.pinned (OpenSpec.ofChange fnExactRipeWrong)

/-- 'laws.FnExactIdle': WHATEVER THE INPUT: true; the input reads as it did. -/
def fnExactIdleSpec : ChangeSpec := { name := "fnExactIdle", fn := fun _ => fun
  | [d1, d2] => { results := [.lit (.bool true)], args := [d1, d2] }
  | _ => none }
def fnExactIdleRow : OpenClaim := { program := "ytbjolgfamnkeaaa", sum := "c1606ea2b66f13cbe6d3c97c14a3c62209947efca952df6f2c9d8a24f6d874ab", func := "loop.example/g00490/laws.FnExactIdle", spec := "fnExactIdle", apart := false }
def FnExactIdleSaid : Prop := fnExactIdleRow.holds Try.pinned (OpenSpec.ofChange fnExactIdleSpec)

/-- ITS FALSE NEIGHBOUR: 'it returns false'. Refute it at one input. -/
def fnExactIdleWrong : ChangeSpec := { name := "fnExactIdle", fn := fun _ => fun
  | [d1, d2] => { results := [.lit (.bool false)], args := [d1, d2] }
  | _ => none }
def FnExactIdleWrongFalsely : Prop := fnExactIdleRow.holds Try.pinned (OpenSpec.ofChange fnExactIdleWrong)

/-- 'laws.FnExactBusy': WHATEVER THE INPUT: true; the input reads as it did. -/
def fnExactBusySpec : ChangeSpec := { name := "fnExactBusy", fn := fun _ => fun
  | [d] => { results := [.lit (.bool true)], args := [d] }
  | _ => none }
def fnExactBusyRow : OpenClaim := { program := "ytbjolgfamnkeaaa", sum := "c1606ea2b66f13cbe6d3c97c14a3c62209947efca952df6f2c9d8a24f6d874ab", func := "loop.example/g00490/laws.FnExactBusy", spec := "fnExactBusy", apart := false }
def FnExactBusySaid : Prop := fnExactBusyRow.holds Try.pinned (OpenSpec.ofChange fnExactBusySpec)

/-- ITS FALSE NEIGHBOUR: 'it returns false'. Refute it at one input. -/
def fnExactBusyWrong : ChangeSpec := { name := "fnExactBusy", fn := fun _ => fun
  | [d] => { results := [.lit (.bool false)], args := [d] }
  | _ => none }
def FnExactBusyWrongFalsely : Prop := fnExactBusyRow.holds Try.pinned (OpenSpec.ofChange fnExactBusyWrong)

/- THE SECOND FORM. 'bulk': how many values and letters a reading holds, each counted each time it is reached (what is shared counts as often as it is met; a slice's spare places count too). A statement '..UptoSaid' is the law's where the arguments, and the package variables that the reading takes, are together of bulk at most 1048576: NARROWER than '..Said'. Prove '..Said' where nothing that the law and all that it calls make is longer than what came in: it says more and counts as full. Else prove '..UptoSaid'. A law counts once. -/
mutual
def uptoBulk {H : Type} : DataW H → Nat
  | .lit (.string bytes) => bytes.length + 1
  | .lit _ => 1
  | .nil => 1
  | .ptr d => uptoBulk d + 1
  | .slice elems spare => uptoBulkAll elems + uptoBulkAll spare + 1
  | .agg parts => uptoBulkAll parts + 1
  | .iface _ d => uptoBulk d + 1
  | .map entries => uptoBulkEntries entries + 1
  | .held _ => 1
def uptoBulkAll {H : Type} : List (DataW H) → Nat
  | [] => 0
  | d :: r => uptoBulk d + uptoBulkAll r
def uptoBulkEntries {H : Type} : List (Lit × DataW H) → Nat
  | [] => 0
  | x :: r => uptoBulkEntry x + uptoBulkEntries r
def uptoBulkEntry {H : Type} : Lit × DataW H → Nat
  | (.string bytes, d) => bytes.length + uptoBulk d + 1
  | (_, d) => uptoBulk d + 1
 end
def uptoSmall : (H : Type) → List (DataW H) → Bool := fun _ ds => decide (uptoBulkAll ds ≤ 1048576)
def OpenSpec.upto (s : _root_.Go.ChangeSpec) : _root_.Go.OpenSpec := { _root_.Go.OpenSpec.ofChange s with cond := some uptoSmall }

/-- 'laws.FnExactWantsPart', WHERE WHAT IT READS IS OF BULK AT MOST 1048576: true; the input reads as it did. -/
def fnExactWantsPartUptoRow : OpenClaim := { program := "ytbjolgfamnkeaaa", sum := "c1606ea2b66f13cbe6d3c97c14a3c62209947efca952df6f2c9d8a24f6d874ab", func := "loop.example/g00490/laws.FnExactWantsPart", spec := "fnExactWantsPart", inPlace := ["internal/abi.NoEscape", "internal/bytealg.MakeNoZero"], apart := false, narrowed := true }
def FnExactWantsPartUptoSaid : Prop := fnExactWantsPartUptoRow.holds Try.pinned (OpenSpec.upto fnExactWantsPartSpec)

/-- 'laws.FnExactModelOk', WHERE WHAT IT READS IS OF BULK AT MOST 1048576: true; the input reads as it did. -/
def fnExactModelOkUptoRow : OpenClaim := { program := "ytbjolgfamnkeaaa", sum := "c1606ea2b66f13cbe6d3c97c14a3c62209947efca952df6f2c9d8a24f6d874ab", func := "loop.example/g00490/laws.FnExactModelOk", spec := "fnExactModelOk", apart := false, narrowed := true }
def FnExactModelOkUptoSaid : Prop := fnExactModelOkUptoRow.holds Try.pinned (OpenSpec.upto fnExactModelOkSpec)

/-- 'laws.FnExactRipe', WHERE WHAT IT READS IS OF BULK AT MOST 1048576: true; the input reads as it did. -/
def fnExactRipeUptoRow : OpenClaim := { program := "ytbjolgfamnkeaaa", sum := "c1606ea2b66f13cbe6d3c97c14a3c62209947efca952df6f2c9d8a24f6d874ab", func := "loop.example/g00490/laws.FnExactRipe", spec := "fnExactRipe", apart := false, narrowed := true }
def FnExactRipeUptoSaid : Prop := fnExactRipeUptoRow.holds Try.pinned (OpenSpec.upto fnExactRipeSpec)

/-- 'laws.FnExactIdle', WHERE WHAT IT READS IS OF BULK AT MOST 1048576: true; the input reads as it did. -/
def fnExactIdleUptoRow : OpenClaim := { program := "ytbjolgfamnkeaaa", sum := "c1606ea2b66f13cbe6d3c97c14a3c62209947efca952df6f2c9d8a24f6d874ab", func := "loop.example/g00490/laws.FnExactIdle", spec := "fnExactIdle", apart := false, narrowed := true }
def FnExactIdleUptoSaid : Prop := fnExactIdleUptoRow.holds Try.pinned (OpenSpec.upto fnExactIdleSpec)

/-- 'laws.FnExactBusy', WHERE WHAT IT READS IS OF BULK AT MOST 1048576: true; the input reads as it did. -/
def fnExactBusyUptoRow : OpenClaim := { program := "ytbjolgfamnkeaaa", sum := "c1606ea2b66f13cbe6d3c97c14a3c62209947efca952df6f2c9d8a24f6d874ab", func := "loop.example/g00490/laws.FnExactBusy", spec := "fnExactBusy", apart := false, narrowed := true }
def FnExactBusyUptoSaid : Prop := fnExactBusyUptoRow.holds Try.pinned (OpenSpec.upto fnExactBusySpec)

end Rows
end Go.Proofs.Ytbjolgfamnkeaaa
