/-
  No cell of these rows narrows 'for every input' (looked for: loops, veiled, ifaces, maps, wideKeys, modest, calm, conditions, laid).
  DERIVED. THE GIVEN ROWS OF THIS SEAT. 4 by the template 'for every input the law returns true; each argument reads behind the call as it read before'; 0 by the template 'total and deterministic' (their statements: YtoenkpiimjnmdaaTotals.lean).
  GIVEN WITH THE SEED: the statements are not yours to turn. If you find one false, say at which input.
  Laid BY PROGRAM, IN A SANDBOX (cutbox-rows.mjs): the forced cells as the released guide's own fill.sh prints them over the translation 297c6e658df6c3b3… (all of the seat's roots in one cut). By AI agents, Wed Nov 11 2026. No macro, syntax, notation, axiom, sorry.
-/
import Derived.Test.YtoenkpiimjnmdaaChecked
import GoSem.Claim
import GoSem.ClaimJoined
import GoSem.ClaimMapViews
import Derived.JoinedTies
import Derived.KernelRfl
namespace Go.Proofs.Ytoenkpiimjnmdaa
/- THE CELL 'sum', in the pinned program and in every row, IS THE sha256 OF THE DUMP (.gsa) THAT YtoenkpiimjnmdaaProg.lean LOADS. Nothing in Lean hashes anything: it is a label: what it is worth is what the hold of that sum in a sandbox is worth. -/
noncomputable def Try.pinned : Pinned := { name := "ytoenkpiimjnmdaa", sum := "297c6e658df6c3b371672e55b3d600196b4bb3bc7887b71a854184ef412831f4", checked := Try.checked }
namespace Rows
def none {H : Type} : Left H := { results := [], args := [] }

/-- 'laws.FnExactFlush': WHATEVER THE INPUT: true; the input reads as it did. -/
def fnExactFlushSpec : ChangeSpec := { name := "fnExactFlush", fn := fun _ => fun
  | [d1, d2] => { results := [.lit (.bool true)], args := [d1, d2] }
  | _ => none }
def fnExactFlushRow : OpenClaim := { program := "ytoenkpiimjnmdaa", sum := "297c6e658df6c3b371672e55b3d600196b4bb3bc7887b71a854184ef412831f4", func := "loop.example/g00490/laws.FnExactFlush", spec := "fnExactFlush", apart := false }
def FnExactFlushSaid : Prop := fnExactFlushRow.holds Try.pinned (OpenSpec.ofChange fnExactFlushSpec)

/-- ITS FALSE NEIGHBOUR: 'it returns false'. Refute it at one input. -/
def fnExactFlushWrong : ChangeSpec := { name := "fnExactFlush", fn := fun _ => fun
  | [d1, d2] => { results := [.lit (.bool false)], args := [d1, d2] }
  | _ => none }
def FnExactFlushWrongFalsely : Prop := fnExactFlushRow.holds Try.pinned (OpenSpec.ofChange fnExactFlushWrong)

/-- 'laws.FnExactFlushAt': WHATEVER THE INPUT: true; the input reads as it did. -/
def fnExactFlushAtSpec : ChangeSpec := { name := "fnExactFlushAt", fn := fun _ => fun
  | [d1, d2, d3] => { results := [.lit (.bool true)], args := [d1, d2, d3] }
  | _ => none }
def fnExactFlushAtRow : OpenClaim := { program := "ytoenkpiimjnmdaa", sum := "297c6e658df6c3b371672e55b3d600196b4bb3bc7887b71a854184ef412831f4", func := "loop.example/g00490/laws.FnExactFlushAt", spec := "fnExactFlushAt", apart := false }
def FnExactFlushAtSaid : Prop := fnExactFlushAtRow.holds Try.pinned (OpenSpec.ofChange fnExactFlushAtSpec)

/-- ITS FALSE NEIGHBOUR: 'it returns false'. Refute it at one input. -/
def fnExactFlushAtWrong : ChangeSpec := { name := "fnExactFlushAt", fn := fun _ => fun
  | [d1, d2, d3] => { results := [.lit (.bool false)], args := [d1, d2, d3] }
  | _ => none }
def FnExactFlushAtWrongFalsely : Prop := fnExactFlushAtRow.holds Try.pinned (OpenSpec.ofChange fnExactFlushAtWrong)

/-- 'laws.FnExactModelNew': WHATEVER THE INPUT: true; the input reads as it did. -/
def fnExactModelNewSpec : ChangeSpec := { name := "fnExactModelNew", fn := fun _ => fun
  | [d] => { results := [.lit (.bool true)], args := [d] }
  | _ => none }
def fnExactModelNewRow : OpenClaim := { program := "ytoenkpiimjnmdaa", sum := "297c6e658df6c3b371672e55b3d600196b4bb3bc7887b71a854184ef412831f4", func := "loop.example/g00490/laws.FnExactModelNew", spec := "fnExactModelNew", apart := false }
def FnExactModelNewSaid : Prop := fnExactModelNewRow.holds Try.pinned (OpenSpec.ofChange fnExactModelNewSpec)

/-- ITS FALSE NEIGHBOUR: 'it returns false'. Refute it at one input. -/
def fnExactModelNewWrong : ChangeSpec := { name := "fnExactModelNew", fn := fun _ => fun
  | [d] => { results := [.lit (.bool false)], args := [d] }
  | _ => none }
def FnExactModelNewWrongFalsely : Prop := fnExactModelNewRow.holds Try.pinned (OpenSpec.ofChange fnExactModelNewWrong)

/-- 'laws.FnExactWorldNew': WHATEVER THE INPUT: true; the input reads as it did. -/
def fnExactWorldNewSpec : ChangeSpec := { name := "fnExactWorldNew", fn := fun _ => fun
  | [d] => { results := [.lit (.bool true)], args := [d] }
  | _ => none }
def fnExactWorldNewRow : OpenClaim := { program := "ytoenkpiimjnmdaa", sum := "297c6e658df6c3b371672e55b3d600196b4bb3bc7887b71a854184ef412831f4", func := "loop.example/g00490/laws.FnExactWorldNew", spec := "fnExactWorldNew", apart := false }
def FnExactWorldNewSaid : Prop := fnExactWorldNewRow.holds Try.pinned (OpenSpec.ofChange fnExactWorldNewSpec)

/-- ITS FALSE NEIGHBOUR: 'it returns false'. Refute it at one input. -/
def fnExactWorldNewWrong : ChangeSpec := { name := "fnExactWorldNew", fn := fun _ => fun
  | [d] => { results := [.lit (.bool false)], args := [d] }
  | _ => none }
def FnExactWorldNewWrongFalsely : Prop := fnExactWorldNewRow.holds Try.pinned (OpenSpec.ofChange fnExactWorldNewWrong)

/- THE SECOND FORM. 'bulk': how many values and letters a reading holds, each counted each time it is reached (what is shared counts as often as it is met; a slice's spare places count too). A statement '..UptoSaid' is the law's where the arguments, and the package variables that the reading takes, are together of bulk at most 1048576: NARROWER than '..Said'. Prove '..Said' where nothing that the law and all that it calls make is longer than what came in: it says more and counts as full. Else prove '..UptoSaid'. A law counts once. -/
mutual
def uptoBulk {H : Type} : DataW H → Nat
  | .lit (.string bytes) => bytes.length + 1
  | .lit _ => 1
  | .nil => 1
  | .ptr d => uptoBulk d + 1
  | .slice elems spare => uptoBulkAll elems + uptoBulkAll spare + 1
  | .agg parts => uptoBulkAll parts + 1
  | .iface _ d => uptoBulk d + 1
  | .map entries => uptoBulkEntries entries + 1
  | .held _ => 1
def uptoBulkAll {H : Type} : List (DataW H) → Nat
  | [] => 0
  | d :: r => uptoBulk d + uptoBulkAll r
def uptoBulkEntries {H : Type} : List (Lit × DataW H) → Nat
  | [] => 0
  | x :: r => uptoBulkEntry x + uptoBulkEntries r
def uptoBulkEntry {H : Type} : Lit × DataW H → Nat
  | (.string bytes, d) => bytes.length + uptoBulk d + 1
  | (_, d) => uptoBulk d + 1
 end
def uptoSmall : (H : Type) → List (DataW H) → Bool := fun _ ds => decide (uptoBulkAll ds ≤ 1048576)
def OpenSpec.upto (s : _root_.Go.ChangeSpec) : _root_.Go.OpenSpec := { _root_.Go.OpenSpec.ofChange s with cond := some uptoSmall }

/-- 'laws.FnExactFlush', WHERE WHAT IT READS IS OF BULK AT MOST 1048576: true; the input reads as it did. -/
def fnExactFlushUptoRow : OpenClaim := { program := "ytoenkpiimjnmdaa", sum := "297c6e658df6c3b371672e55b3d600196b4bb3bc7887b71a854184ef412831f4", func := "loop.example/g00490/laws.FnExactFlush", spec := "fnExactFlush", apart := false, narrowed := true }
def FnExactFlushUptoSaid : Prop := fnExactFlushUptoRow.holds Try.pinned (OpenSpec.upto fnExactFlushSpec)

/-- 'laws.FnExactFlushAt', WHERE WHAT IT READS IS OF BULK AT MOST 1048576: true; the input reads as it did. -/
def fnExactFlushAtUptoRow : OpenClaim := { program := "ytoenkpiimjnmdaa", sum := "297c6e658df6c3b371672e55b3d600196b4bb3bc7887b71a854184ef412831f4", func := "loop.example/g00490/laws.FnExactFlushAt", spec := "fnExactFlushAt", apart := false, narrowed := true }
def FnExactFlushAtUptoSaid : Prop := fnExactFlushAtUptoRow.holds Try.pinned (OpenSpec.upto fnExactFlushAtSpec)

/-- 'laws.FnExactModelNew', WHERE WHAT IT READS IS OF BULK AT MOST 1048576: true; the input reads as it did. -/
def fnExactModelNewUptoRow : OpenClaim := { program := "ytoenkpiimjnmdaa", sum := "297c6e658df6c3b371672e55b3d600196b4bb3bc7887b71a854184ef412831f4", func := "loop.example/g00490/laws.FnExactModelNew", spec := "fnExactModelNew", apart := false, narrowed := true }
def FnExactModelNewUptoSaid : Prop := fnExactModelNewUptoRow.holds Try.pinned (OpenSpec.upto fnExactModelNewSpec)

/-- 'laws.FnExactWorldNew', WHERE WHAT IT READS IS OF BULK AT MOST 1048576: true; the input reads as it did. -/
def fnExactWorldNewUptoRow : OpenClaim := { program := "ytoenkpiimjnmdaa", sum := "297c6e658df6c3b371672e55b3d600196b4bb3bc7887b71a854184ef412831f4", func := "loop.example/g00490/laws.FnExactWorldNew", spec := "fnExactWorldNew", apart := false, narrowed := true }
def FnExactWorldNewUptoSaid : Prop := fnExactWorldNewUptoRow.holds Try.pinned (OpenSpec.upto fnExactWorldNewSpec)

end Rows
end Go.Proofs.Ytoenkpiimjnmdaa
