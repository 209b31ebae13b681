/-
  No cell of these rows narrows 'for every input' (looked for: loops, veiled, ifaces, maps, wideKeys, modest, calm, conditions, laid).
  DERIVED. THE GIVEN ROWS OF THIS SEAT. 5 by the template 'for every input the law returns true; each argument reads behind the call as it read before'; 0 by the template 'total and deterministic' (their statements: YtcobjindoakgmaaTotals.lean).
  GIVEN WITH THE SEED: the statements are not yours to turn. If you find one false, say at which input.
  Laid BY PROGRAM, IN A SANDBOX (cutbox-rows.mjs): the forced cells as the released guide's own fill.sh prints them over the translation ef2a2db1599b2400… (all of the seat's roots in one cut). By AI agents, Wed Nov 11 2026. No macro, syntax, notation, axiom, sorry.
-/
import Derived.Test.YtcobjindoakgmaaChecked
import GoSem.Claim
import GoSem.ClaimJoined
import GoSem.ClaimMapViews
import Derived.JoinedTies
import Derived.KernelRfl
namespace Go.Proofs.Ytcobjindoakgmaa
/- THE CELL 'sum', in the pinned program and in every row, IS THE sha256 OF THE DUMP (.gsa) THAT YtcobjindoakgmaaProg.lean LOADS. Nothing in Lean hashes anything: it is a label: what it is worth is what the hold of that sum in a sandbox is worth. -/
noncomputable def Try.pinned : Pinned := { name := "ytcobjindoakgmaa", sum := "ef2a2db1599b2400a97a5c427ad8e65ed666a3f1139142a31cc7d7dfa52fce98", checked := Try.checked }
namespace Rows
def none {H : Type} : Left H := { results := [], args := [] }

/-- 'laws.FnExactStandsIn': WHATEVER THE INPUT: true; the input reads as it did. -/
def fnExactStandsInSpec : ChangeSpec := { name := "fnExactStandsIn", fn := fun _ => fun
  | [d1, d2] => { results := [.lit (.bool true)], args := [d1, d2] }
  | _ => none }
def fnExactStandsInRow : OpenClaim := { program := "ytcobjindoakgmaa", sum := "ef2a2db1599b2400a97a5c427ad8e65ed666a3f1139142a31cc7d7dfa52fce98", func := "loop.example/g00490/laws.FnExactStandsIn", spec := "fnExactStandsIn", apart := false }
def FnExactStandsInSaid : Prop := fnExactStandsInRow.holds Try.pinned (OpenSpec.ofChange fnExactStandsInSpec)

/-- ITS FALSE NEIGHBOUR: 'it returns false'. Refute it at one input. -/
def fnExactStandsInWrong : ChangeSpec := { name := "fnExactStandsIn", fn := fun _ => fun
  | [d1, d2] => { results := [.lit (.bool false)], args := [d1, d2] }
  | _ => none }
def FnExactStandsInWrongFalsely : Prop := fnExactStandsInRow.holds Try.pinned (OpenSpec.ofChange fnExactStandsInWrong)

/-- 'laws.FnExactAhead': WHATEVER THE INPUT: true; the input reads as it did. -/
def fnExactAheadSpec : ChangeSpec := { name := "fnExactAhead", fn := fun _ => fun
  | [d1, d2] => { results := [.lit (.bool true)], args := [d1, d2] }
  | _ => none }
def fnExactAheadRow : OpenClaim := { program := "ytcobjindoakgmaa", sum := "ef2a2db1599b2400a97a5c427ad8e65ed666a3f1139142a31cc7d7dfa52fce98", func := "loop.example/g00490/laws.FnExactAhead", spec := "fnExactAhead", apart := false }
def FnExactAheadSaid : Prop := fnExactAheadRow.holds Try.pinned (OpenSpec.ofChange fnExactAheadSpec)

/-- ITS FALSE NEIGHBOUR: 'it returns false'. Refute it at one input. -/
def fnExactAheadWrong : ChangeSpec := { name := "fnExactAhead", fn := fun _ => fun
  | [d1, d2] => { results := [.lit (.bool false)], args := [d1, d2] }
  | _ => none }
def FnExactAheadWrongFalsely : Prop := fnExactAheadRow.holds Try.pinned (OpenSpec.ofChange fnExactAheadWrong)

/-- 'laws.FnExactSwept': WHATEVER THE INPUT: true; the input reads as it did. -/
def fnExactSweptSpec : ChangeSpec := { name := "fnExactSwept", fn := fun _ => fun
  | [d1, d2] => { results := [.lit (.bool true)], args := [d1, d2] }
  | _ => none }
def fnExactSweptRow : OpenClaim := { program := "ytcobjindoakgmaa", sum := "ef2a2db1599b2400a97a5c427ad8e65ed666a3f1139142a31cc7d7dfa52fce98", func := "loop.example/g00490/laws.FnExactSwept", spec := "fnExactSwept", apart := false }
def FnExactSweptSaid : Prop := fnExactSweptRow.holds Try.pinned (OpenSpec.ofChange fnExactSweptSpec)

/-- ITS FALSE NEIGHBOUR: 'it returns false'. Refute it at one input. -/
def fnExactSweptWrong : ChangeSpec := { name := "fnExactSwept", fn := fun _ => fun
  | [d1, d2] => { results := [.lit (.bool false)], args := [d1, d2] }
  | _ => none }
def FnExactSweptWrongFalsely : Prop := fnExactSweptRow.holds Try.pinned (OpenSpec.ofChange fnExactSweptWrong)

/-- 'laws.FnExactSameDeed': WHATEVER THE INPUT: true; the input reads as it did. -/
def fnExactSameDeedSpec : ChangeSpec := { name := "fnExactSameDeed", fn := fun _ => fun
  | [d1, d2] => { results := [.lit (.bool true)], args := [d1, d2] }
  | _ => none }
def fnExactSameDeedRow : OpenClaim := { program := "ytcobjindoakgmaa", sum := "ef2a2db1599b2400a97a5c427ad8e65ed666a3f1139142a31cc7d7dfa52fce98", func := "loop.example/g00490/laws.FnExactSameDeed", spec := "fnExactSameDeed", apart := false }
def FnExactSameDeedSaid : Prop := fnExactSameDeedRow.holds Try.pinned (OpenSpec.ofChange fnExactSameDeedSpec)

/-- ITS FALSE NEIGHBOUR: 'it returns false'. Refute it at one input. -/
def fnExactSameDeedWrong : ChangeSpec := { name := "fnExactSameDeed", fn := fun _ => fun
  | [d1, d2] => { results := [.lit (.bool false)], args := [d1, d2] }
  | _ => none }
def FnExactSameDeedWrongFalsely : Prop := fnExactSameDeedRow.holds Try.pinned (OpenSpec.ofChange fnExactSameDeedWrong)

/-- 'laws.FnExactDeedOk': WHATEVER THE INPUT: true; the input reads as it did. -/
def fnExactDeedOkSpec : ChangeSpec := { name := "fnExactDeedOk", fn := fun _ => fun
  | [d] => { results := [.lit (.bool true)], args := [d] }
  | _ => none }
def fnExactDeedOkRow : OpenClaim := { program := "ytcobjindoakgmaa", sum := "ef2a2db1599b2400a97a5c427ad8e65ed666a3f1139142a31cc7d7dfa52fce98", func := "loop.example/g00490/laws.FnExactDeedOk", spec := "fnExactDeedOk", apart := false }
def FnExactDeedOkSaid : Prop := fnExactDeedOkRow.holds Try.pinned (OpenSpec.ofChange fnExactDeedOkSpec)

/-- ITS FALSE NEIGHBOUR: 'it returns false'. Refute it at one input. -/
def fnExactDeedOkWrong : ChangeSpec := { name := "fnExactDeedOk", fn := fun _ => fun
  | [d] => { results := [.lit (.bool false)], args := [d] }
  | _ => none }
def FnExactDeedOkWrongFalsely : Prop := fnExactDeedOkRow.holds Try.pinned (OpenSpec.ofChange fnExactDeedOkWrong)

/- THE SECOND FORM. 'bulk': how many values and letters a reading holds, each counted each time it is reached (what is shared counts as often as it is met; a slice's spare places count too). A statement '..UptoSaid' is the law's where the arguments, and the package variables that the reading takes, are together of bulk at most 1048576: NARROWER than '..Said'. Prove '..Said' where nothing that the law and all that it calls make is longer than what came in: it says more and counts as full. Else prove '..UptoSaid'. A law counts once. -/
mutual
def uptoBulk {H : Type} : DataW H → Nat
  | .lit (.string bytes) => bytes.length + 1
  | .lit _ => 1
  | .nil => 1
  | .ptr d => uptoBulk d + 1
  | .slice elems spare => uptoBulkAll elems + uptoBulkAll spare + 1
  | .agg parts => uptoBulkAll parts + 1
  | .iface _ d => uptoBulk d + 1
  | .map entries => uptoBulkEntries entries + 1
  | .held _ => 1
def uptoBulkAll {H : Type} : List (DataW H) → Nat
  | [] => 0
  | d :: r => uptoBulk d + uptoBulkAll r
def uptoBulkEntries {H : Type} : List (Lit × DataW H) → Nat
  | [] => 0
  | x :: r => uptoBulkEntry x + uptoBulkEntries r
def uptoBulkEntry {H : Type} : Lit × DataW H → Nat
  | (.string bytes, d) => bytes.length + uptoBulk d + 1
  | (_, d) => uptoBulk d + 1
 end
def uptoSmall : (H : Type) → List (DataW H) → Bool := fun _ ds => decide (uptoBulkAll ds ≤ 1048576)
def OpenSpec.upto (s : _root_.Go.ChangeSpec) : _root_.Go.OpenSpec := { _root_.Go.OpenSpec.ofChange s with cond := some uptoSmall }

/-- 'laws.FnExactStandsIn', WHERE WHAT IT READS IS OF BULK AT MOST 1048576: true; the input reads as it did. -/
def fnExactStandsInUptoRow : OpenClaim := { program := "ytcobjindoakgmaa", sum := "ef2a2db1599b2400a97a5c427ad8e65ed666a3f1139142a31cc7d7dfa52fce98", func := "loop.example/g00490/laws.FnExactStandsIn", spec := "fnExactStandsIn", apart := false, narrowed := true }
def FnExactStandsInUptoSaid : Prop := fnExactStandsInUptoRow.holds Try.pinned (OpenSpec.upto fnExactStandsInSpec)

/-- 'laws.FnExactAhead', WHERE WHAT IT READS IS OF BULK AT MOST 1048576: true; the input reads as it did. -/
def fnExactAheadUptoRow : OpenClaim := { program := "ytcobjindoakgmaa", sum := "ef2a2db1599b2400a97a5c427ad8e65ed666a3f1139142a31cc7d7dfa52fce98", func := "loop.example/g00490/laws.FnExactAhead", spec := "fnExactAhead", apart := false, narrowed := true }
def FnExactAheadUptoSaid : Prop := fnExactAheadUptoRow.holds Try.pinned (OpenSpec.upto fnExactAheadSpec)

/-- 'laws.FnExactSwept', WHERE WHAT IT READS IS OF BULK AT MOST 1048576: true; the input reads as it did. -/
def fnExactSweptUptoRow : OpenClaim := { program := "ytcobjindoakgmaa", sum := "ef2a2db1599b2400a97a5c427ad8e65ed666a3f1139142a31cc7d7dfa52fce98", func := "loop.example/g00490/laws.FnExactSwept", spec := "fnExactSwept", apart := false, narrowed := true }
def FnExactSweptUptoSaid : Prop := fnExactSweptUptoRow.holds Try.pinned (OpenSpec.upto fnExactSweptSpec)

/-- 'laws.FnExactSameDeed', WHERE WHAT IT READS IS OF BULK AT MOST 1048576: true; the input reads as it did. -/
def fnExactSameDeedUptoRow : OpenClaim := { program := "ytcobjindoakgmaa", sum := "ef2a2db1599b2400a97a5c427ad8e65ed666a3f1139142a31cc7d7dfa52fce98", func := "loop.example/g00490/laws.FnExactSameDeed", spec := "fnExactSameDeed", apart := false, narrowed := true }
def FnExactSameDeedUptoSaid : Prop := fnExactSameDeedUptoRow.holds Try.pinned (OpenSpec.upto fnExactSameDeedSpec)

/-- 'laws.FnExactDeedOk', WHERE WHAT IT READS IS OF BULK AT MOST 1048576: true; the input reads as it did. -/
def fnExactDeedOkUptoRow : OpenClaim := { program := "ytcobjindoakgmaa", sum := "ef2a2db1599b2400a97a5c427ad8e65ed666a3f1139142a31cc7d7dfa52fce98", func := "loop.example/g00490/laws.FnExactDeedOk", spec := "fnExactDeedOk", apart := false, narrowed := true }
def FnExactDeedOkUptoSaid : Prop := fnExactDeedOkUptoRow.holds Try.pinned (OpenSpec.upto fnExactDeedOkSpec)

end Rows
end Go.Proofs.Ytcobjindoakgmaa
