/-
  DERIVED. GIVEN WITH THE SEED: THE CARDS: each row of YtcgneeppjblmfaaDoorRows.lean that lists a variable, with what it lists TIED to the program's text (the seventh form; the later family's looks); each row that meets fmt, with fmt's text TOLD by the authors' own Lean function (tested against real Go, not proved from fmt's source: count such statements apart). THE CARD IS WHAT COUNTS. Prove the row's statement (the work); the ties are given (YtcgneeppjblmfaaDoorTie.lean); close each card by the builder's one call (the guide's Derived/Test/ToyasCard.lean, 'card_holds'). Laid BY PROGRAM, IN A SANDBOX (cutbox-door.mjs). By AI agents, Wed Nov 11 2026. No macro, syntax, notation, axiom, sorry.
-/
import Derived.Test.YtcgneeppjblmfaaDoorRows
import GoSem.ClaimSeven
namespace Go.Proofs.YtcgneeppjblmfaaDoor
namespace Rows

/-- THE TIED CARD OF 'laws.FnExactCodeName'. -/
def fnExactCodeNameCard : Claim7 := { stood := { row := fnExactCodeNameRow, standIns := [], harness := (true, "f0ae1a4ef0fbd1d9a35c1cf1ce7304781975f559eab02a2ae0c6347ce5f3e6ad"), looks := false }, kinds := [], alts := [], laidByText := true, laidKinds := [.data, .pinned], laidTests := true, laidLooks := .later }
def FnExactCodeNameCardSaid : Prop := Claim7.holds Tryd.pinned (.plain (OpenSpec.ofChange fnExactCodeNameSpec)) fnExactCodeNameCard

/-- THE SECOND FORM's CARD OF 'laws.FnExactCodeName'. -/
def fnExactCodeNameUptoCard : Claim7 := { stood := { row := fnExactCodeNameUptoRow, standIns := [], harness := (true, "f0ae1a4ef0fbd1d9a35c1cf1ce7304781975f559eab02a2ae0c6347ce5f3e6ad"), looks := false }, kinds := [], alts := [], laidByText := true, laidKinds := [.data, .pinned], laidTests := true, laidLooks := .later }
def FnExactCodeNameUptoCardSaid : Prop := Claim7.holds Tryd.pinned (.plain (OpenSpec.upto fnExactCodeNameSpec)) fnExactCodeNameUptoCard
end Rows
end Go.Proofs.YtcgneeppjblmfaaDoor
