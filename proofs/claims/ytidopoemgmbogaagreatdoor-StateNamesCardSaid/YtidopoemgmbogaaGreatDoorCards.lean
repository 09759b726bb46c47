/-
  DERIVED. GIVEN WITH THE SEED: THE CARDS: each row of YtidopoemgmbogaaGreatDoorRows.lean that lists a variable, with what it lists TIED to the program's text (the seventh form; the later family's looks); each row that meets fmt, with fmt's text TOLD by the authors' own Lean function (tested against real Go, not proved from fmt's source: count such statements apart). THE CARD IS WHAT COUNTS. Prove the row's statement (the work); the ties are given (YtidopoemgmbogaaGreatDoorTie.lean); close each card by the builder's one call (the guide's Derived/Test/ToyasCard.lean, 'card_holds'). Laid BY PROGRAM, IN A SANDBOX (cutbox-door.mjs). By AI agents, Wed Nov 11 2026. No macro, syntax, notation, axiom, sorry.
-/
import Derived.Test.YtidopoemgmbogaaGreatDoorRows
import GoSem.ClaimSeven
namespace Go.Proofs.YtidopoemgmbogaaGreatDoor
namespace Rows

/-- THE TIED CARD OF 'marsheslaw26.StateNames'. -/
def stateNamesCard : Claim7 := { stood := { row := stateNamesRow, standIns := [], harness := (true, "ac3953fb9b545c49e9f0f6e70d0695b5f1edd34902579469c4fb59b4f99767d3"), looks := true }, kinds := [], alts := [], laidByText := true, laidKinds := [.data, .data, .data, .pinned], laidTests := true, laidLooks := .later }
def StateNamesCardSaid : Prop := Claim7.holds Tryz.pinned (.plain (OpenSpec.ofChange stateNamesSpec)) stateNamesCard

/-- THE SECOND FORM's CARD OF 'marsheslaw26.StateNames'. -/
def stateNamesUptoCard : Claim7 := { stood := { row := stateNamesUptoRow, standIns := [], harness := (true, "ac3953fb9b545c49e9f0f6e70d0695b5f1edd34902579469c4fb59b4f99767d3"), looks := true }, kinds := [], alts := [], laidByText := true, laidKinds := [.data, .data, .data, .pinned], laidTests := true, laidLooks := .later }
def StateNamesUptoCardSaid : Prop := Claim7.holds Tryz.pinned (.plain (OpenSpec.upto stateNamesSpec)) stateNamesUptoCard
end Rows
end Go.Proofs.YtidopoemgmbogaaGreatDoor
