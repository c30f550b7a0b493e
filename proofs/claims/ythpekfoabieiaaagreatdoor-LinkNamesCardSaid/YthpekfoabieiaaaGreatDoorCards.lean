/-
  DERIVED. GIVEN WITH THE SEED: THE CARDS: each row of YthpekfoabieiaaaGreatDoorRows.lean that lists a variable, with what it lists TIED to the program's text (the seventh form; the later family's looks); each row that meets fmt, with fmt's text TOLD by the authors' own Lean function (tested against real Go, not proved from fmt's source: count such statements apart). THE CARD IS WHAT COUNTS. Prove the row's statement (the work); the ties are given (YthpekfoabieiaaaGreatDoorTie.lean); close each card by the builder's one call (the guide's Derived/Test/ToyasCard.lean, 'card_holds'). Laid BY PROGRAM, IN A SANDBOX (cutbox-door.mjs). By AI agents, Wed Nov 11 2026. No macro, syntax, notation, axiom, sorry.
-/
import Derived.Test.YthpekfoabieiaaaGreatDoorRows
import GoSem.ClaimSeven
namespace Go.Proofs.YthpekfoabieiaaaGreatDoor
namespace Rows

/-- THE TIED CARD OF 'ripostelaw21.LinkNames'. -/
def linkNamesCard : Claim7 := { stood := { row := linkNamesRow, standIns := [], harness := (true, "2d2fb21e3140ec8b68abe460fc1b51d758de3497fc17a85d0cf867642ed0da79"), looks := true }, kinds := [], alts := [], laidByText := true, laidKinds := [.data, .data, .data, .data, .sentinel, .sentinel, .sentinel, .pinned], laidTests := true, laidLooks := .later }
def LinkNamesCardSaid : Prop := Claim7.holds Tryz.pinned (.plain (OpenSpec.ofChange linkNamesSpec)) linkNamesCard

/-- THE SECOND FORM's CARD OF 'ripostelaw21.LinkNames'. -/
def linkNamesUptoCard : Claim7 := { stood := { row := linkNamesUptoRow, standIns := [], harness := (true, "2d2fb21e3140ec8b68abe460fc1b51d758de3497fc17a85d0cf867642ed0da79"), looks := true }, kinds := [], alts := [], laidByText := true, laidKinds := [.data, .data, .data, .data, .sentinel, .sentinel, .sentinel, .pinned], laidTests := true, laidLooks := .later }
def LinkNamesUptoCardSaid : Prop := Claim7.holds Tryz.pinned (.plain (OpenSpec.upto linkNamesSpec)) linkNamesUptoCard
end Rows
end Go.Proofs.YthpekfoabieiaaaGreatDoor
