/-
  DERIVED. GIVEN WITH THE SEED: THE CARDS: each row of YtmcocdbkonefjaaGreatDoorRows.lean that lists a variable, with what it lists TIED to the program's text (the seventh form; the later family's looks); each row that meets fmt, with fmt's text TOLD by the authors' own Lean function (tested against real Go, not proved from fmt's source: count such statements apart). THE CARD IS WHAT COUNTS. Prove the row's statement (the work); the ties are given (YtmcocdbkonefjaaGreatDoorTie.lean); close each card by the builder's one call (the guide's Derived/Test/ToyasCard.lean, 'card_holds'). Laid BY PROGRAM, IN A SANDBOX (cutbox-door.mjs). By AI agents, Wed Nov 11 2026. No macro, syntax, notation, axiom, sorry.
-/
import Derived.Test.YtmcocdbkonefjaaGreatDoorRows
import GoSem.ClaimSeven
namespace Go.Proofs.YtmcocdbkonefjaaGreatDoor
namespace Rows

/-- THE TIED CARD OF 'amnesiatop.TopForked'. -/
def topForkedCard : Claim7 := { stood := { row := topForkedRow, standIns := [], harness := (true, "e7a609d25319f2052f8ff97420bf6c48438850f4609604abbfd664651b17f33d"), looks := true }, kinds := [], alts := [], laidByText := true, laidKinds := [.data, .handle, .data, .sentinel, .sentinel, .sentinel, .sentinel, .sentinel, .sentinel, .sentinel, .sentinel, .sentinel, .sentinel, .sentinel], laidTests := true, laidLooks := .later }
def TopForkedCardSaid : Prop := Claim7.holds Tryz.pinned (.plain (OpenSpec.ofChange topForkedSpec)) topForkedCard

/-- THE SECOND FORM's CARD OF 'amnesiatop.TopForked'. -/
def topForkedUptoCard : Claim7 := { stood := { row := topForkedUptoRow, standIns := [], harness := (true, "e7a609d25319f2052f8ff97420bf6c48438850f4609604abbfd664651b17f33d"), looks := true }, kinds := [], alts := [], laidByText := true, laidKinds := [.data, .handle, .data, .sentinel, .sentinel, .sentinel, .sentinel, .sentinel, .sentinel, .sentinel, .sentinel, .sentinel, .sentinel, .sentinel], laidTests := true, laidLooks := .later }
def TopForkedUptoCardSaid : Prop := Claim7.holds Tryz.pinned (.plain (OpenSpec.upto topForkedSpec)) topForkedUptoCard
end Rows
end Go.Proofs.YtmcocdbkonefjaaGreatDoor
