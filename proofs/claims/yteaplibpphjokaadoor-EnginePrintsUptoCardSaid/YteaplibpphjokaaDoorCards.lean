/-
  DERIVED. GIVEN WITH THE SEED: THE CARDS: each row of YteaplibpphjokaaDoorRows.lean that lists a variable, with what it lists TIED to the program's text (the seventh form; the later family's looks); each row that meets fmt, with fmt's text TOLD by the authors' own Lean function (tested against real Go, not proved from fmt's source: count such statements apart). THE CARD IS WHAT COUNTS. Prove the row's statement (the work); the ties are given (YteaplibpphjokaaDoorTie.lean); close each card by the builder's one call (the guide's Derived/Test/ToyasCard.lean, 'card_holds'). Laid BY PROGRAM, IN A SANDBOX (cutbox-door.mjs). By AI agents, Wed Nov 11 2026. No macro, syntax, notation, axiom, sorry.
-/
import Derived.Test.YteaplibpphjokaaDoorRows
import GoSem.ClaimSeven
namespace Go.Proofs.YteaplibpphjokaaDoor
namespace Rows

/-- THE TIED CARD OF 'amnesialaw17.EnginePrints'. -/
def enginePrintsCard : Claim7 := { stood := { row := enginePrintsRow, standIns := [], harness := (true, "1abe7b41ddba95b4c8f92f4457b16964a8c3c17c01f724a28036837b5a2cd0ea"), looks := false }, kinds := [], alts := [], laidByText := true, laidKinds := [.data, .data, .data], laidTests := true, laidLooks := .later }
def EnginePrintsCardSaid : Prop := Claim7.holds Tryd.pinned (.plain (OpenSpec.ofChange enginePrintsSpec)) enginePrintsCard

/-- THE SECOND FORM's CARD OF 'amnesialaw17.EnginePrints'. -/
def enginePrintsUptoCard : Claim7 := { stood := { row := enginePrintsUptoRow, standIns := [], harness := (true, "1abe7b41ddba95b4c8f92f4457b16964a8c3c17c01f724a28036837b5a2cd0ea"), looks := false }, kinds := [], alts := [], laidByText := true, laidKinds := [.data, .data, .data], laidTests := true, laidLooks := .later }
def EnginePrintsUptoCardSaid : Prop := Claim7.holds Tryd.pinned (.plain (OpenSpec.upto enginePrintsSpec)) enginePrintsUptoCard
end Rows
end Go.Proofs.YteaplibpphjokaaDoor
