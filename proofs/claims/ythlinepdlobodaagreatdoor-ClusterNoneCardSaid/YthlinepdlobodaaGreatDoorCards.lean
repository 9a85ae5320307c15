/-
  DERIVED. GIVEN WITH THE SEED: THE CARDS: each row of YthlinepdlobodaaGreatDoorRows.lean that lists a variable, with what it lists TIED to the program's text (the seventh form; the later family's looks); each row that meets fmt, with fmt's text TOLD by the authors' own Lean function (tested against real Go, not proved from fmt's source: count such statements apart). THE CARD IS WHAT COUNTS. Prove the row's statement (the work); the ties are given (YthlinepdlobodaaGreatDoorTie.lean); close each card by the builder's one call (the guide's Derived/Test/ToyasCard.lean, 'card_holds'). Laid BY PROGRAM, IN A SANDBOX (cutbox-door.mjs). By AI agents, Wed Nov 11 2026. No macro, syntax, notation, axiom, sorry.
-/
import Derived.Test.YthlinepdlobodaaGreatDoorRows
import GoSem.ClaimSeven
namespace Go.Proofs.YthlinepdlobodaaGreatDoor
namespace Rows

/-- THE TIED CARD OF 'amnesialaw15.ClusterNone'. -/
def clusterNoneCard : Claim7 := { stood := { row := clusterNoneRow, standIns := [], harness := (true, "769aa6ca95786aac4f42689422fd166ccd73716bb9f915dc0f75c43d0baa50ef"), looks := true }, kinds := [], alts := [], laidByText := true, laidKinds := [.data, .data], laidTests := true, laidLooks := .later }
def ClusterNoneCardSaid : Prop := Claim7.holds Tryz.pinned (.plain (OpenSpec.ofChange clusterNoneSpec)) clusterNoneCard

/-- THE SECOND FORM's CARD OF 'amnesialaw15.ClusterNone'. -/
def clusterNoneUptoCard : Claim7 := { stood := { row := clusterNoneUptoRow, standIns := [], harness := (true, "769aa6ca95786aac4f42689422fd166ccd73716bb9f915dc0f75c43d0baa50ef"), looks := true }, kinds := [], alts := [], laidByText := true, laidKinds := [.data, .data], laidTests := true, laidLooks := .later }
def ClusterNoneUptoCardSaid : Prop := Claim7.holds Tryz.pinned (.plain (OpenSpec.upto clusterNoneSpec)) clusterNoneUptoCard
end Rows
end Go.Proofs.YthlinepdlobodaaGreatDoor
