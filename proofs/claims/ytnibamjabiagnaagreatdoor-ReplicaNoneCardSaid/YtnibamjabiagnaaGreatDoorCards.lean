/-
  DERIVED. GIVEN WITH THE SEED: THE CARDS: each row of YtnibamjabiagnaaGreatDoorRows.lean that lists a variable, with what it lists TIED to the program's text (the seventh form; the later family's looks); each row that meets fmt, with fmt's text TOLD by the authors' own Lean function (tested against real Go, not proved from fmt's source: count such statements apart). THE CARD IS WHAT COUNTS. Prove the row's statement (the work); the ties are given (YtnibamjabiagnaaGreatDoorTie.lean); close each card by the builder's one call (the guide's Derived/Test/ToyasCard.lean, 'card_holds'). Laid BY PROGRAM, IN A SANDBOX (cutbox-door.mjs). By AI agents, Wed Nov 11 2026. No macro, syntax, notation, axiom, sorry.
-/
import Derived.Test.YtnibamjabiagnaaGreatDoorRows
import GoSem.ClaimSeven
namespace Go.Proofs.YtnibamjabiagnaaGreatDoor
namespace Rows

/-- THE TIED CARD OF 'amnesialaw13.ReplicaSpoilt'. -/
def replicaSpoiltCard : Claim7 := { stood := { row := replicaSpoiltRow, standIns := [], harness := (true, "d1b1d3131b877883a49b93c4076e38d99d439b621eab4b65eb72e3868caba5f3"), looks := true }, kinds := [], alts := [], laidByText := true, laidKinds := [.data, .data], laidTests := true, laidLooks := .later }
def ReplicaSpoiltCardSaid : Prop := Claim7.holds Tryz.pinned (.plain (OpenSpec.ofChange replicaSpoiltSpec)) replicaSpoiltCard

/-- THE TIED CARD OF 'amnesialaw13.ReplicaNone'. -/
def replicaNoneCard : Claim7 := { stood := { row := replicaNoneRow, standIns := [], harness := (true, "d1b1d3131b877883a49b93c4076e38d99d439b621eab4b65eb72e3868caba5f3"), looks := true }, kinds := [], alts := [], laidByText := true, laidKinds := [.data, .data], laidTests := true, laidLooks := .later }
def ReplicaNoneCardSaid : Prop := Claim7.holds Tryz.pinned (.plain (OpenSpec.ofChange replicaNoneSpec)) replicaNoneCard

/-- THE TIED CARD OF 'amnesialaw13.ReplicaAlone'. -/
def replicaAloneCard : Claim7 := { stood := { row := replicaAloneRow, standIns := [], harness := (true, "d1b1d3131b877883a49b93c4076e38d99d439b621eab4b65eb72e3868caba5f3"), looks := true }, kinds := [], alts := [], laidByText := true, laidKinds := [.data, .data], laidTests := true, laidLooks := .later }
def ReplicaAloneCardSaid : Prop := Claim7.holds Tryz.pinned (.plain (OpenSpec.ofChange replicaAloneSpec)) replicaAloneCard

/-- THE TIED CARD OF 'amnesialaw13.ReplicaStands'. -/
def replicaStandsCard : Claim7 := { stood := { row := replicaStandsRow, standIns := [], harness := (true, "d1b1d3131b877883a49b93c4076e38d99d439b621eab4b65eb72e3868caba5f3"), looks := true }, kinds := [], alts := [], laidByText := true, laidKinds := [.data, .data], laidTests := true, laidLooks := .later }
def ReplicaStandsCardSaid : Prop := Claim7.holds Tryz.pinned (.plain (OpenSpec.ofChange replicaStandsSpec)) replicaStandsCard

/-- THE SECOND FORM's CARD OF 'amnesialaw13.ReplicaSpoilt'. -/
def replicaSpoiltUptoCard : Claim7 := { stood := { row := replicaSpoiltUptoRow, standIns := [], harness := (true, "d1b1d3131b877883a49b93c4076e38d99d439b621eab4b65eb72e3868caba5f3"), looks := true }, kinds := [], alts := [], laidByText := true, laidKinds := [.data, .data], laidTests := true, laidLooks := .later }
def ReplicaSpoiltUptoCardSaid : Prop := Claim7.holds Tryz.pinned (.plain (OpenSpec.upto replicaSpoiltSpec)) replicaSpoiltUptoCard

/-- THE SECOND FORM's CARD OF 'amnesialaw13.ReplicaNone'. -/
def replicaNoneUptoCard : Claim7 := { stood := { row := replicaNoneUptoRow, standIns := [], harness := (true, "d1b1d3131b877883a49b93c4076e38d99d439b621eab4b65eb72e3868caba5f3"), looks := true }, kinds := [], alts := [], laidByText := true, laidKinds := [.data, .data], laidTests := true, laidLooks := .later }
def ReplicaNoneUptoCardSaid : Prop := Claim7.holds Tryz.pinned (.plain (OpenSpec.upto replicaNoneSpec)) replicaNoneUptoCard

/-- THE SECOND FORM's CARD OF 'amnesialaw13.ReplicaAlone'. -/
def replicaAloneUptoCard : Claim7 := { stood := { row := replicaAloneUptoRow, standIns := [], harness := (true, "d1b1d3131b877883a49b93c4076e38d99d439b621eab4b65eb72e3868caba5f3"), looks := true }, kinds := [], alts := [], laidByText := true, laidKinds := [.data, .data], laidTests := true, laidLooks := .later }
def ReplicaAloneUptoCardSaid : Prop := Claim7.holds Tryz.pinned (.plain (OpenSpec.upto replicaAloneSpec)) replicaAloneUptoCard

/-- THE SECOND FORM's CARD OF 'amnesialaw13.ReplicaStands'. -/
def replicaStandsUptoCard : Claim7 := { stood := { row := replicaStandsUptoRow, standIns := [], harness := (true, "d1b1d3131b877883a49b93c4076e38d99d439b621eab4b65eb72e3868caba5f3"), looks := true }, kinds := [], alts := [], laidByText := true, laidKinds := [.data, .data], laidTests := true, laidLooks := .later }
def ReplicaStandsUptoCardSaid : Prop := Claim7.holds Tryz.pinned (.plain (OpenSpec.upto replicaStandsSpec)) replicaStandsUptoCard
end Rows
end Go.Proofs.YtnibamjabiagnaaGreatDoor
