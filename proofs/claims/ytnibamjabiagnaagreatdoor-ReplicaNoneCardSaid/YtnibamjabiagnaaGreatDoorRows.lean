/-
  NARROWER THAN 'FOR EVERY INPUT', by the rows' own cells (each row's printed sentence says how): ReplicaSpoilt: laid · ReplicaNone: laid · ReplicaAlone: laid · ReplicaStands: laid.
  DERIVED. THE GIVEN ROWS OF THIS SEAT. 4 by the template 'for every input the law returns true; each argument reads behind the call as it read before'; 0 by the template 'total and deterministic' (their statements: YtnibamjabiagnaaGreatDoorTotals.lean).
  GIVEN WITH THE SEED: the statements are not yours to turn. If you find one false, say at which input.
  Laid BY PROGRAM, IN A SANDBOX (cutbox-rows.mjs): the forced cells as the released guide's own fill.sh prints them over the translation f0ec27c8834c7908… (all of the seat's roots in one cut). By AI agents, Wed Nov 11 2026. No macro, syntax, notation, axiom, sorry.
-/
import Derived.Test.YtnibamjabiagnaaGreatDoorChecked
import GoSem.Claim
import GoSem.ClaimJoined
import GoSem.ClaimMapViews
import Derived.JoinedTies
import Derived.KernelRfl
namespace Go.Proofs.YtnibamjabiagnaaGreatDoor
/- THE CELL 'sum', in the pinned program and in every row, IS THE sha256 OF THE DUMP (.gsa) THAT YtnibamjabiagnaaGreatDoorProg.lean LOADS. Nothing in Lean hashes anything: it is a label: what it is worth is what the hold of that sum in a sandbox is worth. -/
noncomputable def Tryz.pinned : Pinned := { name := "ytnibamjabiagnaagreatdoor", sum := "f0ec27c8834c7908f6d42ce014ec35598eaa35b7f7d6975638b3a437ce6cb65d", checked := Tryz.checked }
namespace Rows
def none {H : Type} : Left H := { results := [], args := [] }

/- WHAT THE LISTED PACKAGE-LEVEL VARIABLES READ AS WHEN THE CALL BEGINS. Each datum BY PROGRAM (the guide's laid-datum.mjs) off the statement by which the dump's own 'gosem.cut.vars' lays the variable. In a bare row this is a premise. The card (YtnibamjabiagnaaGreatDoorCards.lean) ties it to the program's text. -/
def laid_amnesia_wire_nibbles {H : Type} : DataW H := .agg [.lit (.int .u32 0), .lit (.int .u32 498536548), .lit (.int .u32 997073096), .lit (.int .u32 651767980), .lit (.int .u32 1994146192), .lit (.int .u32 1802195444), .lit (.int .u32 1303535960), .lit (.int .u32 1342533948), .lit (.int .u32 3988292384), .lit (.int .u32 4027552580), .lit (.int .u32 3604390888), .lit (.int .u32 3412177804), .lit (.int .u32 2607071920), .lit (.int .u32 2262029012), .lit (.int .u32 2685067896), .lit (.int .u32 3183342108)]
def laid_amnesia_message_uses {H : Type} : DataW H := .agg [.agg [.lit (.bool false), .lit (.bool false), .lit (.bool false), .lit (.bool false), .lit (.bool false), .lit (.bool false), .lit (.bool false), .lit (.bool false), .lit (.bool false), .lit (.bool false)], .agg [.lit (.bool false), .lit (.bool false), .lit (.bool false), .lit (.bool false), .lit (.bool false), .lit (.bool false), .lit (.bool true), .lit (.bool false), .lit (.bool false), .lit (.bool false)], .agg [.lit (.bool true), .lit (.bool true), .lit (.bool false), .lit (.bool true), .lit (.bool false), .lit (.bool false), .lit (.bool true), .lit (.bool true), .lit (.bool false), .lit (.bool false)], .agg [.lit (.bool true), .lit (.bool true), .lit (.bool false), .lit (.bool true), .lit (.bool true), .lit (.bool false), .lit (.bool true), .lit (.bool false), .lit (.bool false), .lit (.bool true)], .agg [.lit (.bool true), .lit (.bool true), .lit (.bool false), .lit (.bool true), .lit (.bool false), .lit (.bool false), .lit (.bool false), .lit (.bool false), .lit (.bool false), .lit (.bool true)], .agg [.lit (.bool true), .lit (.bool true), .lit (.bool false), .lit (.bool false), .lit (.bool true), .lit (.bool false), .lit (.bool false), .lit (.bool false), .lit (.bool false), .lit (.bool true)], .agg [.lit (.bool true), .lit (.bool true), .lit (.bool false), .lit (.bool false), .lit (.bool false), .lit (.bool false), .lit (.bool false), .lit (.bool false), .lit (.bool false), .lit (.bool true)], .agg [.lit (.bool true), .lit (.bool true), .lit (.bool true), .lit (.bool false), .lit (.bool true), .lit (.bool false), .lit (.bool false), .lit (.bool false), .lit (.bool true), .lit (.bool true)], .agg [.lit (.bool true), .lit (.bool true), .lit (.bool false), .lit (.bool false), .lit (.bool true), .lit (.bool false), .lit (.bool false), .lit (.bool false), .lit (.bool true), .lit (.bool true)], .agg [.lit (.bool true), .lit (.bool false), .lit (.bool false), .lit (.bool false), .lit (.bool false), .lit (.bool true), .lit (.bool false), .lit (.bool false), .lit (.bool false), .lit (.bool true)], .agg [.lit (.bool true), .lit (.bool true), .lit (.bool false), .lit (.bool false), .lit (.bool true), .lit (.bool true), .lit (.bool false), .lit (.bool false), .lit (.bool true), .lit (.bool true)], .agg [.lit (.bool true), .lit (.bool true), .lit (.bool false), .lit (.bool false), .lit (.bool false), .lit (.bool false), .lit (.bool false), .lit (.bool false), .lit (.bool false), .lit (.bool true)], .agg [.lit (.bool true), .lit (.bool true), .lit (.bool false), .lit (.bool false), .lit (.bool true), .lit (.bool false), .lit (.bool false), .lit (.bool false), .lit (.bool true), .lit (.bool true)], .agg [.lit (.bool false), .lit (.bool false), .lit (.bool false), .lit (.bool true), .lit (.bool false), .lit (.bool false), .lit (.bool true), .lit (.bool false), .lit (.bool false), .lit (.bool false)], .agg [.lit (.bool true), .lit (.bool true), .lit (.bool false), .lit (.bool false), .lit (.bool true), .lit (.bool false), .lit (.bool true), .lit (.bool true), .lit (.bool false), .lit (.bool false)]]

/-- 'amnesialaw13.ReplicaSpoilt': WHATEVER THE INPUT: true; the input reads as it did. -/
def replicaSpoiltSpec : ChangeSpec := { name := "replicaSpoilt", fn := fun _ => fun
  | [d1, d2, d3, d4] => { results := [.lit (.bool true)], args := [d1, d2, d3, d4] }
  | _ => none }
def replicaSpoiltRow : OpenClaim := { program := "ytnibamjabiagnaagreatdoor", sum := "f0ec27c8834c7908f6d42ce014ec35598eaa35b7f7d6975638b3a437ce6cb65d", func := "amnesia/amnesialaw13.ReplicaSpoilt", spec := "replicaSpoilt", unfollowed := true, recurses := true, named := ["amnesia/wire.nibbles", "amnesia/message.uses"], apart := false, laid := [("amnesia/wire.nibbles", laid_amnesia_wire_nibbles), ("amnesia/message.uses", laid_amnesia_message_uses)] }
def ReplicaSpoiltSaid : Prop := replicaSpoiltRow.holds Tryz.pinned (OpenSpec.ofChange replicaSpoiltSpec)

/-- ITS FALSE NEIGHBOUR: 'it returns false'. Refute it at one input. -/
def replicaSpoiltWrong : ChangeSpec := { name := "replicaSpoilt", fn := fun _ => fun
  | [d1, d2, d3, d4] => { results := [.lit (.bool false)], args := [d1, d2, d3, d4] }
  | _ => none }
def ReplicaSpoiltWrongFalsely : Prop := replicaSpoiltRow.holds Tryz.pinned (OpenSpec.ofChange replicaSpoiltWrong)

/-- 'amnesialaw13.ReplicaNone': WHATEVER THE INPUT: true; the input reads as it did. -/
def replicaNoneSpec : ChangeSpec := { name := "replicaNone", fn := fun _ => fun
  | [d] => { results := [.lit (.bool true)], args := [d] }
  | _ => none }
def replicaNoneRow : OpenClaim := { program := "ytnibamjabiagnaagreatdoor", sum := "f0ec27c8834c7908f6d42ce014ec35598eaa35b7f7d6975638b3a437ce6cb65d", func := "amnesia/amnesialaw13.ReplicaNone", spec := "replicaNone", unfollowed := true, recurses := true, named := ["amnesia/wire.nibbles", "amnesia/message.uses"], apart := false, laid := [("amnesia/wire.nibbles", laid_amnesia_wire_nibbles), ("amnesia/message.uses", laid_amnesia_message_uses)] }
def ReplicaNoneSaid : Prop := replicaNoneRow.holds Tryz.pinned (OpenSpec.ofChange replicaNoneSpec)

/-- ITS FALSE NEIGHBOUR: 'it returns false'. Refute it at one input. -/
def replicaNoneWrong : ChangeSpec := { name := "replicaNone", fn := fun _ => fun
  | [d] => { results := [.lit (.bool false)], args := [d] }
  | _ => none }
def ReplicaNoneWrongFalsely : Prop := replicaNoneRow.holds Tryz.pinned (OpenSpec.ofChange replicaNoneWrong)

/-- 'amnesialaw13.ReplicaAlone': WHATEVER THE INPUT: true; the input reads as it did. -/
def replicaAloneSpec : ChangeSpec := { name := "replicaAlone", fn := fun _ => fun
  | [d1, d2, d3, d4] => { results := [.lit (.bool true)], args := [d1, d2, d3, d4] }
  | _ => none }
def replicaAloneRow : OpenClaim := { program := "ytnibamjabiagnaagreatdoor", sum := "f0ec27c8834c7908f6d42ce014ec35598eaa35b7f7d6975638b3a437ce6cb65d", func := "amnesia/amnesialaw13.ReplicaAlone", spec := "replicaAlone", unfollowed := true, recurses := true, named := ["amnesia/wire.nibbles", "amnesia/message.uses"], apart := false, laid := [("amnesia/wire.nibbles", laid_amnesia_wire_nibbles), ("amnesia/message.uses", laid_amnesia_message_uses)] }
def ReplicaAloneSaid : Prop := replicaAloneRow.holds Tryz.pinned (OpenSpec.ofChange replicaAloneSpec)

/-- ITS FALSE NEIGHBOUR: 'it returns false'. Refute it at one input. -/
def replicaAloneWrong : ChangeSpec := { name := "replicaAlone", fn := fun _ => fun
  | [d1, d2, d3, d4] => { results := [.lit (.bool false)], args := [d1, d2, d3, d4] }
  | _ => none }
def ReplicaAloneWrongFalsely : Prop := replicaAloneRow.holds Tryz.pinned (OpenSpec.ofChange replicaAloneWrong)

/-- 'amnesialaw13.ReplicaStands': WHATEVER THE INPUT: true; the input reads as it did. -/
def replicaStandsSpec : ChangeSpec := { name := "replicaStands", fn := fun _ => fun
  | [d1, d2, d3] => { results := [.lit (.bool true)], args := [d1, d2, d3] }
  | _ => none }
def replicaStandsRow : OpenClaim := { program := "ytnibamjabiagnaagreatdoor", sum := "f0ec27c8834c7908f6d42ce014ec35598eaa35b7f7d6975638b3a437ce6cb65d", func := "amnesia/amnesialaw13.ReplicaStands", spec := "replicaStands", unfollowed := true, recurses := true, named := ["amnesia/wire.nibbles", "amnesia/message.uses"], apart := false, laid := [("amnesia/wire.nibbles", laid_amnesia_wire_nibbles), ("amnesia/message.uses", laid_amnesia_message_uses)] }
def ReplicaStandsSaid : Prop := replicaStandsRow.holds Tryz.pinned (OpenSpec.ofChange replicaStandsSpec)

/-- ITS FALSE NEIGHBOUR: 'it returns false'. Refute it at one input. -/
def replicaStandsWrong : ChangeSpec := { name := "replicaStands", fn := fun _ => fun
  | [d1, d2, d3] => { results := [.lit (.bool false)], args := [d1, d2, d3] }
  | _ => none }
def ReplicaStandsWrongFalsely : Prop := replicaStandsRow.holds Tryz.pinned (OpenSpec.ofChange replicaStandsWrong)

/- THE SECOND FORM. 'bulk': how many values and letters a reading holds, each counted each time it is reached (what is shared counts as often as it is met; a slice's spare places count too). A statement '..UptoSaid' is the law's where the arguments, and the package variables that the reading takes, are together of bulk at most 1048576: NARROWER than '..Said'. Prove '..Said' where nothing that the law and all that it calls make is longer than what came in: it says more and counts as full. Else prove '..UptoSaid'. A law counts once. -/
mutual
def uptoBulk {H : Type} : DataW H → Nat
  | .lit (.string bytes) => bytes.length + 1
  | .lit _ => 1
  | .nil => 1
  | .ptr d => uptoBulk d + 1
  | .slice elems spare => uptoBulkAll elems + uptoBulkAll spare + 1
  | .agg parts => uptoBulkAll parts + 1
  | .iface _ d => uptoBulk d + 1
  | .map entries => uptoBulkEntries entries + 1
  | .held _ => 1
def uptoBulkAll {H : Type} : List (DataW H) → Nat
  | [] => 0
  | d :: r => uptoBulk d + uptoBulkAll r
def uptoBulkEntries {H : Type} : List (Lit × DataW H) → Nat
  | [] => 0
  | x :: r => uptoBulkEntry x + uptoBulkEntries r
def uptoBulkEntry {H : Type} : Lit × DataW H → Nat
  | (.string bytes, d) => bytes.length + uptoBulk d + 1
  | (_, d) => uptoBulk d + 1
 end
def uptoSmall : (H : Type) → List (DataW H) → Bool := fun _ ds => decide (uptoBulkAll ds ≤ 1048576)
def OpenSpec.upto (s : _root_.Go.ChangeSpec) : _root_.Go.OpenSpec := { _root_.Go.OpenSpec.ofChange s with cond := some uptoSmall }

/-- 'amnesialaw13.ReplicaSpoilt', WHERE WHAT IT READS IS OF BULK AT MOST 1048576: true; the input reads as it did. -/
def replicaSpoiltUptoRow : OpenClaim := { program := "ytnibamjabiagnaagreatdoor", sum := "f0ec27c8834c7908f6d42ce014ec35598eaa35b7f7d6975638b3a437ce6cb65d", func := "amnesia/amnesialaw13.ReplicaSpoilt", spec := "replicaSpoilt", unfollowed := true, recurses := true, named := ["amnesia/wire.nibbles", "amnesia/message.uses"], apart := false, laid := [("amnesia/wire.nibbles", laid_amnesia_wire_nibbles), ("amnesia/message.uses", laid_amnesia_message_uses)], narrowed := true }
def ReplicaSpoiltUptoSaid : Prop := replicaSpoiltUptoRow.holds Tryz.pinned (OpenSpec.upto replicaSpoiltSpec)

/-- 'amnesialaw13.ReplicaNone', WHERE WHAT IT READS IS OF BULK AT MOST 1048576: true; the input reads as it did. -/
def replicaNoneUptoRow : OpenClaim := { program := "ytnibamjabiagnaagreatdoor", sum := "f0ec27c8834c7908f6d42ce014ec35598eaa35b7f7d6975638b3a437ce6cb65d", func := "amnesia/amnesialaw13.ReplicaNone", spec := "replicaNone", unfollowed := true, recurses := true, named := ["amnesia/wire.nibbles", "amnesia/message.uses"], apart := false, laid := [("amnesia/wire.nibbles", laid_amnesia_wire_nibbles), ("amnesia/message.uses", laid_amnesia_message_uses)], narrowed := true }
def ReplicaNoneUptoSaid : Prop := replicaNoneUptoRow.holds Tryz.pinned (OpenSpec.upto replicaNoneSpec)

/-- 'amnesialaw13.ReplicaAlone', WHERE WHAT IT READS IS OF BULK AT MOST 1048576: true; the input reads as it did. -/
def replicaAloneUptoRow : OpenClaim := { program := "ytnibamjabiagnaagreatdoor", sum := "f0ec27c8834c7908f6d42ce014ec35598eaa35b7f7d6975638b3a437ce6cb65d", func := "amnesia/amnesialaw13.ReplicaAlone", spec := "replicaAlone", unfollowed := true, recurses := true, named := ["amnesia/wire.nibbles", "amnesia/message.uses"], apart := false, laid := [("amnesia/wire.nibbles", laid_amnesia_wire_nibbles), ("amnesia/message.uses", laid_amnesia_message_uses)], narrowed := true }
def ReplicaAloneUptoSaid : Prop := replicaAloneUptoRow.holds Tryz.pinned (OpenSpec.upto replicaAloneSpec)

/-- 'amnesialaw13.ReplicaStands', WHERE WHAT IT READS IS OF BULK AT MOST 1048576: true; the input reads as it did. -/
def replicaStandsUptoRow : OpenClaim := { program := "ytnibamjabiagnaagreatdoor", sum := "f0ec27c8834c7908f6d42ce014ec35598eaa35b7f7d6975638b3a437ce6cb65d", func := "amnesia/amnesialaw13.ReplicaStands", spec := "replicaStands", unfollowed := true, recurses := true, named := ["amnesia/wire.nibbles", "amnesia/message.uses"], apart := false, laid := [("amnesia/wire.nibbles", laid_amnesia_wire_nibbles), ("amnesia/message.uses", laid_amnesia_message_uses)], narrowed := true }
def ReplicaStandsUptoSaid : Prop := replicaStandsUptoRow.holds Tryz.pinned (OpenSpec.upto replicaStandsSpec)

end Rows
end Go.Proofs.YtnibamjabiagnaaGreatDoor
