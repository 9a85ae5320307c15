/-
  NARROWER THAN 'FOR EVERY INPUT', by the rows' own cells (each row's printed sentence says how): TopForked: laid.
  DERIVED. THE GIVEN ROWS OF THIS SEAT. 1 by the template 'for every input the law returns true; each argument reads behind the call as it read before'; 0 by the template 'total and deterministic' (their statements: YtmcocdbkonefjaaGreatDoorTotals.lean).
  GIVEN WITH THE SEED: the statements are not yours to turn. If you find one false, say at which input.
  Laid BY PROGRAM, IN A SANDBOX (cutbox-rows.mjs): the forced cells as the released guide's own fill.sh prints them over the translation d54265c7d5086309… (all of the seat's roots in one cut). By AI agents, Wed Nov 11 2026. No macro, syntax, notation, axiom, sorry.
-/
import Derived.Test.YtmcocdbkonefjaaGreatDoorChecked
import GoSem.Claim
import GoSem.ClaimJoined
import GoSem.ClaimMapViews
import Derived.JoinedTies
import Derived.KernelRfl
namespace Go.Proofs.YtmcocdbkonefjaaGreatDoor
/- THE CELL 'sum', in the pinned program and in every row, IS THE sha256 OF THE DUMP (.gsa) THAT YtmcocdbkonefjaaGreatDoorProg.lean LOADS. Nothing in Lean hashes anything: it is a label: what it is worth is what the hold of that sum in a sandbox is worth. -/
noncomputable def Tryz.pinned : Pinned := { name := "ytmcocdbkonefjaagreatdoor", sum := "d54265c7d50863093781a28a621b9c014f49f7380491473e1b62ced505da7842", checked := Tryz.checked }
namespace Rows
def none {H : Type} : Left H := { results := [], args := [] }

/- WHAT THE LISTED PACKAGE-LEVEL VARIABLES READ AS WHEN THE CALL BEGINS. Each datum BY PROGRAM (the guide's laid-datum.mjs) off the statement by which the dump's own 'gosem.cut.vars' lays the variable. In a bare row this is a premise. The card (YtmcocdbkonefjaaGreatDoorCards.lean) ties it to the program's text. -/
def laid_amnesia_wire_nibbles {H : Type} : DataW H := .agg [.lit (.int .u32 0), .lit (.int .u32 498536548), .lit (.int .u32 997073096), .lit (.int .u32 651767980), .lit (.int .u32 1994146192), .lit (.int .u32 1802195444), .lit (.int .u32 1303535960), .lit (.int .u32 1342533948), .lit (.int .u32 3988292384), .lit (.int .u32 4027552580), .lit (.int .u32 3604390888), .lit (.int .u32 3412177804), .lit (.int .u32 2607071920), .lit (.int .u32 2262029012), .lit (.int .u32 2685067896), .lit (.int .u32 3183342108)]
def laid_errors_errorType {H : Type} : DataW H := .iface "internal/reflectlite.rtype" (.agg [.ptr (.lit (.string [101, 114, 114, 111, 114]))])
def laid_amnesia_message_uses {H : Type} : DataW H := .agg [.agg [.lit (.bool false), .lit (.bool false), .lit (.bool false), .lit (.bool false), .lit (.bool false), .lit (.bool false), .lit (.bool false), .lit (.bool false), .lit (.bool false), .lit (.bool false)], .agg [.lit (.bool false), .lit (.bool false), .lit (.bool false), .lit (.bool false), .lit (.bool false), .lit (.bool false), .lit (.bool true), .lit (.bool false), .lit (.bool false), .lit (.bool false)], .agg [.lit (.bool true), .lit (.bool true), .lit (.bool false), .lit (.bool true), .lit (.bool false), .lit (.bool false), .lit (.bool true), .lit (.bool true), .lit (.bool false), .lit (.bool false)], .agg [.lit (.bool true), .lit (.bool true), .lit (.bool false), .lit (.bool true), .lit (.bool true), .lit (.bool false), .lit (.bool true), .lit (.bool false), .lit (.bool false), .lit (.bool true)], .agg [.lit (.bool true), .lit (.bool true), .lit (.bool false), .lit (.bool true), .lit (.bool false), .lit (.bool false), .lit (.bool false), .lit (.bool false), .lit (.bool false), .lit (.bool true)], .agg [.lit (.bool true), .lit (.bool true), .lit (.bool false), .lit (.bool false), .lit (.bool true), .lit (.bool false), .lit (.bool false), .lit (.bool false), .lit (.bool false), .lit (.bool true)], .agg [.lit (.bool true), .lit (.bool true), .lit (.bool false), .lit (.bool false), .lit (.bool false), .lit (.bool false), .lit (.bool false), .lit (.bool false), .lit (.bool false), .lit (.bool true)], .agg [.lit (.bool true), .lit (.bool true), .lit (.bool true), .lit (.bool false), .lit (.bool true), .lit (.bool false), .lit (.bool false), .lit (.bool false), .lit (.bool true), .lit (.bool true)], .agg [.lit (.bool true), .lit (.bool true), .lit (.bool false), .lit (.bool false), .lit (.bool true), .lit (.bool false), .lit (.bool false), .lit (.bool false), .lit (.bool true), .lit (.bool true)], .agg [.lit (.bool true), .lit (.bool false), .lit (.bool false), .lit (.bool false), .lit (.bool false), .lit (.bool true), .lit (.bool false), .lit (.bool false), .lit (.bool false), .lit (.bool true)], .agg [.lit (.bool true), .lit (.bool true), .lit (.bool false), .lit (.bool false), .lit (.bool true), .lit (.bool true), .lit (.bool false), .lit (.bool false), .lit (.bool true), .lit (.bool true)], .agg [.lit (.bool true), .lit (.bool true), .lit (.bool false), .lit (.bool false), .lit (.bool false), .lit (.bool false), .lit (.bool false), .lit (.bool false), .lit (.bool false), .lit (.bool true)], .agg [.lit (.bool true), .lit (.bool true), .lit (.bool false), .lit (.bool false), .lit (.bool true), .lit (.bool false), .lit (.bool false), .lit (.bool false), .lit (.bool true), .lit (.bool true)], .agg [.lit (.bool false), .lit (.bool false), .lit (.bool false), .lit (.bool true), .lit (.bool false), .lit (.bool false), .lit (.bool true), .lit (.bool false), .lit (.bool false), .lit (.bool false)], .agg [.lit (.bool true), .lit (.bool true), .lit (.bool false), .lit (.bool false), .lit (.bool true), .lit (.bool false), .lit (.bool true), .lit (.bool true), .lit (.bool false), .lit (.bool false)]]
def laid_amnesia_history_ErrRows {H : Type} : DataW H := .iface "*errors.errorString" (.ptr (.agg [.lit (.string [114, 111, 119, 115, 32, 116, 104, 97, 116, 32, 109, 97, 121, 32, 110, 111, 116, 32, 98, 101])]))
def laid_amnesia_history_ErrUnasked {H : Type} : DataW H := .iface "*errors.errorString" (.ptr (.agg [.lit (.string [97, 110, 32, 101, 110, 116, 114, 121, 32, 116, 104, 97, 116, 32, 110, 111, 32, 99, 108, 105, 101, 110, 116, 32, 97, 115, 107, 101, 100, 32, 102, 111, 114])]))
def laid_amnesia_history_ErrAgain {H : Type} : DataW H := .iface "*errors.errorString" (.ptr (.agg [.lit (.string [97, 32, 114, 101, 113, 117, 101, 115, 116, 32, 116, 104, 97, 116, 32, 115, 116, 97, 110, 100, 115, 32, 105, 110, 32, 116, 119, 111, 32, 112, 108, 97, 99, 101, 115])]))
def laid_amnesia_history_ErrParted {H : Type} : DataW H := .iface "*errors.errorString" (.ptr (.agg [.lit (.string [116, 119, 111, 32, 101, 110, 116, 114, 105, 101, 115, 32, 105, 110, 32, 111, 110, 101, 32, 112, 108, 97, 99, 101])]))
def laid_amnesia_history_ErrGap {H : Type} : DataW H := .iface "*errors.errorString" (.ptr (.agg [.lit (.string [97, 110, 32, 101, 110, 116, 114, 121, 32, 98, 101, 104, 105, 110, 100, 32, 97, 32, 112, 108, 97, 99, 101, 32, 116, 104, 97, 116, 32, 110, 111, 98, 111, 100, 121, 32, 99, 97, 114, 114, 105, 101, 100, 32, 111, 117, 116])]))
def laid_amnesia_history_ErrReply {H : Type} : DataW H := .iface "*errors.errorString" (.ptr (.agg [.lit (.string [97, 32, 114, 101, 112, 108, 121, 32, 116, 104, 97, 116, 32, 116, 104, 101, 32, 108, 101, 100, 103, 101, 114, 32, 100, 111, 101, 115, 32, 110, 111, 116, 32, 103, 105, 118, 101])]))
def laid_amnesia_history_ErrForgot {H : Type} : DataW H := .iface "*errors.errorString" (.ptr (.agg [.lit (.string [97, 32, 114, 101, 116, 117, 114, 110, 101, 100, 32, 114, 101, 112, 108, 105, 99, 97, 32, 116, 104, 97, 116, 32, 108, 97, 99, 107, 115, 32, 97, 110, 32, 101, 110, 116, 114, 121])]))
def laid_amnesia_history_ErrLead {H : Type} : DataW H := .iface "*errors.errorString" (.ptr (.agg [.lit (.string [97, 32, 110, 101, 119, 32, 112, 114, 105, 109, 97, 114, 121, 32, 116, 104, 97, 116, 32, 108, 97, 99, 107, 115, 32, 97, 110, 32, 101, 110, 116, 114, 121])]))
def laid_amnesia_history_ErrLogs {H : Type} : DataW H := .iface "*errors.errorString" (.ptr (.agg [.lit (.string [97, 32, 118, 105, 101, 119, 32, 116, 104, 97, 116, 32, 119, 97, 115, 32, 115, 116, 97, 114, 116, 101, 100, 32, 116, 119, 105, 99, 101])]))
def laid_amnesia_history_ErrSpoke {H : Type} : DataW H := .iface "*errors.errorString" (.ptr (.agg [.lit (.string [97, 32, 114, 101, 99, 111, 118, 101, 114, 105, 110, 103, 32, 114, 101, 112, 108, 105, 99, 97, 32, 116, 104, 97, 116, 32, 115, 101, 110, 116, 32, 109, 111, 114, 101, 32, 116, 104, 97, 110, 32, 82, 101, 99, 111, 118, 101, 114, 121])]))
def laid_amnesia_history_ErrRead {H : Type} : DataW H := .iface "*errors.errorString" (.ptr (.agg [.lit (.string [97, 32, 114, 101, 97, 100, 105, 110, 103, 32, 116, 104, 97, 116, 32, 105, 115, 32, 110, 111, 116, 32, 111, 102, 32, 116, 104, 101, 32, 115, 101, 113, 117, 101, 110, 99, 101, 44, 32, 111, 114, 32, 116, 104, 97, 116, 32, 103, 111, 101, 115, 32, 98, 97, 99, 107])]))

/-- 'amnesiatop.TopForked': WHATEVER THE INPUT: true; the input reads as it did. -/
def topForkedSpec : ChangeSpec := { name := "topForked", fn := fun _ => fun
  | [] => { results := [.lit (.bool true)], args := [] }
  | _ => none }
def topForkedRow : OpenClaim := { program := "ytmcocdbkonefjaagreatdoor", sum := "d54265c7d50863093781a28a621b9c014f49f7380491473e1b62ced505da7842", func := "amnesia/amnesiatop.TopForked", spec := "topForked", inPlace := ["internal/reflectlite.ValueOf", "(internal/reflectlite.Value).Type", "(internal/reflectlite.Value).IsNil", "internal/reflectlite.TypeOf", "(internal/reflectlite.Value).Elem", "(internal/reflectlite.Value).Set"], unfollowed := true, recurses := true, named := ["amnesia/message.uses", "amnesia/wire.nibbles", "amnesia/history.ErrRows", "amnesia/history.ErrGap", "amnesia/history.ErrParted", "amnesia/history.ErrUnasked", "amnesia/history.ErrAgain", "amnesia/history.ErrLead", "amnesia/history.ErrLogs", "amnesia/history.ErrForgot", "amnesia/history.ErrReply", "amnesia/history.ErrSpoke", "amnesia/history.ErrRead", "errors.errorType"], plainKeys := false, apart := false, laid := [("amnesia/wire.nibbles", laid_amnesia_wire_nibbles), ("errors.errorType", laid_errors_errorType), ("amnesia/message.uses", laid_amnesia_message_uses), ("amnesia/history.ErrRows", laid_amnesia_history_ErrRows), ("amnesia/history.ErrUnasked", laid_amnesia_history_ErrUnasked), ("amnesia/history.ErrAgain", laid_amnesia_history_ErrAgain), ("amnesia/history.ErrParted", laid_amnesia_history_ErrParted), ("amnesia/history.ErrGap", laid_amnesia_history_ErrGap), ("amnesia/history.ErrReply", laid_amnesia_history_ErrReply), ("amnesia/history.ErrForgot", laid_amnesia_history_ErrForgot), ("amnesia/history.ErrLead", laid_amnesia_history_ErrLead), ("amnesia/history.ErrLogs", laid_amnesia_history_ErrLogs), ("amnesia/history.ErrSpoke", laid_amnesia_history_ErrSpoke), ("amnesia/history.ErrRead", laid_amnesia_history_ErrRead)] }
def TopForkedSaid : Prop := topForkedRow.holds Tryz.pinned (OpenSpec.ofChange topForkedSpec)

/-- ITS FALSE NEIGHBOUR: 'it returns false'. Refute it at one input. -/
def topForkedWrong : ChangeSpec := { name := "topForked", fn := fun _ => fun
  | [] => { results := [.lit (.bool false)], args := [] }
  | _ => none }
def TopForkedWrongFalsely : Prop := topForkedRow.holds Tryz.pinned (OpenSpec.ofChange topForkedWrong)

/- THE SECOND FORM. 'bulk': how many values and letters a reading holds, each counted each time it is reached (what is shared counts as often as it is met; a slice's spare places count too). A statement '..UptoSaid' is the law's where the arguments, and the package variables that the reading takes, are together of bulk at most 1048576: NARROWER than '..Said'. Prove '..Said' where nothing that the law and all that it calls make is longer than what came in: it says more and counts as full. Else prove '..UptoSaid'. A law counts once. -/
mutual
def uptoBulk {H : Type} : DataW H → Nat
  | .lit (.string bytes) => bytes.length + 1
  | .lit _ => 1
  | .nil => 1
  | .ptr d => uptoBulk d + 1
  | .slice elems spare => uptoBulkAll elems + uptoBulkAll spare + 1
  | .agg parts => uptoBulkAll parts + 1
  | .iface _ d => uptoBulk d + 1
  | .map entries => uptoBulkEntries entries + 1
  | .held _ => 1
def uptoBulkAll {H : Type} : List (DataW H) → Nat
  | [] => 0
  | d :: r => uptoBulk d + uptoBulkAll r
def uptoBulkEntries {H : Type} : List (Lit × DataW H) → Nat
  | [] => 0
  | x :: r => uptoBulkEntry x + uptoBulkEntries r
def uptoBulkEntry {H : Type} : Lit × DataW H → Nat
  | (.string bytes, d) => bytes.length + uptoBulk d + 1
  | (_, d) => uptoBulk d + 1
 end
def uptoSmall : (H : Type) → List (DataW H) → Bool := fun _ ds => decide (uptoBulkAll ds ≤ 1048576)
def OpenSpec.upto (s : _root_.Go.ChangeSpec) : _root_.Go.OpenSpec := { _root_.Go.OpenSpec.ofChange s with cond := some uptoSmall }

/-- 'amnesiatop.TopForked', WHERE WHAT IT READS IS OF BULK AT MOST 1048576: true; the input reads as it did. -/
def topForkedUptoRow : OpenClaim := { program := "ytmcocdbkonefjaagreatdoor", sum := "d54265c7d50863093781a28a621b9c014f49f7380491473e1b62ced505da7842", func := "amnesia/amnesiatop.TopForked", spec := "topForked", inPlace := ["internal/reflectlite.ValueOf", "(internal/reflectlite.Value).Type", "(internal/reflectlite.Value).IsNil", "internal/reflectlite.TypeOf", "(internal/reflectlite.Value).Elem", "(internal/reflectlite.Value).Set"], unfollowed := true, recurses := true, named := ["amnesia/message.uses", "amnesia/wire.nibbles", "amnesia/history.ErrRows", "amnesia/history.ErrGap", "amnesia/history.ErrParted", "amnesia/history.ErrUnasked", "amnesia/history.ErrAgain", "amnesia/history.ErrLead", "amnesia/history.ErrLogs", "amnesia/history.ErrForgot", "amnesia/history.ErrReply", "amnesia/history.ErrSpoke", "amnesia/history.ErrRead", "errors.errorType"], plainKeys := false, apart := false, laid := [("amnesia/wire.nibbles", laid_amnesia_wire_nibbles), ("errors.errorType", laid_errors_errorType), ("amnesia/message.uses", laid_amnesia_message_uses), ("amnesia/history.ErrRows", laid_amnesia_history_ErrRows), ("amnesia/history.ErrUnasked", laid_amnesia_history_ErrUnasked), ("amnesia/history.ErrAgain", laid_amnesia_history_ErrAgain), ("amnesia/history.ErrParted", laid_amnesia_history_ErrParted), ("amnesia/history.ErrGap", laid_amnesia_history_ErrGap), ("amnesia/history.ErrReply", laid_amnesia_history_ErrReply), ("amnesia/history.ErrForgot", laid_amnesia_history_ErrForgot), ("amnesia/history.ErrLead", laid_amnesia_history_ErrLead), ("amnesia/history.ErrLogs", laid_amnesia_history_ErrLogs), ("amnesia/history.ErrSpoke", laid_amnesia_history_ErrSpoke), ("amnesia/history.ErrRead", laid_amnesia_history_ErrRead)], narrowed := true }
def TopForkedUptoSaid : Prop := topForkedUptoRow.holds Tryz.pinned (OpenSpec.upto topForkedSpec)

end Rows
end Go.Proofs.YtmcocdbkonefjaaGreatDoor
