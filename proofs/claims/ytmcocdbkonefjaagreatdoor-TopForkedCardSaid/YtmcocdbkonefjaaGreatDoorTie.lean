/-
  DERIVED. GIVEN WITH THE SEED: THE PROGRAM's TIES (one call each: nine closed facts by the kernel) AND EACH ROW's TIE, after the 31st guide's Derived/Test/Toyas{Tie, Card}.lean. No idea stands in it: it is a product of the set-up. Laid BY PROGRAM, IN A SANDBOX (cutbox-door.mjs). By AI agents, Wed Nov 11 2026. No macro, syntax, notation, axiom, sorry.
-/
import Derived.Test.YtmcocdbkonefjaaGreatDoorRows
import Derived.LaidByTextLater
import Derived.SevenTiedAt
import Derived.LaidSub
import Derived.LaidOnce
namespace Go.Proofs.YtmcocdbkonefjaaGreatDoor
open Go
set_option maxRecDepth 100000
theorem seatTie1 : Tryz.prog.laidByTextLater [("amnesia/wire.nibbles", Rows.laid_amnesia_wire_nibbles), ("errors.errorType", Rows.laid_errors_errorType), ("amnesia/message.uses", Rows.laid_amnesia_message_uses), ("amnesia/history.ErrRows", Rows.laid_amnesia_history_ErrRows), ("amnesia/history.ErrUnasked", Rows.laid_amnesia_history_ErrUnasked), ("amnesia/history.ErrAgain", Rows.laid_amnesia_history_ErrAgain), ("amnesia/history.ErrParted", Rows.laid_amnesia_history_ErrParted), ("amnesia/history.ErrGap", Rows.laid_amnesia_history_ErrGap), ("amnesia/history.ErrReply", Rows.laid_amnesia_history_ErrReply), ("amnesia/history.ErrForgot", Rows.laid_amnesia_history_ErrForgot), ("amnesia/history.ErrLead", Rows.laid_amnesia_history_ErrLead), ("amnesia/history.ErrLogs", Rows.laid_amnesia_history_ErrLogs), ("amnesia/history.ErrSpoke", Rows.laid_amnesia_history_ErrSpoke), ("amnesia/history.ErrRead", Rows.laid_amnesia_history_ErrRead)] [.data, .handle, .data, .sentinel, .sentinel, .sentinel, .sentinel, .sentinel, .sentinel, .sentinel, .sentinel, .sentinel, .sentinel, .sentinel] true :=
  Program.laidByTextLater_by_one 249 8 151 (by kernel_rfl) (by kernel_rfl) (by kernel_rfl) (by kernel_rfl) (by kernel_rfl) (by kernel_rfl) (fun _ _ => by kernel_rfl)
theorem noOwnUnsafe : Tryz.pinned.checked.prog.headLifts.contains "ownunsafe" = false := by kernel_rfl
theorem tie : Tryz.prog.laidByTextLater [("amnesia/wire.nibbles", Rows.laid_amnesia_wire_nibbles), ("errors.errorType", Rows.laid_errors_errorType), ("amnesia/message.uses", Rows.laid_amnesia_message_uses), ("amnesia/history.ErrRows", Rows.laid_amnesia_history_ErrRows), ("amnesia/history.ErrUnasked", Rows.laid_amnesia_history_ErrUnasked), ("amnesia/history.ErrAgain", Rows.laid_amnesia_history_ErrAgain), ("amnesia/history.ErrParted", Rows.laid_amnesia_history_ErrParted), ("amnesia/history.ErrGap", Rows.laid_amnesia_history_ErrGap), ("amnesia/history.ErrReply", Rows.laid_amnesia_history_ErrReply), ("amnesia/history.ErrForgot", Rows.laid_amnesia_history_ErrForgot), ("amnesia/history.ErrLead", Rows.laid_amnesia_history_ErrLead), ("amnesia/history.ErrLogs", Rows.laid_amnesia_history_ErrLogs), ("amnesia/history.ErrSpoke", Rows.laid_amnesia_history_ErrSpoke), ("amnesia/history.ErrRead", Rows.laid_amnesia_history_ErrRead)] [.data, .handle, .data, .sentinel, .sentinel, .sentinel, .sentinel, .sentinel, .sentinel, .sentinel, .sentinel, .sentinel, .sentinel, .sentinel] true :=
  Program.laidByTextLater.sub seatTie1 ["amnesia/wire.nibbles", "errors.errorType", "amnesia/message.uses", "amnesia/history.ErrRows", "amnesia/history.ErrUnasked", "amnesia/history.ErrAgain", "amnesia/history.ErrParted", "amnesia/history.ErrGap", "amnesia/history.ErrReply", "amnesia/history.ErrForgot", "amnesia/history.ErrLead", "amnesia/history.ErrLogs", "amnesia/history.ErrSpoke", "amnesia/history.ErrRead"] (by kernel_rfl) (by kernel_rfl)
theorem topForked_row_tie : Rows.topForkedRow.laidByTextAt .later Tryz.pinned [.data, .handle, .data, .sentinel, .sentinel, .sentinel, .sentinel, .sentinel, .sentinel, .sentinel, .sentinel, .sentinel, .sentinel, .sentinel] true :=
  OpenClaim.laidByTextAt_later rfl rfl tie noOwnUnsafe
theorem topForkedUpto_row_tie : Rows.topForkedUptoRow.laidByTextAt .later Tryz.pinned [.data, .handle, .data, .sentinel, .sentinel, .sentinel, .sentinel, .sentinel, .sentinel, .sentinel, .sentinel, .sentinel, .sentinel, .sentinel] true :=
  OpenClaim.laidByTextAt_later rfl rfl tie noOwnUnsafe
end Go.Proofs.YtmcocdbkonefjaaGreatDoor
