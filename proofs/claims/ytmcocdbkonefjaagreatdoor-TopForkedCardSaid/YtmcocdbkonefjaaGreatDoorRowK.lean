/- Part of a proof: RowK. -/
import Derived.Test.YtmcocdbkonefjaaGreatDoorCards
import Derived.KernelRfl
set_option linter.unusedSimpArgs false
set_option linter.unusedVariables false
set_option linter.unusedSectionVars false
namespace Go.Proofs.YtmcocdbkonefjaaGreatDoor.rowTop
open Go
set_option maxRecDepth 100000
theorem cw:Rows.topForkedRow.wfByText (OpenSpec.ofChange Rows.topForkedSpec)=true:=by kernel_rfl
theorem cm:Tryz.pinned.checked.prog.mainIs=some (true, "e7a609d25319f2052f8ff97420bf6c48438850f4609604abbfd664651b17f33d".toList):=by kernel_rfl
theorem cg:false=Rows.topForkedRow.goesBy Tryz.pinned.checked.prog:=by kernel_rfl
end Go.Proofs.YtmcocdbkonefjaaGreatDoor.rowTop
