/- Part of a proof: ZzNone. -/
import Derived.Test.YtnibamjabiagnaaGreatDoorZzM11
import Derived.KernelRfl
set_option linter.unusedSimpArgs false
set_option linter.unusedVariables false
set_option linter.unusedSectionVars false
namespace Go.Vm
open Go Go.Proofs
set_option maxRecDepth 100000
theorem none_eval (b : List UInt8) : GGm tab ml11 60 4 [.Y b] [] = .ret (.B true) [] := by kernel_rfl
theorem none_sound : Sound cx 4 (GGm tab ml11 60 4) := GGm_sound tab_sound off11 ok11 60 4
end Go.Vm
