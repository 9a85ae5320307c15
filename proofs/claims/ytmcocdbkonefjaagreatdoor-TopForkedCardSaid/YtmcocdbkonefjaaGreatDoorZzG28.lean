/- Part of a proof: ZzG28. -/
import Derived.Test.YtmcocdbkonefjaaGreatDoorZzMl
import Derived.KernelRfl
set_option linter.unusedSimpArgs false
set_option linter.unusedVariables false
set_option linter.unusedSectionVars false
namespace Go.Vm
open Go Go.Proofs
set_option maxRecDepth 100000
theorem g28:Ok kl70 e108∧Ok kl72 e110∧Ok kl74 e112∧Ok kl76 e114∧Ok kl79 e119∧Ok kl83 e126∧Ok kl87 e133∧Ok kl89 e136∧Ok kl91 e139∧Ok kl93 e141∧Ok kl105 e161∧Ok kl107 e163∧Ok kl109 e166∧Ok kl113 e173∧Ok kl121 e188∧Ok kl125 e194∧Ok kl128 e200:=⟨ok (by kernel_rfl),ok (by kernel_rfl),ok (by kernel_rfl),ok (by kernel_rfl),ok (by kernel_rfl),ok (by kernel_rfl),ok (by kernel_rfl),ok (by kernel_rfl),ok (by kernel_rfl),ok (by kernel_rfl),ok (by kernel_rfl),ok (by kernel_rfl),ok (by kernel_rfl),ok (by kernel_rfl),ok (by kernel_rfl),ok (by kernel_rfl),ok (by kernel_rfl)⟩
end Go.Vm
