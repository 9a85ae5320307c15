/- Part of a proof: ZzG1. -/
import Derived.Test.YtmcocdbkonefjaaGreatDoorZzMl
import Derived.KernelRfl
set_option linter.unusedSimpArgs false
set_option linter.unusedVariables false
set_option linter.unusedSectionVars false
namespace Go.Vm
open Go Go.Proofs
set_option maxRecDepth 100000
theorem g1:Ok kl100 e152∧Ok [] e153∧Ok kl104 e160∧Ok kl142 e218∧Ok kl150 e228∧Ok kl153 e233∧Ok kl156 e238∧Ok kl159 e243∧Ok kl162 e248∧Ok kl166 e255∧Ok [] e256∧Ok kl170 e263:=⟨ok (by kernel_rfl),ok (by kernel_rfl),ok (by kernel_rfl),ok (by kernel_rfl),ok (by kernel_rfl),ok (by kernel_rfl),ok (by kernel_rfl),ok (by kernel_rfl),ok (by kernel_rfl),ok (by kernel_rfl),ok (by kernel_rfl),ok (by kernel_rfl)⟩
end Go.Vm
