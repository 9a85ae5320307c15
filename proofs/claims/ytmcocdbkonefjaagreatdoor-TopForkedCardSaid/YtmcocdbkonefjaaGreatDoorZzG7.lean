/- Part of a proof: ZzG7. -/
import Derived.Test.YtmcocdbkonefjaaGreatDoorZzMl
import Derived.KernelRfl
set_option linter.unusedSimpArgs false
set_option linter.unusedVariables false
set_option linter.unusedSectionVars false
namespace Go.Vm
open Go Go.Proofs
set_option maxRecDepth 100000
theorem g7:Ok kl316 e487∧Ok kl3 e5∧Ok kl8 e13∧Ok kl3 e20∧Ok kl3 e26∧Ok kl3 e36∧Ok kl3 e40∧Ok kl8 e47∧Ok kl8 e55∧Ok kl8 e75∧Ok kl8 e79∧Ok kl8 e86∧Ok kl58 e90∧Ok kl58 e102∧Ok kl58 e122∧Ok kl58 e129∧Ok kl58 e143∧Ok kl58 e147∧Ok kl3 e154∧Ok kl58 e167∧Ok kl58 e174∧Ok kl58 e182:=⟨ok (by kernel_rfl),ok (by kernel_rfl),ok (by kernel_rfl),ok (by kernel_rfl),ok (by kernel_rfl),ok (by kernel_rfl),ok (by kernel_rfl),ok (by kernel_rfl),ok (by kernel_rfl),ok (by kernel_rfl),ok (by kernel_rfl),ok (by kernel_rfl),ok (by kernel_rfl),ok (by kernel_rfl),ok (by kernel_rfl),ok (by kernel_rfl),ok (by kernel_rfl),ok (by kernel_rfl),ok (by kernel_rfl),ok (by kernel_rfl),ok (by kernel_rfl),ok (by kernel_rfl)⟩
end Go.Vm
