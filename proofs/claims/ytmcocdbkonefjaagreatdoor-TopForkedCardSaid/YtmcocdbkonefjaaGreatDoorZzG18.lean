/- Part of a proof: ZzG18. -/
import Derived.Test.YtmcocdbkonefjaaGreatDoorZzMl
import Derived.KernelRfl
set_option linter.unusedSimpArgs false
set_option linter.unusedVariables false
set_option linter.unusedSectionVars false
namespace Go.Vm
open Go Go.Proofs
set_option maxRecDepth 100000
theorem g18:Ok kl141 e217∧Ok kl0 e1∧Ok kl10 e16∧Ok kl23 e35∧Ok kl32 e52∧Ok kl37 e60∧Ok kl60 e93∧Ok kl61 e95∧Ok kl101 e156∧Ok kl110 e169:=⟨ok (by kernel_rfl),ok (by kernel_rfl),ok (by kernel_rfl),ok (by kernel_rfl),ok (by kernel_rfl),ok (by kernel_rfl),ok (by kernel_rfl),ok (by kernel_rfl),ok (by kernel_rfl),ok (by kernel_rfl)⟩
end Go.Vm
