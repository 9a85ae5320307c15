/- Part of a proof: ZzG20. -/
import Derived.Test.YtmcocdbkonefjaaGreatDoorZzMl
import Derived.KernelRfl
set_option linter.unusedSimpArgs false
set_option linter.unusedVariables false
set_option linter.unusedSectionVars false
namespace Go.Vm
open Go Go.Proofs
set_option maxRecDepth 100000
theorem g20:Ok kl236 e364∧Ok kl245 e377∧Ok kl254 e391∧Ok kl255 e393∧Ok kl266 e411∧Ok kl267 e413∧Ok kl282 e437∧Ok kl289 e447∧Ok kl298 e461∧Ok kl307 e475∧Ok kl308 e477∧Ok kl4 e7∧Ok kl11 e18∧Ok kl13 e22∧Ok kl17 e28∧Ok kl24 e38∧Ok kl26 e42∧Ok kl30 e49∧Ok kl35 e57∧Ok kl51 e77∧Ok kl53 e81:=⟨ok (by kernel_rfl),ok (by kernel_rfl),ok (by kernel_rfl),ok (by kernel_rfl),ok (by kernel_rfl),ok (by kernel_rfl),ok (by kernel_rfl),ok (by kernel_rfl),ok (by kernel_rfl),ok (by kernel_rfl),ok (by kernel_rfl),ok (by kernel_rfl),ok (by kernel_rfl),ok (by kernel_rfl),ok (by kernel_rfl),ok (by kernel_rfl),ok (by kernel_rfl),ok (by kernel_rfl),ok (by kernel_rfl),ok (by kernel_rfl),ok (by kernel_rfl)⟩
end Go.Vm
