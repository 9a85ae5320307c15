/- Part of a proof: ZzG5. -/
import Derived.Test.YtmcocdbkonefjaaGreatDoorZzMl
import Derived.KernelRfl
set_option linter.unusedSimpArgs false
set_option linter.unusedVariables false
set_option linter.unusedSectionVars false
namespace Go.Vm
open Go Go.Proofs
set_option maxRecDepth 100000
theorem g5:Ok kl292 e451∧Ok kl300 e463∧Ok kl311 e481∧Ok kl314 e485∧Ok kl263 e403∧Ok kl177 e274∧Ok kl183 e283∧Ok kl189 e292∧Ok kl195 e301∧Ok kl203 e314∧Ok kl212 e329∧Ok kl216 e335∧Ok kl222 e343∧Ok kl228 e352∧Ok kl240 e368∧Ok kl248 e380∧Ok kl259 e398∧Ok kl262 e402∧Ok kl270 e416∧Ok kl276 e427∧Ok kl281 e435∧Ok kl293 e452∧Ok kl301 e464∧Ok kl312 e482∧Ok kl315 e486∧Ok kl171 e266∧Ok kl171 e275∧Ok kl184 e285∧Ok kl190 e294:=⟨ok (by kernel_rfl),ok (by kernel_rfl),ok (by kernel_rfl),ok (by kernel_rfl),ok (by kernel_rfl),ok (by kernel_rfl),ok (by kernel_rfl),ok (by kernel_rfl),ok (by kernel_rfl),ok (by kernel_rfl),ok (by kernel_rfl),ok (by kernel_rfl),ok (by kernel_rfl),ok (by kernel_rfl),ok (by kernel_rfl),ok (by kernel_rfl),ok (by kernel_rfl),ok (by kernel_rfl),ok (by kernel_rfl),ok (by kernel_rfl),ok (by kernel_rfl),ok (by kernel_rfl),ok (by kernel_rfl),ok (by kernel_rfl),ok (by kernel_rfl),ok (by kernel_rfl),ok (by kernel_rfl),ok (by kernel_rfl),ok (by kernel_rfl)⟩
end Go.Vm
