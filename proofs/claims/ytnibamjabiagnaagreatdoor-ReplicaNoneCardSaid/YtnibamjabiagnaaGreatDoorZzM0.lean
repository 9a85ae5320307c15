/- Part of a proof: ZzM0. -/
import Derived.Test.YtnibamjabiagnaaGreatDoorZzSndR
import Derived.Test.YtnibamjabiagnaaGreatDoorVE
set_option linter.unusedSimpArgs false
set_option linter.unusedVariables false
set_option linter.unusedSectionVars false
namespace Go.Vm
open Go
def ml0 : ML := []
theorem off0 : memOff cx.eats ml0 = true := rfl
theorem ok0 : ∀ p ∈ ml0, ∃ S, Sound cx p.1 S ∧ S p.2.1 p.2.2.1 = p.2.2.2 := fun p hp => by cases hp
end Go.Vm
