/- slices of bytes -/
import Derived.Test.YtpmakiecgphijaaGreatDoorRep
import Derived.Test.YtpmakiecgphijaaGreatDoorCode
namespace Go.Proofs.YtpmakiecgphijaaGreatDoor
open Go.Lift
set_option linter.unusedVariables false
set_option maxRecDepth 20000
theorem slU8 : SlT Tryz.prog 22 5 1 1 := ⟨by kernel_rfl, by kernel_rfl, by decide⟩
end Go.Proofs.YtpmakiecgphijaaGreatDoor
