/- slices of bytes -/
import Derived.Test.YtpbpjojdfcdbbaaGreatDoorRep
import Derived.Test.YtpbpjojdfcdbbaaGreatDoorCode
namespace Go.Proofs.YtpbpjojdfcdbbaaGreatDoor
open Go.Lift
set_option linter.unusedVariables false
set_option maxRecDepth 20000
theorem slU8 : SlT Tryz.prog 49 5 1 1 := ⟨by kernel_rfl, by kernel_rfl, by decide⟩
end Go.Proofs.YtpbpjojdfcdbbaaGreatDoor
