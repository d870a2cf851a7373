/- what the statements share, of texts -/
import Derived.Test.YtpbpjojdfcdbbaaGreatDoorKitBytes
namespace Go.Proofs.YtpbpjojdfcdbbaaGreatDoor
open Go.Lift
set_option linter.unusedVariables false
set_option maxRecDepth 20000

theorem slStr : SlT Tryz.prog 70 9 1 16 := ⟨by kernel_rfl, by kernel_rfl, by decide⟩

end Go.Proofs.YtpbpjojdfcdbbaaGreatDoor
