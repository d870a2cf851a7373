/- events as arguments; a name of a segment is a file's -/
import Derived.Test.YtpbpjojdfcdbbaaGreatDoorEvent
import Derived.Test.YtpbpjojdfcdbbaaGreatDoorIn
namespace Go.Proofs.YtpbpjojdfcdbbaaGreatDoor
open Go.Lift
set_option linter.unusedVariables false
set_option maxRecDepth 20000
end Go.Proofs.YtpbpjojdfcdbbaaGreatDoor
