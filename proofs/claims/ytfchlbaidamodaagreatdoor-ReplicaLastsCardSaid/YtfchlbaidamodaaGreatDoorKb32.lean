import Derived.Test.YtfchlbaidamodaaGreatDoorKb31
set_option linter.all false
set_option maxRecDepth 20000
namespace Go.Proofs.YtfchlbaidamodaaGreatDoor
open Go.ax
end Go.Proofs.YtfchlbaidamodaaGreatDoor
