/- what the statements share, of bytes -/
import Derived.Test.YtpmakiecgphijaaDoorPick
import Derived.Test.YtpmakiecgphijaaDoorBytes8
namespace Go.Proofs.YtpmakiecgphijaaDoor
open Go.Lift
set_option linter.unusedVariables false
set_option maxRecDepth 20000

end Go.Proofs.YtpmakiecgphijaaDoor
