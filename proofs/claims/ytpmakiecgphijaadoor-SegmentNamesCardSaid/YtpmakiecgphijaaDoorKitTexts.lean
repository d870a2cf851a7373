/- what the statements share, of texts -/
import Derived.Test.YtpmakiecgphijaaDoorKitBytes
namespace Go.Proofs.YtpmakiecgphijaaDoor
open Go.Lift
set_option linter.unusedVariables false
set_option maxRecDepth 20000

theorem slStr : SlT Tryd.prog 63 9 1 16 := ⟨by kernel_rfl, by kernel_rfl, by decide⟩

end Go.Proofs.YtpmakiecgphijaaDoor
