/- slices of bytes -/
import Derived.Test.YtpmakiecgphijaaDoorRep
import Derived.Test.YtpmakiecgphijaaDoorCode
namespace Go.Proofs.YtpmakiecgphijaaDoor
open Go.Lift
set_option linter.unusedVariables false
set_option maxRecDepth 20000
theorem slU8 : SlT Tryd.prog 35 5 1 1 := ⟨by kernel_rfl, by kernel_rfl, by decide⟩
end Go.Proofs.YtpmakiecgphijaaDoor
