/- What stepping a pipe gives. -/
import Derived.Test.YtnahhdnkbbdceaaT2
set_option linter.unusedVariables false
set_option linter.unusedSimpArgs false
set_option maxRecDepth 100000
set_option maxHeartbeats 8000000
namespace Go.Proofs.Ytnahhdnkbbdceaa

end Go.Proofs.Ytnahhdnkbbdceaa
