/- When a pipe is silent: the program. -/
import Derived.Test.YtnahhdnkbbdceaaT6
import Derived.Test.YtnahhdnkbbdceaaE17
set_option linter.unusedVariables false
set_option linter.unusedSimpArgs false
set_option maxRecDepth 100000
set_option maxHeartbeats 8000000
namespace Go.Proofs.Ytnahhdnkbbdceaa

end Go.Proofs.Ytnahhdnkbbdceaa

/- When a pipe of three sections is silent: the program. -/
set_option linter.unusedVariables false
set_option linter.unusedSimpArgs false
set_option maxRecDepth 100000
set_option maxHeartbeats 8000000
namespace Go.Proofs.Ytnahhdnkbbdceaa

end Go.Proofs.Ytnahhdnkbbdceaa
