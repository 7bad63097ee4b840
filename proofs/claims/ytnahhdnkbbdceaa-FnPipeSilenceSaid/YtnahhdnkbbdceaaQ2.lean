/- What the functions on pipes compute: sizes, copies, comparisons, marks; pipes that have not the right numbers of rings. -/
import Derived.Test.YtnahhdnkbbdceaaQ1
set_option linter.unusedVariables false
set_option linter.unusedSimpArgs false
set_option maxRecDepth 100000
set_option maxHeartbeats 8000000
namespace Go.Proofs.Ytnahhdnkbbdceaa

end Go.Proofs.Ytnahhdnkbbdceaa
