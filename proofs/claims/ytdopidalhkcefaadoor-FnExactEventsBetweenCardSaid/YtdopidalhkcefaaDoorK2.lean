/- What the functions on scores compute: comparisons. -/
import Derived.Test.YtdopidalhkcefaaDoorK1
set_option linter.unusedVariables false
set_option linter.unusedSimpArgs false
namespace Go.Proofs.YtdopidalhkcefaaDoor


end Go.Proofs.YtdopidalhkcefaaDoor
