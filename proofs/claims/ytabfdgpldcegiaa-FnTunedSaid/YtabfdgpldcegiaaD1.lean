/- What is drawn of bytes. -/
import Derived.Test.YtabfdgpldcegiaaB2
import Derived.Test.YtabfdgpldcegiaaE14
set_option linter.unusedVariables false
set_option linter.unusedSimpArgs false
namespace Go.Proofs.Ytabfdgpldcegiaa

end Go.Proofs.Ytabfdgpldcegiaa
