/- What comes in to a law, as the contracts want it. -/
import Derived.Test.YtfdbdcopnifmaaaGreatZE3
import Derived.Test.YtfdbdcopnifmaaaGreatZL2
import Derived.OpenShut
namespace Go.Eng
open Go Go.Proofs
set_option linter.unusedVariables false
end Go.Eng
