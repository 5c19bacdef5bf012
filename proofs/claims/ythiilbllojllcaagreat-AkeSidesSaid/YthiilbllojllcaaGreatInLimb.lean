/- What comes in to a law, as the contracts want it. -/
import Derived.Test.YthiilbllojllcaaGreatZL2
namespace Go.Eng
open Go Go.Proofs
set_option linter.unusedVariables false
end Go.Eng
