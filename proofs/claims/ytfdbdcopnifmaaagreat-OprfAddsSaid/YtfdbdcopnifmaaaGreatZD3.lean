/- Texts of this claim, one behind the other: PCd4. -/
import Derived.Test.YtfdbdcopnifmaaaGreatZD2
namespace Go.Eng
open Go Go.Proofs
set_option linter.unusedVariables false
set_option linter.unusedSimpArgs false
set_option maxRecDepth 4000
end Go.Eng
