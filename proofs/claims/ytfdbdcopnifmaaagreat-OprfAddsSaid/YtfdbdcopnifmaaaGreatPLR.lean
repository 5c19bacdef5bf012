/- The contract of LimbReckons: it answers true. -/
import Derived.Test.YtfdbdcopnifmaaaGreatPLS
namespace Go.Eng
open Go Go.Proofs
set_option linter.unusedVariables false
set_option linter.unusedSimpArgs false
end Go.Eng
