/- The contract of LimbReckons: it answers true. -/
import Derived.Test.YtfdbdcopnifmaaaGreatPLS
namespace Go.Eng
open Go Go.Proofs
set_option linter.all false
end Go.Eng
