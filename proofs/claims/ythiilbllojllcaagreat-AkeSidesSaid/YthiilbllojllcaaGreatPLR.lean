/- The contract of LimbReckons: it answers true. -/
import Derived.Test.YthiilbllojllcaaGreatPLS
namespace Go.Eng
open Go Go.Proofs
set_option linter.all false
end Go.Eng
