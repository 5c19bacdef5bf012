import Derived.Test.YthiilbllojllcaaGreatZF3
namespace Go.Eng
open Go Go.Proofs
set_option linter.all false
set_option maxRecDepth 4000
end Go.Eng
