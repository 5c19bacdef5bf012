/- Texts of this claim, one behind the other: FeS2, GFe7, GFe8, PFe11. -/
import Derived.KernelRfl
import Derived.Test.YtfdbdcopnifmaaaGreatEngNums
import Derived.Test.YtfdbdcopnifmaaaGreatZF1
import Derived.Test.YtfdbdcopnifmaaaGreatZF5
namespace Go.Eng
open Go Go.Proofs
set_option linter.unusedVariables false
set_option linter.unusedSimpArgs false
set_option maxRecDepth 4000
end Go.Eng
