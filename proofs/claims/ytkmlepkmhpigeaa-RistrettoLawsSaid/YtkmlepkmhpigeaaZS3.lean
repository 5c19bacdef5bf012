/- Texts of this claim, one behind the other: PRi3, CuT, PRi4. -/
import Derived.Test.YtkmlepkmhpigeaaZR2
import Derived.Test.YtkmlepkmhpigeaaZS1
import Derived.Test.YtkmlepkmhpigeaaZS2
/- ristretto: the document's Bytes, Half and Roots. -/
namespace Go.Eng
open Go Go.Proofs
set_option linter.unusedVariables false
set_option linter.unusedSimpArgs false
set_option maxRecDepth 4000
end Go.Eng
/- ristretto.Map, the document's Roots: the contracts. -/
namespace Go.Eng
open Go Go.Proofs
set_option linter.unusedVariables false
set_option linter.unusedSimpArgs false
end Go.Eng
/- ristretto: the document's Half and Roots. -/
namespace Go.Eng
open Go Go.Proofs
set_option linter.unusedVariables false
set_option linter.unusedSimpArgs false
set_option maxRecDepth 4000
end Go.Eng
