import Derived.Test.YteipjabipehbpaaGreatZF4
import Derived.Test.YteipjabipehbpaaGreatZF6
import Derived.Test.YteipjabipehbpaaGreatZF7
import Derived.Test.YteipjabipehbpaaGreatZF9
namespace Go.Eng
open Go Go.Proofs
set_option linter.all false
set_option maxRecDepth 4000
set_option maxRecDepth 4000
theorem exp8:8*expF 253 252+4=P25 - 1:=by decide +kernel
set_option maxRecDepth 4000
end Go.Eng
