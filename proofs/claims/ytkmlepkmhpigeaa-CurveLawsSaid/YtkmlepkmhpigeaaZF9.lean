/- Texts of this claim, one behind the other: Fp7. -/
import Derived.Test.YtkmlepkmhpigeaaZF3
/- The root of any quotient, modulo 2^255 - 19: plain laws over the integers. -/
namespace Go.Eng
set_option linter.unusedVariables false
/-! no two of 1, -1, i, -i are one -/
end Go.Eng
