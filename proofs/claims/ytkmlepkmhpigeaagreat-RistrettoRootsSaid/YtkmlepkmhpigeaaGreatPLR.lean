/- The contract of LimbReckons: it answers true. -/
import Derived.Test.YtkmlepkmhpigeaaGreatPLS
namespace Go.Eng
open Go Go.Proofs
set_option linter.unusedVariables false
set_option linter.unusedSimpArgs false
theorem cmpN_self (x:Nat):cmpN x x = 0:=by simp [cmpN]
end Go.Eng
