/- The contract of LimbTexts: it answers true. -/
import Derived.Test.YthiilbllojllcaaGreatPLT
namespace Go.Eng
open Go Go.Proofs
set_option linter.all false
theorem aJk (k n:Nat):(JC k n).length=k:=by rw [JC,eZ,fS]
end Go.Eng
