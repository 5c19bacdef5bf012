/- The contract of LimbShifts: it answers true. -/
import Derived.Test.YthiilbllojllcaaGreatGLimb2
import Derived.Test.YthiilbllojllcaaGreatZR2
import Derived.Test.YthiilbllojllcaaGreatInLimb
namespace Go.Eng
open Go Go.Proofs
set_option linter.all false
theorem Pj {a:List Int} (ha:gK a=true) (i:Int):aG8 [W8 a,.int .i64 i]=some (nM (val a) i):=by
 show cond (gK a) (some (nM (val a) i)) none=_;rw [ha]; rfl
end Go.Eng
