/- The contract of LimbShifts: it answers true. -/
import Derived.Test.YteipjabipehbpaaGreatGLimb2
import Derived.Test.YteipjabipehbpaaGreatZR2
import Derived.Test.YteipjabipehbpaaGreatInLimb
namespace Go.Eng
open Go Go.Proofs
set_option linter.all false
theorem run_Bit {a:List Int} (ha:ok8 a=true) (i:Int):rBit [W8 a,.int .i64 i]=some (bitN (val a) i):=by
 show cond (ok8 a) (some (bitN (val a) i)) none=_
 rw [ha]; rfl
end Go.Eng
