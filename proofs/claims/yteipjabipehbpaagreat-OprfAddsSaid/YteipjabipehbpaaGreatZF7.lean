import Derived.Test.YteipjabipehbpaaGreatZF5
namespace Go.Eng
open Go Go.Proofs
set_option linter.all false
set_option maxRecDepth 4000
theorem ratR_ok {u v:Fe} (hu:fOk u) (hv:fOk v):fOk (ratR u v) :=
 have h3:=mul_ok (mul_ok hv hv) hv
 mul_ok (mul_ok hu h3) (pow_ok (mul_ok hu (mul_ok (mul_ok h3 h3) hv)) (fe_ok 1))
end Go.Eng
