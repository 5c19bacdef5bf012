/- Texts of this claim, one behind the other: PCd4. -/
import Derived.Test.YtkmlepkmhpigeaaZD2
/- CurveAdds. -/
namespace Go.Eng
open Go Go.Proofs
set_option linter.unusedVariables false
set_option linter.unusedSimpArgs false
set_option maxRecDepth 4000
theorem on_iff {x y:Fe} (hx:fOk x):onF x y = true ↔ CP.On2 (ph x,ph y):=by
  unfold onF
  rw [ph_sam,ph_sub (mul_ok hx hx),ph_mul,ph_mul,ph_add,ph_mul,ph_mul,ph_mul,ph_mul,ph_1,ph_d]
  show _ ↔ ph y * ph y - ph x * ph x = 1 + CP.d * ph x * ph x * ph y * ph y
  constructor <;> intro h
  · grind (splits:=0) -lia -linarith
  · grind (splits:=0) -lia -linarith
end Go.Eng
