/- Texts of this claim, one behind the other: PCd4. -/
import Derived.Test.YtkmlepkmhpigeaaGreatZD2
/- CurveAdds. -/
namespace Go.Eng
open Go Go.Proofs
set_option linter.unusedVariables false
set_option linter.unusedSimpArgs false
set_option maxRecDepth 4000
theorem invN_fn (z:Nat):fn (invN z) = invQ (fn z):=by
  rw [invN_pow expI]
  unfold invQ
  rw [fn_mod]
  exact fn_eq.2 (pow_mod_congr (Nat.mod_mod _ _).symm _)
theorem RPT_plain {r:RP} {g:CP.G} (hr:RPT r g):fn (plR r).1 = g.1.1 ∧ fn (plR r).2 = g.1.2:=by
  have h:=inv_Q _ hr.z
  have e1:fn (plR r).1 = fn r.x * invQ (fn r.z):=by
    show fn (r.x * invN r.z % P25) = _
    rw [fn_mod,fn_mul,invN_fn]
  have e2:fn (plR r).2 = fn r.y * invQ (fn r.z):=by
    show fn (r.y * invN r.z % P25) = _
    rw [fn_mod,fn_mul,invN_fn]
  rw [e1,e2,hr.x,hr.y]
  generalize fn r.z = z at *
  generalize invQ z = i at *
  constructor <;> grind (splits:=0) -lia -linarith
end Go.Eng
