/- Bytes that come in to a law. -/
import Derived.Test.YtkmlepkmhpigeaaGreatZE3
import Derived.Test.YtkmlepkmhpigeaaGreatZF1
import Derived.OpenShut
namespace Go.Eng
open Go Go.Proofs
set_option linter.unusedVariables false
theorem u16_in {n:Int} (wn:(Lit.int .u16 n).wf = true):0 ≤ n ∧ n < 65536:=by
  simp only [Lit.wf,Bool.and_eq_true,decide_eq_true_eq] at wn
  have m1:IntKind.u16.min = 0:=rfl
  have m2:IntKind.u16.max = 65535:=rfl
  rw [m1,m2] at wn
  omega
end Go.Eng
