import Derived.Test.YthiilbllojllcaaGreatZF5
namespace Go.Eng
open Go Go.Proofs
set_option linter.all false
set_option maxRecDepth 4000
theorem S5 {u v:Fe} (hu:cS u) (hv:cS v):cS (dZ u v) :=
 have h3:=aL (aL hv hv) hv
 aL (aL hu h3) (HG (aL hu (aL (aL h3 h3) hv)) (cA 1))
end Go.Eng
