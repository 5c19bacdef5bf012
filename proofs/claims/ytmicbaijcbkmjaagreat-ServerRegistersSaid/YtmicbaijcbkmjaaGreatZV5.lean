import Derived.Test.YtmicbaijcbkmjaaGreatZV4
namespace Go.Eng
open Go Go.Proofs
set_option maxRecDepth 100000
theorem aSZ:Jg (AZ L3 61 [])=true:=by kernel_rfl
theorem aKl:CallOk prog 61 jQ:=sD aE6 aSZ
end Go.Eng
