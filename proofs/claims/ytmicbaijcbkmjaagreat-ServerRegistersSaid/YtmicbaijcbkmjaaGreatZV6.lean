import Derived.Test.YtmicbaijcbkmjaaGreatZV4
namespace Go.Eng
open Go Go.Proofs
set_option maxRecDepth 100000
theorem aVW:Jg (AZ L3 62 [])=true:=by kernel_rfl
theorem aMZ:CallOk prog 62 jQ:=sD aE6 aVW
end Go.Eng
