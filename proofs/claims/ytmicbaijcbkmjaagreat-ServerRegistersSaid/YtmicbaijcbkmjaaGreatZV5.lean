import Derived.Test.YtmicbaijcbkmjaaGreatZV4
namespace Go.Eng
open Go Go.Proofs
set_option maxRecDepth 100000
theorem aV8:Jq (Af L3 61 [])=true:=by kernel_rfl
theorem aMZ:CallOk prog 61 jQ:=sB aEk aV8
end Go.Eng
