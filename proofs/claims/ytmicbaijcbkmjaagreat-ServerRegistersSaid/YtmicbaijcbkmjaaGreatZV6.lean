import Derived.Test.YtmicbaijcbkmjaaGreatZV4
namespace Go.Eng
open Go Go.Proofs
set_option maxRecDepth 100000
theorem aV7:Jq (Af L3 62 [])=true:=by kernel_rfl
theorem aMY:CallOk prog 62 jQ:=sB aEk aV7
end Go.Eng
