import Derived.Test.YtmicbaijcbkmjaaGreatZV2
namespace Go.Eng
open Go Go.Proofs
set_option maxRecDepth 100000
theorem aWD:Jq (Af Ry 140 [])=true:=by kernel_rfl
theorem aNl:CallOk prog 140 jQ:=sB EN aWD
theorem aWE:Jq (Af Ry 191 [])=true:=by kernel_rfl
theorem aNm:CallOk prog 191 jQ:=sB EN aWE
theorem aWF:Jq (Af Ry 192 [])=true:=by kernel_rfl
theorem aNn:CallOk prog 192 jQ:=sB EN aWF
end Go.Eng
