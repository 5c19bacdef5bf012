import Derived.Test.YtmicbaijcbkmjaaGreatZV2
namespace Go.Eng
open Go Go.Proofs
set_option maxRecDepth 100000
theorem aWc:Jg (AZ Rv 140 [])=true:=by kernel_rfl
theorem aNe:CallOk prog 140 jQ:=sD EM aWc
theorem aWd:Jg (AZ Rv 191 [])=true:=by kernel_rfl
theorem aNf:CallOk prog 191 jQ:=sD EM aWd
theorem aWe:Jg (AZ Rv 192 [])=true:=by kernel_rfl
theorem aNg:CallOk prog 192 jQ:=sD EM aWe
end Go.Eng
