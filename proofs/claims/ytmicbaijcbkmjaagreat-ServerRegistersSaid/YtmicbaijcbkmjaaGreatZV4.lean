import Derived.Test.YtmicbaijcbkmjaaGreatZV3
namespace Go.Eng
noncomputable section
open Go Go.Proofs
set_option maxRecDepth 100000
def L1:List (Nat × Summ):=(192,jQ) :: Ry
theorem aOX:∀ f A,dE L1 f=some A->CallOk prog f A:=aA aNn EN
theorem aTI:Jq (Af L1 193 [])=true:=by kernel_rfl
theorem aKH:CallOk prog 193 jQ:=sB aOX aTI
def L2:List (Nat × Summ):=(140,jQ) :: (191,jQ) :: (193,jQ) :: L1
theorem aOY:∀ f A,dE L2 f=some A->CallOk prog f A:=aA aNl <| aA aNm <| aA aKH aOX
theorem aTJ:Jq (Af L2 141 [])=true:=by kernel_rfl
theorem aKI:CallOk prog 141 jQ:=sB aOY aTJ
def L3:List (Nat × Summ):=(141,jQ) :: L2
theorem aEk:∀ f A,dE L3 f=some A->CallOk prog f A:=aA aKI aOY
end
end Go.Eng
