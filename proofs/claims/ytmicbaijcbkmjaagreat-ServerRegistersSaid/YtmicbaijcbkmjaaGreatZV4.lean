import Derived.Test.YtmicbaijcbkmjaaGreatZV3
namespace Go.Eng
noncomputable section
open Go Go.Proofs
set_option maxRecDepth 100000
def L1:List (Nat × Summ):=(192,jQ) :: Rv
theorem aPa:∀ f A,dD L1 f=some A->CallOk prog f A:=aA aNg EM
theorem aUl:Jg (AZ L1 193 [])=true:=by kernel_rfl
theorem aLS:CallOk prog 193 jQ:=sD aPa aUl
def L2:List (Nat × Summ):=(140,jQ) :: (191,jQ) :: (193,jQ) :: L1
theorem aPb:∀ f A,dD L2 f=some A->CallOk prog f A:=aA aNe <| aA aNf <| aA aLS aPa
theorem aUm:Jg (AZ L2 141 [])=true:=by kernel_rfl
theorem aLT:CallOk prog 141 jQ:=sD aPb aUm
def L3:List (Nat × Summ):=(141,jQ) :: L2
theorem aE6:∀ f A,dD L3 f=some A->CallOk prog f A:=aA aLT aPb
end
end Go.Eng
