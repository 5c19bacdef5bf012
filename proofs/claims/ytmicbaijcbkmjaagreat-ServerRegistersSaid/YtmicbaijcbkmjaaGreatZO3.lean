import Derived.Test.YtmicbaijcbkmjaaGreatZO1
namespace Go.Eng
open Go Go.Proofs
set_option linter.all false
def Sf:List SV->Option (List Int)
 | []=>some []
 | .pl (.int .u64 n) :: r=>match Sf r with
  | some l=>some (n :: l)
  | none=>none
 | _=>none
def L6:List SV->Option (List Int)
 | []=>some []
 | .pl (.int .u8 n) :: r=>match L6 r with
  | some l=>some (n :: l)
  | none=>none
 | _=>none
end Go.Eng
