import Derived.Test.YtmicbaijcbkmjaaGreatZO1
namespace Go.Eng
open Go Go.Proofs
set_option linter.all false
def Rc:List SV->Option (List Int)
 | []=>some []
 | .pl (.int .u64 n) :: r=>match Rc r with
  | some l=>some (n :: l)
  | none=>none
 | _=>none
def Lh:List SV->Option (List Int)
 | []=>some []
 | .pl (.int .u8 n) :: r=>match Lh r with
  | some l=>some (n :: l)
  | none=>none
 | _=>none
end Go.Eng
