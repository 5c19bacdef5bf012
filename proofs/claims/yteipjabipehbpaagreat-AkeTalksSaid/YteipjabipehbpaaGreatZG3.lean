import Derived.Test.YteipjabipehbpaaGreatZG2
namespace Go.Eng
open Go Go.Proofs
set_option linter.all false
section
variable (T0:Type) (R0:List AV->Option T0) (f0a:T0->List Int) (f0b:T0->Int) (T1:Type) (R1:List AV->Option T1) (f1a:T1->List Int)
end
set_option maxRecDepth 4000
end Go.Eng
