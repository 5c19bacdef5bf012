import Derived.Test.YtfdbdcopnifmaaaGreatZF4
import Derived.Test.YtfdbdcopnifmaaaGreatZF6
import Derived.Test.YtfdbdcopnifmaaaGreatZF7
import Derived.Test.YtfdbdcopnifmaaaGreatZF9
namespace Go.Eng
open Go Go.Proofs
set_option linter.all false
section
variable (T0:Type) (R0:List AV->Option T0) (f0a:T0->List Int) (f0b:T0->Nat) (T1:Type) (R1:List AV->Option T1) (f1a:T1->List Int) (f1b:T1->Nat) (T2:Type) (R2:List AV->Option T2) (f2a:T2->List Int) (f2b:T2->Nat) (f2c:T2->List Int) (f2d:T2->Nat) (T3:Type) (R3:List AV->Option T3) (f3a:T3->List Int) (f3b:T3->Nat) (T4:Type) (R4:List AV->Option T4) (f4a:T4->List Int) (f4b:T4->Nat) (T5:Type) (R5:List AV->Option T5) (f5a:T5->Int) (T6:Type) (R6:List AV->Option T6) (f6a:T6->List Int) (f6b:T6->Nat) (T7:Type) (R7:List AV->Option T7) (f7a:T7->List Int) (f7b:T7->Nat)
end
section
variable (T0:Type) (R0:List AV->Option T0) (f0a:T0->List Int) (f0b:T0->Nat) (T1:Type) (R1:List AV->Option T1) (f1a:T1->List Int) (f1b:T1->Nat) (T2:Type) (R2:List AV->Option T2) (f2a:T2->List Int) (f2b:T2->Nat) (f2c:T2->Bool) (T3:Type) (R3:List AV->Option T3) (f3a:T3->List Int) (f3b:T3->Nat)
end
set_option maxRecDepth 4000
set_option maxRecDepth 4000
theorem exp8:8*expF 253 252+4=P25 - 1:=by decide +kernel
set_option maxRecDepth 4000
end Go.Eng
