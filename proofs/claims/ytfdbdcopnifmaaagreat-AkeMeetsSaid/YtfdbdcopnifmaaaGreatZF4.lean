import Derived.Test.YtfdbdcopnifmaaaGreatZF3
namespace Go.Eng
open Go Go.Proofs
set_option linter.all false
section
variable (T0:Type) (R0:List AV->Option T0) (f0a:T0->Int) (T1:Type) (R1:List AV->Option T1) (f1a:T1->List Int) (f1b:T1->Nat) (T2:Type) (R2:List AV->Option T2) (f2a:T2->Int)
end
section
variable (T0:Type) (R0:List AV->Option T0) (f0a:T0->List Int) (f0b:T0->Nat) (T1:Type) (R1:List AV->Option T1) (f1a:T1->List Int) (f1b:T1->Nat) (T2:Type) (R2:List AV->Option T2) (f2a:T2->List Int) (f2b:T2->Nat)
end
section
variable (T0:Type) (R0:List AV->Option T0) (f0a:T0->List Int) (f0b:T0->Nat) (T1:Type) (R1:List AV->Option T1) (f1a:T1->List Int) (f1b:T1->Nat) (T2:Type) (R2:List AV->Option T2) (f2a:T2->List Int) (f2b:T2->Nat) (f2c:T2->List Int) (f2d:T2->Nat) (T3:Type) (R3:List AV->Option T3) (f3a:T3->List Int) (f3b:T3->Nat) (T4:Type) (R4:List AV->Option T4) (f4a:T4->List Int) (f4b:T4->Nat)
end
set_option maxRecDepth 4000
end Go.Eng
