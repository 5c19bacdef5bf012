import Derived.Test.YtdcaobkcdgojgaaZL2
namespace Go.Eng
set_option linter.all false
def lo:Nat->Nat->List Int
 | 0,_=>[]
 | k+1,n=>((n%256:Nat):Int) :: lo k (n / 256)
open Go Go.Proofs
end Go.Eng
