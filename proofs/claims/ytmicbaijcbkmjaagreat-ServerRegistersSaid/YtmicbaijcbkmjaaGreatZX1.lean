import Derived.Test.YtmicbaijcbkmjaaGreatZH1
namespace Go.Eng
open Go Go.Proofs
set_option linter.all false
def by1 (n:Nat):Str:=[b8 ((n%256:Nat):Int)]
def eB (prk info:Str):Nat->Str
 | 0=>aQc prk (info++by1 1)
 | i+1=>aQc prk (eB prk info i++(info++by1 (i+2)))
end Go.Eng
