/- The contract of LimbTexts: it answers true. -/
import Derived.Test.YteipjabipehbpaaGreatPLT
namespace Go.Eng
open Go Go.Proofs
set_option linter.all false
theorem strN_len (k n:Nat):(strN k n).length=k:=by rw [strN,List.length_map,length_lo]
end Go.Eng
