/- Texts of this claim, one behind the other: StrOk. -/
import Derived.Lib.Bytealg
import Derived.Shelf.Strings.OnBuilder
import Derived.Shelf.Strings.Repeat
import Derived.Test.YtkmlepkmhpigeaaEngNums
import Derived.Test.YtkmlepkmhpigeaaShelf1
import Derived.Test.YtkmlepkmhpigeaaZE3
/- The contracts of strings.Repeat, Join, HasPrefix, IndexByte: off the shelf. -/
namespace Go.Eng
open Go Go.Proofs
set_option linter.unusedVariables false
set_option linter.unusedSimpArgs false
theorem ctrueS {α:Type} {c:Bool} {x y:α} (h:cond c (some x) none = some y):c = true ∧ x = y:=by
  cases c
  · cases h
  · exact ⟨rfl,Option.some.inj h⟩
end Go.Eng
