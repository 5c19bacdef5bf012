/- Texts of this claim, one behind the other: Fp7. -/
import Derived.Test.YtfdbdcopnifmaaaGreatZF3
namespace Go.Eng
set_option linter.unusedVariables false
abbrev iZ:Int:=19681161376707505956807079304988542015446066515923890162744021073123829784752
theorem iZ_sq:cg (iZ * iZ) (-1):=⟨6690407189080634018507799843845558368979872843924222843531373839242004886245,by decide +kernel⟩
end Go.Eng
