import Derived.Test.YtdcaobkcdgojgaaZR1
namespace Go.Eng
set_option linter.all false
open Go Go.Proofs
end Go.Eng
