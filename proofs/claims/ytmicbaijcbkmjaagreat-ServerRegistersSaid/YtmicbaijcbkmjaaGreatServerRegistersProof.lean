/- PROVED: ServerRegisters: the answer to any registration, by any key, or why there is none: for all inputs. CONDITIONS: none. -/
import Derived.Test.YtmicbaijcbkmjaaGreatFrameSv
import Derived.Test.YtmicbaijcbkmjaaGreatZV7
import Derived.Test.YtmicbaijcbkmjaaGreatZF2
namespace Go.Proofs.YtmicbaijcbkmjaaGreat.serverRegisters
open Go.Eng
theorem proved : Rows.ServerRegistersSaid :=
  bAh aWC (λ xs h => by
    obtain ⟨x, y, z, rfl, ⟨a, rfl, la, wa⟩, ⟨b, rfl, lb, wb⟩, ⟨s, rfl, hs⟩⟩ := aWO h;refine ⟨(), ?_, rfl⟩;show cond (fR a && fR b) (some ()) none = _;rw [Wk la wa, Wk lb wb]; rfl) (c := bD i6) (by kernel_rfl) (by kernel_rfl)
end Go.Proofs.YtmicbaijcbkmjaaGreat.serverRegisters
