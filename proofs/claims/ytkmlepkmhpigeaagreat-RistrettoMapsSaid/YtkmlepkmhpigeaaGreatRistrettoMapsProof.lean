/- PROVED: RistrettoMaps: the element that any 64 bytes are mapped to: for all inputs. CONDITIONS: none. -/
import Derived.Test.YtkmlepkmhpigeaaGreatFrameRM
import Derived.Test.YtkmlepkmhpigeaaGreatZS5
import Derived.Test.YtkmlepkmhpigeaaGreatInB
namespace Go.Proofs.YtkmlepkmhpigeaaGreat.ristrettoMaps
open Go.Eng
theorem proved : Rows.RistrettoMapsSaid :=
  over ok_LRM (fun xs h => by
    obtain ⟨x, y, rfl, ⟨a, rfl, la, wa⟩, ⟨b, rfl, lb, wb⟩⟩ := inAVs2 h
    refine ⟨(), ?_, rfl⟩
    show cond (ok32 a && ok32 b) (some ()) none = _
    rw [ok32_in la wa, ok32_in lb wb]; rfl) (c := codeF f_opalinelaw08_RistrettoMaps) (by kernel_rfl) (by kernel_rfl)
end Go.Proofs.YtkmlepkmhpigeaaGreat.ristrettoMaps
