/- PROVED: RistrettoTorsion: points that differ by one of order 4 are one element, with one text; others aren't: for all inputs. CONDITIONS: none. -/
import Derived.Test.YtkmlepkmhpigeaaFrameRT
import Derived.Test.YtkmlepkmhpigeaaZS8
import Derived.Test.YtkmlepkmhpigeaaInB
namespace Go.Proofs.Ytkmlepkmhpigeaa.ristrettoTorsion
open Go.Eng
theorem proved : Rows.RistrettoTorsionSaid :=
  over ok_LRT (fun xs h => by
    obtain ⟨x, y, rfl, ⟨a, rfl, la, wa⟩, ⟨b, rfl, lb, wb⟩⟩ := inAVs2 h
    refine ⟨(), ?_, rfl⟩
    show cond (ok32 a && ok32 b) (some ()) none = _
    rw [ok32_in la wa, ok32_in lb wb]; rfl) (c := codeF f_opalinelaw08_RistrettoTorsion) (by kernel_rfl) (by kernel_rfl)
end Go.Proofs.Ytkmlepkmhpigeaa.ristrettoTorsion
