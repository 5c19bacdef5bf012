/- PROVED: WireWrites: the bytes of any second message, or why there are none: for all inputs. CONDITIONS: none. -/
import Derived.Test.YtdhcaghdhaeebaaFrameWW
import Derived.Test.YtdhcaghdhaeebaaZW1
namespace Go.Proofs.Ytdhcaghdhaeebaa.wireWrites
open Go.Eng
theorem proved : Rows.WireWritesSaid :=
  over ok_WireWrites (fun xs h => by
    obtain ⟨x, y, rfl, ⟨ss, rfl, e1, _⟩, ⟨rr, rfl, e2, _⟩⟩ := inBVs_2 h
    obtain ⟨a, b, c, d, e, f, rfl⟩ := len6 e1
    obtain ⟨g, i, j, rfl⟩ := len3 e2
    exact ⟨(), rfl, rfl⟩) (c := codeF f_opalinelaw11_WireWrites) (by kernel_rfl) (by kernel_rfl)
end Go.Proofs.Ytdhcaghdhaeebaa.wireWrites
