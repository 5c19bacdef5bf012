/- PROVED: LimbShifts: a number of 512 bits, shifted and asked for its bits, answers as the document's number does: for all inputs. CONDITIONS: none. -/
import Derived.Test.YtdhcaghdhaeebaaFrameLS
import Derived.Test.YtdhcaghdhaeebaaPLS
namespace Go.Proofs.Ytdhcaghdhaeebaa.limbShifts
open Go.Eng
theorem proved : Rows.LimbShiftsSaid :=
  over ok_LS (fun xs h => by
    obtain ⟨x, y, z, rfl, ⟨a, rfl, la, wa⟩, ⟨n, rfl, wn⟩, ⟨i, rfl, wi⟩⟩ := inAVs3 h
    refine ⟨(), ?_, rfl⟩
    show cond (ok8 a && (in63 n && in63 i)) (some ()) none = some ()
    rw [ok8_in la wa, in63_of wn, in63_of wi]; rfl) (c := codeF Try.f7) (by kernel_rfl) (by kernel_rfl)
end Go.Proofs.Ytdhcaghdhaeebaa.limbShifts
