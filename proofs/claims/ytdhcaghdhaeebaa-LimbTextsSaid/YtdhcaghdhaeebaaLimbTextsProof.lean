/- PROVED: LimbTexts: bytes and digits read into a number of 512 bits, and written from it, are the document's: for all inputs. CONDITIONS: none. -/
import Derived.Test.YtdhcaghdhaeebaaFrameLT
import Derived.Test.YtdhcaghdhaeebaaPLT2
import Derived.Test.YtdhcaghdhaeebaaInLimb
namespace Go.Proofs.Ytdhcaghdhaeebaa.limbTexts
open Go.Eng
theorem proved : Rows.LimbTextsSaid :=
  over ok_LT (fun xs h => by
    obtain ⟨x, y, z, rfl, ⟨s, rfl, ls⟩, ⟨a, rfl, la, wa⟩, ⟨n, rfl, wn⟩⟩ := inAVs3 h
    refine ⟨(), ?_, rfl⟩
    show cond (ok8 a && in64 n) (some ()) none = some ()
    rw [ok8_in la wa, in64_of wn]; rfl) (c := codeF Try.f6) (by kernel_rfl) (by kernel_rfl)
end Go.Proofs.Ytdhcaghdhaeebaa.limbTexts
