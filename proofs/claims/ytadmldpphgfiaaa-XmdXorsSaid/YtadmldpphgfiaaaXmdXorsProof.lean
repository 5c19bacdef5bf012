/- PROVED: XmdXors: two texts byte by byte, and back: for all inputs. CONDITIONS: none. -/
import Derived.Test.YtadmldpphgfiaaaFrameXX
import Derived.Test.YtadmldpphgfiaaaZX1
namespace Go.Proofs.Ytadmldpphgfiaaa.xmdXors
open Go.Eng
theorem proved : Rows.XmdXorsSaid :=
  over ok_XmdXors (fun xs h => by
    obtain ⟨a, b, rfl, ⟨x, rfl, _⟩, ⟨y, rfl, _⟩⟩ := inAVs2 h
    exact ⟨(), rfl, rfl⟩) (c := codeF f_opalinelaw04_XmdXors) (by kernel_rfl) (by kernel_rfl)
end Go.Proofs.Ytadmldpphgfiaaa.xmdXors
