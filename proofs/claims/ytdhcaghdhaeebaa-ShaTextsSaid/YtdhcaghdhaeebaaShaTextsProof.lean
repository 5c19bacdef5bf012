/- PROVED: ShaTexts: any text in base sixteen, and back; what any text is; parts with their lengths: for all inputs. CONDITIONS: none. -/
import Derived.Test.YtdhcaghdhaeebaaFrameST
import Derived.Test.YtdhcaghdhaeebaaPSLaw
import Derived.Test.YtdhcaghdhaeebaaInLimb
namespace Go.Proofs.Ytdhcaghdhaeebaa.shaTexts
open Go.Eng
theorem proved : Rows.ShaTextsSaid :=
  over ok_LST (fun xs h => by
    obtain ⟨a, b, rfl, ⟨x, rfl, _⟩, ⟨y, rfl, _⟩⟩ := inAVs2 h
    exact ⟨(), rfl, rfl⟩) (c := codeF Try.f13) (by kernel_rfl) (by kernel_rfl)
end Go.Proofs.Ytdhcaghdhaeebaa.shaTexts
