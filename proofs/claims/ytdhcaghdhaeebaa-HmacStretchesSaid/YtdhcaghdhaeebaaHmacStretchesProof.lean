/- PROVED: HmacStretches: any text, stretched: for all inputs. CONDITIONS: none. -/
import Derived.Test.YtdhcaghdhaeebaaFrameHS
import Derived.Test.YtdhcaghdhaeebaaPHm2
import Derived.Test.YtdhcaghdhaeebaaInLimb
namespace Go.Proofs.Ytdhcaghdhaeebaa.hmacStretches
open Go.Eng
theorem proved : Rows.HmacStretchesSaid :=
  over ok_LHS (fun xs h => by
    obtain ⟨a, b, rfl, ⟨x, rfl, _⟩, ⟨y, rfl, _⟩⟩ := inAVs2 h
    exact ⟨(), rfl, rfl⟩) (c := codeF Try.f12) (by kernel_rfl) (by kernel_rfl)
end Go.Proofs.Ytdhcaghdhaeebaa.hmacStretches
