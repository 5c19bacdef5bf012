/- PROVED: ShaCounts: parts with their lengths are told apart: for all inputs. CONDITIONS: none. -/
import Derived.Test.YtdhcaghdhaeebaaFrameSC
import Derived.Test.YtdhcaghdhaeebaaPSLaw
import Derived.Test.YtdhcaghdhaeebaaInLimb
namespace Go.Proofs.Ytdhcaghdhaeebaa.shaCounts
open Go.Eng
theorem proved : Rows.ShaCountsSaid :=
  over ok_LSC (fun xs h => by
    obtain ⟨a, b, c, d, rfl, ⟨x, rfl, _⟩, ⟨y, rfl, _⟩, ⟨z, rfl, _⟩, ⟨u, rfl, _⟩⟩ := inAVs4 h
    exact ⟨(), rfl, rfl⟩) (c := codeF Try.f11) (by kernel_rfl) (by kernel_rfl)
end Go.Proofs.Ytdhcaghdhaeebaa.shaCounts
