/- PROVED: LimbLaws: what goes in, times v, and what is left come to it; sums and products can be turned about; what was added can be taken off: for all two numbers of 512 bits. CONDITIONS: none. -/
import Derived.Test.YtdhcaghdhaeebaaFrameLimb
import Derived.Test.YtdhcaghdhaeebaaPLL
namespace Go.Proofs.Ytdhcaghdhaeebaa.limbLaws
open Go.Eng
theorem proved : Rows.LimbLawsSaid :=
  over ok_LL (fun a b ha hb => ⟨(), run2_some (fun _ _ => ()) ha hb, rfl⟩) (c := codeF Try.f9) (by kernel_rfl) (by kernel_rfl)
end Go.Proofs.Ytdhcaghdhaeebaa.limbLaws
