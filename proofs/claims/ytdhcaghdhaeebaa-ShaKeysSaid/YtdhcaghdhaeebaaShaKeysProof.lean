/- PROVED: ShaKeys: the rounds' constants are the first 64 bits behind the point of the cube roots of the first primes. CONDITIONS: none. -/
import Derived.Test.YtdhcaghdhaeebaaFrameSK
import Derived.Test.YtdhcaghdhaeebaaPSKeys
import Derived.Test.YtdhcaghdhaeebaaInLimb
namespace Go.Proofs.Ytdhcaghdhaeebaa.shaKeys
open Go.Eng
theorem proved : Rows.ShaKeysSaid :=
  over ok_LSK (fun xs h => by
    obtain rfl := inAVs0 h
    exact ⟨(), rfl, rfl⟩) (c := codeF Try.f10) (by kernel_rfl) (by kernel_rfl)
end Go.Proofs.Ytdhcaghdhaeebaa.shaKeys
