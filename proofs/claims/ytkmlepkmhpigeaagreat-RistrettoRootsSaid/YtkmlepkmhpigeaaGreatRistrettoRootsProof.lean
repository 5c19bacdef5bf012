/- PROVED: RistrettoRoots: the constants of the maps are the roots that they are told to be; the base's bytes are those of its point. CONDITIONS: none. -/
import Derived.Test.YtkmlepkmhpigeaaGreatFrameRR
import Derived.Test.YtkmlepkmhpigeaaGreatZS4
namespace Go.Proofs.YtkmlepkmhpigeaaGreat.ristrettoRoots
open Go.Eng
theorem proved : Rows.RistrettoRootsSaid :=
  over ok_LRR (fun xs h => by
    obtain rfl := inAVs0 h
    exact ⟨(), rfl, rfl⟩) (c := codeF f_opalinelaw08_RistrettoRoots) (by kernel_rfl) (by kernel_rfl)
end Go.Proofs.YtkmlepkmhpigeaaGreat.ristrettoRoots
