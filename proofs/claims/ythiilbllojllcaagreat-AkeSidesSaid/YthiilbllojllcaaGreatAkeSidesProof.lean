/- PROVED: AkeSides: what either side comes to, of any keys and bytes, or why not: for all inputs. CONDITIONS: none. -/
import Derived.Test.YthiilbllojllcaaGreatFrameAS
import Derived.Test.YthiilbllojllcaaGreatZO6
import Derived.Test.YthiilbllojllcaaGreatInB
namespace Go.Proofs.YthiilbllojllcaaGreat.akeSides
open Go.Eng
theorem proved : Rows.AkeSidesSaid :=
  bJX bEn (λ xs h => by
    obtain ⟨x, y, z, u, rfl, ⟨a, rfl, la, wa⟩, ⟨b, rfl, lb, wb⟩, ⟨c, rfl, lc, wc⟩, ⟨d, rfl, ld, wd⟩⟩ := bCZ h;refine ⟨(), ?_, rfl⟩;show cond (dP a && (dP b && (dP c && dP d))) (some ()) none = _;rw [JS la wa, JS lb wb, JS lc wc, JS ld wd]; rfl) (c := bB o8) (by kernel_rfl) (by kernel_rfl)
end Go.Proofs.YthiilbllojllcaaGreat.akeSides
