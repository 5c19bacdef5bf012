/- PROVED: RistrettoLaws: elements are added, and taken so often, as their points are; sums can be turned about; none but the identity comes to nothing too early: for all inputs. CONDITIONS: none. -/
import Derived.Test.YtkmlepkmhpigeaaFrameRL
import Derived.Test.YtkmlepkmhpigeaaZS7
import Derived.Test.YtkmlepkmhpigeaaInB
namespace Go.Proofs.Ytkmlepkmhpigeaa.ristrettoLaws
open Go.Eng
theorem proved : Rows.RistrettoLawsSaid :=
  over ok_LRL (fun xs h => by
    obtain ⟨x, y, z, rfl, ⟨a, rfl, la, wa⟩, ⟨b, rfl, lb, wb⟩, ⟨n, rfl, wn⟩⟩ := inAVs3 h
    refine ⟨(), ?_, rfl⟩
    show cond (ok32 a && (ok32 b && decide (0 ≤ n ∧ n < 65536))) (some ()) none = _
    rw [ok32_in la wa, ok32_in lb wb, decide_eq_true (u16_in wn)]; rfl) (c := codeF f_opalinelaw08_RistrettoLaws) (by kernel_rfl) (by kernel_rfl)
end Go.Proofs.Ytkmlepkmhpigeaa.ristrettoLaws
