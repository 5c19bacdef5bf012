/- PROVED: RistrettoReadsSums: elements that went through bytes add as they did: for all inputs. CONDITIONS: none. -/
import Derived.Test.YtkmlepkmhpigeaaFrameRS
import Derived.Test.YtkmlepkmhpigeaaZS7
import Derived.Test.YtkmlepkmhpigeaaInB
namespace Go.Proofs.Ytkmlepkmhpigeaa.ristrettoReadsSums
open Go.Eng
theorem proved : Rows.RistrettoReadsSumsSaid :=
  over ok_LRS (fun xs h => by
    obtain ⟨x, y, rfl, ⟨a, rfl, la, wa⟩, ⟨b, rfl, lb, wb⟩⟩ := inAVs2 h
    refine ⟨(), ?_, rfl⟩
    show cond (ok32 a && ok32 b) (some ()) none = _
    rw [ok32_in la wa, ok32_in lb wb]; rfl) (c := codeF f_opalinelaw08_RistrettoReadsSums) (by kernel_rfl) (by kernel_rfl)
end Go.Proofs.Ytkmlepkmhpigeaa.ristrettoReadsSums
