/- PROVED: OprfAdds: what two keys make of an element adds up to what their sum makes of it; one behind the other they make what their product does: for all inputs. CONDITIONS: none. -/
import Derived.Test.YteipjabipehbpaaGreatFrameOA
import Derived.Test.YteipjabipehbpaaGreatZO2
import Derived.Test.YteipjabipehbpaaGreatInB
namespace Go.Proofs.YteipjabipehbpaaGreat.oprfAdds
open Go.Eng
theorem proved : Rows.OprfAddsSaid :=
  over ok_LOA (fun xs h => by
    obtain ⟨x, y, z, rfl, ⟨a, rfl, la, wa⟩, ⟨b, rfl, lb, wb⟩, ⟨c, rfl, lc, wc⟩⟩ := inAVs3 h
    refine ⟨(), ?_, rfl⟩
    show cond (ok32 a && (ok32 b && ok32 c)) (some ()) none = _
    rw [ok32_in la wa, ok32_in lb wb, ok32_in lc wc]; rfl) (c := codeF f_opalinelaw10_OprfAdds) (by kernel_rfl) (by kernel_rfl)
end Go.Proofs.YteipjabipehbpaaGreat.oprfAdds
