/- PROVED: CurveAdds: sums, doubles, what comes to nothing, of the base any few times: for all inputs. CONDITIONS: none. -/
import Derived.Test.YtkmlepkmhpigeaaGreatFrameCD
import Derived.Test.YtkmlepkmhpigeaaGreatZD3
import Derived.Test.YtkmlepkmhpigeaaGreatInB
namespace Go.Proofs.YtkmlepkmhpigeaaGreat.curveAdds
open Go.Eng
theorem proved : Rows.CurveAddsSaid :=
  over ok_LCA (fun xs h => by
    obtain ⟨x, y, rfl, ⟨a, rfl, wa⟩, ⟨b, rfl, wb⟩⟩ := inAVs2 h
    refine ⟨(), ?_, rfl⟩
    show cond (decide (0 ≤ a ∧ a < 65536) && decide (0 ≤ b ∧ b < 65536)) (some ()) none = _
    rw [decide_eq_true (u16_in wa), decide_eq_true (u16_in wb)]; rfl) (c := codeF f_opalinelaw07_CurveAdds) (by kernel_rfl) (by kernel_rfl)
end Go.Proofs.YtkmlepkmhpigeaaGreat.curveAdds
