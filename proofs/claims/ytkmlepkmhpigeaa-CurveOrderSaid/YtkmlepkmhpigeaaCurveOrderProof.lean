/- PROVED: CurveOrder: the base, the order's times, is the neutral one; the order less one times, what comes to nothing with it. CONDITIONS: none. -/
import Derived.Test.YtkmlepkmhpigeaaFrameCO
import Derived.Test.YtkmlepkmhpigeaaZG2
namespace Go.Proofs.Ytkmlepkmhpigeaa.curveOrder
open Go.Eng
theorem proved : Rows.CurveOrderSaid :=
  over ok_LCO (fun xs h => by
    obtain rfl := inAVs0 h
    exact ⟨(), rfl, rfl⟩) (c := codeF f_opalinelaw07_CurveOrder) (by kernel_rfl) (by kernel_rfl)
end Go.Proofs.Ytkmlepkmhpigeaa.curveOrder
