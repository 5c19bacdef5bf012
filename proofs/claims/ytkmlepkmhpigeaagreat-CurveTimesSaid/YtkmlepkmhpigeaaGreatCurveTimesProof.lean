/- PROVED: CurveTimes: the base, any number of times: for all inputs. CONDITIONS: none. -/
import Derived.Test.YtkmlepkmhpigeaaGreatFrameCT
import Derived.Test.YtkmlepkmhpigeaaGreatZD2
import Derived.Test.YtkmlepkmhpigeaaGreatInB
namespace Go.Proofs.YtkmlepkmhpigeaaGreat.curveTimes
open Go.Eng
theorem proved : Rows.CurveTimesSaid :=
  over ok_LCT (fun xs h => by
    obtain ⟨x, rfl, ⟨a, rfl, la, wa⟩⟩ := inAVs1 h
    refine ⟨(), ?_, rfl⟩
    show cond (ok32 a) (some ()) none = _
    rw [ok32_in la wa]; rfl) (c := codeF f_opalinelaw07_CurveTimes) (by kernel_rfl) (by kernel_rfl)
end Go.Proofs.YtkmlepkmhpigeaaGreat.curveTimes
