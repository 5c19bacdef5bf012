/- PROVED: XmdParts: how a message is cut into parts makes no difference: for all inputs. CONDITIONS: none. -/
import Derived.Test.YtadmldpphgfiaaaFrameXP
import Derived.Test.YtadmldpphgfiaaaZX1
import Derived.OpenShut
namespace Go.Proofs.Ytadmldpphgfiaaa.xmdParts
open Go.Eng
theorem proved : Rows.XmdPartsSaid :=
  over ok_XmdParts (fun xs h => by
    obtain ⟨a, b, c, d, rfl, ⟨x, rfl, _⟩, ⟨y, rfl, _⟩, ⟨z, rfl, hz⟩, ⟨u, rfl, hu⟩⟩ := inAVs4 h
    refine ⟨(), ?_, rfl⟩
    have h1 := bounds_u16 hz
    have h2 := bounds_u8 hu
    show cond (decide (0 ≤ z ∧ z < 65536 ∧ 0 ≤ u ∧ u < 256)) (some ()) none = some ()
    rw [decide_eq_true (by omega)]; rfl) (c := codeF f_opalinelaw04_XmdParts) (by kernel_rfl) (by kernel_rfl)
end Go.Proofs.Ytadmldpphgfiaaa.xmdParts
