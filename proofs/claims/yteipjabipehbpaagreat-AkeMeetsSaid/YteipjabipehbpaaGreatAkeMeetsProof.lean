/- PROVED: AkeMeets: both sides come to one secret; with another key of either they don't: for all inputs. CONDITIONS: none. -/
import Derived.Test.YteipjabipehbpaaGreatFrameAM
import Derived.Test.YteipjabipehbpaaGreatZO4
import Derived.Test.YteipjabipehbpaaGreatInB
namespace Go.Proofs.YteipjabipehbpaaGreat.akeMeets
open Go.Eng
theorem inAVs5 {k k2 k3 k4 k5 : PK} {xs : List AV} (h : inAVs [k, k2, k3, k4, k5] xs) : ∃ x y z u v, xs = [x, y, z, u, v] ∧ inAV k x ∧ inAV k2 y ∧ inAV k3 z ∧ inAV k4 u ∧ inAV k5 v := by
  match xs, h with
  | [x, y, z, u, v], h => exact ⟨x, y, z, u, v, rfl, h.1, h.2.1, h.2.2.1, h.2.2.2.1, h.2.2.2.2.1⟩
theorem proved : Rows.AkeMeetsSaid :=
  over ok_LAM (fun xs h => by
    obtain ⟨x, y, z, u, v, rfl, ⟨a, rfl, la, wa⟩, ⟨b, rfl, lb, wb⟩, ⟨c, rfl, lc, wc⟩, ⟨d, rfl, ld, wd⟩, ⟨e, rfl, le, we⟩⟩ := inAVs5 h
    refine ⟨(), ?_, rfl⟩
    show cond (ok32 a && (ok32 b && (ok32 c && (ok32 d && ok32 e)))) (some ()) none = _
    rw [ok32_in la wa, ok32_in lb wb, ok32_in lc wc, ok32_in ld wd, ok32_in le we]; rfl) (c := codeF f_opalinelaw13_AkeMeets) (by kernel_rfl) (by kernel_rfl)
end Go.Proofs.YteipjabipehbpaaGreat.akeMeets
