/- PROVED: SealSeals: any text, sealed, or why not; the row that hides it: for all inputs. CONDITIONS: none. -/
import Derived.Test.YtadmldpphgfiaaaFrameSS
import Derived.Test.YtadmldpphgfiaaaZX2
namespace Go.Proofs.Ytadmldpphgfiaaa.sealSeals
open Go.Eng
theorem inAVs5 {k k2 k3 k4 k5 : PK} {xs : List AV} (h : inAVs [k, k2, k3, k4, k5] xs) : ∃ x y z u v, xs = [x, y, z, u, v] ∧ inAV k x ∧ inAV k2 y ∧ inAV k3 z ∧ inAV k4 u ∧ inAV k5 v := by
  match xs, h with
  | [x, y, z, u, v], h => exact ⟨x, y, z, u, v, rfl, h.1, h.2.1, h.2.2.1, h.2.2.2.1, h.2.2.2.2.1⟩
theorem proved : Rows.SealSealsSaid :=
  over ok_SealSeals (fun xs h => by
    obtain ⟨a, b, c, d, e, rfl, ⟨x, rfl, _⟩, ⟨y, rfl, _⟩, ⟨z, rfl, _⟩, ⟨u, rfl, _⟩, ⟨v, rfl, _⟩⟩ := inAVs5 h
    exact ⟨(), rfl, rfl⟩) (c := codeF f_opalinelaw09_SealSeals) (by kernel_rfl) (by kernel_rfl)
end Go.Proofs.Ytadmldpphgfiaaa.sealSeals
