/- PROVED: HmacExpands: so many bytes of any key, by any text, by any label, or why not: for all inputs. CONDITIONS: none. -/
import Derived.Test.YtadmldpphgfiaaaFrameHE
import Derived.Test.YtadmldpphgfiaaaZX1
namespace Go.Proofs.Ytadmldpphgfiaaa.hmacExpands
open Go.Eng
theorem proved : Rows.HmacExpandsSaid :=
  over ok_HmacExpands (fun xs h => by
    obtain ⟨a, b, c, d, rfl, ⟨x, rfl, _⟩, ⟨y, rfl, _⟩, ⟨z, rfl, _⟩, ⟨u, rfl, hu⟩⟩ := inAVs4 h
    refine ⟨(), ?_, rfl⟩
    have h2 := in63_of hu
    rw [in63, decide_eq_true_eq] at h2
    show cond (decide (-9223372036854775808 ≤ u ∧ u < 9223372036854775808)) (some ()) none = some ()
    rw [decide_eq_true h2]; rfl) (c := codeF f_opalinelaw03_HmacExpands) (by kernel_rfl) (by kernel_rfl)
end Go.Proofs.Ytadmldpphgfiaaa.hmacExpands
