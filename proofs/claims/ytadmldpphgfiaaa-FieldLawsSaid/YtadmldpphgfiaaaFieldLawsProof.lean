/- PROVED: FieldLaws: sums and products can be turned about and put together at will; what is taken off comes back: for all inputs. CONDITIONS: none. -/
import Derived.Test.YtadmldpphgfiaaaFrameFL
import Derived.Test.YtadmldpphgfiaaaZF7
namespace Go.Proofs.Ytadmldpphgfiaaa.fieldLaws
open Go.Eng
theorem proved : Rows.FieldLawsSaid :=
  over ok_LLaws (fun xs h => by
    obtain ⟨x, y, z, rfl, ⟨a, rfl, la, wa⟩, ⟨b, rfl, lb, wb⟩, ⟨c, rfl, lc, wc⟩⟩ := inAVs3 h
    refine ⟨(), ?_, rfl⟩
    show cond (ok32 a && ok32 b && ok32 c) (some ()) none = _
    have h1 : ok32 a = true := by rw [ok32, la, okB_wf wa]; rfl
    have h2 : ok32 b = true := by rw [ok32, lb, okB_wf wb]; rfl
    have h3 : ok32 c = true := by rw [ok32, lc, okB_wf wc]; rfl
    rw [h1, h2, h3]; rfl) (c := codeF f_opalinelaw05_FieldLaws) (by kernel_rfl) (by kernel_rfl)
end Go.Proofs.Ytadmldpphgfiaaa.fieldLaws
