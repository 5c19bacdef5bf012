/- PROVED: FieldBytes: a number's bytes are below p, and it is read of them as it was: for all inputs. CONDITIONS: none. -/
import Derived.Test.YtadmldpphgfiaaaFrameFB
import Derived.Test.YtadmldpphgfiaaaZF5
namespace Go.Proofs.Ytadmldpphgfiaaa.fieldBytes
open Go.Eng
theorem proved : Rows.FieldBytesSaid :=
  over ok_LBytes (fun xs h => by
    obtain ⟨x, y, rfl, ⟨a, rfl, la, wa⟩, ⟨b, rfl, lb, wb⟩⟩ := inAVs2 h
    refine ⟨(), ?_, rfl⟩
    show cond (ok32 a && ok32 b) (some ()) none = _
    have h1 : ok32 a = true := by rw [ok32, la, okB_wf wa]; rfl
    have h2 : ok32 b = true := by rw [ok32, lb, okB_wf wb]; rfl
    rw [h1, h2]; rfl) (c := codeF f_opalinelaw05_FieldBytes) (by kernel_rfl) (by kernel_rfl)
end Go.Proofs.Ytadmldpphgfiaaa.fieldBytes
