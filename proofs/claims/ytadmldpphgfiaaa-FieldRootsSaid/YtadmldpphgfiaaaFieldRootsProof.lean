/- PROVED: FieldRoots: what times a number is 1; it to a power; the root of any quotient, or of i times it: for all inputs. CONDITIONS: none. -/
import Derived.Test.YtadmldpphgfiaaaFrameFR
import Derived.Test.YtadmldpphgfiaaaZF8
namespace Go.Proofs.Ytadmldpphgfiaaa.fieldRoots
open Go.Eng
theorem proved : Rows.FieldRootsSaid :=
  over ok_LRoots (fun xs h => by
    obtain ⟨x, y, rfl, ⟨a, rfl, la, wa⟩, ⟨b, rfl, lb, wb⟩⟩ := inAVs2 h
    refine ⟨(), ?_, rfl⟩
    show cond (ok32 a && ok32 b) (some ()) none = _
    have h1 : ok32 a = true := by rw [ok32, la, okB_wf wa]; rfl
    have h2 : ok32 b = true := by rw [ok32, lb, okB_wf wb]; rfl
    rw [h1, h2]; rfl) (c := codeF f_opalinelaw05_FieldRoots) (by kernel_rfl) (by kernel_rfl)
end Go.Proofs.Ytadmldpphgfiaaa.fieldRoots
