/- PROVED: FieldReckons: sums, differences, products, what is negative, of any numbers: for all inputs. CONDITIONS: none. -/
import Derived.Test.YtadmldpphgfiaaaFrameFK
import Derived.Test.YtadmldpphgfiaaaZF6
namespace Go.Proofs.Ytadmldpphgfiaaa.fieldReckons
open Go.Eng
theorem proved : Rows.FieldReckonsSaid :=
  over ok_LReck (fun xs h => by
    obtain ⟨x, y, z, rfl, ⟨a, rfl, la, wa⟩, ⟨b, rfl, lb, wb⟩, ⟨n, rfl, wn⟩⟩ := inAVs3 h
    refine ⟨(), ?_, rfl⟩
    show cond (ok32 a && ok32 b && in64 n) (some ()) none = _
    have h1 : ok32 a = true := by rw [ok32, la, okB_wf wa]; rfl
    have h2 : ok32 b = true := by rw [ok32, lb, okB_wf wb]; rfl
    have h3 : in64 n = true := by
      simp only [Lit.wf, Bool.and_eq_true, decide_eq_true_eq] at wn
      have m1 : IntKind.u64.min = 0 := rfl
      have m2 : IntKind.u64.max = 18446744073709551615 := rfl
      rw [m1, m2] at wn
      simp only [in64, decide_eq_true_eq]; omega
    rw [h1, h2, h3]; rfl) (c := codeF f_opalinelaw05_FieldReckons) (by kernel_rfl) (by kernel_rfl)
end Go.Proofs.Ytadmldpphgfiaaa.fieldReckons
