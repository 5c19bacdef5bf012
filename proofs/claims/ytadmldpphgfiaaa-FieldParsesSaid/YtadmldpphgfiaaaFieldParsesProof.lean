/- PROVED: FieldParses: the number of any bytes, and of any digits: for all inputs. CONDITIONS: none. -/
import Derived.Test.YtadmldpphgfiaaaFrameFP
import Derived.Test.YtadmldpphgfiaaaZF2
namespace Go.Proofs.Ytadmldpphgfiaaa.fieldParses
open Go.Eng
theorem okB_wf : ∀ {a : List Int}, (∀ y ∈ a, (Lit.int .u8 y).wf = true) → okB a = true := by
  intro a
  induction a with
  | nil => intro _; rfl
  | cons x r ih =>
    intro h
    have h1 := h x (by simp)
    simp only [Lit.wf, Bool.and_eq_true, decide_eq_true_eq] at h1
    have m1 : IntKind.u8.min = 0 := rfl
    have m2 : IntKind.u8.max = 255 := rfl
    rw [m1, m2] at h1
    simp only [okB, Bool.and_eq_true, decide_eq_true_eq]
    exact ⟨by omega, ih fun y hy => h y (by simp [hy])⟩
theorem proved : Rows.FieldParsesSaid :=
  over ok_LParse (fun xs h => by
    obtain ⟨x, y, rfl, ⟨a, rfl, la, wa⟩, ⟨s, rfl, _⟩⟩ := inAVs2 h
    refine ⟨(), ?_, rfl⟩
    show cond (ok32 a) (some ()) none = _
    have : ok32 a = true := by rw [ok32, la, okB_wf wa]; rfl
    rw [this]; rfl) (c := codeF f_opalinelaw05_FieldParses) (by kernel_rfl) (by kernel_rfl)
end Go.Proofs.Ytadmldpphgfiaaa.fieldParses
