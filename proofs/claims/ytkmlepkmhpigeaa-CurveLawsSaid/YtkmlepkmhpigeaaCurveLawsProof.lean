/- PROVED: CurveLaws: sums can be turned about and put together at will; so often and so often is as often as both: for all inputs. CONDITIONS: none. -/
import Derived.Test.YtkmlepkmhpigeaaFrameCL
import Derived.Test.YtkmlepkmhpigeaaZG3
namespace Go.Proofs.Ytkmlepkmhpigeaa.curveLaws
open Go.Eng
theorem okB_wf : ∀ {a : List Int}, (∀ y ∈ a, (Lit.int .u8 y).wf = true) → okB a = true := by
  intro a
  induction a with
  | nil => intro _; rfl
  | cons x r ih =>
    intro h
    have h1 := h x (by simp)
    simp only [Lit.wf, Bool.and_eq_true, decide_eq_true_eq] at h1
    have m1 : IntKind.u8.min = 0 := rfl
    have m2 : IntKind.u8.max = 255 := rfl
    rw [m1, m2] at h1
    simp only [okB, Bool.and_eq_true, decide_eq_true_eq]
    exact ⟨by omega, ih fun y hy => h y (by simp [hy])⟩
theorem proved : Rows.CurveLawsSaid :=
  over ok_LCL (fun xs h => by
    obtain ⟨x, y, z, rfl, ⟨a, rfl, la, wa⟩, ⟨b, rfl, lb, wb⟩, ⟨n, rfl, wn⟩⟩ := inAVs3 h
    refine ⟨(), ?_, rfl⟩
    show cond (ok32 a && ok32 b && decide (0 ≤ n ∧ n < 65536)) (some ()) none = _
    have h1 : ok32 a = true := by rw [ok32, la, okB_wf wa]; rfl
    have h2 : ok32 b = true := by rw [ok32, lb, okB_wf wb]; rfl
    have h3 : decide (0 ≤ n ∧ n < 65536) = true := by
      simp only [Lit.wf, Bool.and_eq_true, decide_eq_true_eq] at wn
      have m1 : IntKind.u16.min = 0 := rfl
      have m2 : IntKind.u16.max = 65535 := rfl
      rw [m1, m2] at wn
      exact decide_eq_true (by omega)
    rw [h1, h2, h3]; rfl) (c := codeF f_opalinelaw07_CurveLaws) (by kernel_rfl) (by kernel_rfl)
end Go.Proofs.Ytkmlepkmhpigeaa.curveLaws
