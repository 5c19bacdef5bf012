/- PROVED: CurveAt: whether any x and y are on the curve: for all inputs. CONDITIONS: none. -/
import Derived.Test.YtkmlepkmhpigeaaFrameCA
import Derived.Test.YtkmlepkmhpigeaaZC3
namespace Go.Proofs.Ytkmlepkmhpigeaa.curveAt
open Go.Eng
theorem okB_wf : ∀ {a : List Int}, (∀ y ∈ a, (Lit.int .u8 y).wf = true) → okB a = true := by
  intro a
  induction a with
  | nil => intro _; rfl
  | cons x r ih =>
    intro h
    have h1 := h x (by simp)
    simp only [Lit.wf, Bool.and_eq_true, decide_eq_true_eq] at h1
    have m1 : IntKind.u8.min = 0 := rfl
    have m2 : IntKind.u8.max = 255 := rfl
    rw [m1, m2] at h1
    simp only [okB, Bool.and_eq_true, decide_eq_true_eq]
    exact ⟨by omega, ih fun y hy => h y (by simp [hy])⟩
theorem proved : Rows.CurveAtSaid :=
  over ok_LAt (fun xs h => by
    obtain ⟨x, y, rfl, ⟨a, rfl, la, wa⟩, ⟨b, rfl, lb, wb⟩⟩ := inAVs2 h
    refine ⟨(), ?_, rfl⟩
    show cond (ok32 a && ok32 b) (some ()) none = _
    have h1 : ok32 a = true := by rw [ok32, la, okB_wf wa]; rfl
    have h2 : ok32 b = true := by rw [ok32, lb, okB_wf wb]; rfl
    rw [h1, h2]; rfl) (c := codeF f_opalinelaw07_CurveAt) (by kernel_rfl) (by kernel_rfl)
end Go.Proofs.Ytkmlepkmhpigeaa.curveAt
