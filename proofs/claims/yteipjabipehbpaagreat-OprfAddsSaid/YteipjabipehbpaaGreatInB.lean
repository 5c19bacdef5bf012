/- Bytes that come in to a law. -/
import Derived.Test.YteipjabipehbpaaGreatZF1
namespace Go.Eng
open Go Go.Proofs
set_option linter.unusedVariables false
theorem okB_wfI:∀ {a:List Int},(∀ y ∈ a,(Lit.int .u8 y).wf=true)->okB a=true:=by
 intro a
 induction a with
 | nil=>intro _; rfl
 | cons x r ih=>
  intro h
  have h1:=h x (by simp)
  simp only [Lit.wf,Bool.and_eq_true,decide_eq_true_eq] at h1
  have m1:IntKind.u8.min=0:=rfl
  have m2:IntKind.u8.max=255:=rfl
  rw [m1,m2] at h1
  simp only [okB,Bool.and_eq_true,decide_eq_true_eq]
  exact ⟨by omega,ih fun y hy=>h y (by simp [hy])⟩
theorem ok32_in {a:List Int} (la:a.length=32) (wa:∀ y ∈ a,(Lit.int .u8 y).wf=true):ok32 a=true:=by
 rw [ok32,la,okB_wfI wa]; rfl
end Go.Eng
