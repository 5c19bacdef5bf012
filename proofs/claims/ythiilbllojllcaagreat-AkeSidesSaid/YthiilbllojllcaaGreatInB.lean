/- Bytes that come in to a law. -/
import Derived.Test.YthiilbllojllcaaGreatZF1
namespace Go.Eng
open Go Go.Proofs
set_option linter.unusedVariables false
theorem aQd:∀ {a:List Int},(∀ y ∈ a,(Lit.int .u8 y).wf=true)->kX a=true:=by
 intro a
 induction a with
 | nil=>intro _; rfl
 | cons x r ih=>
  intro h;have h1:=h x (by simp);simp only [Lit.wf,aW,bJ] at h1;have m1:IntKind.u8.min=0:=rfl;have m2:IntKind.u8.max=255:=rfl;rw [m1,m2] at h1;simp only [kX,aW,bJ];exact ⟨by omega,ih λ y hy=>h y (by simp [hy])⟩
theorem JS {a:List Int} (la:a.length=32) (wa:∀ y ∈ a,(Lit.int .u8 y).wf=true):dP a=true:=by
 rw [dP,la,aQd wa]; rfl
end Go.Eng
