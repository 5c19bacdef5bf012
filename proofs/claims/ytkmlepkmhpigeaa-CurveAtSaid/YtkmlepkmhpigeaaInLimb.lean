/- What comes in to a law, as the contracts want it. -/
import Derived.Test.YtkmlepkmhpigeaaZE3
import Derived.Test.YtkmlepkmhpigeaaZL2
import Derived.OpenShut
namespace Go.Eng
open Go Go.Proofs
set_option linter.unusedVariables false
theorem okL_of {a : List Int} (hw : ∀ x ∈ a, (Lit.int .u64 x).wf = true) : okL a = true := by
  induction a with
  | nil => rfl
  | cons x r ih =>
    have h1 := bounds_u64 (hw x (by simp))
    simp only [okL, Bool.and_eq_true, decide_eq_true_eq]
    exact ⟨by omega, ih fun y hy => hw y (by simp [hy])⟩
theorem ok8_in {a : List Int} (h : a.length = 8) (hw : ∀ x ∈ a, (Lit.int .u64 x).wf = true) : ok8 a = true := by
  simp only [ok8, Bool.and_eq_true]
  exact ⟨by rw [h]; rfl, okL_of hw⟩
def in63 (n : Int) : Bool := decide (-9223372036854775808 ≤ n ∧ n < 9223372036854775808)
theorem in63_of {n : Int} (h : (Lit.int .i64 n).wf = true) : in63 n = true := by
  have := bounds_i64 h
  simp only [in63, decide_eq_true_eq]
  omega
theorem in64_of {n : Int} (h : (Lit.int .u64 n).wf = true) : in64 n = true := by
  have := bounds_u64 h
  simp only [in64, decide_eq_true_eq]
  omega
end Go.Eng
