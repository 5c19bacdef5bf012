/- The contract of LimbReckons: it answers true. -/
import Derived.Test.YtkmlepkmhpigeaaPLS
namespace Go.Eng
open Go Go.Proofs
set_option linter.unusedVariables false
set_option linter.unusedSimpArgs false

theorem cmpN_self (x : Nat) : cmpN x x = 0 := by simp [cmpN]
theorem cmpN_lt (x y : Nat) : decide (cmpN x y < 0) = decide (x < y) := by
  unfold cmpN
  by_cases h : x < y
  · simp [h]
  · by_cases h2 : y < x
    · simp [h, h2]
    · simp [h, h2]
theorem le64 (n : Nat) : decide (((nb n).length : Int) ≤ 64) = decide (n < M512) := by
  refine decide_eq_decide.2 ⟨fun h => ?_, fun h => ?_⟩
  · refine Nat.lt_of_lt_of_le (lt_nb n) ?_
    rw [← show (256 : Nat) ^ 64 = M512 by decide +kernel]
    exact Nat.pow_le_pow_right (by decide) (by omega)
  · have := nb_small h
    omega
theorem nb_big {x : Nat} (h : x < M512 * M512) : (nb x).length ≤ 128 := nb_len (by rw [show (256 : Nat) ^ 128 = M512 * M512 by decide +kernel]; exact h)
theorem vS_high : vS (List.map b8 (List.replicate 63 0) ++ [128]) * 2 = M512 := by decide +kernel
theorem bne_eq (b : Bool) : (!b == b) = false := by cases b <;> rfl
end Go.Eng
