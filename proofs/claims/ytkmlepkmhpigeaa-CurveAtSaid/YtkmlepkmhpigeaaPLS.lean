/- The contract of LimbShifts: it answers true. -/
import Derived.Test.YtkmlepkmhpigeaaGLimb2
import Derived.Test.YtkmlepkmhpigeaaZR1
import Derived.Test.YtkmlepkmhpigeaaZR2
import Derived.Test.YtkmlepkmhpigeaaInLimb
namespace Go.Eng
open Go Go.Proofs
set_option linter.unusedVariables false
set_option linter.unusedSimpArgs false

def sLS : Summ where
  T := Unit
  run := fun
    | [.c (.s (.pl (.agg (.ints .u64 a) 8))), .c (.s (.pl (.int .i64 n))), .c (.s (.pl (.int .i64 i)))] => cond (ok8 a && (in63 n && in63 i)) (some ()) none
    | _ => none
  enc := fun _ => .bool true
set_option exponentiation.threshold 600 in
theorem nb_small {x : Nat} (h : x < M512) : (nb x).length ≤ 64 := nb_len (by rw [show (256 : Nat) ^ 64 = M512 by decide +kernel]; exact h)
theorem run_Bit {a : List Int} (ha : ok8 a = true) (i : Int) : rBit [W8 a, .int .i64 i] = some (bitN (val a) i) := by
  show cond (ok8 a) (some (bitN (val a) i)) none = _
  rw [ha]; rfl
set_option exponentiation.threshold 600 in
theorem bitN_high {x : Nat} {i : Int} (hx : x < M512) (hi : 512 ≤ i) : bitN x i = 0 := by
  obtain ⟨k, rfl⟩ := Int.eq_ofNat_of_zero_le (by omega : 0 ≤ i)
  rw [bitN, decide_eq_false (by omega), cond_false, Int.toNat_natCast]
  have : x < 2 ^ k := Nat.lt_of_lt_of_le hx (by rw [show M512 = 2 ^ 512 by decide +kernel]; exact Nat.pow_le_pow_right (by decide) (by omega))
  rw [Nat.div_eq_of_lt this]
theorem bitN_neg {x : Nat} {i : Int} (hi : i < 0) : bitN x i = 0 := by rw [bitN, decide_eq_true hi]; rfl
theorem bitN_nat (x k : Nat) : bitN x (k : Int) = x / 2 ^ k % 2 := by rw [bitN, decide_eq_false (by omega), cond_false, Int.toNat_natCast]
theorem bitN_le (x : Nat) (i : Int) : bitN x i ≤ 1 := by
  unfold bitN
  cases decide (i < 0)
  · simp only [cond_false]; omega
  · simp only [cond_true]; omega
set_option exponentiation.threshold 600 in
theorem mod_bit (x k : Nat) (h : k < 512) : x % M512 / 2 ^ k % 2 = x / 2 ^ k % 2 := by
  have e : M512 = 2 ^ k * (2 * 2 ^ (511 - k)) := by
    rw [show M512 = 2 ^ 512 by decide +kernel, ← Nat.mul_assoc, ← Nat.pow_succ, ← Nat.pow_add]; congr 1; omega
  rw [e, Nat.mod_mul_right_div_self, Nat.mod_mul_right_mod]
theorem shift_bit {x : Nat} (hx : x < M512) {n i : Int} (h0 : 0 ≤ i) (h1 : i < 512) : bitN (shiftN x n % M512) i = bitN x (i - n) := by
  obtain ⟨k, rfl⟩ := Int.eq_ofNat_of_zero_le h0
  rw [bitN_nat, mod_bit _ _ (by omega)]
  unfold shiftN
  by_cases c1 : 512 ≤ n
  · rw [decide_eq_true c1, Bool.true_or, cond_true, bitN_neg (by omega)]; simp
  · by_cases c2 : n ≤ -512
    · rw [decide_eq_true c2, Bool.or_true, cond_true, bitN_high hx (by omega)]; simp
    · rw [decide_eq_false c1, decide_eq_false c2, Bool.or_self, cond_false]
      by_cases c3 : n < 0
      · rw [decide_eq_true c3, cond_true, Nat.div_div_eq_div_mul, ← Nat.pow_add, show (k : Int) - n = (((-n).toNat + k : Nat) : Int) by omega, bitN_nat]
      · obtain ⟨s, rfl⟩ := Int.eq_ofNat_of_zero_le (by omega : 0 ≤ n)
        rw [decide_eq_false c3, cond_false, Int.toNat_natCast, mul_pow_bit]
        by_cases c4 : k < s
        · rw [if_pos c4, bitN_neg (by omega)]
        · rw [if_neg c4, show (k : Int) - (s : Int) = ((k - s : Nat) : Int) by omega, bitN_nat]
end Go.Eng
