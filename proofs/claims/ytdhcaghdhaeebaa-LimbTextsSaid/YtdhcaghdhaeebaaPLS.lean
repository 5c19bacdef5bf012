/- The contract of LimbShifts: it answers true. -/
import Derived.Test.YtdhcaghdhaeebaaGLimb2
import Derived.Test.YtdhcaghdhaeebaaZR1
import Derived.Test.YtdhcaghdhaeebaaZR2
import Derived.Test.YtdhcaghdhaeebaaInLimb
namespace Go.Eng
open Go Go.Proofs
set_option linter.unusedVariables false
set_option linter.unusedSimpArgs false
noncomputable abbrev gI_LS : Cg := g_LS (PUnit) rTrue (Nat) rShift (fun t => lim 8 t) (Nat) rNum (fun t => nb t) (fun t => (nb t).length) (Nat) rRefBit (fun t => ↑t) (Nat) rBit (fun t => ↑t)
theorem gok_LS : CfOk prog gI_LS.c := ⟨gam_cons ok_awake01 <| gam_cons ok_Shift <| gam_cons ok_Num <| gam_cons ok_RefBit <| gam_cons ok_Bit <| gam_nil, fun _ _ h => by cases h⟩
def sLS : Summ where
  T := Unit
  run := fun
    | [.c (.s (.pl (.agg (.ints .u64 a) 8))), .c (.s (.pl (.int .i64 n))), .c (.s (.pl (.int .i64 i)))] => cond (ok8 a && (in63 n && in63 i)) (some ()) none
    | _ => none
  enc := fun _ => .bool true
set_option exponentiation.threshold 600 in
theorem nb_small {x : Nat} (h : x < M512) : (nb x).length ≤ 64 := nb_len (by rw [show (256 : Nat) ^ 64 = M512 by decide +kernel]; exact h)
theorem run_Bit {a : List Int} (ha : ok8 a = true) (i : Int) : rBit [W8 a, .int .i64 i] = some (bitN (val a) i) := by
  show cond (ok8 a) (some (bitN (val a) i)) none = _
  rw [ha]; rfl
set_option exponentiation.threshold 600 in
theorem bitN_high {x : Nat} {i : Int} (hx : x < M512) (hi : 512 ≤ i) : bitN x i = 0 := by
  obtain ⟨k, rfl⟩ := Int.eq_ofNat_of_zero_le (by omega : 0 ≤ i)
  rw [bitN, decide_eq_false (by omega), cond_false, Int.toNat_natCast]
  have : x < 2 ^ k := Nat.lt_of_lt_of_le hx (by rw [show M512 = 2 ^ 512 by decide +kernel]; exact Nat.pow_le_pow_right (by decide) (by omega))
  rw [Nat.div_eq_of_lt this]
theorem bitN_neg {x : Nat} {i : Int} (hi : i < 0) : bitN x i = 0 := by rw [bitN, decide_eq_true hi]; rfl
theorem bitN_nat (x k : Nat) : bitN x (k : Int) = x / 2 ^ k % 2 := by rw [bitN, decide_eq_false (by omega), cond_false, Int.toNat_natCast]
theorem bitN_le (x : Nat) (i : Int) : bitN x i ≤ 1 := by
  unfold bitN
  cases decide (i < 0)
  · simp only [cond_false]; omega
  · simp only [cond_true]; omega
set_option exponentiation.threshold 600 in
theorem mod_bit (x k : Nat) (h : k < 512) : x % M512 / 2 ^ k % 2 = x / 2 ^ k % 2 := by
  have e : M512 = 2 ^ k * (2 * 2 ^ (511 - k)) := by
    rw [show M512 = 2 ^ 512 by decide +kernel, ← Nat.mul_assoc, ← Nat.pow_succ, ← Nat.pow_add]; congr 1; omega
  rw [e, Nat.mod_mul_right_div_self, Nat.mod_mul_right_mod]
theorem shift_bit {x : Nat} (hx : x < M512) {n i : Int} (h0 : 0 ≤ i) (h1 : i < 512) : bitN (shiftN x n % M512) i = bitN x (i - n) := by
  obtain ⟨k, rfl⟩ := Int.eq_ofNat_of_zero_le h0
  rw [bitN_nat, mod_bit _ _ (by omega)]
  unfold shiftN
  by_cases c1 : 512 ≤ n
  · rw [decide_eq_true c1, Bool.true_or, cond_true, bitN_neg (by omega)]; simp
  · by_cases c2 : n ≤ -512
    · rw [decide_eq_true c2, Bool.or_true, cond_true, bitN_high hx (by omega)]; simp
    · rw [decide_eq_false c1, decide_eq_false c2, Bool.or_self, cond_false]
      by_cases c3 : n < 0
      · rw [decide_eq_true c3, cond_true, Nat.div_div_eq_div_mul, ← Nat.pow_add, show (k : Int) - n = (((-n).toNat + k : Nat) : Int) by omega, bitN_nat]
      · obtain ⟨s, rfl⟩ := Int.eq_ofNat_of_zero_le (by omega : 0 ≤ n)
        rw [decide_eq_false c3, cond_false, Int.toNat_natCast, mul_pow_bit]
        by_cases c4 : k < s
        · rw [if_pos c4, bitN_neg (by omega)]
        · rw [if_neg c4, show (k : Int) - (s : Int) = ((k - s : Nat) : Int) by omega, bitN_nat]
theorem ok_LS : CallOk prog n_opalinelaw01_LimbShifts sLS := by
  refine afunc_okE (g := gI_LS) (fu := fun _ => 0) mixed gok_LS h_opalinelaw01_LimbShifts (by kernel_rfl) ?_
  intro args t ht
  unfold sLS at ht
  simp only at ht
  split at ht
  case h_2 => cases ht
  rename_i w n i
  obtain ⟨h1, h2⟩ := ctrue ht
  cases h2
  simp only [Bool.and_eq_true, in63, decide_eq_true_eq] at h1
  obtain ⟨hw, hn, hi⟩ := h1
  clear ht
  have vw := val8_lt hw
  have lw := nb_small vw
  refine (LS_ev ..).trans ?_
  have w8 : ∀ x, AV.agg (TRow.ints IntKind.u64 x) 8 = W8 x := fun _ => rfl
  have eN' : ∀ z, AV.s (SV.dat (TRow.ints IntKind.i64 (nb z)) (nb z).length 1) = eN z := fun _ => rfl
  simp only [w8, eN']
  rw [show rTrue [] = some () from rfl, Option.bind_some, run_Shift hw, Option.bind_some]
  have ws : ∀ x i, IntKind.u64.wrap ((bitN x i : Nat) : Int) = ((bitN x i : Nat) : Int) := fun x i => by
    have := bitN_le x i
    rw [wu64n, Nat.mod_eq_of_lt (by omega)]
  -- what stands behind the first test
  have tail : ∀ r : Option AV, ((rBit [W8 w, .int .i64 512]).bind fun t : Nat => bif decide (((t : Nat) : Int) = 0) then (rBit [W8 w, .int .i64 (-1)]).bind fun t : Nat => some (AV.bool (decide (((t : Nat) : Int) = 0))) else r) = some (.bool true) := by
    intro r
    rw [run_Bit hw, Option.bind_some, bitN_high vw (by omega), decide_eq_true (by rfl), cond_true, run_Bit hw, Option.bind_some, bitN_neg (by omega)]; rfl
  have e0 : n = 0 → lim 8 (shiftN (val w) n) = w := by
    intro e; subst e
    have : shiftN (val w) 0 = val w := by simp [shiftN]
    rw [this, lim8_val hw]
  have eZ : ¬ (n < 512 ∧ -512 < n) → lim 8 (shiftN (val w) n) = zero8 := by
    intro e
    have : shiftN (val w) n = 0 := by
      unfold shiftN
      have : (decide (512 ≤ n) || decide (n ≤ -512)) = true := by
        simp only [Bool.or_eq_true, decide_eq_true_eq]; omega
      rw [this]; rfl
    rw [this, lim_zero8]
  have rest : ∀ X r1 r2 r3 : Option AV, X = some (.bool true) → (bif decide (n < 512) && decide (-512 < n) then (bif !decide (n = 0) then X else bif decide (lim 8 (shiftN (val w) n) = w) then X else r1)
      else bif (false || decide (lim 8 (shiftN (val w) n) = zero8)) == true then (bif !decide (n = 0) then X else bif decide (lim 8 (shiftN (val w) n) = w) then X else r2) else r3) = some (.bool true) := by
    intro X r1 r2 r3 hX
    have inner : ∀ r : Option AV, (bif !decide (n = 0) then X else bif decide (lim 8 (shiftN (val w) n) = w) then X else r) = some (.bool true) := by
      intro r
      by_cases h : n = 0
      · rw [decide_eq_true h, Bool.not_true, cond_false, decide_eq_true (e0 h), cond_true, hX]
      · rw [decide_eq_false h, Bool.not_false, cond_true, hX]
    by_cases h : n < 512 ∧ -512 < n
    · rw [decide_eq_true h.1, decide_eq_true h.2, Bool.and_self, cond_true, inner]
    · have : (decide (n < 512) && decide (-512 < n)) = false := by
        cases hc : (decide (n < 512) && decide (-512 < n))
        · rfl
        · simp only [Bool.and_eq_true, decide_eq_true_eq] at hc; exact absurd hc h
      rw [this, cond_false, decide_eq_true (eZ h)]
      exact inner r2
  have both : ∀ r : Option AV, ((rBit [W8 w, .int .i64 i]).bind fun t : Nat => (rNum [W8 w]).bind fun t2 : Nat => (rRefBit [eN t2, .int .i64 i]).bind fun t3 : Nat =>
      bif !decide (((t : Nat) : Int) = IntKind.u64.wrap ((t3 : Nat) : Int)) then r else some (.bool true)) = some (.bool true) := by
    intro r
    rw [run_Bit hw, Option.bind_some, run_Num hw, Option.bind_some, run_RefBit (by omega) (by omega) (by omega), Option.bind_some, ws, decide_eq_true rfl]; rfl
  by_cases hin : 0 ≤ i ∧ i < 512 ∧ -1000 < n ∧ n < 1000
  · rw [decide_eq_true hin.1, decide_eq_true hin.2.1, decide_eq_true hin.2.2.1, decide_eq_true hin.2.2.2]
    simp only [Bool.and_self, cond_true]
    rw [run_Num hw, Option.bind_some, wi64 (by omega) (by omega), run_RefBit (by omega) (by omega) (by omega), Option.bind_some, run_Bit (ok8_lim _), Option.bind_some, val_lim8, shift_bit vw hin.1 hin.2.1, ws, decide_eq_true rfl, Bool.not_true, cond_false]
    rw [run_Bit hw, Option.bind_some, Option.bind_some, run_RefBit (by omega) (by omega) (by omega), Option.bind_some, ws, decide_eq_true rfl, Bool.not_true, cond_false]
    exact rest _ _ _ _ (tail _)
  · have hc : (decide (0 ≤ i) && decide (i < 512) && decide (-1000 < n) && decide (n < 1000)) = false := by
      cases hc : (decide (0 ≤ i) && decide (i < 512) && decide (-1000 < n) && decide (n < 1000))
      · rfl
      · simp only [Bool.and_eq_true, decide_eq_true_eq] at hc; exact absurd ⟨hc.1.1.1, hc.1.1.2, hc.1.2, hc.2⟩ hin
    have hz : bitN (shiftN (val w) n % M512) i = 0 := by
      by_cases h0 : i < 0
      · exact bitN_neg h0
      · by_cases h5 : 512 ≤ i
        · exact bitN_high (Nat.mod_lt _ M512_pos) h5
        · rw [shift_bit vw (by omega) (by omega)]
          by_cases hb : n ≤ -1000
          · exact bitN_high vw (by omega)
          · exact bitN_neg (by omega)
    rw [hc, cond_false, run_Bit (ok8_lim _), Option.bind_some, val_lim8, hz, decide_eq_true (by rfl), Bool.not_true, cond_false]
    rw [run_Bit hw, Option.bind_some, run_Num hw, Option.bind_some, run_RefBit (by omega) (by omega) (by omega), Option.bind_some, ws, decide_eq_true rfl, Bool.not_true, cond_false]
    exact rest _ _ _ _ (tail _)
end Go.Eng
