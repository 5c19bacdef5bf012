/- The contract of LimbTexts: it answers true. -/
import Derived.Test.YtkmlepkmhpigeaaPLT
namespace Go.Eng
open Go Go.Proofs
set_option linter.unusedVariables false
set_option linter.unusedSimpArgs false

theorem decV_snoc : ∀ (s : Str) (m : Nat) (c : UInt8), decV m (s ++ [c]) = decV m s * 10 + (c.toNat - 48) := by
  intro s
  induction s with
  | nil => intro m c; rfl
  | cons d r ih => intro m c; exact ih _ c
theorem b8_dig (d : Nat) (h : d < 10) : (b8 (48 + (d : Int))).toNat = 48 + d := by
  have : (48 + (d : Int)).toNat = 48 + d := by omega
  rw [b8, this, UInt8.toNat_ofNat']
  omega
theorem dig_facts : ∀ (k n : Nat), n < 10 ^ (k + 1) → decV 0 ((digL (k + 1) n).reverse.map b8) = n ∧ ∃ c r, (digL (k + 1) n).reverse.map b8 = c :: r ∧ isDig c = true ∧ r.all isDig = true ∧ (n ≠ 0 → c.toNat ≠ 48) ∧ (n = 0 → r = []) := by
  intro k
  induction k with
  | zero =>
    intro n hn
    have h0 : n / 10 = 0 := by omega
    have hb := b8_dig (n % 10) (by omega)
    refine ⟨?_, b8 (48 + (n % 10 : Nat)), [], ?_, ?_, rfl, ?_, fun _ => rfl⟩
    · show decV 0 (List.map b8 (List.reverse ((48 + (n % 10 : Nat) : Int) :: if n / 10 = 0 then [] else []))) = n
      rw [if_pos h0]
      show decV (0 * 10 + ((b8 (48 + ((n % 10 : Nat) : Int))).toNat - 48)) [] = n
      rw [hb]; show 0 * 10 + (48 + n % 10 - 48) = n; omega
    · show List.map b8 (List.reverse ((48 + (n % 10 : Nat) : Int) :: if n / 10 = 0 then [] else [])) = _
      rw [if_pos h0]; rfl
    · rw [isDig, hb]; simp only [Bool.and_eq_true, Nat.ble_eq]; omega
    · intro h; rw [hb]; omega
  | succ k ih =>
    intro n hn
    have hb := b8_dig (n % 10) (by omega)
    by_cases h0 : n / 10 = 0
    · refine ⟨?_, b8 (48 + (n % 10 : Nat)), [], ?_, ?_, rfl, ?_, fun _ => rfl⟩
      · show decV 0 (List.map b8 (List.reverse ((48 + (n % 10 : Nat) : Int) :: if n / 10 = 0 then [] else digL (k + 1) (n / 10)))) = n
        rw [if_pos h0]
        show decV (0 * 10 + ((b8 (48 + ((n % 10 : Nat) : Int))).toNat - 48)) [] = n
        rw [hb]; show 0 * 10 + (48 + n % 10 - 48) = n; omega
      · show List.map b8 (List.reverse ((48 + (n % 10 : Nat) : Int) :: if n / 10 = 0 then [] else digL (k + 1) (n / 10))) = _
        rw [if_pos h0]; rfl
      · rw [isDig, hb]; simp only [Bool.and_eq_true, Nat.ble_eq]; omega
      · intro h; rw [hb]; omega
    · obtain ⟨h1, c, r, h2, h3, h4, h5, h6⟩ := ih (n / 10) (by rw [Nat.div_lt_iff_lt_mul (by decide), ← Nat.pow_succ]; exact hn)
      have e : (digL (k + 1 + 1) n).reverse.map b8 = (digL (k + 1) (n / 10)).reverse.map b8 ++ [b8 (48 + ((n % 10 : Nat) : Int))] := by
        show List.map b8 (List.reverse ((48 + (n % 10 : Nat) : Int) :: if n / 10 = 0 then [] else digL (k + 1) (n / 10))) = _
        rw [if_neg h0, List.reverse_cons, List.map_append]; rfl
      rw [e]
      refine ⟨?_, c, r ++ [b8 (48 + ((n % 10 : Nat) : Int))], by rw [h2]; rfl, h3, ?_, fun _ => h5 h0, fun h => absurd (by omega : n / 10 = 0) h0⟩
      · rw [decV_snoc, h1, hb]; omega
      · rw [List.all_append, h4]
        simp only [List.all_cons, List.all_nil, isDig, hb, Bool.and_true, Bool.true_and, Bool.and_eq_true, Nat.ble_eq]; omega
theorem digits_facts {n : Nat} (h : n < M512) : decOk (digits n) = true ∧ decV 0 (digits n) = n := by
  obtain ⟨h1, c, r, h2, h3, h4, h5, h6⟩ := dig_facts 199 n (Nat.lt_trans h (by decide +kernel))
  refine ⟨?_, h1⟩
  rw [digits, h2]
  cases r with
  | nil => exact h3
  | cons d r =>
    have : n ≠ 0 := fun e => by cases h6 e
    have h5 := h5 this
    show (!(Nat.beq c.toNat 48) && (isDig c && (d :: r).all isDig)) = true
    rw [h3, h4, show Nat.beq c.toNat 48 = false by rw [Bool.eq_false_iff]; intro e; exact h5 (Nat.eq_of_beq_eq_true e)]; rfl
theorem digL_len : ∀ (k n : Nat), (digL k n).length ≤ k := by
  intro k
  induction k with
  | zero => intro n; exact Nat.le_refl _
  | succ k ih =>
    intro n
    have := ih (n / 10)
    show ((if n / 10 = 0 then [] else digL k (n / 10)) : List Int).length + 1 ≤ k + 1
    split
    · simp
    · omega
theorem digits_len (n : Nat) : (digits n).length ≤ 200 := by
  rw [digits, List.length_map, List.length_reverse]; exact digL_len 200 n
theorem decE_digits {n : Nat} (h : n < M512) : decE (digits n) = (n, 0) := by
  obtain ⟨h1, h2⟩ := digits_facts h
  rw [decE, h1, cond_true, h2, show Nat.blt n M512 = true by rw [Nat.blt_eq]; exact h, cond_true]
theorem strN_len (k n : Nat) : (strN k n).length = k := by rw [strN, List.length_map, length_lo]
theorem vS_strN {n : Nat} (h : n < M512) : vS (strN 64 n) = n := by
  rw [strN, vS_b8 (okB_lo _ _), vB_lo, show (256 : Nat) ^ 64 = M512 by decide +kernel, Nat.mod_eq_of_lt h]
theorem lt_tail {w : List Int} (hw : ok8 w = true) {n : Int} (hn : in64 n = true) (vw : val w < M512) : ((rBytes [W8 w]).bind fun t : Str => (rParse [AV.str t]).bind fun t : Nat × Int => (rDigits [W8 w]).bind fun t_2 : Str => (rDecimal [AV.str t_2]).bind fun t_3 : Nat × Int => (rBytes [W8 w]).bind fun t_4 : Str => (rNum [W8 w]).bind fun t_5 : Nat =>
    (rRefBytes [eN t_5, AV.int IntKind.i64 64]).bind fun t_6 : Str =>
      bif decide (t_4 = t_6) then bif decide (t.snd = 0) then bif decide (lim 8 t.fst = w) then bif decide (t_3.snd = 0) then bif decide (lim 8 t_3.fst = w) then
        (rOf [AV.int IntKind.u64 n]).bind fun t : Int => some (AV.bool (decide ([t, 0, 0, 0, 0, 0, 0, 0] = [n, 0, 0, 0, 0, 0, 0, 0])))
      else some (AV.bool false) else some (AV.bool false) else some (AV.bool false) else some (AV.bool false) else some (AV.bool false)) = some (.bool true) := by
  have l1 := strN_len 64 (val w)
  have l2 := digits_len (val w)
  have l3 := nb_small vw
  rw [run_Bytes hw, Option.bind_some, run_Parse (by omega), Option.bind_some, run_Digits hw, Option.bind_some, run_Decimal (by omega), Option.bind_some, Option.bind_some, run_Num hw, Option.bind_some, show (64 : Int) = ((64 : Nat) : Int) from rfl, run_RefBytes (by omega) (by decide), Option.bind_some,
    decide_eq_true rfl, cond_true, l1, show Nat.blt 64 64 = false from rfl, cond_false, vS_strN vw, decE_digits vw]
  dsimp only
  rw [decide_eq_true rfl, cond_true, lim8_val hw, decide_eq_true rfl, cond_true, cond_true, cond_true]
  simp only [in64, decide_eq_true_eq] at hn
  obtain ⟨k, rfl⟩ := Int.eq_ofNat_of_zero_le hn.1
  rw [run_Of k (by omega), Option.bind_some, decide_eq_true rfl]
theorem lt_mid (s : Str) : ¬ 300 < s.length → ((rDecimal [AV.str s]).bind fun t : Nat × Int => (rRefDecimal [AV.str s]).bind fun t_1 : Nat × Bool =>
    bif !t_1.snd then bif !decide (t.snd = 4) then some (AV.bool false) else some (.bool true)
    else bif decide (64 < (((nb t_1.fst).length : Nat) : Int)) then bif !decide (t.snd = 7) then some (AV.bool false) else some (.bool true)
    else bif !decide (t.snd = 0) then some (AV.bool false) else (rNum [W8 (lim 8 t.fst)]).bind fun t : Nat => (rRefCmp [eN t, eN t_1.fst]).bind fun t : Int => bif !decide (t = 0) then some (AV.bool false) else some (.bool true)) = some (.bool true) := by
  intro hle
  rw [run_Decimal (by omega), Option.bind_some, run_RefDecimal (by omega), Option.bind_some, decE]
  cases hd : decOk s with
  | false => rfl
  | true =>
    rw [cond_true, cond_true]
    dsimp only
    rw [Bool.not_true, cond_false]
    have h64 : decide (64 < (((nb (decV 0 s)).length : Nat) : Int)) = !decide (decV 0 s < M512) := by
      rw [← le64]
      by_cases h : (((nb (decV 0 s)).length : Nat) : Int) ≤ 64
      · rw [decide_eq_true h, decide_eq_false (by omega)]; rfl
      · rw [decide_eq_false h, decide_eq_true (by omega)]; rfl
    rw [h64]
    by_cases h : decV 0 s < M512
    · have hl := nb_small h
      rw [decide_eq_true h, show Nat.blt (decV 0 s) M512 = true by rw [Nat.blt_eq]; exact h, cond_true, Bool.not_true, cond_false]
      dsimp only
      rw [decide_eq_true (rfl : (0 : Int) = 0), Bool.not_true, cond_false, run_Num (ok8_lim _), Option.bind_some, val_lim8, Nat.mod_eq_of_lt h, run_RefCmp (by omega) (by omega), Option.bind_some, cmpN_self]; rfl
    · rw [decide_eq_false h, show Nat.blt (decV 0 s) M512 = false by rw [Bool.eq_false_iff]; intro e; rw [Nat.blt_eq] at e; exact h e]; rfl
def sLT : Summ where
  T := Unit
  run := fun
    | [.c (.s (.pl (.str s))), .c (.s (.pl (.agg (.ints .u64 a) 8))), .c (.s (.pl (.int .u64 n)))] => cond (ok8 a && in64 n) (some ()) none
    | _ => none
  enc := fun _ => .bool true
end Go.Eng
