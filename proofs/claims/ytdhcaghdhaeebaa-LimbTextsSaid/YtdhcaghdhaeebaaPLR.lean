/- The contract of LimbReckons: it answers true. -/
import Derived.Test.YtdhcaghdhaeebaaPLS
namespace Go.Eng
open Go Go.Proofs
set_option linter.unusedVariables false
set_option linter.unusedSimpArgs false
noncomputable abbrev gI_LR : Cg := g_LR (PUnit) rTrue (Nat) rNum (fun t => nb t) (fun t => (nb t).length) (Nat × Bool) rAdd (fun t => lim 8 t.fst) (fun t => t.snd) (Nat) rRefAdd (fun t => nb t) (fun t => (nb t).length) (Nat) rRefLow (fun t => nb t) (fun t => (nb t).length) (Int) rRefCmp (fun t => t) (Nat × Bool) rSub (fun t => lim 8 t.fst) (fun t => t.snd) (Nat) rRefMul (fun t => nb t) (fun t => (nb t).length) (Nat) rRefOf (fun t => nb t) (fun t => (nb t).length) (Nat) rRefSub (fun t => nb t) (fun t => (nb t).length) (Nat × Bool) rMul (fun t => lim 8 t.fst) (fun t => t.snd) (Int) rCmp (fun t => t) (Nat) rLen (fun t => ↑t) (Nat) rRefLen (fun t => ↑t) (Nat × Nat × Int) rDiv (fun t => lim 8 t.fst) (fun t => lim 8 t.snd.fst) (fun t => t.snd.snd) (Nat × Nat) rRefDiv (fun t => nb t.fst) (fun t => (nb t.fst).length) (fun t => nb t.snd) (fun t => (nb t.snd).length)
theorem gok_LR : CfOk prog gI_LR.c := ⟨gam_cons ok_awake01 <| gam_cons ok_Num <| gam_cons ok_Add <| gam_cons ok_RefAdd <| gam_cons ok_RefLow <| gam_cons ok_RefCmp <| gam_cons ok_Sub <| gam_cons ok_RefMul <| gam_cons ok_RefOf <| gam_cons ok_RefSub <| gam_cons ok_Mul <| gam_cons ok_Cmp <| gam_cons ok_Len <| gam_cons ok_RefLen <| gam_cons ok_Div <| gam_cons ok_RefDiv <| gam_nil, fun _ _ h => by cases h⟩
theorem cmpN_self (x : Nat) : cmpN x x = 0 := by simp [cmpN]
theorem cmpN_lt (x y : Nat) : decide (cmpN x y < 0) = decide (x < y) := by
  unfold cmpN
  by_cases h : x < y
  · simp [h]
  · by_cases h2 : y < x
    · simp [h, h2]
    · simp [h, h2]
theorem le64 (n : Nat) : decide (((nb n).length : Int) ≤ 64) = decide (n < M512) := by
  refine decide_eq_decide.2 ⟨fun h => ?_, fun h => ?_⟩
  · refine Nat.lt_of_lt_of_le (lt_nb n) ?_
    rw [← show (256 : Nat) ^ 64 = M512 by decide +kernel]
    exact Nat.pow_le_pow_right (by decide) (by omega)
  · have := nb_small h
    omega
theorem nb_big {x : Nat} (h : x < M512 * M512) : (nb x).length ≤ 128 := nb_len (by rw [show (256 : Nat) ^ 128 = M512 * M512 by decide +kernel]; exact h)
theorem vS_high : vS (List.map b8 (List.replicate 63 0) ++ [128]) * 2 = M512 := by decide +kernel
theorem bne_eq (b : Bool) : (!b == b) = false := by cases b <;> rfl
theorem ok_LR : CallOk prog n_opalinelaw01_LimbReckons sTwo := by
  refine afunc_okE (g := gI_LR) (fu := fun _ => 0) mixed gok_LR h_opalinelaw01_LimbReckons (by kernel_rfl) ?_
  intro args t ht
  obtain ⟨a, b, rfl, ha, hb, rfl⟩ := run2_ok ht
  have va := val8_lt ha
  have vb := val8_lt hb
  have hM := M512_pos
  have la := nb_small va
  have lb := nb_small vb
  have pab : val a * val b < M512 * M512 := Nat.mul_lt_mul_of_lt_of_lt va vb
  have big : ∀ x, x < 3 * M512 → (nb x).length ≤ 128 := fun x h => nb_big (Nat.lt_of_lt_of_le h (Nat.mul_le_mul_right _ (by decide +kernel)))
  refine (LR_ev ..).trans ?_
  have w : ∀ x, AV.agg (TRow.ints IntKind.u64 x) 8 = W8 x := fun _ => rfl
  have eN' : ∀ z, AV.s (SV.dat (TRow.ints IntKind.i64 (nb z)) (nb z).length 1) = eN z := fun _ => rfl
  have e1 : AV.s (SV.dat (TRow.ints IntKind.i64 [1]) 1 1) = eN 1 := rfl
  have e2 : AV.s (SV.dat (TRow.ints IntKind.i64 [2]) 1 1) = eN 2 := rfl
  have e0 : AV.s (SV.dat (TRow.ints IntKind.i64 []) 0 1) = eN 0 := rfl
  simp only [w, eN', e1, e2, e0]
  have l0 : (nb 0).length ≤ 1048576 := by rw [nb_zero]; decide
  have l1 : (nb 1).length ≤ 1048576 := Nat.le_trans (nb_small (by decide +kernel)) (by decide)
  have l2 : (nb 2).length ≤ 1048576 := Nat.le_trans (nb_small (by decide +kernel)) (by decide)
  have hs : (nb (val a + val b)).length ≤ 128 := big _ (by omega)
  rw [show rTrue [] = some () from rfl, Option.bind_some, run_Num ha, Option.bind_some, run_Num hb, Option.bind_some, run_Add ha hb, Option.bind_some, run_RefAdd (by omega) (by omega), Option.bind_some, run_Num (ok8_lim _), Option.bind_some, run_RefLow (by omega), Option.bind_some, val_lim8]
  have lm : ∀ x, (nb (x % M512)).length ≤ 1048576 := fun x => Nat.le_trans (nb_small (Nat.mod_lt _ hM)) (by decide)
  rw [run_RefCmp (lm _) (lm _), Option.bind_some, show (sumW a b).1 = val a + val b from rfl, cmpN_self, decide_eq_true (rfl : (0 : Int) = 0), Bool.not_true, cond_false]
  rw [le64, show (sumW a b).2 = decide (val a + val b < M512) from rfl, bne_eq, cond_false]
  rw [run_Sub ha hb, Option.bind_some, run_RefCmp (by omega) (by omega), Option.bind_some, run_RefMul l1 (by omega), Option.bind_some, Nat.one_mul, cmpN_lt]
  have hp : (nb (val a * val b)).length ≤ 128 := nb_big pab
  have dv : (bif decide (((nb (val b)).length : Int) = 0) then
        bif decide ((divW a b).2.2 = 9) then bif decide (lim 8 (divW a b).1 = [0, 0, 0, 0, 0, 0, 0, 0]) then some (AV.bool (decide (lim 8 (divW a b).2.1 = [0, 0, 0, 0, 0, 0, 0, 0]))) else some (AV.bool false) else some (AV.bool false)
      else (rRefDiv [eN (val a), eN (val b)]).bind fun t : Nat × Nat =>
        bif decide ((divW a b).2.2 = 0) then
          (rNum [W8 (lim 8 (divW a b).1)]).bind fun t_28 : Nat => (rRefCmp [eN t_28, eN t.1]).bind fun t_29 : Int =>
            bif decide (t_29 = 0) then (rNum [W8 (lim 8 (divW a b).2.1)]).bind fun t_30 : Nat => (rRefCmp [eN t_30, eN t.2]).bind fun t : Int => some (AV.bool (decide (t = 0)))
            else some (AV.bool false)
        else some (AV.bool false)) = some (AV.bool true) := by
    by_cases h0 : val b = 0
    · have : divW a b = (0, 0, 9) := by simp only [divW, if_pos h0]
      rw [this, h0, nb_zero]
      rfl
    · have : divW a b = (val a / val b, val a % val b, 0) := by simp only [divW, if_neg h0]
      have hq : val a / val b < M512 := Nat.lt_of_le_of_lt (Nat.div_le_self _ _) va
      have hr : val a % val b < M512 := Nat.lt_of_le_of_lt (Nat.mod_le _ _) va
      have hz : (nb (val b)).length ≠ 0 := fun h => h0 ((nb_nil_iff _).1 h)
      have lq := nb_small hq
      have lr := nb_small hr
      rw [this, decide_eq_false (by omega), cond_false, run_RefDiv (by omega) (by omega) (by omega), Option.bind_some]
      dsimp only
      rw [decide_eq_true (rfl : (0 : Int) = 0), cond_true, run_Num (ok8_lim _), Option.bind_some, val_lim8, Nat.mod_eq_of_lt hq, run_RefCmp (by omega) (by omega), Option.bind_some,
        cmpN_self, decide_eq_true (rfl : (0 : Int) = 0), cond_true, run_Num (ok8_lim _), Option.bind_some, val_lim8, Nat.mod_eq_of_lt hr, run_RefCmp (by omega) (by omega), Option.bind_some, cmpN_self, decide_eq_true (rfl : (0 : Int) = 0)]
  by_cases h : val a < val b
  · rw [decide_eq_true h, cond_true, run_RefOf (by decide +kernel), Option.bind_some, run_RefMul (Nat.le_trans (big _ (by have := vS_high; omega)) (by decide)) l2, Option.bind_some, vS_high, run_RefAdd (Nat.le_trans (big _ (by omega)) (by decide)) l0, Option.bind_some, Nat.add_zero]
    have h3 : (nb (val a + M512)).length ≤ 128 := big _ (by omega)
    have h4 : (nb (val a + M512 - val b)).length ≤ 128 := big _ (by omega)
    rw [run_RefAdd (by omega) (Nat.le_trans (big _ (by omega)) (by decide)), Option.bind_some, run_Num (ok8_lim _), Option.bind_some, run_RefSub (by omega) (by omega) (by omega), Option.bind_some, run_RefLow (by omega), Option.bind_some, val_lim8, show (difW a b).1 = val a + M512 - val b from rfl, run_RefCmp (lm _) (lm _), Option.bind_some, cmpN_self, decide_eq_true (rfl : (0 : Int) = 0), Bool.not_true, Bool.false_or,
      show (difW a b).2 = decide (val b ≤ val a) from rfl, decide_eq_false (by omega : ¬ val b ≤ val a), show (!false == false) = false from rfl, cond_false]
    rw [run_Mul ha hb, Option.bind_some, run_RefMul (by omega) (by omega), Option.bind_some, run_Num (ok8_lim _), Option.bind_some, run_RefLow (by omega), Option.bind_some, val_lim8, run_RefCmp (lm _) (lm _), Option.bind_some, show (mulW a b).1 = val a * val b from rfl, cmpN_self, decide_eq_true (rfl : (0 : Int) = 0), Bool.not_true, cond_false]
    rw [le64, show (mulW a b).2 = decide (val a * val b < M512) from rfl, bne_eq, cond_false]
    rw [run_Cmp ha hb, Option.bind_some, Option.bind_some, decide_eq_true (rfl : cmpN (val a) (val b) = _), Bool.not_true, cond_false]
    rw [run_Len ha, Option.bind_some, run_RefLen (by omega), Option.bind_some, decide_eq_true (rfl : ((bl (val a) : Nat) : Int) = _), Bool.not_true, cond_false]
    rw [run_Div ha hb, Option.bind_some]
    exact dv
  · rw [decide_eq_false h, cond_false, run_Num (ok8_lim _), Option.bind_some, run_RefSub (by omega) (by omega) (by omega), Option.bind_some, run_RefLow (by have := nb_le (Nat.sub_le (val a) (val b)); omega), Option.bind_some, val_lim8, show (difW a b).1 = val a + M512 - val b from rfl,
      show (val a + M512 - val b) % M512 = (val a - val b) % M512 by rw [show val a + M512 - val b = val a - val b + M512 by omega, Nat.add_mod_right], run_RefCmp (lm _) (lm _), Option.bind_some, cmpN_self, decide_eq_true (rfl : (0 : Int) = 0), Bool.not_true, Bool.false_or,
      show (difW a b).2 = decide (val b ≤ val a) from rfl, decide_eq_true (by omega : val b ≤ val a), show (!true == !false) = false from rfl, cond_false]
    rw [run_Mul ha hb, Option.bind_some, run_RefMul (by omega) (by omega), Option.bind_some, run_Num (ok8_lim _), Option.bind_some, run_RefLow (by omega), Option.bind_some, val_lim8, run_RefCmp (lm _) (lm _), Option.bind_some, show (mulW a b).1 = val a * val b from rfl, cmpN_self, decide_eq_true (rfl : (0 : Int) = 0), Bool.not_true, cond_false]
    rw [le64, show (mulW a b).2 = decide (val a * val b < M512) from rfl, bne_eq, cond_false]
    rw [run_Cmp ha hb, Option.bind_some, Option.bind_some, decide_eq_true (rfl : cmpN (val a) (val b) = _), Bool.not_true, cond_false]
    rw [run_Len ha, Option.bind_some, run_RefLen (by omega), Option.bind_some, decide_eq_true (rfl : ((bl (val a) : Nat) : Int) = _), Bool.not_true, cond_false]
    rw [run_Div ha hb, Option.bind_some]
    exact dv
end Go.Eng
