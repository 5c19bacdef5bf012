/- The contract of LimbLaws: it answers true, whatever two numbers come in. -/
import Derived.Test.YtdhcaghdhaeebaaPLimb1
namespace Go.Eng
open Go Go.Proofs
set_option linter.unusedVariables false
set_option linter.unusedSimpArgs false
noncomputable abbrev gI_LL : Cg := g_LL (PUnit) rTrue (Nat × Bool) rAdd (fun t => lim 8 t.fst) (fun t => t.snd) (Nat × Bool) rMul (fun t => lim 8 t.fst) (fun t => t.snd) (Nat × Bool) rSub (fun t => lim 8 t.fst) (fun t => t.snd) (Nat × Nat × Int) rDiv (fun t => lim 8 t.fst) (fun t => lim 8 t.snd.fst) (fun t => t.snd.snd) (Int) rCmp (fun t => t)
theorem gok_LL : CfOk prog gI_LL.c := ⟨gam_cons ok_awake01 <| gam_cons ok_Add <| gam_cons ok_Mul <| gam_cons ok_Sub <| gam_cons ok_Div <| gam_cons ok_Cmp <| gam_nil, fun _ _ h => by cases h⟩
def sTwo : Summ := { T := Unit, run := run2 fun _ _ => (), enc := fun _ => .bool true }
theorem lim8_of {a : List Int} (ha : ok8 a = true) {n : Nat} (h : n % M512 = val a) : lim 8 n = a := by
  rw [← lim8_mod, h, lim8_val ha]
theorem cF {α : Type} {c : Bool} {x y : α} (h : c = false) : cond c x y = y := by rw [h]; rfl
theorem cT {α : Type} {c : Bool} {x y : α} (h : c = true) : cond c x y = x := by rw [h]; rfl
theorem ok_LL : CallOk prog n_opalinelaw01_LimbLaws sTwo := by
  refine afunc_okE (g := gI_LL) (fu := fun _ => 0) mixed gok_LL h_opalinelaw01_LimbLaws (by kernel_rfl) ?_
  intro args t ht
  obtain ⟨a, b, rfl, ha, hb, rfl⟩ := run2_ok ht
  have va := val8_lt ha
  have vb := val8_lt hb
  refine (LL_ev _ _ _ _ _ _ _ _ _ _ _ _ _ _ _ _ _ _ _ _ _ _ _ _ _).trans ?_
  have w : ∀ x, AV.agg (TRow.ints IntKind.u64 x) 8 = W8 x := fun _ => rfl
  simp only [w]
  rw [show rTrue [] = some () from rfl, Option.bind_some, run_Add ha hb, Option.bind_some, run_Add hb ha, Option.bind_some, run_Mul ha hb, Option.bind_some, run_Mul hb ha, Option.bind_some]
  rw [show sumW b a = sumW a b by simp only [sumW, Nat.add_comm], show mulW b a = mulW a b by simp only [mulW, Nat.mul_comm]]
  rw [run_Sub (ok8_lim _) hb, Option.bind_some]
  have e3 : lim 8 (difW (lim 8 (sumW a b).1) b).1 = a := by
    refine lim8_of ha ?_
    simp only [difW, sumW, val_lim8]
    have hp := M512_pos
    by_cases h : val a + val b < M512
    · rw [Nat.mod_eq_of_lt h, show val a + val b + M512 - val b = val a + M512 by omega, Nat.add_mod_right, Nat.mod_eq_of_lt va]
    · rw [show (val a + val b) % M512 = val a + val b - M512 by rw [Nat.mod_eq_sub_mod (by omega), Nat.mod_eq_of_lt (by omega)], show val a + val b - M512 + M512 - val b = val a by omega, Nat.mod_eq_of_lt va]
  refine (cF (by simp)).trans ?_
  refine (cF (by simp)).trans ?_
  refine (cF (by rw [decide_eq_true e3]; rfl)).trans ?_
  rw [run_Div ha hb, Option.bind_some]
  by_cases h0 : val b = 0
  · have e : b = zero8 := by rw [← lim8_val hb, h0, lim_zero8]
    refine (cT (by simp [divW, h0])).trans ?_
    rw [decide_eq_true e]; rfl
  · have ed : divW a b = (val a / val b, val a % val b, 0) := by simp only [divW, if_neg h0]
    rw [ed]
    refine (cF (by simp)).trans ?_
    have hp : 0 < val b := by omega
    have hq : val a / val b < M512 := Nat.lt_of_le_of_lt (Nat.div_le_self _ _) va
    have hr : val a % val b < val b := Nat.mod_lt _ hp
    have hm : val a / val b * val b ≤ val a := Nat.div_mul_le_self _ _
    have hs : val a / val b * val b + val a % val b = val a := by rw [Nat.mul_comm]; exact Nat.div_add_mod _ _
    have em : mulW (lim 8 (val a / val b)) b = (val a / val b * val b, true) := by
      simp only [mulW, val_lim8]
      rw [Nat.mod_eq_of_lt hq, decide_eq_true (by omega)]
    have es : sumW (lim 8 (val a / val b * val b)) (lim 8 (val a % val b)) = (val a, true) := by
      simp only [sumW, val_lim8]
      rw [Nat.mod_eq_of_lt (by omega : val a / val b * val b < M512), Nat.mod_eq_of_lt (by omega : val a % val b < M512), hs, decide_eq_true va]
    rw [run_Mul (ok8_lim _) hb, Option.bind_some, em, run_Add (ok8_lim _) (ok8_lim _), Option.bind_some, es]
    refine (cT rfl).trans ?_
    refine (cT (decide_eq_true (lim8_val ha))).trans ?_
    rw [run_Cmp (ok8_lim _) hb, Option.bind_some, val_lim8, Nat.mod_eq_of_lt (by omega : val a % val b < M512)]
    have hc : cmpN (val a % val b) (val b) = -1 := by simp [cmpN, hr]
    rw [hc]; rfl
end Go.Eng
