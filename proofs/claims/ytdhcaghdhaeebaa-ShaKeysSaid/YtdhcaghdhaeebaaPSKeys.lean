/- The law ShaKeys: it answers true. -/
import Derived.Test.YtdhcaghdhaeebaaPSLaw
import Derived.Test.YtdhcaghdhaeebaaZR2
namespace Go.Eng
open Go Go.Proofs
set_option linter.unusedVariables false
set_option linter.unusedSimpArgs false
noncomputable abbrev gI_LSK : Cg := g_LSK (PUnit) rTrue (Nat) rKey (fun t => ↑t) (Nat) rRefOf (fun t => nb t) (fun t => (nb t).length) (Nat) rRefSmall (fun t => nb t) (fun t => (nb t).length) (Nat) rRefMul (fun t => nb t) (fun t => (nb t).length) (Nat) rRefAdd (fun t => nb t) (fun t => (nb t).length) (Int) rRefCmp (fun t => t)
theorem gok_LSK : CfOk prog gI_LSK.c := ⟨gam_cons ok_awake02 <| gam_cons ok_Key <| gam_cons ok_RefOf <| gam_cons ok_RefSmall <| gam_cons ok_RefMul <| gam_cons ok_RefAdd <| gam_cons ok_RefCmp <| gam_nil, fun _ _ h => by cases h⟩
/-- is no number from d on, k of them, a divisor? -/
def prF (p : Nat) : Nat → Nat → Bool → Bool
  | 0, _, b => b
  | k + 1, d, b => prF p k (d + 1) (b && !decide (p % d = 0))
def cbF (p : Nat) : Nat → Nat → Nat
  | 0, w => w
  | k + 1, w => cond (decide ((w + 1) * (w + 1) * (w + 1) ≤ p)) (cbF p k (w + 1)) w
abbrev B64 : Nat := 18446744073709551616
def keyX (n p : Nat) : Nat := cbF p 8 1 * B64 + kN.getD n 0
def keyL (p : Nat) : Nat := p * (B64 * B64 * B64)
def keyOk (n p : Nat) : Bool := decide (keyX n p * (keyX n p * keyX n p) ≤ keyL p) && decide (keyL p < (keyX n p + 1) * ((keyX n p + 1) * (keyX n p + 1)))
def keysF : Nat → Nat → Nat → Option Bool
  | 0, _, _ => none
  | k + 1, n, p => cond (decide (n < 80)) (cond (prF p (p - 2) 2 true) (cond (keyOk n p) (keysF k (n + 1) (p + 1)) (some false)) (keysF k n (p + 1))) (some true)
theorem cube_lt {a b : Nat} (h : a ≤ b) : a * a * a ≤ b * b * b := Nat.mul_le_mul (Nat.mul_le_mul h h) h
theorem sk_pr {β : Type} (a p : Nat) (hp : p < 600) (fu : Nat) (G : Option St → Option β) (H : Ex → Option St → Option β) : ∀ (k n d : Nat) (b : Bool), 2 ≤ d → d + k = p → k < n →
    lpA prog gI_LSK fu LSK_b2 (LSK_k2 _ rTrue _ rKey (fun t => (t : Int)) _ rRefOf (fun t => nb t) (fun t => (nb t).length) _ rRefSmall (fun t => nb t) (fun t => (nb t).length) _ rRefMul (fun t => nb t) (fun t => (nb t).length) _ rRefAdd (fun t => nb t) (fun t => (nb t).length) _ rRefCmp (fun t => t) fu G H) n (some (LSK_s2 (a : Int) (p : Int) b (d : Int))) =
      cond (prF p k d b) (LSK_L3 _ rTrue _ rKey (fun t => (t : Int)) _ rRefOf (fun t => nb t) (fun t => (nb t).length) _ rRefSmall (fun t => nb t) (fun t => (nb t).length) _ rRefMul (fun t => nb t) (fun t => (nb t).length) _ rRefAdd (fun t => nb t) (fun t => (nb t).length) _ rRefCmp (fun t => t) fu G H (a : Int) (p : Int) 1) (G (some (LSK_s1 (a : Int) ((p + 1 : Nat) : Int)))) := by
  intro k
  induction k with
  | zero =>
    intro n d b h2 hd hn
    obtain ⟨n, rfl⟩ := Nat.exists_eq_succ_of_ne_zero (by omega : n ≠ 0)
    rw [lpA_succ, LSK_r2, decide_eq_false (by omega), cond_false, kOut_some, LSK_c2e2, prF, wi64 (by omega) (by omega)]
    cases b <;> rfl
  | succ k ih =>
    intro n d b h2 hd hn
    obtain ⟨n, rfl⟩ := Nat.exists_eq_succ_of_ne_zero (by omega : n ≠ 0)
    rw [lpA_succ, LSK_r2, decide_eq_true (by omega), cond_true, prF, decide_eq_false (by omega), cond_false, wi64 (by omega) (by omega)]
    have h := fun b => ih n (d + 1) b (by omega) (by omega) (by omega)
    cases b
    · rw [cond_false]
      exact h false
    · rw [cond_true, Bool.true_and, ← h (!decide (p % d = 0))]
      have e : decide ((p : Int).tmod (d : Int) = 0) = decide (p % d = 0) := decide_eq_decide.2 (by rw [Int.tmod_eq_emod_of_nonneg (by omega)]; omega)
      rw [e]; rfl
theorem sk_cb {β : Type} (a p : Nat) (hp : p < 600) (fu : Nat) (G : Option St → Option β) (H : Ex → Option St → Option β) : ∀ (k n w : Nat), w + k = 9 → k < n →
    lpA prog gI_LSK fu LSK_b3 (LSK_k3 _ rTrue _ rKey (fun t => (t : Int)) _ rRefOf (fun t => nb t) (fun t => (nb t).length) _ rRefSmall (fun t => nb t) (fun t => (nb t).length) _ rRefMul (fun t => nb t) (fun t => (nb t).length) _ rRefAdd (fun t => nb t) (fun t => (nb t).length) _ rRefCmp (fun t => t) fu G H) n (some (LSK_s3 (a : Int) (p : Int) (w : Int))) =
      LSK_k3 _ rTrue _ rKey (fun t => (t : Int)) _ rRefOf (fun t => nb t) (fun t => (nb t).length) _ rRefSmall (fun t => nb t) (fun t => (nb t).length) _ rRefMul (fun t => nb t) (fun t => (nb t).length) _ rRefAdd (fun t => nb t) (fun t => (nb t).length) _ rRefCmp (fun t => t) fu G H (.exit 4) (LSK_o3e4 (a : Int) (p : Int) ((cbF p k w : Nat) : Int)) := by
  intro k
  induction k with
  | zero =>
    intro n w hw hn
    obtain ⟨n, rfl⟩ := Nat.exists_eq_succ_of_ne_zero (by omega : n ≠ 0)
    have : w = 9 := by omega
    subst this
    rw [lpA_succ, LSK_r3, show ((9 : Nat) : Int) + 1 = 10 from rfl, wi64 (n := 10) (by omega) (by omega), wi64 (n := 10 * 10) (by omega) (by omega), wi64 (by omega) (by omega), decide_eq_false (by omega), cond_false, kOut_some]; rfl
  | succ k ih =>
    intro n w hw hn
    obtain ⟨n, rfl⟩ := Nat.exists_eq_succ_of_ne_zero (by omega : n ≠ 0)
    have c := cube_lt (show w + 1 ≤ 9 by omega)
    have c2 : (w + 1) * (w + 1) ≤ 81 := Nat.mul_le_mul (show w + 1 ≤ 9 by omega) (show w + 1 ≤ 9 by omega)
    have e1 : (w : Int) + 1 = ((w + 1 : Nat) : Int) := by omega
    have e2 : ((w + 1 : Nat) : Int) * ((w + 1 : Nat) : Int) = (((w + 1) * (w + 1) : Nat) : Int) := (Int.natCast_mul _ _).symm
    have e3 : (((w + 1) * (w + 1) : Nat) : Int) * ((w + 1 : Nat) : Int) = (((w + 1) * (w + 1) * (w + 1) : Nat) : Int) := (Int.natCast_mul _ _).symm
    rw [lpA_succ, LSK_r3, cbF, e1, wi64 (n := ((w + 1 : Nat) : Int)) (by omega) (by omega), e2, wi64 (n := (((w + 1) * (w + 1) : Nat) : Int)) (by omega) (by omega), e3, wi64 (by omega) (by omega)]
    have e4 : decide ((((w + 1) * (w + 1) * (w + 1) : Nat) : Int) ≤ (p : Int)) = decide ((w + 1) * (w + 1) * (w + 1) ≤ p) := decide_eq_decide.2 (by omega)
    rw [e4]
    cases decide ((w + 1) * (w + 1) * (w + 1) ≤ p)
    · rw [cond_false, cond_false, kOut_some]
    · rw [cond_true, cond_true]
      exact ih n (w + 1) (by omega) (by omega)
theorem cbF_le (p : Nat) : ∀ k w, cbF p k w ≤ w + k := by
  intro k
  induction k with
  | zero => intro w; exact Nat.le_refl _
  | succ k ih =>
    intro w
    rw [cbF]
    cases decide ((w + 1) * (w + 1) * (w + 1) ≤ p)
    · exact Nat.le_add_right _ _
    · have := ih (w + 1); rw [cond_true]; omega
theorem cmpN_pos (x y : Nat) : decide (0 < cmpN x y) = !decide (x ≤ y) := by
  unfold cmpN
  by_cases h : x < y
  · rw [decide_eq_true h, cond_true, decide_eq_true (by omega : x ≤ y)]; rfl
  · rw [decide_eq_false h, cond_false]
    by_cases h2 : y < x
    · rw [decide_eq_true h2, cond_true, decide_eq_false (by omega : ¬ x ≤ y)]; rfl
    · rw [decide_eq_false h2, cond_false, decide_eq_true (by omega : x ≤ y)]; rfl
theorem cmpN_le (x y : Nat) : decide (cmpN x y ≤ 0) = decide (x ≤ y) := by
  unfold cmpN
  by_cases h : x < y
  · rw [decide_eq_true h, cond_true, decide_eq_true (by omega : x ≤ y)]; rfl
  · rw [decide_eq_false h, cond_false]
    by_cases h2 : y < x
    · rw [decide_eq_true h2, cond_true, decide_eq_false (by omega : ¬ x ≤ y)]; rfl
    · rw [decide_eq_false h2, cond_false, decide_eq_true (by omega : x ≤ y)]; rfl
theorem run_Key {n : Nat} (h : n < 80) : rKey [.int .i64 (n : Int)] = some (kN.getD n 0) := by
  have e : decide (0 ≤ (n : Int) ∧ (n : Int) < 80) = true := decide_eq_true (by omega)
  simp only [rKey, sKey, e, cond_true, Int.toNat_natCast]
theorem kN_lt (n : Nat) : kN.getD n 0 < 18446744073709551616 := by
  by_cases h : n < 80
  · have : ∀ i : Fin 80, kN.getD i.1 0 < 18446744073709551616 := by decide +kernel
    exact this ⟨n, h⟩
  · rw [List.getD_eq_getElem?_getD, List.getElem?_eq_none (by show 80 ≤ n; omega)]; decide
theorem vS_b64 : vS (List.map b8 (List.replicate 8 (0 : Int)) ++ [1]) = 18446744073709551616 := by decide +kernel
theorem vS_b192 : vS (List.map b8 (List.replicate 24 (0 : Int)) ++ [1]) = 18446744073709551616 * 18446744073709551616 * 18446744073709551616 := by decide +kernel
theorem eNf (z : Nat) : AV.s (SV.dat (TRow.ints IntKind.i64 (nb z)) (nb z).length 1) = eN z := rfl
theorem small40 {x : Nat} (h : x < 256 ^ 40) : (nb x).length ≤ 1048576 := Nat.le_trans (nb_len h) (by decide)
theorem sk_chk {β : Type} (n p w : Nat) (hn : n < 80) (hp : p < 600) (hw : w ≤ 9) (fu : Nat) (G : Option St → Option β) (H : Ex → Option St → Option β) (X L : Nat) (hX : X = w * 18446744073709551616 + kN.getD n 0)
    (hL : L = p * (18446744073709551616 * 18446744073709551616 * 18446744073709551616)) :
    LSK_k3 _ rTrue _ rKey (fun t => (t : Int)) _ rRefOf (fun t => nb t) (fun t => (nb t).length) _ rRefSmall (fun t => nb t) (fun t => (nb t).length) _ rRefMul (fun t => nb t) (fun t => (nb t).length) _ rRefAdd (fun t => nb t) (fun t => (nb t).length) _ rRefCmp (fun t => t) fu G H (.exit 4) (LSK_o3e4 (n : Int) (p : Int) (w : Int)) =
      cond (decide (X * (X * X) ≤ L) && decide (L < (X + 1) * ((X + 1) * (X + 1)))) (G (some (LSK_s1 ((n + 1 : Nat) : Int) ((p + 1 : Nat) : Int)))) (H .ret (some (LSK_o1r false))) := by
  have hk := kN_lt n
  have hx : X < 200000000000000000000 := by omega
  have hx2 : X * X < 200000000000000000000 * 200000000000000000000 := Nat.mul_lt_mul'' hx hx
  have hx3 : X * (X * X) < 200000000000000000000 * (200000000000000000000 * 200000000000000000000) := Nat.mul_lt_mul'' hx hx2
  have hy : X + 1 < 300000000000000000000 := by omega
  have hy2 : (X + 1) * (X + 1) < 300000000000000000000 * 300000000000000000000 := Nat.mul_lt_mul'' hy hy
  have hy3 : (X + 1) * ((X + 1) * (X + 1)) < 300000000000000000000 * (300000000000000000000 * 300000000000000000000) := Nat.mul_lt_mul'' hy hy2
  have hl : L < 600 * (18446744073709551616 * 18446744073709551616 * 18446744073709551616) := by rw [hL]; omega
  have B : (300000000000000000000 * (300000000000000000000 * 300000000000000000000) : Nat) < 256 ^ 40 := by decide
  have B2 : (600 * (18446744073709551616 * 18446744073709551616 * 18446744073709551616) : Nat) < 256 ^ 40 := by decide
  have B3 : (18446744073709551616 : Nat) < 256 ^ 40 := by decide
  have s1 : ∀ z : Nat, z < 18446744073709551616 → (nb z).length ≤ 1048576 := fun z h => small40 (Nat.lt_trans h B3)
  have sB : (nb 18446744073709551616).length ≤ 1048576 := small40 B3
  have sB3 : (nb (18446744073709551616 * 18446744073709551616 * 18446744073709551616)).length ≤ 1048576 := small40 (by decide)
  have sX : (nb X).length ≤ 1048576 := small40 (by omega)
  have sX2 : (nb (X * X)).length ≤ 1048576 := small40 (by omega)
  have sX3 : (nb (X * (X * X))).length ≤ 1048576 := small40 (by omega)
  have sY : (nb (X + 1)).length ≤ 1048576 := small40 (by omega)
  have sY2 : (nb ((X + 1) * (X + 1))).length ≤ 1048576 := small40 (by omega)
  have sY3 : (nb ((X + 1) * ((X + 1) * (X + 1)))).length ≤ 1048576 := small40 (by omega)
  have sL : (nb L).length ≤ 1048576 := small40 (by omega)
  have s0 : (nb (w * 18446744073709551616)).length ≤ 1048576 := Nat.le_trans (nb_le (by rw [hX]; exact Nat.le_add_right _ _)) sX
  rw [LSK_c3e4]
  simp only [eNf]
  rw [wu64n, wu64n, Nat.mod_eq_of_lt (by omega : w < 18446744073709551616), Nat.mod_eq_of_lt (by omega : p < 18446744073709551616), run_RefOf (by rw [List.length_append, List.length_map, List.length_replicate]; decide), Option.bind_some, vS_b64, run_RefSmall (by omega), Option.bind_some,
    run_RefMul (s1 w (by omega)) sB, Option.bind_some, run_Key hn, Option.bind_some, run_RefSmall hk, Option.bind_some, run_RefAdd s0 (s1 _ hk), Option.bind_some, ← hX, show (1 : Int) = ((1 : Nat) : Int) from rfl, run_RefSmall (k := 1) (by decide), Option.bind_some, run_RefAdd sX (s1 1 (by decide)), Option.bind_some,
    run_RefSmall (by omega), Option.bind_some, run_RefOf (by rw [List.length_append, List.length_map, List.length_replicate]; decide), Option.bind_some, vS_b192, run_RefMul (s1 p (by omega)) sB3, Option.bind_some, ← hL, run_RefMul sX sX, Option.bind_some, run_RefMul sX sX2, Option.bind_some, run_RefCmp sX3 sL, Option.bind_some, cmpN_pos]
  by_cases h : X * (X * X) ≤ L
  · rw [decide_eq_true h, Bool.not_true, cond_false, run_RefMul sY sY, Option.bind_some, run_RefMul sY sY2, Option.bind_some, run_RefCmp sY3 sL, Option.bind_some, cmpN_le, Bool.true_and]
    by_cases h2 : (X + 1) * ((X + 1) * (X + 1)) ≤ L
    · rw [decide_eq_true h2, cond_true, decide_eq_false (by omega), cond_false]
    · rw [decide_eq_false h2, cond_false, decide_eq_true (by omega), cond_true, wi64 (by omega) (by omega), wi64 (by omega) (by omega)]; rfl
  · rw [decide_eq_false h, Bool.not_false, cond_true, Bool.false_and, cond_false]
theorem sk_main (fu : Nat) (hf : 500 ≤ fu) : ∀ (k n p : Nat), 2 ≤ p → p + k ≤ 502 →
    lpA prog gI_LSK fu LSK_b1 (LSK_k1 _ rTrue _ rKey (fun t => (t : Int)) _ rRefOf (fun t => nb t) (fun t => (nb t).length) _ rRefSmall (fun t => nb t) (fun t => (nb t).length) _ rRefMul (fun t => nb t) (fun t => (nb t).length) _ rRefAdd (fun t => nb t) (fun t => (nb t).length) _ rRefCmp (fun t => t) fu) k (some (LSK_s1 (n : Int) (p : Int))) = (keysF k n p).map AV.bool := by
  intro k
  induction k with
  | zero => intro n p h2 hp; rfl
  | succ k ih =>
    intro n p h2 hp
    rw [lpA_succ, LSK_r1, keysF]
    by_cases hn : n < 80
    · rw [decide_eq_true (by omega), cond_true, decide_eq_true hn, cond_true]
      refine Eq.trans (sk_pr n p (by omega) fu _ _ (p - 2) fu 2 true (by omega) (by omega) (by omega)) ?_
      cases prF p (p - 2) 2 true
      · rw [cond_false, cond_false]
        exact ih n (p + 1) (by omega) (by omega)
      · rw [cond_true, cond_true]
        refine Eq.trans (sk_cb n p (by omega) fu _ _ 8 fu 1 (by omega) (by omega)) ?_
        have hc := cbF_le p 8 1
        refine Eq.trans (sk_chk n p (cbF p 8 1) hn (by omega) (by omega) fu _ _ (keyX n p) (keyL p) rfl rfl) ?_
        show cond (keyOk n p) _ _ = _
        cases keyOk n p
        · rw [cond_false, cond_false, kOut_some, LSK_c1r]; rfl
        · rw [cond_true, cond_true]
          exact ih (n + 1) (p + 1) (by omega) (by omega)
    · rw [decide_eq_false (by omega), cond_false, decide_eq_false hn, cond_false, kOut_some, LSK_c1e0]; rfl
theorem keysF_all : keysF 500 0 2 = some true := by decide +kernel
theorem ok_LSK : CallOk prog n_opalinelaw02_ShaKeys sTrue := by
  refine afunc_okE (g := gI_LSK) (fu := fun _ => 500) mixed gok_LSK h_opalinelaw02_ShaKeys (by kernel_rfl) ?_
  intro args t ht
  unfold sTrue at ht
  simp only at ht
  split at ht
  · cases ht
    refine (LSK_ev ..).trans ?_
    rw [show rTrue [] = some () from rfl, Option.bind_some, show rKey [.int .i64 (-1)] = some 0 from rfl, Option.bind_some, show rKey [.int .i64 80] = some 0 from rfl, Option.bind_some]
    have := sk_main 500 (by decide) 500 0 2 (by decide) (by decide)
    rw [keysF_all, show ((2 : Nat) : Int) = 2 from rfl, show ((0 : Nat) : Int) = 0 from rfl] at this
    refine Eq.trans ?_ (Eq.trans this ?_)
    · rw [show decide (((0 : Nat) : Int) = (0 : Int)) = true from rfl, Bool.not_true, cond_false, cond_false]
    · rfl
  · cases ht
end Go.Eng
