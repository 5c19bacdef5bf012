/- hmac and its document: their contracts (whole, keyed, With, Sum, Stretch), the chapter's example, the law HmacStretches. -/
import Derived.Test.YtdhcaghdhaeebaaPHm1
import Derived.Test.YtdhcaghdhaeebaaGHm3
import Derived.Test.YtdhcaghdhaeebaaPSLaw
namespace Go.Eng
open Go Go.Proofs
set_option linter.unusedVariables false
set_option linter.unusedSimpArgs false
noncomputable abbrev gI_HmWh : Cg := g_HmWh (List Nat) rSum (fun t => up t) (List UInt8) rText (fun t => t) (List UInt8) rRepeat (fun t => t)
theorem gok_HmWh : CfOk prog gI_HmWh.c := ⟨gam_cons ok_Sum <| gam_cons ok_HText <| gam_cons ok_Repeat <| gam_nil, fun _ _ h => by cases h⟩
noncomputable abbrev gI_HrSu : Cg := g_HrSu (List UInt8) rPad (fun t => t) (List UInt8) rRefH (fun t => t)
theorem gok_HrSu : CfOk prog gI_HrSu.c := ⟨gam_cons ok_Pad <| gam_cons ok_RefH <| gam_nil, fun _ _ h => by cases h⟩
theorem run_Mask {s : Str} {x : Nat} (h : s.length ≤ 1099511620000) (hx : x < 256) : rMask [.str s, .int .u8 (x : Int)] = some (maskS s x) := by
  have e : (okLen s && decide (0 ≤ (x : Int) ∧ (x : Int) < 256)) = true := by rw [decide_eq_true (by omega), okLen, Nat.ble_eq_true_of_le h]; rfl
  simp only [rMask, sMask, e, cond_true, Int.toNat_natCast]
theorem run_Pad {s : Str} {x : Nat} (h : s.length ≤ 1099511620000) (hx : x < 256) : rPad [.str s, .int .u8 (x : Int)] = some (maskS (wholeS s) x) := by
  have e : (okLen s && decide (0 ≤ (x : Int) ∧ (x : Int) < 256)) = true := by rw [decide_eq_true (by omega), okLen, Nat.ble_eq_true_of_le h]; rfl
  simp only [rPad, sPad, e, cond_true, Int.toNat_natCast]
theorem join_flat (ss : List Str) : Lib.join ss [] = ss.flatten := by
  cases ss with
  | nil => rfl
  | cons x r =>
    rw [Lib.join_cons, Lib.joinTail]
    simp
theorem join_app (a : Str) (ss : List Str) : Lib.join ([a] ++ ss) [] = a ++ Lib.join ss [] := by rw [join_flat, join_flat]; rfl
theorem okSum_of {ss : List Str} {n : Nat} (h1 : n = ss.length) (h2 : ss.length ≤ 1048576) (h3 : (Lib.join ss []).length ≤ 1099511627776) : okSum ss n = true := by
  subst h1
  rw [okSum, Nat.beq_refl, Nat.ble_eq_true_of_le h2, Nat.ble_eq_true_of_le h3]; rfl
theorem okJ_ok {ss : List Str} {n : Nat} (h : okJ ss n = true) : n = ss.length ∧ ss.length ≤ 1048000 ∧ (Lib.join ss []).length ≤ 1099511620000 := by
  simp only [okJ, Bool.and_eq_true, Nat.ble_eq] at h
  exact ⟨Nat.eq_of_beq_eq_true h.1.1, h.1.2, h.2⟩
theorem maskS_len (s : Str) (x : Nat) : (maskS s x).length = s.length := List.length_map _
theorem ok_Whole : CallOk prog n_hmac_whole sWhole := by
  refine afunc_okE (g := gI_HmWh) (fu := fun _ => 0) mixed gok_HmWh h_hmac_whole (by kernel_rfl) ?_
  intro args t ht
  unfold sWhole at ht
  simp only at ht
  split at ht
  · rename_i s
    obtain ⟨h1, h2⟩ := ctrueS ht
    subst h2
    rw [okLen, Nat.ble_eq] at h1
    refine (HmWh_ev ..).trans ?_
    by_cases h : 128 < s.length
    · have e : keyS s = hS s := if_pos h
      have l := hS_len s
      have w : IntKind.i64.wrap ((128 : Int) - ((hS s).length : Int)) = ((128 - (hS s).length : Nat) : Int) := by rw [wi64 (by omega) (by omega)]; omega
      rw [decide_eq_true (by omega), cond_true, run_Sum (ss := [s]) (n := 1) (okSum_of rfl (by simp) (by rw [Lib.join_one]; omega)), Option.bind_some, Lib.join_one, run_Text (by rw [up_len, sumB_len]), Option.bind_some]
      show (rRepeat [AV.str [0], AV.int .i64 (IntKind.i64.wrap ((128 : Int) - ((hS s).length : Int)))]).bind (fun t => bif decide ((hS s).length + t.length ≤ _) then some (AV.str (hS s ++ t)) else none) = _
      rw [w, run_Repeat _ _ (by omega) (Nat.le_trans (show 1 * (128 - (hS s).length) ≤ 128 by omega) (by decide)), Option.bind_some, rep_len, decide_eq_true (by omega), cond_true, repeatL0]
      show some (AV.str (hS s ++ List.replicate (128 - (hS s).length) 0)) = some (.str (wholeS s))
      rw [wholeS, e]
    · have e : keyS s = s := if_neg h
      have w : IntKind.i64.wrap ((128 : Int) - (s.length : Int)) = ((128 - s.length : Nat) : Int) := by rw [wi64 (by omega) (by omega)]; omega
      rw [decide_eq_false (by omega), cond_false, w, run_Repeat _ _ (by omega) (Nat.le_trans (show 1 * (128 - s.length) ≤ 128 by omega) (by decide)), Option.bind_some, rep_len, decide_eq_true (by omega), cond_true, repeatL0]
      show _ = some (AV.str (wholeS s))
      rw [wholeS, e]
  · cases ht
noncomputable abbrev gI_HmKs : Cg := g_HmKs (List UInt8) rMask (fun t => t) (List Nat) rSum (fun t => up t) (List UInt8) rText (fun t => t)
theorem gok_HmKs : CfOk prog gI_HmKs.c := ⟨gam_cons ok_Mask <| gam_cons ok_Sum <| gam_cons ok_HText <| gam_nil, fun _ _ h => by cases h⟩
theorem ok_Keyed : CallOk prog n_hmac_keyed_sum sKeyed := by
  refine afunc_okE (g := gI_HmKs) (fu := fun _ => 0) mixed gok_HmKs h_hmac_keyed_sum (by kernel_rfl) ?_
  intro args t ht
  unfold sKeyed at ht
  simp only at ht
  split at ht
  · rename_i k ss n
    obtain ⟨h1, h2⟩ := ctrueS ht
    subst h2
    rw [Bool.and_eq_true] at h1
    have hk := Nat.eq_of_beq_eq_true h1.1
    obtain ⟨e, l1, l2⟩ := okJ_ok h1.2
    have m1 := maskS_len k 54
    have m2 := maskS_len k 92
    have j1 := join_app (maskS k 54) ss
    refine (HmKs_ev ..).trans ?_
    have r1 : rMask [.str k, .int .u8 54] = some (maskS k 54) := run_Mask (x := 54) (by omega) (by decide)
    have r2 : rMask [.str k, .int .u8 92] = some (maskS k 92) := run_Mask (x := 92) (by omega) (by decide)
    rw [r1, Option.bind_some, decide_eq_true (by omega), cond_true, run_Sum (ss := [maskS k 54] ++ ss) (n := 1 + n) (okSum_of (by rw [List.length_append, List.length_singleton, e]) (by rw [List.length_append, List.length_singleton]; omega) (by rw [j1, List.length_append]; omega)), Option.bind_some, r2, Option.bind_some, j1,
      run_Text (by rw [up_len, sumB_len]), Option.bind_some]
    show (rSum [AV.s (.dat (.strs ([maskS k 92] ++ [hS (maskS k 54 ++ Lib.join ss [])])) 2 1)]).bind _ = _
    have j2 := join_app (maskS k 92) [hS (maskS k 54 ++ Lib.join ss [])]
    rw [Lib.join_one] at j2
    have l3 := hS_len (maskS k 54 ++ Lib.join ss [])
    rw [run_Sum (ss := [maskS k 92] ++ [hS (maskS k 54 ++ Lib.join ss [])]) (n := 2) (okSum_of rfl (by simp) (by rw [j2, List.length_append]; omega)), Option.bind_some, j2, run_Text (by rw [up_len, sumB_len]), Option.bind_some]; rfl
  · cases ht
theorem run_Whole {s : Str} (h : okLen s = true) : rWhole [.str s] = some (wholeS s) := by
  simp only [rWhole, sWhole, h, cond_true]
theorem run_Keyed {k : Str} {ss : List Str} {n : Nat} (hk : k.length = 128) (h : okJ ss n = true) : rKeyed [.str k, .s (.dat (.strs ss) n 1)] = some (hmacK k (Lib.join ss [])) := by
  have e : (Nat.beq k.length 128 && okJ ss n) = true := by rw [hk, h]; rfl
  simp only [rKeyed, sKeyed, e, cond_true]
theorem run_With {s : Str} (h : okLen s = true) : rWith [.str s] = some (wholeS s) := by
  simp only [rWith, sWith, h, cond_true]
theorem run_Hmac {k : Str} {ss : List Str} {n : Nat} (hk : okLen k = true) (h : okJ ss n = true) : rHmac [.str k, .s (.dat (.strs ss) n 1)] = some (hmacS k (Lib.join ss [])) := by
  have e : (okLen k && okJ ss n) = true := by rw [hk, h]; rfl
  simp only [rHmac, sHmac, e, cond_true]
noncomputable abbrev gI_HmWi : Cg := g_HmWi (List UInt8) rWhole (fun t => t) (List UInt8) rKeyed (fun t => t)
theorem gok_HmWi : CfOk prog gI_HmWi.c := ⟨gam_cons ok_Whole <| gam_cons ok_Keyed <| gam_nil, fun _ _ h => by cases h⟩
theorem ok_With : CallOk prog n_hmac_With sWith := by
  refine afunc_okE (g := gI_HmWi) (fu := fun _ => 0) mixed gok_HmWi h_hmac_With (by kernel_rfl) ?_
  intro args t ht
  unfold sWith at ht
  simp only at ht
  split at ht
  · rename_i s
    obtain ⟨h1, h2⟩ := ctrueS ht
    subst h2
    refine (HmWi_ev ..).trans ?_
    rw [run_Whole h1, Option.bind_some]; rfl
  · cases ht
noncomputable abbrev gI_HmSu : Cg := g_HmSu (List UInt8) rWith (fun t => t) (List UInt8) rKeyed (fun t => t)
theorem gok_HmSu : CfOk prog gI_HmSu.c := ⟨gam_cons ok_With <| gam_cons ok_Keyed <| gam_nil, fun _ _ h => by cases h⟩
theorem ok_Hmac : CallOk prog n_hmac_Sum sHmac := by
  refine afunc_okE (g := gI_HmSu) (fu := fun _ => 0) mixed gok_HmSu h_hmac_Sum (by kernel_rfl) ?_
  intro args t ht
  unfold sHmac at ht
  simp only at ht
  split at ht
  · rename_i k ss n
    obtain ⟨h1, h2⟩ := ctrueS ht
    subst h2
    rw [Bool.and_eq_true] at h1
    refine (HmSu_ev ..).trans ?_
    rw [run_With h1.1, Option.bind_some, run_Keyed (wholeS_len k) h1.2, Option.bind_some]; rfl
  · cases ht
theorem hmacK_len (k t : Str) : (hmacK k t).length = 64 := hS_len _
theorem okLen_of {s : Str} (h : s.length ≤ 1099511620000) : okLen s = true := Nat.ble_eq_true_of_le h
theorem okLen_ok {s : Str} (h : okLen s = true) : s.length ≤ 1099511620000 := Nat.le_of_ble_eq_true h
theorem ok_RefHmac : CallOk prog n_opalineref03_Sum sRefHmac := by
  refine afunc_okE (g := gI_HrSu) (fu := fun _ => 0) mixed gok_HrSu h_opalineref03_Sum (by kernel_rfl) ?_
  intro args r ht
  unfold sRefHmac at ht
  simp only at ht
  split at ht
  · rename_i k t
    obtain ⟨h1, h2⟩ := ctrueS ht
    subst h2
    rw [Bool.and_eq_true] at h1
    have hk := okLen_ok h1.1
    have ht := okLen_ok h1.2
    have r1 : rPad [.str k, .int .u8 54] = some (maskS (wholeS k) 54) := run_Pad (x := 54) (by omega) (by decide)
    have r2 : rPad [.str k, .int .u8 92] = some (maskS (wholeS k) 92) := run_Pad (x := 92) (by omega) (by decide)
    have m1 := maskS_len (wholeS k) 54
    have m2 := maskS_len (wholeS k) 92
    rw [wholeS_len] at m1 m2
    have l3 := hS_len (maskS (wholeS k) 54 ++ t)
    refine (HrSu_ev ..).trans ?_
    rw [r2, Option.bind_some, r1, Option.bind_some, decide_eq_true (by omega), cond_true, run_RefH (by rw [List.length_append]; omega), Option.bind_some]
    show (bif decide (_ + (hS (maskS (wholeS k) 54 ++ t)).length ≤ _) then (rRefH [.str (maskS (wholeS k) 92 ++ hS (maskS (wholeS k) 54 ++ t))]).bind _ else _) = _
    rw [decide_eq_true (by omega), cond_true, run_RefH (by rw [List.length_append]; omega), Option.bind_some]; rfl
  · cases ht
theorem run_RefHmac {k t : Str} (hk : okLen k = true) (h : okLen t = true) : rRefHmac [.str k, .str t] = some (hmacS k t) := by
  have e : (okLen k && okLen t) = true := by rw [hk, h]; rfl
  simp only [rRefHmac, sRefHmac, e, cond_true]
noncomputable abbrev gI_HmSt : Cg := g_HmSt (List UInt8) rHmac (fun t => t)
theorem gok_HmSt : CfOk prog gI_HmSt.c := ⟨gam_cons ok_Hmac <| gam_nil, fun _ _ h => by cases h⟩
noncomputable abbrev gI_HrSt : Cg := g_HrSt (List UInt8) rRefHmac (fun t => t)
theorem gok_HrSt : CfOk prog gI_HrSt.c := ⟨gam_cons ok_RefHmac <| gam_nil, fun _ _ h => by cases h⟩
theorem stretchS_len (s : Str) : ∀ i, okLen s = true → okLen (stretchS s i) = true := by
  intro i h
  cases i with
  | zero => exact h
  | succ i => exact okLen_of (by rw [stretchS, hmacS, hmacK_len]; decide)
theorem four_len (i : Nat) : (four i).length = 4 := rfl
theorem st_four (i : Nat) (h : i < 4294967296) : List.map b8 ([IntKind.u8.wrap (bShr IntKind.i64 (i : Int) (24 : Int))] ++ ([IntKind.u8.wrap (bShr IntKind.i64 (i : Int) (16 : Int))] ++ ([IntKind.u8.wrap (bShr IntKind.i64 (i : Int) (8 : Int))] ++ [IntKind.u8.wrap (i : Int)]))) = four i := by
  rw [show (24 : Int) = ((24 : Nat) : Int) from rfl, show (16 : Int) = ((16 : Nat) : Int) from rfl, show (8 : Int) = ((8 : Nat) : Int) from rfl, shrI64 _ _ (by decide) (by omega), shrI64 _ _ (by decide) (by omega), shrI64 _ _ (by decide) (by omega), wu8n, wu8n, wu8n, wu8n]; rfl
theorem st_four' (i : Nat) (h : i < 4294967296) : List.map b8 ([IntKind.u8.wrap (IntKind.i64.wrap ((i : Int).tdiv (16777216 : Int)))] ++ ([IntKind.u8.wrap (IntKind.i64.wrap ((i : Int).tdiv (65536 : Int)))] ++ ([IntKind.u8.wrap (IntKind.i64.wrap ((i : Int).tdiv (256 : Int)))] ++ [IntKind.u8.wrap (i : Int)]))) = four i := by
  have e : ∀ k : Nat, 0 < k → IntKind.i64.wrap ((i : Int).tdiv (k : Int)) = ((i / k : Nat) : Int) := fun k hk => by
    have : i / k ≤ i := Nat.div_le_self _ _
    rw [Int.tdiv_eq_ediv_of_nonneg (by omega), ← Int.natCast_ediv]
    generalize i / k = q at this ⊢
    exact wi64 (by omega) (by omega)
  have e1 := e 16777216 (by decide)
  have e2 := e 65536 (by decide)
  have e3 := e 256 (by decide)
  simp only [Int.cast_ofNat_Int] at e1 e2 e3
  rw [e1, e2, e3, wu8n, wu8n, wu8n, wu8n]; rfl
theorem hs_loop (s : Str) (hs : okLen s = true) (m : Nat) (hm : m < 4294967296) (fu : Nat) : ∀ (d n i : Nat), i + d = m → d < n →
    lpA prog gI_HmSt fu HmSt_b1 (HmSt_k1 _ rHmac (fun t => t) fu) n (some (HmSt_s1 (stretchS s i) (m : Int) (i : Int))) = some (.str (stretchS s m)) := by
  intro d
  induction d with
  | zero =>
    intro n i hi hn
    obtain ⟨n, rfl⟩ := Nat.exists_eq_succ_of_ne_zero (by omega : n ≠ 0)
    have e : i = m := by omega
    rw [lpA_succ, HmSt_r1, decide_eq_false (by omega), cond_false, kOut_some, HmSt_c1e0, e]
  | succ d ih =>
    intro n i hi hn
    obtain ⟨n, rfl⟩ := Nat.exists_eq_succ_of_ne_zero (by omega : n ≠ 0)
    have h := ih n (i + 1) (by omega) (by omega)
    rw [lpA_succ, HmSt_r1, decide_eq_true (by omega), cond_true, st_four i (by omega), run_Hmac (stretchS_len s i hs) rfl, Option.bind_some, Lib.join_one, wi64 (by omega) (by omega)]
    exact h
theorem hr_loop (s : Str) (hs : okLen s = true) (m : Nat) (hm : m < 4294967296) (fu : Nat) : ∀ (d n i : Nat), i + d = m → d < n →
    lpA prog gI_HrSt fu HrSt_b1 (HrSt_k1 _ rRefHmac (fun t => t) fu) n (some (HrSt_s1 (stretchS s i) (m : Int) (i : Int))) = some (.str (stretchS s m)) := by
  intro d
  induction d with
  | zero =>
    intro n i hi hn
    obtain ⟨n, rfl⟩ := Nat.exists_eq_succ_of_ne_zero (by omega : n ≠ 0)
    have e : i = m := by omega
    rw [lpA_succ, HrSt_r1, decide_eq_false (by omega), cond_false, kOut_some, HrSt_c1e0, e]
  | succ d ih =>
    intro n i hi hn
    obtain ⟨n, rfl⟩ := Nat.exists_eq_succ_of_ne_zero (by omega : n ≠ 0)
    have h := ih n (i + 1) (by omega) (by omega)
    rw [lpA_succ, HrSt_r1, decide_eq_true (by omega), cond_true, st_four' i (by omega), run_RefHmac (stretchS_len s i hs) rfl, Option.bind_some, wi64 (by omega) (by omega)]
    exact h
theorem ok_Stretch : CallOk prog n_hmac_Stretch sStretch := by
  refine afunc_okE (g := gI_HmSt) (fu := fun args => match args with | [_, .c (.s (.pl (.int _ n)))] => n.toNat + 1 | _ => 0) mixed gok_HmSt h_hmac_Stretch (by kernel_rfl) ?_
  intro args t ht
  unfold sStretch at ht
  simp only at ht
  split at ht
  · rename_i s n
    obtain ⟨h1, h2⟩ := ctrueS ht
    subst h2
    simp only [Bool.and_eq_true, decide_eq_true_eq] at h1
    refine (HmSt_ev ..).trans ?_
    have := hs_loop s h1.1 n.toNat (by omega) (n.toNat + 1) n.toNat (n.toNat + 1) 0 (by omega) (Nat.lt_succ_self _)
    rw [show (if (0 : Int) > n then (0 : Int) else n) = ((n.toNat : Nat) : Int) by split <;> omega]
    exact this
  · cases ht
theorem ok_RefStretch : CallOk prog n_opalineref03_Stretch sStretch := by
  refine afunc_okE (g := gI_HrSt) (fu := fun args => match args with | [_, .c (.s (.pl (.int _ n)))] => n.toNat + 1 | _ => 0) mixed gok_HrSt h_opalineref03_Stretch (by kernel_rfl) ?_
  intro args t ht
  unfold sStretch at ht
  simp only at ht
  split at ht
  · rename_i s n
    obtain ⟨h1, h2⟩ := ctrueS ht
    subst h2
    simp only [Bool.and_eq_true, decide_eq_true_eq] at h1
    refine (HrSt_ev ..).trans ?_
    by_cases h : 0 ≤ n
    · obtain ⟨n, rfl⟩ := Int.eq_ofNat_of_zero_le h
      have := hr_loop s h1.1 n (by omega) (n + 1) n (n + 1) 0 (by omega) (Nat.lt_succ_self _)
      exact this
    · show lpA prog gI_HrSt (n.toNat + 1) HrSt_b1 (HrSt_k1 _ rRefHmac (fun t => t) (n.toNat + 1)) (n.toNat + 1) (some (HrSt_s1 s n 0)) = _
      rw [lpA_succ, HrSt_r1, decide_eq_false (by omega), cond_false, kOut_some, HrSt_c1e0, show n.toNat = 0 by omega]; rfl
  · cases ht
/-! ## the chapter's example -/
noncomputable abbrev gI_Aw3 : Cg := g_Aw3 (List UInt8) rHmac (fun t => t) (PUnit) rTrue (List UInt8) rRefHex (fun t => t) (Bool) rHasPrefix (fun t => t)
theorem gok_Aw3 : CfOk prog gI_Aw3.c := ⟨gam_cons ok_Hmac <| gam_cons ok_Awake02 <| gam_cons ok_RefHex <| gam_cons ok_HasPrefix <| gam_nil, fun _ _ h => by cases h⟩
theorem ok_awake03 : CallOk prog n_opalinelaw03_awake sTrue := by
  refine afunc_okE (g := gI_Aw3) (fu := fun _ => 0) mixed gok_Aw3 h_opalinelaw03_awake (by kernel_rfl) ?_
  intro args t ht
  unfold sTrue at ht
  simp only at ht
  split at ht
  · cases ht
    refine (Aw3_ev ..).trans ?_
    have hl : (hmacS [74, 101, 102, 101] ([119, 104, 97, 116, 32, 100, 111, 32, 121, 97, 32, 119, 97, 110, 116, 32] ++ [102, 111, 114, 32, 110, 111, 116, 104, 105, 110, 103, 63])).length = 64 := hmacK_len _ _
    have hp : Lib.hasPrefix (hexS (hmacS [74, 101, 102, 101] ([119, 104, 97, 116, 32, 100, 111, 32, 121, 97, 32, 119, 97, 110, 116, 32] ++ [102, 111, 114, 32, 110, 111, 116, 104, 105, 110, 103, 63]))) [49, 54, 52, 98, 55, 97, 55, 98] = true := by decide +kernel
    have j := join_app [119, 104, 97, 116, 32, 100, 111, 32, 121, 97, 32, 119, 97, 110, 116, 32] [[102, 111, 114, 32, 110, 111, 116, 104, 105, 110, 103, 63]]
    rw [Lib.join_one] at j
    rw [run_Hmac (by decide) (by decide), Option.bind_some, show rTrue [] = some () from rfl, Option.bind_some, j]
    generalize hmacS [74, 101, 102, 101] ([119, 104, 97, 116, 32, 100, 111, 32, 121, 97, 32, 119, 97, 110, 116, 32] ++ [102, 111, 114, 32, 110, 111, 116, 104, 105, 110, 103, 63]) = x at hl hp ⊢
    rw [run_RefHex (by omega), Option.bind_some]
    show (rHasPrefix [AV.str (hexS x), AV.str [49, 54, 52, 98, 55, 97, 55, 98]]).bind _ = _
    rw [show rHasPrefix [AV.str (hexS x), AV.str [49, 54, 52, 98, 55, 97, 55, 98]] = some (Lib.hasPrefix (hexS x) [49, 54, 52, 98, 55, 97, 55, 98]) from rfl, Option.bind_some, hp, cond_true, decide_eq_true (by omega)]; rfl
  · cases ht
noncomputable abbrev gI_LHS : Cg := g_LHS (PUnit) rTrue (List UInt8) rStretch (fun t => t) (List UInt8) rStretch (fun t => t)
theorem gok_LHS : CfOk prog gI_LHS.c := ⟨gam_cons ok_awake03 <| gam_cons ok_Stretch <| gam_cons ok_RefStretch <| gam_nil, fun _ _ h => by cases h⟩
theorem run_Stretch {s : Str} {n : Int} (hk : okLen s = true) (h : n < 4294967296) : rStretch [.str s, .int .i64 n] = some (stretchS s n.toNat) := by
  have e : (okLen s && decide (n < 4294967296)) = true := by rw [hk, decide_eq_true h]; rfl
  simp only [rStretch, sStretch, e, cond_true]
def sTSI : Summ where
  T := Unit
  run := fun
    | [.c (.s (.pl (.str s))), .c (.s (.pl (.int .i64 n)))] => some ()
    | _ => none
  enc := fun _ => .bool true
theorem ok_LHS : CallOk prog n_opalinelaw03_HmacStretches sTSI := by
  refine afunc_okE (g := gI_LHS) (fu := fun _ => 0) mixed gok_LHS h_opalinelaw03_HmacStretches (by kernel_rfl) ?_
  intro args t ht
  unfold sTSI at ht
  simp only at ht
  split at ht
  · rename_i s n
    clear ht
    refine (LHS_ev ..).trans ?_
    rw [show rTrue [] = some () from rfl, Option.bind_some]
    by_cases h : 300 < s.length
    · rw [decide_eq_true (by omega : (300 : Int) < (s.length : Int)), Bool.true_or, cond_true]; rfl
    by_cases h2 : 40 < n
    · rw [decide_eq_true h2, Bool.or_true, cond_true]; rfl
    have hs : okLen s = true := okLen_of (by omega)
    rw [decide_eq_false (by omega), decide_eq_false h2, Bool.or_self, cond_false, run_Stretch hs (by omega), Option.bind_some, Option.bind_some, decide_eq_true rfl]
    by_cases h3 : 0 < n
    · rw [decide_eq_true h3]; rfl
    · rw [decide_eq_false h3, Option.bind_some, show n.toNat = 0 by omega, show stretchS s 0 = s from rfl, decide_eq_true rfl]; rfl
  · cases ht
end Go.Eng
