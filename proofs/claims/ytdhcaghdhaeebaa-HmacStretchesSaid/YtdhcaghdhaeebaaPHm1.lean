/- hmac and its document: their contracts. -/
import Derived.Test.YtdhcaghdhaeebaaHmS
import Derived.Test.YtdhcaghdhaeebaaGHm1
import Derived.Test.YtdhcaghdhaeebaaGHm2
namespace Go.Eng
open Go Go.Proofs
set_option linter.unusedVariables false
set_option linter.unusedSimpArgs false
noncomputable abbrev gI_HmMk : Cg := g_HmMk 
theorem gok_HmMk : CfOk prog gI_HmMk.c := ⟨gam_nil, fun _ _ h => by cases h⟩
noncomputable abbrev gI_HmTx : Cg := g_HmTx 
theorem gok_HmTx : CfOk prog gI_HmTx.c := ⟨gam_nil, fun _ _ h => by cases h⟩
noncomputable abbrev gI_HmPd : Cg := g_HmPd 
theorem gok_HmPd : CfOk prog gI_HmPd.c := ⟨gam_cons ok_RefH <| gam_nil, fun _ _ h => by cases h⟩
theorem xor8 (x y : Nat) (hx : x < 256) (hy : y < 256) : bXor .u8 (x : Int) (y : Int) = ((x ^^^ y : Nat) : Int) := by
  have : ∀ x y : Fin 256, bXor .u8 (x.1 : Int) (y.1 : Int) = ((x.1 ^^^ y.1 : Nat) : Int) := by
    intro x y
    unfold bXor
    have e : (BitVec.ofInt (IntKind.bits .u8) (x.1 : Int) ^^^ BitVec.ofInt (IntKind.bits .u8) (y.1 : Int)).toNat = x.1 ^^^ y.1 := by
      show (BitVec.ofInt 8 (x.1 : Int) ^^^ BitVec.ofInt 8 (y.1 : Int)).toNat = x.1 ^^^ y.1
      rw [BitVec.toNat_xor, BitVec.ofInt_natCast, BitVec.ofInt_natCast, BitVec.toNat_ofNat, BitVec.toNat_ofNat, Nat.mod_eq_of_lt x.2, Nat.mod_eq_of_lt y.2]
    rw [e, wu8n, Nat.mod_eq_of_lt]
    exact Nat.xor_lt_two_pow (n := 8) x.2 y.2
  exact this ⟨x, hx⟩ ⟨y, hy⟩
theorem tk_getD {α β : Type} (s : List α) (f g : α → β) (i : Nat) (h : i < s.length) (d : β) (e : α) : ((s.take i).map f ++ (s.drop i).map g).getD i d = g (s.getD i e) := by
  rw [List.getD_eq_getElem?_getD, List.getElem?_append_right (by simp; omega), List.length_map, List.length_take, Nat.min_eq_left (by omega), Nat.sub_self, List.drop_eq_getElem_cons h, List.map_cons, List.getElem?_cons_zero, List.getD_eq_getElem?_getD, List.getElem?_eq_getElem h]; rfl
theorem tk_set {α β : Type} (s : List α) (f g : α → β) (i : Nat) (h : i < s.length) (e : α) : ((s.take i).map f ++ (s.drop i).map g).set i (f (s.getD i e)) = (s.take (i + 1)).map f ++ (s.drop (i + 1)).map g := by
  have e0 : s.getD i e = s[i] := by rw [List.getD_eq_getElem?_getD, List.getElem?_eq_getElem h]; rfl
  rw [List.set_append_right _ _ (by simp; omega), List.length_map, List.length_take, Nat.min_eq_left (by omega), Nat.sub_self, List.drop_eq_getElem_cons h, List.map_cons, List.set_cons_zero, e0, List.take_add_one, List.getElem?_eq_getElem h, List.map_append, List.append_assoc]; rfl
def xf (x : Nat) (c : UInt8) : Int := ((c.toNat ^^^ x : Nat) : Int)
theorem mk_loop (s : Str) (hl : s.length ≤ 1099511627776) (x : Nat) (hx : x < 256) (m fu : Nat) : ∀ (d n i : Nat), i + d = s.length → d < n →
    lpA prog gI_HmMk fu HmMk_b1 (HmMk_k1 fu) n (some (HmMk_s1 (x : Int) s.length (s.length : Int) (i : Int) m ((s.take i).map (xf x) ++ (s.drop i).map ofB))) = some (.str (maskS s x)) := by
  intro d
  induction d with
  | zero =>
    intro n i hi hn
    obtain ⟨n, rfl⟩ := Nat.exists_eq_succ_of_ne_zero (by omega : n ≠ 0)
    have e : i = s.length := by omega
    rw [lpA_succ, HmMk_r1, decide_eq_false (by omega), cond_false, kOut_some, HmMk_c1e0, e, List.take_length, List.drop_length, List.map_nil, List.append_nil, List.map_map]; rfl
  | succ d ih =>
    intro n i hi hn
    obtain ⟨n, rfl⟩ := Nat.exists_eq_succ_of_ne_zero (by omega : n ≠ 0)
    have h := ih n (i + 1) (by omega) (by omega)
    have hc := (s.getD i 0).toNat_lt
    rw [lpA_succ, HmMk_r1, decide_eq_true (by omega), cond_true, decide_eq_true (by omega), cond_true, cond_true, Int.toNat_natCast, tk_getD s _ _ i (by omega) _ 0]
    have hx' : bXor .u8 (ofB (s.getD i 0)) (x : Int) = xf x (s.getD i 0) := xor8 _ _ hc hx
    rw [hx', tk_set s (xf x) ofB i (by omega) 0, wi64 (by omega) (by omega)]
    exact h
theorem ok_Mask : CallOk prog n_hmac_keyed_mask sMask := by
  refine afunc_okE (g := gI_HmMk) (fu := fun args => match args with | .c (.s (.pl (.str s))) :: _ => s.length + 1 | _ => 0) mixed gok_HmMk h_hmac_keyed_mask (by kernel_rfl) ?_
  intro args t ht
  unfold sMask at ht
  simp only at ht
  split at ht
  · rename_i s x
    obtain ⟨h1, h2⟩ := ctrueS ht
    subst h2
    simp only [Bool.and_eq_true, decide_eq_true_eq, okLen, Nat.ble_eq] at h1
    obtain ⟨x, rfl⟩ := Int.eq_ofNat_of_zero_le h1.2.1
    refine (HmMk_ev ..).trans ?_
    rw [decide_eq_true (by omega), cond_true, Int.toNat_natCast]
    have := mk_loop s (by omega) x (by omega) s.length (s.length + 1) s.length (s.length + 1) 0 (by omega) (Nat.lt_succ_self _)
    exact this
  · cases ht
theorem ok_HText : CallOk prog n_hmac_text sText := by
  refine afunc_okE (g := gI_HmTx) (fu := fun _ => 0) mixed gok_HmTx h_hmac_text (by kernel_rfl) ?_
  intro args t ht
  unfold sText at ht
  simp only at ht
  split at ht
  · rename_i s
    obtain ⟨h1, h2⟩ := ctrueS ht
    subst h2
    have h1 := Nat.eq_of_beq_eq_true h1
    refine (HmTx_ev ..).trans ?_
    rw [List.drop_zero, List.take_of_length_le (by omega)]; rfl
  · cases ht
/-! ## a key as a block -/
theorem hS_len (s : Str) : (hS s).length = 64 := by rw [hS, List.length_map, up_len, sumB_len]
theorem keyS_len (key : Str) : (keyS key).length ≤ 128 := by
  unfold keyS
  split
  · rw [hS_len]; decide
  · omega
theorem wholeS_len (key : Str) : (wholeS key).length = 128 := by
  have := keyS_len key
  rw [wholeS, List.length_append, List.length_replicate]; omega
theorem wholeS_getD (key : Str) (i : Nat) : (wholeS key).getD i 0 = if i < (keyS key).length then (keyS key).getD i 0 else 0 := by
  rw [wholeS, List.getD_eq_getElem?_getD]
  split
  · rename_i h
    rw [List.getElem?_append_left h, List.getD_eq_getElem?_getD]
  · rename_i h
    rw [List.getElem?_append_right (by omega), List.getElem?_replicate]
    split <;> rfl
theorem pd_loop (key : Str) (x : Nat) (hx : x < 256) (fu : Nat) : ∀ (d n i : Nat), i + d = 128 → d < n →
    lpA prog gI_HmPd fu HmPd_b1 (HmPd_k1 fu) n (some (HmPd_s1 (keyS key) (x : Int) 128 (i : Int) 128 (((wholeS key).take i).map (xf x) ++ ((wholeS key).drop i).map (fun _ => 0)))) = some (.str (maskS (wholeS key) x)) := by
  have hw := wholeS_len key
  have hk := keyS_len key
  intro d
  induction d with
  | zero =>
    intro n i hi hn
    obtain ⟨n, rfl⟩ := Nat.exists_eq_succ_of_ne_zero (by omega : n ≠ 0)
    have e : i = 128 := by omega
    subst e
    rw [lpA_succ, HmPd_r1, decide_eq_false (by decide), cond_false, kOut_some, HmPd_c1e0, List.take_of_length_le (by omega), List.drop_eq_nil_of_le (by omega), List.map_nil, List.append_nil, List.map_map]; rfl
  | succ d ih =>
    intro n i hi hn
    obtain ⟨n, rfl⟩ := Nat.exists_eq_succ_of_ne_zero (by omega : n ≠ 0)
    have h := ih n (i + 1) (by omega) (by omega)
    have hc := ((keyS key).getD i 0).toNat_lt
    have s := tk_set (wholeS key) (xf x) (fun _ => 0) i (by omega) 0
    have g := wholeS_getD key i
    rw [lpA_succ, HmPd_r1, decide_eq_true (by omega), cond_true, decide_eq_true (by omega), cond_true]
    by_cases c : i < (keyS key).length
    · rw [if_pos c] at g
      rw [decide_eq_true (by omega), cond_true, decide_eq_true (by omega), cond_true, cond_true, Int.toNat_natCast, List.set_set, wi64 (by omega) (by omega)]
      rw [g] at s
      have hx' : bXor .u8 ((((keyS key).getD i 0).toNat : Nat) : Int) (x : Int) = xf x ((keyS key).getD i 0) := xor8 _ _ hc hx
      rw [hx', s]
      exact h
    · rw [if_neg c] at g
      rw [decide_eq_false (by omega), cond_false, Int.toNat_natCast, wi64 (by omega) (by omega)]
      rw [g] at s
      rw [show xf x 0 = (x : Int) by unfold xf; rw [show (0 : UInt8).toNat = 0 from rfl, Nat.zero_xor]] at s
      rw [s]
      exact h
theorem wholeS_zero (key : Str) (x : Nat) : ((wholeS key).take 0).map (xf x) ++ ((wholeS key).drop 0).map (fun _ => (0 : Int)) = List.replicate 128 0 := by
  rw [List.take_zero, List.map_nil, List.nil_append, List.drop_zero, List.map_const', wholeS_len]
theorem ok_Pad : CallOk prog n_opalineref03_pad sPad := by
  refine afunc_okE (g := gI_HmPd) (fu := fun _ => 129) mixed gok_HmPd h_opalineref03_pad (by kernel_rfl) ?_
  intro args t ht
  unfold sPad at ht
  simp only at ht
  split at ht
  · rename_i s x
    obtain ⟨h1, h2⟩ := ctrueS ht
    subst h2
    simp only [Bool.and_eq_true, decide_eq_true_eq, okLen, Nat.ble_eq] at h1
    obtain ⟨x, rfl⟩ := Int.eq_ofNat_of_zero_le h1.2.1
    refine (HmPd_ev ..).trans ?_
    rw [Int.toNat_natCast]
    have := pd_loop s x (by omega) 129 128 129 0 (by omega) (by decide)
    rw [wholeS_zero] at this
    by_cases h : 128 < s.length
    · rw [decide_eq_true (by omega), cond_true, run_RefH (by omega), Option.bind_some]
      rw [show keyS s = hS s from if_pos h] at this
      exact this
    · rw [decide_eq_false (by omega), cond_false]
      rw [show keyS s = s from if_neg h] at this
      exact this
  · cases ht
end Go.Eng
