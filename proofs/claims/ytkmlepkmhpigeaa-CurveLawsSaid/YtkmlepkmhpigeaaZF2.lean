/- Texts of this claim, one behind the other: PFe3, GFe2, PFe4, PFe5. -/
import Derived.KernelRfl
import Derived.Test.YtkmlepkmhpigeaaEngNums
import Derived.Test.YtkmlepkmhpigeaaPLT2
import Derived.Test.YtkmlepkmhpigeaaZF1
import Derived.Test.YtkmlepkmhpigeaaZR2
/- field: of great numbers, of digits, of bytes; its bytes. -/
namespace Go.Eng
open Go Go.Proofs
set_option linter.unusedVariables false
set_option linter.unusedSimpArgs false
set_option maxRecDepth 4000
noncomputable abbrev gI_FWi : Cg := g_FWi (Int) rOf (fun t => [t, 0, 0, 0, 0, 0, 0, 0]) (Nat) rShift (fun t => lim 8 t) (Nat × Bool) rSub (fun t => lim 8 t.fst) (fun t => t.snd) (Nat × Nat × Int) rDiv (fun t => lim 8 t.fst) (fun t => lim 8 t.snd.fst) (fun t => t.snd.snd)
theorem gok_FWi : CfOk prog gI_FWi.c := ⟨gam_cons ok_Of <| gam_cons ok_Shift <| gam_cons ok_Sub <| gam_cons ok_Div <| gam_nil, fun _ _ h => by cases h⟩
theorem lim8_hd (n : Nat) : (lim 8 n).getD 0 0 = ((n % 18446744073709551616 : Nat) : Int) := by
  have := getD_lim 8 0 n (by omega)
  rwa [Nat.pow_zero, Nat.div_one] at this
theorem mskL (n : Nat) : bAnd .u64 ((lim 8 n).getD 0 0) 2251799813685247 = ((n % 2251799813685248 : Nat) : Int) := by
  rw [lim8_hd, msk _ (Nat.mod_lt _ (by decide))]
  congr 1
  omega
theorem shN {r k : Nat} (h : k < 512) (hk : 0 < k) : shiftN r (-(k : Int)) = r / 2 ^ k := by
  unfold shiftN
  rw [decide_eq_false (by omega), decide_eq_false (by omega), Bool.false_or, cond_false, decide_eq_true (by omega), cond_true, Int.neg_neg, Int.toNat_natCast]
theorem ok_Wide : CallOk prog n_field_wide sWide := by
  refine afunc_okE (g := gI_FWi) (fu := fun _ => 6) mixed gok_FWi h_field_wide (by kernel_rfl) ?_
  intro args t ht
  obtain ⟨a, rfl, ha, rfl⟩ := run1_ok (F := fun a => fe (val a % P25)) ht
  refine (FWi_ev ..).trans ?_
  have s1 : rShift [AV.agg (TRow.ints IntKind.u64 [1, 0, 0, 0, 0, 0, 0, 0]) 8, AV.int IntKind.i64 255] = some 57896044618658097711785492504343953926634992332820282019728792003956564819968 := (run_Shift (b := [1, 0, 0, 0, 0, 0, 0, 0]) (by decide) 255).trans (by decide +kernel)
  have s2 : rSub [AV.agg (TRow.ints IntKind.u64 (lim 8 57896044618658097711785492504343953926634992332820282019728792003956564819968)) 8, AV.agg (TRow.ints IntKind.u64 [19, 0, 0, 0, 0, 0, 0, 0]) 8] = some (M512 + P25, true) :=
    (run_Sub (ok8_lim _) (b := [19, 0, 0, 0, 0, 0, 0, 0]) (by decide)).trans (by decide +kernel)
  have s3 : rDiv [AV.agg (TRow.ints IntKind.u64 a) 8, AV.agg (TRow.ints IntKind.u64 (lim 8 (M512 + P25))) 8] = some (val a / P25, val a % P25, 0) := by
    refine (run_Div ha (ok8_lim _)).trans ?_
    have : val (lim 8 (M512 + P25)) = P25 := by decide +kernel
    rw [divW, this, if_neg (by decide)]
  have o1 : rOf [AV.int IntKind.u64 1] = some 1 := rfl
  have o2 : rOf [AV.int IntKind.u64 19] = some 19 := rfl
  rw [o1, Option.bind_some, s1, Option.bind_some, o2, Option.bind_some, s2, Option.bind_some, s3, Option.bind_some]
  show lpA prog gI_FWi 6 FWi_b1 _ 6 (some _) = _
  dsimp only
  have hr : val a % P25 < P25 := modP_lt _
  generalize val a % P25 = r at *
  have hv : val (lim 8 r) = r := by
    rw [val_lim8]; exact Nat.mod_eq_of_lt (Nat.lt_trans hr (by decide))
  have h : ∀ k : Nat, 0 < k → k < 512 → rShift [AV.agg (TRow.ints IntKind.u64 (lim 8 r)) 8, AV.int IntKind.i64 (-(k : Int))] = some (r / 2 ^ k) := fun k h0 h1 => by
    refine (run_Shift (ok8_lim r) _).trans ?_
    rw [hv, shN h1 h0]
  have h0 : rShift [AV.agg (TRow.ints IntKind.u64 (lim 8 r)) 8, AV.int IntKind.i64 0] = some r := by
    refine (run_Shift (ok8_lim r) _).trans ?_
    rw [hv]; simp [shiftN]
  have t1 : rShift [AV.agg (TRow.ints IntKind.u64 (lim 8 r)) 8, AV.int IntKind.i64 (-51)] = some (r / 2251799813685248) := h 51 (by omega) (by omega)
  have t2 : rShift [AV.agg (TRow.ints IntKind.u64 (lim 8 r)) 8, AV.int IntKind.i64 (-102)] = some (r / 5070602400912917605986812821504) := h 102 (by omega) (by omega)
  have t3 : rShift [AV.agg (TRow.ints IntKind.u64 (lim 8 r)) 8, AV.int IntKind.i64 (-153)] = some (r / 11417981541647679048466287755595961091061972992) := h 153 (by omega) (by omega)
  have t4 : rShift [AV.agg (TRow.ints IntKind.u64 (lim 8 r)) 8, AV.int IntKind.i64 (-204)] = some (r / 25711008708143844408671393477458601640355247900524685364822016) := h 204 (by omega) (by omega)
  rw [lpA_succ, FWi_m0, h0, Option.bind_some, mskL, lpA_succ, FWi_m1, t1, Option.bind_some, mskL, lpA_succ, FWi_m2, t2, Option.bind_some, mskL, lpA_succ, FWi_m3, t3, Option.bind_some, mskL, lpA_succ, FWi_m4, t4, Option.bind_some, mskL, lpA_succ, FWi_m5, kOut_some, FWi_c1e0]
  rfl
theorem run_Wide {a : List Int} (h : ok8 a = true) : rWide [W8 a] = some (fe (val a % P25)) := by
  simp only [rWide, sWide]
  exact run1_some (fun a => fe (val a % P25)) h
noncomputable abbrev gI_FDe : Cg := g_FDe (Nat × Int) rDecimal (fun t => lim 8 t.fst) (fun t => t.snd) (Fe) rWide (fun t => ↑t.a) (fun t => ↑t.b) (fun t => ↑t.c) (fun t => ↑t.d) (fun t => ↑t.e)
theorem gok_FDe : CfOk prog gI_FDe.c := ⟨gam_cons ok_Decimal <| gam_cons ok_Wide <| gam_nil, fun _ _ h => by cases h⟩
theorem decE_lt (s : Str) : (decE s).1 < M512 := by
  unfold decE
  cases decOk s
  · exact M512_pos
  · rw [cond_true]
    cases h : Nat.blt (decV 0 s) M512
    · exact M512_pos
    · exact Nat.blt_eq.mp h
theorem ok_FDec : CallOk prog n_field_Decimal sFDec := by
  refine afunc_okE (g := gI_FDe) (fu := fun _ => 0) mixed gok_FDe h_field_Decimal (by kernel_rfl) ?_
  intro args t ht
  unfold sFDec at ht
  simp only at ht
  split at ht
  · rename_i s
    obtain ⟨h1, h2⟩ := ctrueS ht
    subst h2
    refine (FDe_ev ..).trans ?_
    have c := run_Wide (ok8_lim (decE s).1)
    rw [val_lim8, Nat.mod_eq_of_lt (decE_lt s), W8] at c
    rw [run_Decimal (of_decide_eq_true h1), Option.bind_some]
    show (rWide [AV.agg (TRow.ints IntKind.u64 (lim 8 (decE s).1)) 8]).bind _ = _
    rw [c]; rfl
  · cases ht
theorem run_FDec {s : Str} (h : s.length ≤ 1099511627776) : rFDec [.str s] = some (fe ((decE s).1 % P25)) := by
  simp only [rFDec, sFDec]
  rw [decide_eq_true h]; rfl
theorem ok32_ok {a : List Int} (h : ok32 a = true) : a.length = 32 ∧ okB a = true := by
  simp only [ok32, Bool.and_eq_true] at h
  exact ⟨Nat.eq_of_beq_eq_true h.1, h.2⟩
theorem runB1_ok {T : Type} {F : List Int → T} {args : List AV} {t : T} (h : runB1 F args = some t) : ∃ a, args = [eB32 a] ∧ ok32 a = true ∧ t = F a := by
  unfold runB1 at h
  split at h
  · obtain ⟨h1, h2⟩ := ctrueS h
    exact ⟨_, rfl, h1, h2.symm⟩
  · cases h
theorem run_B1 {T : Type} (F : List Int → T) {a : List Int} (h : ok32 a = true) : runB1 F [eB32 a] = some (F a) := by
  simp only [runB1, eB32]
  rw [h]; rfl
/-! ## bytes -/
end Go.Eng
/- GENERATED by gen.py: what the evaluator comes to at these functions. -/
namespace Go.Eng
open Go Go.Proofs
set_option linter.unusedVariables false
set_option linter.unusedSimpArgs false
noncomputable def g_FMd (T0 : Type) (R0 : List AV → Option T0) (f0a : T0 → List Int) (f0b : T0 → Nat) (f0c : T0 → Bool) : Cg := ⟨⟨gam [(n_opalineref01_Decimal, ⟨R0, fun t => AV.tup [CV.s (SV.dat (TRow.ints IntKind.i64 (f0a t)) (f0b t) 1), CV.s (SV.pl (Pl.bool (f0c t)))]⟩)], [], noE⟩, []⟩
section
variable (T0 : Type) (R0 : List AV → Option T0) (f0a : T0 → List Int) (f0b : T0 → Nat) (f0c : T0 → Bool)
theorem FMd_ev (fu : Nat) (s : Str) : afunc prog f_opalineref01_Mod (g_FMd T0 R0 f0a f0b f0c) fu [AV.str s] =
  (R0 [AV.str s]).bind fun (t : T0) => some (AV.s (SV.dat (TRow.ints IntKind.i64 (f0a t)) (f0b t) (1 : Nat))) := by kernel_rfl
end
section
variable (T0 : Type) (R0 : List AV → Option T0) (f0a : T0 → List Int) (f0b : T0 → Nat)
end
section
variable (T0 : Type) (R0 : List AV → Option T0) (f0a : T0 → List Int) (f0b : T0 → Nat) (T1 : Type) (R1 : List AV → Option T1) (f1a : T1 → List Int) (f1b : T1 → Nat) (T2 : Type) (R2 : List AV → Option T2) (f2a : T2 → List Int) (f2b : T2 → Nat) (T3 : Type) (R3 : List AV → Option T3) (f3a : T3 → Int) (T4 : Type) (R4 : List AV → Option T4) (f4a : T4 → List Int) (f4b : T4 → Nat)
end
section
variable (T0 : Type) (R0 : List AV → Option T0) (f0a : T0 → List Int) (f0b : T0 → Nat) (T1 : Type) (R1 : List AV → Option T1) (f1a : T1 → List Int) (f1b : T1 → Nat)
end
section
variable (T0 : Type) (R0 : List AV → Option T0) (f0a : T0 → List Int) (f0b : T0 → Nat) (T1 : Type) (R1 : List AV → Option T1) (f1a : T1 → List Int) (f1b : T1 → Nat)
end
section
variable (T0 : Type) (R0 : List AV → Option T0) (f0a : T0 → List Int) (f0b : T0 → Nat) (T1 : Type) (R1 : List AV → Option T1) (f1a : T1 → List Int) (f1b : T1 → Nat) (T2 : Type) (R2 : List AV → Option T2) (f2a : T2 → List Int) (f2b : T2 → Nat) (T3 : Type) (R3 : List AV → Option T3) (f3a : T3 → List Int) (f3b : T3 → Nat)
end
section
variable (T0 : Type) (R0 : List AV → Option T0) (f0a : T0 → List Int) (f0b : T0 → Nat) (T1 : Type) (R1 : List AV → Option T1) (f1a : T1 → List Int) (f1b : T1 → Nat)
end
noncomputable def g_FAw (T0 : Type) (R0 : List AV → Option T0) (f0a : T0 → Int) (f0b : T0 → Int) (f0c : T0 → Int) (f0d : T0 → Int) (f0e : T0 → Int) (T1 : Type) (R1 : List AV → Option T1) (f1a : T1 → Int) (f1b : T1 → Int) (f1c : T1 → Int) (f1d : T1 → Int) (f1e : T1 → Int) (T2 : Type) (R2 : List AV → Option T2) (T3 : Type) (R3 : List AV → Option T3) (f3a : T3 → Int) (f3b : T3 → Int) (f3c : T3 → Int) (f3d : T3 → Int) (f3e : T3 → Int) (T4 : Type) (R4 : List AV → Option T4) (f4a : T4 → Bool) (T5 : Type) (R5 : List AV → Option T5) (f5a : T5 → Bool) (T6 : Type) (R6 : List AV → Option T6) (f6a : T6 → Int) (f6b : T6 → Int) (f6c : T6 → Int) (f6d : T6 → Int) (f6e : T6 → Int) : Cg := ⟨⟨gam [(n_field_Of, ⟨R0, fun t => AV.agg (TRow.ints IntKind.u64 [(f0a t), (f0b t), (f0c t), (f0d t), (f0e t)]) 5⟩), (n_field_Element_Invert, ⟨R1, fun t => AV.agg (TRow.ints IntKind.u64 [(f1a t), (f1b t), (f1c t), (f1d t), (f1e t)]) 5⟩), (n_opalinelaw01_Awake, ⟨R2, fun t => AV.bool (true)⟩), (n_field_Element_Mul, ⟨R3, fun t => AV.agg (TRow.ints IntKind.u64 [(f3a t), (f3b t), (f3c t), (f3d t), (f3e t)]) 5⟩), (n_field_Element_Same, ⟨R4, fun t => AV.bool (f4a t)⟩), (n_field_Element_Zero, ⟨R5, fun t => AV.bool (f5a t)⟩), (n_field_Decimal, ⟨R6, fun t => AV.agg (TRow.ints IntKind.u64 [(f6a t), (f6b t), (f6c t), (f6d t), (f6e t)]) 5⟩)], [], noE⟩, []⟩
section
variable (T0 : Type) (R0 : List AV → Option T0) (f0a : T0 → Int) (f0b : T0 → Int) (f0c : T0 → Int) (f0d : T0 → Int) (f0e : T0 → Int) (T1 : Type) (R1 : List AV → Option T1) (f1a : T1 → Int) (f1b : T1 → Int) (f1c : T1 → Int) (f1d : T1 → Int) (f1e : T1 → Int) (T2 : Type) (R2 : List AV → Option T2) (T3 : Type) (R3 : List AV → Option T3) (f3a : T3 → Int) (f3b : T3 → Int) (f3c : T3 → Int) (f3d : T3 → Int) (f3e : T3 → Int) (T4 : Type) (R4 : List AV → Option T4) (f4a : T4 → Bool) (T5 : Type) (R5 : List AV → Option T5) (f5a : T5 → Bool) (T6 : Type) (R6 : List AV → Option T6) (f6a : T6 → Int) (f6b : T6 → Int) (f6c : T6 → Int) (f6d : T6 → Int) (f6e : T6 → Int)
theorem FAw_ev (fu : Nat) : afunc prog f_opalinelaw05_awake (g_FAw T0 R0 f0a f0b f0c f0d f0e T1 R1 f1a f1b f1c f1d f1e T2 R2 T3 R3 f3a f3b f3c f3d f3e T4 R4 f4a T5 R5 f5a T6 R6 f6a f6b f6c f6d f6e) fu [] =
  (R0 [AV.int IntKind.u64 (2 : Int)]).bind fun (t : T0) =>
    (R1 [AV.agg (TRow.ints IntKind.u64 [f0a t, f0b t, f0c t, f0d t, f0e t]) (5 : Nat)]).bind fun (t : T1) =>
      (R2 []).bind fun (t_1 : T2) =>
        (R0 [AV.int IntKind.u64 (2 : Int)]).bind fun (t_2 : T0) =>
          (R3 [AV.agg (TRow.ints IntKind.u64 [f1a t, f1b t, f1c t, f1d t, f1e t]) (5 : Nat), AV.agg (TRow.ints IntKind.u64 [f0a t_2, f0b t_2, f0c t_2, f0d t_2, f0e t_2]) (5 : Nat)]).bind
            fun (t_3 : T3) =>
            (R0 [AV.int IntKind.u64 (1 : Int)]).bind fun (t_4 : T0) =>
              (R4 [AV.agg (TRow.ints IntKind.u64 [f3a t_3, f3b t_3, f3c t_3, f3d t_3, f3e t_3]) (5 : Nat), AV.agg (TRow.ints IntKind.u64 [f0a t_4, f0b t_4, f0c t_4, f0d t_4, f0e t_4]) (5 : Nat)]).bind
                fun (t_5 : T4) =>
                bif f4a t_5 then
                  (R5 [AV.agg (TRow.ints IntKind.u64 [f1a t, f1b t, f1c t, f1d t, f1e t]) (5 : Nat)]).bind fun (t : T5) =>
                    bif !f5a t then
                      (R6
                            [AV.str
                                ([(53 : UInt8), (55 : UInt8), (56 : UInt8), (57 : UInt8), (54 : UInt8), (48 : UInt8), (52 : UInt8), (52 : UInt8), (54 : UInt8), (49 : UInt8), (56 : UInt8), (54 : UInt8),
                                      (53 : UInt8), (56 : UInt8), (48 : UInt8), (57 : UInt8), (55 : UInt8), (55 : UInt8), (49 : UInt8), (49 : UInt8), (55 : UInt8), (56 : UInt8), (53 : UInt8),
                                      (52 : UInt8), (57 : UInt8), (50 : UInt8), (53 : UInt8), (48 : UInt8), (52 : UInt8), (51 : UInt8), (52 : UInt8), (51 : UInt8), (57 : UInt8), (53 : UInt8),
                                      (51 : UInt8), (57 : UInt8), (50 : UInt8), (54 : UInt8)].append
                                  [(54 : UInt8), (51 : UInt8), (52 : UInt8), (57 : UInt8), (57 : UInt8), (50 : UInt8), (51 : UInt8), (51 : UInt8), (50 : UInt8), (56 : UInt8), (50 : UInt8), (48 : UInt8),
                                    (50 : UInt8), (56 : UInt8), (50 : UInt8), (48 : UInt8), (49 : UInt8), (57 : UInt8), (55 : UInt8), (50 : UInt8), (56 : UInt8), (55 : UInt8), (57 : UInt8),
                                    (50 : UInt8), (48 : UInt8), (48 : UInt8), (51 : UInt8), (57 : UInt8), (53 : UInt8), (54 : UInt8), (53 : UInt8), (54 : UInt8), (52 : UInt8), (56 : UInt8),
                                    (49 : UInt8), (57 : UInt8), (57 : UInt8), (53 : UInt8), (48 : UInt8)])]).bind
                        fun (t : T6) =>
                        (R0 [AV.int IntKind.u64 (1 : Int)]).bind fun (t_6 : T0) =>
                          (R4 [AV.agg (TRow.ints IntKind.u64 [f6a t, f6b t, f6c t, f6d t, f6e t]) (5 : Nat), AV.agg (TRow.ints IntKind.u64 [f0a t_6, f0b t_6, f0c t_6, f0d t_6, f0e t_6]) (5 : Nat)]).bind
                            fun (t : T4) => some (AV.bool (f4a t))
                    else some (AV.bool false)
                else some (AV.bool false) := by kernel_rfl
end
noncomputable def g_FA1 (T0 : Type) (R0 : List AV → Option T0) : Cg := ⟨⟨gam [(n_opalinelaw01_awake, ⟨R0, fun t => AV.bool (true)⟩)], [], noE⟩, []⟩
section
variable (T0 : Type) (R0 : List AV → Option T0)
theorem FA1_ev (fu : Nat) : afunc prog f_opalinelaw01_Awake (g_FA1 T0 R0) fu [] =
  (R0 []).bind fun (t : T0) => some (AV.bool true) := by kernel_rfl
end
end Go.Eng
/- The document's numbers modulo 2^255 - 19: their contracts. -/
namespace Go.Eng
open Go Go.Proofs
set_option linter.unusedVariables false
set_option linter.unusedSimpArgs false
set_option maxRecDepth 4000
noncomputable abbrev gI_FMd : Cg := g_FMd (Nat × Bool) rRefDecimal (fun t => nb t.fst) (fun t => (nb t.fst).length) (fun t => t.2)
theorem gok_FMd : CfOk prog gI_FMd.c := ⟨gam_cons ok_RefDecimal <| gam_nil, fun _ _ h => by cases h⟩
theorem ok_RMod : CallOk prog n_opalineref01_Mod sRMod := by
  refine afunc_okE (g := gI_FMd) (fu := fun _ => 0) mixed gok_FMd h_opalineref01_Mod (by kernel_rfl) ?_
  intro args t ht
  unfold sRMod at ht
  simp only at ht
  split at ht
  · rename_i s
    obtain ⟨h1, h2⟩ := ctrueS ht
    subst h2
    refine (FMd_ev ..).trans ?_
    rw [run_RefDecimal (of_decide_eq_true h1), Option.bind_some]
    cases decOk s <;> rfl
  · cases ht
/-! ## modulo p -/
theorem nb_len_le {x k : Nat} (h : x < 256 ^ k) : (nb x).length ≤ k := nb_len h
theorem lo_split (k : Nat) : ∀ (j x : Nat), lo (j + k) x = lo j x ++ lo k (x / 256 ^ j) := by
  intro j
  induction j with
  | zero => intro x; simp [lo]
  | succ j ih =>
    intro x
    rw [show j + 1 + k = (j + k) + 1 by omega, lo, lo, ih, List.cons_append, Nat.div_div_eq_div_mul, Nat.pow_succ, Nat.mul_comm 256]
/-! ## of bytes, its bytes -/
theorem rt_setF (R : List Int) (N i : Nat) (hN : R.length = N) (hi : i < N) : (R.take i ++ List.replicate (N - i) 0).set i (R.getD i 0) = R.take (i + 1) ++ List.replicate (N - (i + 1)) 0 := by
  have e : R.take (i + 1) = R.take i ++ [R.getD i 0] := by
    rw [List.take_add_one, List.getElem?_eq_getElem (by omega), List.getD_eq_getElem?_getD, List.getElem?_eq_getElem (by omega)]; rfl
  have hl : (R.take i).length = i := by rw [List.length_take]; omega
  rw [e, List.set_append_right _ _ (by rw [hl]; omega), hl, Nat.sub_self, show N - i = N - (i + 1) + 1 by omega, List.replicate_succ, List.set_cons_zero, List.append_assoc]; rfl
/-! ## sums, differences, products -/
end Go.Eng
/- field: the chapter's example. -/
namespace Go.Eng
open Go Go.Proofs
set_option linter.unusedVariables false
set_option linter.unusedSimpArgs false
set_option maxRecDepth 4000
noncomputable abbrev gI_FA1 : Cg := g_FA1 (PUnit) rTrue
theorem gok_FA1 : CfOk prog gI_FA1.c := ⟨gam_cons ok_awake01 <| gam_nil, fun _ _ h => by cases h⟩
theorem ok_Awake01 : CallOk prog n_opalinelaw01_Awake sTrue := by
  refine afunc_okE (g := gI_FA1) (fu := fun _ => 0) mixed gok_FA1 h_opalinelaw01_Awake (by kernel_rfl) ?_
  intro args t ht
  unfold sTrue at ht
  simp only at ht
  split at ht
  · exact (FA1_ev ..).trans rfl
  · cases ht
theorem aw_inv : samF (mulF (invF (fe 2)) (fe 2)) (fe 1) = true := by decide +kernel
theorem aw_zer : zerF (invF (fe 2)) = false := by decide +kernel
noncomputable abbrev gI_FAw : Cg := g_FAw (Fe) rFOf (fun t => ↑t.a) (fun t => ↑t.b) (fun t => ↑t.c) (fun t => ↑t.d) (fun t => ↑t.e) (Fe) rInv (fun t => ↑t.a) (fun t => ↑t.b) (fun t => ↑t.c) (fun t => ↑t.d) (fun t => ↑t.e) (PUnit) rTrue (Fe) rFMul (fun t => ↑t.a) (fun t => ↑t.b) (fun t => ↑t.c) (fun t => ↑t.d) (fun t => ↑t.e) (Bool) rSam (fun t => t) (Bool) rZer (fun t => t) (Fe) rFDec (fun t => ↑t.a) (fun t => ↑t.b) (fun t => ↑t.c) (fun t => ↑t.d) (fun t => ↑t.e)
theorem gok_FAw : CfOk prog gI_FAw.c := ⟨gam_cons ok_FOf <| gam_cons ok_Inv <| gam_cons ok_Awake01 <| gam_cons ok_FMul <| gam_cons ok_Sam <| gam_cons ok_Zer <| gam_cons ok_FDec <| gam_nil, fun _ _ h => by cases h⟩
def awS : Str := [53, 55, 56, 57, 54, 48, 52, 52, 54, 49, 56, 54, 53, 56, 48, 57, 55, 55, 49, 49, 55, 56, 53, 52, 57, 50, 53, 48, 52, 51, 52, 51, 57, 53, 51, 57, 50, 54, 54, 51, 52, 57, 57, 50, 51, 51, 50, 56, 50, 48, 50, 56, 50, 48, 49, 57, 55, 50, 56, 55, 57, 50, 48, 48, 51, 57, 53, 54, 53, 54, 52, 56, 49, 57, 57, 53, 48]
theorem aw_dec : samF (fe ((decE awS).1 % P25)) (fe 1) = true := by decide +kernel
theorem ok_awake05 : CallOk prog n_opalinelaw05_awake sTrue := by
  refine afunc_okE (g := gI_FAw) (fu := fun _ => 0) mixed gok_FAw h_opalinelaw05_awake (by kernel_rfl) ?_
  intro args t ht
  unfold sTrue at ht
  simp only at ht
  split at ht
  · have o1 := run_FOf (n := 1) (by decide)
    have o2 := run_FOf (n := 2) (by decide)
    have hi := pow_ok (low := 235) (fe_ok 2) (i := 255) (fe_ok 1)
    have i1 := run_Inv (fe_ok 2)
    have m1 := run_FMul (x := invF (fe 2)) hi (fe_ok 2)
    have s1 := run_Sam (mul_ok (x := invF (fe 2)) hi (fe_ok 2)) (fe_ok 1)
    have z1 := run_Zer (x := invF (fe 2)) hi
    have d1 := run_FDec (s := awS) (by decide +kernel)
    have s2 := run_Sam (fe_ok ((decE awS).1 % P25)) (fe_ok 1)
    rw [aw_inv] at s1
    rw [aw_zer] at z1
    rw [aw_dec] at s2
    simp only [eF] at i1 m1 s1 z1 s2
    rw [show ((1 : Nat) : Int) = 1 from rfl] at o1
    rw [show ((2 : Nat) : Int) = 2 from rfl] at o2
    refine (FAw_ev ..).trans ?_
    rw [o2, Option.bind_some, i1, Option.bind_some, show rTrue [] = some () from rfl, Option.bind_some, Option.bind_some, m1, Option.bind_some, o1, Option.bind_some, s1, Option.bind_some, cond_true, z1, Option.bind_some, Bool.not_false, cond_true]
    refine (congrArg (fun o => Option.bind o _) d1).trans ?_
    rw [Option.bind_some, Option.bind_some, s2]
    rfl
  · cases ht
end Go.Eng
